import Derived.Test.YtadfnlnkgnfckaaGreatDoorRows
import Derived.ProofKit
import Derived.JoinedOf
import Derived.Test.YtadfnlnkgnfckaaGreatDoorEA0
set_option maxRecDepth 1000000
namespace Go.Proofs.YtadfnlnkgnfckaaGreatDoor
open Go
noncomputable def clo (P : Program) (F : Sx.Tree Func) (n : Nat) : List FuncId → Sx.Tree Unit → List FuncId → List FuncId :=
 Nat.rec (motive := fun _ => List FuncId → Sx.Tree Unit → List FuncId → List FuncId) (fun _ _ s => s.reverse)
  (fun _ r l T s => match l with
   | [] => s.reverse
   | f :: l => match T.get f with
    | some _ => r l T s
    | none => r ((F.get f).elim [] P.leadsTo ++ l) (T.set f ()) (f :: s)) n
theorem clo_eq {P : Program} {F : Sx.Tree Func} (hF : ∀ g, P.funcs[g]? = F.get g) : ∀ n l (T : Sx.Tree Unit) s, (∀ f, (T.get f).isSome = s.contains f) → P.closureVia n l s = clo P F n l T s := by
 intro n
 induction n with
 | zero => intro l T s h; rfl
 | succ n ih =>
  intro l T s h
  cases l with
  | nil => rfl
  | cons f l =>
   show (if s.contains f then P.closureVia n l s else P.closureVia n ((P.funcs[f]?).elim [] P.leadsTo ++ l) (f :: s)) = (match T.get f with | some _ => clo P F n l T s | none => clo P F n ((F.get f).elim [] P.leadsTo ++ l) (T.set f ()) (f :: s))
   have hf := h f
   cases hg : T.get f with
   | some u =>
    rw [hg] at hf
    rw [if_pos (show s.contains f = true from hf.symm)]
    exact ih l T s h
   | none =>
    rw [hg] at hf
    have hc : s.contains f = false := hf.symm
    rw [hc, if_neg (by simp), hF]
    refine ih _ _ _ fun m => ?_
    rw [Sx.Tree.get_set, List.contains_cons]
    by_cases e : m = f
    ·subst e; simp
    ·rw [if_neg e, h m]; simp [e]
noncomputable def F3 : Sx.Tree Func := .ofList Tryz.prog.funcs.toList
theorem F3_get (g : Nat) : Tryz.prog.funcs[g]? = F3.get g := by
 unfold F3
 rw [Sx.Tree.get_ofList, Array.getElem?_toList]
theorem fuel3 : 1 + (Tryz.prog.funcs.toList.map fun g => (Tryz.prog.leadsTo g).length + 1).sum = 2730 := by kernel_rfl
noncomputable def C3 : List FuncId := clo Tryz.prog F3 2730 [3] .leaf []
theorem C3_eq : Tryz.prog.closure 3 = C3 := by
 unfold Program.closure
 rw [fuel3]
 exact clo_eq F3_get _ _ _ _ fun _ => rfl
noncomputable def few (F : Sx.Tree Func) (g : FuncId) : Bool := (F.get g).any fun fn => fn.ours || fn.body.isNone
theorem few_map {F : Sx.Tree Func} {α : Type} (r : Func → Option α) (hr : ∀ g fn, F.get g = some fn → fn.ours = false → fn.body.isNone = false → r fn = none) (l : List FuncId) :
  l.filterMap (fun g => (F.get g).bind r) = (l.filter (few F)).filterMap fun g => (F.get g).bind r := by
 induction l with
 | nil => rfl
 | cons g l ih =>
  by_cases h : few F g = true
  ·rw [List.filter_cons_of_pos h, List.filterMap_cons, List.filterMap_cons, ih]
  ·rw [List.filter_cons_of_neg h, List.filterMap_cons, ← ih]
   have : (F.get g).bind r = none := by
    unfold few at h
    cases hf : F.get g with
    | none => rfl
    | some fn =>
     rw [hf] at h
     simp only [Option.any_some, Bool.or_eq_true, not_or, Bool.not_eq_true] at h
     exact hr g fn hf h.1 h.2
   rw [this]
theorem few3 : C3.filter (few F3) = [283, 280, 442] := by kernel_rfl
theorem glob3 : (C3.flatMap fun g => ((F3.get g).bind (·.body)).elim [] Code.globalsNamed).eraseDups = [1, 0, 5, 6, 2, 3, 4, 7, 8, 9] := by kernel_rfl
theorem noGo : Tryz.prog.funcs.all (fun fn => !(fn.name == "runtime.NumGoroutine")) = true := by kernel_rfl
theorem j5 : (Rows.wholeCountsRow.inPlace == Tryz.prog.inPlace 3) = true := by
 unfold Program.inPlace
 rw [C3_eq]
 simp only [F3_get]
 rw [few_map _ (fun g fn hm h1 h2 => by
  rw [← F3_get] at hm
  have := Array.all_eq_true_iff_forall_mem.1 noGo fn (Array.mem_of_getElem? hm)
  rw [h1, h2]
  simpa using this), few3]
 kernel_rfl
theorem j6 : (Rows.wholeCountsRow.unfollowed == Tryz.prog.unfollowed 3) = true := by
 unfold Program.unfollowed
 rw [C3_eq]
 simp only [F3_get]
 kernel_rfl
theorem j7 : (Rows.wholeCountsRow.recurses == Tryz.prog.recurses 3) = true := by
 have : Tryz.prog.unfollowed 3 = true := (beq_iff_eq.1 j6).symm
 unfold Program.recurses
 rw [this]
 rfl
theorem j8 : (Rows.wholeCountsRow.named == Tryz.prog.varsNamed 3) = true := by
 unfold Program.varsNamed
 rw [C3_eq]
 simp only [F3_get]
 rw [glob3, few_map _ (fun g fn hm h1 h2 => by rw [h2]; rfl), few3]
 kernel_rfl
theorem r_fn : Tryz.checked.prog.funcNamed Rows.wholeCountsRow.func = some 3 := by kernel_rfl
theorem r_inst : Tryz.f3.isInstance Tryz.checked.prog Rows.wholeCountsRow.origin Rows.wholeCountsRow.targs := of_decide_eq_true (by kernel_rfl)
theorem r_wrap : Tryz.f3.isWrapper Tryz.checked.prog Rows.wholeCountsRow.wrapper Rows.wholeCountsRow.mainSum := by unfold Func.isWrapper; first | (rw [if_pos (by decide +kernel)]; kernel_rfl) | (rw [if_neg (by decide +kernel)]; exact ⟨rfl, rfl⟩)
end Go.Proofs.YtadfnlnkgnfckaaGreatDoor
