import Derived.Test.YtadfnlnkgnfckaaGreatDoorDa
import Derived.Test.YtadfnlnkgnfckaaGreatDoorDb
import Derived.Test.YtadfnlnkgnfckaaGreatDoorTa
namespace Go.Proofs.YtadfnlnkgnfckaaGreatDoor
open Go
theorem dX11 : ∀ o, (doorHeap o)[11]? = some o := fun _ => by kernel_rfl
theorem dXs : ∀ o, (doorHeap o).size = 20 := fun _ => by kernel_rfl
theorem tr {i : Nat} {b : Obj} (h : dq i b) (os : Os) (tape : Tape) (o : Obj) (k : ∀ o, (doorHeap o)[i]? = some b := by intro o; kernel_rfl) : (doorF os tape).heap[i]? = (doorHeap o)[i]? := (h os tape).trans (k o).symm
section
attribute [local irreducible] doorHeap doorF
theorem door_heap (os : Os) (tape : Tape) : ∃ o, (doorF os tape).heap = doorHeap o := by
 have hs := dHs os tape
 have h11 : 11 < (doorF os tape).heap.size := by omega
 refine ⟨(doorF os tape).heap[11], ?_⟩
 apply Array.ext_getElem?
 intro i
 by_cases h : i < 20
 ·match i, h with
  | 0, _ => exact tr dH0 _ _ _
  | 1, _ => exact tr dH1 _ _ _
  | 2, _ => exact tr dH2 _ _ _
  | 3, _ => exact tr dH3 _ _ _
  | 4, _ => exact tr dH4 _ _ _
  | 5, _ => exact tr dH5 _ _ _
  | 6, _ => exact tr dH6 _ _ _
  | 7, _ => exact tr dH7 _ _ _
  | 8, _ => exact tr dH8 _ _ _
  | 9, _ => exact tr dH9 _ _ _
  | 10, _ => exact tr dH10 _ _ _
  | 11, _ => exact (Array.getElem?_eq_getElem h11).trans (dX11 _).symm
  | 12, _ => exact tr dH12 _ _ _
  | 13, _ => exact tr dH13 _ _ _
  | 14, _ => exact tr dH14 _ _ _
  | 15, _ => exact tr dH15 _ _ _
  | 16, _ => exact tr dH16 _ _ _
  | 17, _ => exact tr dH17 _ _ _
  | 18, _ => exact tr dH18 _ _ _
  | 19, _ => exact tr dH19 _ _ _
  | n + 20, hn => exact absurd hn (by omega)
 ·have h2 := dXs
  rw [Array.getElem?_eq_none (by omega), Array.getElem?_eq_none (by rw [h2]; omega)]
end
noncomputable def doorW (o : Obj) : World := { heap := doorHeap o, tape := fun _ _ => 0, drawn := 0, os := default, output := #[] }
set_option maxRecDepth 100000 in
theorem door_laidA : ∀ o, (DataW.laidRun Tryz.prog (doorW o) 8 (laid8.map (·.1))).map (·.1) = some laid8 := fun _ => by kernel_rfl
set_option maxRecDepth 100000 in
theorem door_laidB : ∀ o, (DataW.laidRun Tryz.prog (doorW o) 8 (laid8.map (·.1))).map (fun x => nodupBits 400 x.2 0 && laidRowsB Tryz.prog (doorW o) x.2) = some true := fun _ => by kernel_rfl
theorem tie_of {P : Program} {laid : List (String × DataW Unit)} {kinds : List LaidKind} {tests : Bool} (g : FuncId) (n : Nat)
  (hw : P.worded (varsWordLater tests) = true ∧ P.worded (varsWordLater !tests) = false ∧ P.worded rootWordLater = true ∧ laid.map (fun x => P.kindOfLater x.1) = kinds.map some)
  (hg : P.funcNamed "gosem.cut.vars" = some g) (hn : varsNamedLaterB P g laid = true) (hd : ∀ os tape, varsDone P n g os tape = true)
  (hm : ∀ os tape, laidMetH P laid (varsWorld P n g os tape).memory) : P.laidByTextLater laid kinds tests := by
 unfold varsNamedLaterB at hn
 cases hc : (P.funcs[g]?).bind (·.body) with
 | none => simp [hc] at hn
 | some code =>
  cases hs : code.laysInOrder [] with
  | none => simp [hc, hs] at hn
  | some stored =>
   simp only [hc, hs, Bool.and_eq_true] at hn
   refine ⟨hw, g, code, stored, hg, hc, ⟨hs, hn.1.1, hn.1.2⟩, hn.2, fun os tape _ => ?_⟩
   have d := hd os tape
   have m := hm os tape
   unfold varsDone at d
   unfold varsWorld at m
   cases hr : runN P n (Machine.entering P (World.unlaid P os) tape g ⟨#[], #[], []⟩) with
   | next mm => simp [hr] at d
   | ended o w =>
    cases o with
    | done v => simp only [hr] at m; exact ⟨n, v, w, hr, m⟩
    | _ => simp [hr] at d
theorem met8_of {P : Program} {W : World} {l : List (String × DataW Unit)} {n : Nat} (hp : (l.all fun x => x.2.handleName?.isNone) = true)
  (h1 : (DataW.laidRun P W n (l.map (·.1))).map (·.1) = some l) (h2 : (DataW.laidRun P W n (l.map (·.1))).map (fun x => nodupBits 400 x.2 0 && laidRowsB P W x.2) = some true) : laidMetH P l W := by
 rw [MakeChecks.laidMetH_plain _ _ _ hp]
 cases hx : DataW.laidRun P W n (l.map (·.1)) with
 | none => rw [hx] at h1; cases h1
 | some x =>
  obtain ⟨k, ps⟩ := x
  rw [hx] at h1 h2
  simp only [Option.map_some, Option.some.injEq] at h1 h2
  subst h1
  rw [Bool.and_eq_true] at h2
  exact laidMet_of_run (ps := ps) n hx (decide_eq_true (nodupBits_sound h2.1).1) h2.2
theorem plain8 : (laid8.all fun x => x.2.handleName?.isNone) = true := by kernel_rfl
attribute [local irreducible] doorHeap varsWorld
theorem door_met (os : Os) (tape : Tape) : laidMetH Tryz.prog laid8 (varsWorld Tryz.prog 100 826 os tape).memory := by
 obtain ⟨o, ho⟩ := door_heap os tape
 exact (met8_of (W := doorW o) plain8 (door_laidA o) (door_laidB o)).of_heap ho.symm
theorem tie8 : Tryz.prog.laidByTextLater laid8 [.data, .data, .listed, .sentinel, .sentinel, .data, .data, .data] true :=
 tie_of 826 100 ⟨tieA, tieB, tieC, tieD⟩ door_id door_named dHd door_met
theorem pin_first : Tryz.pinned.checked.prog.pinnedFits "unicode/utf8.first" = true := by kernel_rfl
theorem noOwnUnsafe : Tryz.pinned.checked.prog.headLifts.contains "ownunsafe" = false := by kernel_rfl
theorem fits1 : Tryz.pinned.checked.prog.listedFits Rows.wholeCountsRow.laid = true := by
 unfold Program.listedFits
 rw [noOwnUnsafe]
 kernel_rfl
theorem row_tie : Rows.wholeCountsRow.laidByTextAt .later Tryz.pinned [.data, .pinned, .data, .listed, .sentinel, .sentinel, .data, .data, .data] true :=
 OpenClaim.laidByTextAt_pinned rfl rfl tie8 rfl rfl rfl rfl (fun y hy _e => by
  simp only [Rows.wholeCountsRow, List.zip_cons_cons, List.zip_nil_right, List.mem_cons, List.mem_nil_iff, or_false] at hy
  rcases hy with rfl | rfl | rfl | rfl | rfl | rfl | rfl | rfl | rfl
  ·cases _e
  ·exact ⟨pin_first, by kernel_rfl⟩
  all_goals cases _e) fits1
theorem c_wf : Rows.wholeCountsRow.wfByText (OpenSpec.ofChange Rows.wholeCountsSpec) = true := by kernel_rfl
theorem c_looks : true = Tryz.prog.looks [] := by kernel_rfl
theorem c_main : Tryz.pinned.checked.prog.mainIs = some (true, "08778cf1185a1f5ba735eed8024d723b8e35dfc12920836912ee421a1dd70ae2".toList) := by kernel_rfl
theorem c_stand : Tryz.prog.wantsStandIn 22 = false := by kernel_rfl
end Go.Proofs.YtadfnlnkgnfckaaGreatDoor
