/- THE TIED CARD OF WholeCounts: whatever the input, the call returns true and the input reads as it did. By an AI agent. -/
import Derived.Test.YtadfnlnkgnfckaaGreatDoorL
import Derived.Test.YtadfnlnkgnfckaaGreatDoorDc
import Derived.Test.YtadfnlnkgnfckaaGreatDoorJa
import Derived.Test.YtadfnlnkgnfckaaGreatDoorJb
import Derived.Test.YtadfnlnkgnfckaaGreatDoorCards
import Derived.ProofKit
import Derived.LaidMore
import Derived.OpenShut
import Derived.Stop.Joined
import Derived.Lib.LaidTab
set_option maxRecDepth 1000000
namespace Go.Proofs.YtadfnlnkgnfckaaGreatDoor
open Go Go.ChangeShapes Go.WideShapes Go.ChangeAt Go.RowKit
abbrev laid9 : List (String × DataW Unit) := Rows.wholeCountsRow.laid
theorem Tryz.own : ownKnob Tryz.prog.godebug = none := by kernel_rfl
theorem gAsc : Tryz.prog.globalNamed "strings.asciiSpace" = some 0 := by kernel_rfl
theorem tAsc : (Tryz.prog.globals[0]?).map (·.type) = some 342 := by kernel_rfl
theorem cells3 : Tryz.prog.cellsOf 3 = 1 := by kernel_rfl
theorem cells342 : Tryz.prog.cellsOf 342 = 256 := by kernel_rfl
theorem cells5 : Tryz.prog.cellsOf 5 = 1 := by kernel_rfl
theorem asc_data {H : Type} : (Rows.laid_strings_asciiSpace : DataW H) = Lib.tabData .u8 Sx.ascZ := by kernel_rfl
theorem tab_of {W : World} (h : laidMetH Tryz.prog laid9 W) : Lib.TabIs Tryz.prog W "strings.asciiSpace" .u8 Sx.ascZ := by
 rw [MakeChecks.laidMetH_plain _ _ _ (by kernel_rfl)] at h
 refine Lib.tabIs_of_head (rest := laid9.tail) gAsc tAsc Tryz.underlying342 Tryz.underlying5 cells5 cells342 ?_
 rw [← asc_data]; exact h
def firstB : Obj := .cells ((List.replicate 128 240 ++ List.replicate 66 241 ++ List.replicate 30 2 ++ List.replicate 1 19 ++ List.replicate 12 3 ++ List.replicate 1 35 ++ List.replicate 2 3 ++ List.replicate 1 52 ++ List.replicate 3 4 ++ List.replicate 1 68 ++ List.replicate 11 241 : List Int).map fun n => Value.int .u8 n).toArray 342 (0, 0)
noncomputable def beg11 : Obj := ((begin Tryz.prog (fun _ _ => 0) default).world.heap.toList.drop 11).headD (.map #[] 0)
noncomputable def rowHeap : Array Obj := (doorHeap beg11).setIfInBounds 5 firstB
noncomputable def rowM : World := { heap := rowHeap, tape := fun _ _ => 0, drawn := 0, os := default, output := #[] }
noncomputable def rowW (os : Os) : World := { World.holding Tryz.prog os ⟨#[], #[], []⟩ with heap := rowHeap }
theorem row_laidA : (DataW.laidRun Tryz.prog rowM 8 (laid9.map (·.1))).map (·.1) = some laid9 := by kernel_rfl
theorem row_laidB : (DataW.laidRun Tryz.prog rowM 8 (laid9.map (·.1))).map (fun x => nodupBits 400 x.2 0 && laidRowsB Tryz.prog rowM x.2) = some true := by kernel_rfl
theorem row_plain : (laid9.filter fun x => x.2.handleName?.isSome) = [] := by kernel_rfl
theorem row_met : laidMetH Tryz.prog laid9 rowM := met8_of (by kernel_rfl) row_laidA row_laidB
theorem row_shaped (os : Os) : World.Shaped Tryz.prog ((rowW os).forCall (fun _ _ => 0) { blocks := #[], args := #[.slice none 0 0] }) := World.shaped_of_RefB (by kernel_rfl) (by kernel_rfl)
theorem row_ok (os : Os) : Input.okWideB Tryz.prog ((rowW os).forCall (fun _ _ => 0) { blocks := #[], args := #[.slice none 0 0] }) 3 { blocks := #[], args := #[.slice none 0 0] } = true := by kernel_rfl
theorem row_preB (os : Os) {H : Type} {enc : TypeId × Value → H} : ChangeSpec.preB enc Tryz.checked.prog Tryz.f3 Rows.wholeCountsSpec [] false ((rowW os).forCall (fun _ _ => 0) { blocks := #[], args := #[.slice none 0 0] }).memory #[.slice none 0 0] 8 = true := by kernel_rfl
theorem row_sizedB (os : Os) {H : Type} {enc : TypeId × Value → H} : ChangeSpec.sizedB enc Tryz.checked.prog Tryz.f3 Rows.wholeCountsSpec false ((rowW os).forCall (fun _ _ => 0) { blocks := #[], args := #[.slice none 0 0] }).memory #[.slice none 0 0] 8 = true := by kernel_rfl
theorem row_inits : Tryz.checked.prog.inits.idxOf? 3 = none := by kernel_rfl
theorem row_res : Tryz.f3.resultTypes = #[4] := by kernel_rfl
set_option maxRecDepth 100000 in
theorem lifted (os : Os) (started : os.Started) (H : Type) (enc : TypeId × Value → H) :
  ReturnsInHanded {} Tryz.checked os 3 .any (fun w args => (Rows.wholeCountsSpec.pre enc Tryz.prog Tryz.f3 [] false w args ∧ laidMetH Tryz.prog laid9 w) ∧ sizedMet enc Tryz.prog Tryz.f3 (OpenSpec.ofChange Rows.wholeCountsSpec) false w args)
   (Rows.wholeCountsSpec.post enc Tryz.prog Tryz.f3 false true false false) := by
 refine returnsInHanded_of_change_and (C := Tryz.checked) (X := fun w _ => laidMetH Tryz.prog laid9 w) (fun _ _ _ hh h => h.of_heap hh) Tryz.own started row_inits Tryz.func3
  (ChangeSpec.witness_shaped (enc := enc) (C := Tryz.checked) (os := os) (X := fun w _ => laidMetH Tryz.prog laid9 w) false (rowW os) #[.slice none 0 0] 8 rfl (row_shaped os) (row_ok os) (row_preB os) (row_sizedB os) (row_met.of_heap rfl)) ?_
 intro W base args ds gs before hval0 hW _ _ hL _
 have hval : ∀ (j : Nat) t v, Tryz.f3.params[j]? = some t → args[j]? = some v → Value.okWide Tryz.prog W .any base t v := hval0
 have hW' := hW
 obtain ⟨p, q, hA0, hV, rfl, hfz, hnd⟩ := hW
 have hA : DataW.TrodAll enc Tryz.prog W 0 (fun _ => true) true Tryz.f3.params.toList args.toList ds p := hA0
 rw [Tryz.params3] at hA hval
 obtain ⟨v0, d0, rfl, rfl, h0⟩ := trodAll_one hA
 obtain ⟨rfl, rfl⟩ := trodVars_none hV
 clear hA0 hval0
 simp only [List.append_nil] at hW'
 have hT := tab_of hL
 have hAsc : ∀ i, i < 256 → W.cell? ⟨0, i, none⟩ = some (.int .u8 (Sx.ascZ.getD i 0)) := fun i hi => hT.cell gAsc i (by simpa [Sx.ascZ] using hi)
 have hz0 : 0 < W.heap.size := by
  have := hAsc 0 (by omega)
  rcases Nat.lt_or_ge 0 W.heap.size with h | h
  ·exact h
  ·simp [World.cell?, Array.getElem?_eq_none h] at this
 have fin : ∀ W', Below W.heap.size W W' → DataW.Trod enc Tryz.prog W' 0 (fun b => decide (b < W.heap.size)) true 22 v0 d0 p → Rows.wholeCountsSpec.post enc Tryz.prog Tryz.f3 false true false false W #[v0] (.bool true) W' := fun W' hb ha =>
  ⟨_, _, _, [], p, [], hW', trodAll_mk1 (shut_bool Tryz.underlying4 true), trodAll_mk1 ha, rfl, hb.frame _, fun h => by cases h⟩
 obtain ⟨fuel, hd⟩ := h0
 have hv0 := hval 0 22 v0 rfl rfl
 obtain ⟨a0, len0, cap0, rfl⟩ := okWide_slice Tryz.underlying22 hv0
 have hd : DataW.trod enc Tryz.prog W 0 (fun _ => true) true fuel 22 [.slice a0 len0 cap0] = some (d0, p) := hd
 rcases open_ints Tryz.underlying22 Tryz.underlying3 cells3 hd with ⟨hcs, hx⟩ | ⟨a, len, cap, zs, hcs, _, hl, hm, hz, hx, hcell, hwz⟩
 ·simp only [List.cons.injEq, Value.slice.injEq, and_true] at hcs
  obtain ⟨rfl, rfl, rfl⟩ := hcs
  cases hx
  refine (Sx.law_nil hz0).mono ?_
  rintro e W' ⟨rfl, hb⟩
  exact ⟨_, rfl, fin W' hb (shut_slice_nil Tryz.underlying22)⟩
 ·simp only [List.cons.injEq, Value.slice.injEq, and_true] at hcs
  obtain ⟨rfl, rfl, rfl⟩ := hcs
  cases hx
  obtain ⟨b, off, sp⟩ := a
  have hok : len0 ≤ cap0 ∧ (cap0 : Int) ≤ IntKind.i64.max ∧ W.has Tryz.prog .any base ⟨b, off, sp⟩ 3 cap0 := by
   have := hv0
   simp only [Value.okWide, Tryz.underlying22, Cell.okWide, Cell.ok] at this
   exact this
  obtain ⟨_, hcap, _, hsp, row, cells, hsh, _⟩ := hok
  have hsp : sp = none := hsp
  subst hsp
  have hb : b < W.heap.size := by
   rcases Nat.lt_or_ge b W.heap.size with h | h
   ·exact h
   ·simp [World.shape?, Array.getElem?_eq_none h] at hsh
  have hcap : (cap0 : Int) ≤ 9223372036854775807 := hcap
  simp only [if_true] at hz
  have hread : ∀ W', Below W.heap.size W W' → DataW.Trod enc Tryz.prog W' 0 (fun b => decide (b < W.heap.size)) true 22 (.slice (some ⟨b, off, none⟩) len0 cap0) (.slice (lits .i64 (zs.take len0)) (lits .i64 (zs.drop len0))) (MemPlace.row ⟨b, off, none⟩ zs.length) := fun W' hB =>
   ⟨2, shut_ints 0 Tryz.underlying22 Tryz.underlying3 cells3 (Nat.zero_le _) hl hm (by simp [hb, hz]) (fun i hi => by
    have := hcell i hi
    have hbk : ((⟨b, off, none⟩ : Addr).add i).block = b := by unfold Addr.add; split <;> rfl
    unfold World.cell? at this ⊢
    rw [hbk] at this ⊢
    rw [hB.block b hb]; exact this) hwz⟩
  by_cases h4 : len0 = 4
  ·subst h4
   have hw : ∀ i, i < 4 → -9223372036854775808 ≤ zs.getD i 0 ∧ zs.getD i 0 ≤ 9223372036854775807 := by
    intro i hi
    have hlt : i < zs.length := by omega
    have := hwz (zs.getD i 0) (by
     have : zs.getD i 0 = zs[i] := by simp [List.getD, hlt]
     rw [this]; exact List.getElem_mem hlt)
    simp only [Lit.wf, Bool.and_eq_true, decide_eq_true_eq] at this
    exact this
   refine (Sx.law_four (zs := zs) hAsc hl hcap (fun i hi => ?_) hw).mono ?_
   ·have hbk : (⟨b, off, none⟩ : Addr).add i = ⟨b, off + i, none⟩ := by
     unfold Addr.add
     split
     ·rename_i e; subst e; rfl
     ·rfl
    have := hcell i (by omega)
    rw [hbk] at this
    exact this
   ·rintro e W' ⟨rfl, hB⟩
    exact ⟨_, rfl, fin W' hB (hread W' hB)⟩
  ·refine (Sx.law_other hz0 hb hl hcap h4).mono ?_
   rintro e W' ⟨rfl, hB⟩
   exact ⟨_, rfl, fin W' hB (hread W' hB)⟩
theorem goes_of {P : Program} {f : FuncId} (h : P.funcs.any Func.goes = false) : P.goes f = false := by
 unfold Program.goes
 rw [h, Bool.and_false, Bool.or_false, List.any_eq_false]
 intro g _
 cases hg : P.funcs[g]? with
 | none => simp
 | some fn =>
  intro k
  obtain ⟨hi, he⟩ := Array.getElem?_eq_some_iff.1 hg
  rw [Array.any_eq_true.2 ⟨g, hi, he.symm ▸ k⟩] at h
  cases h
theorem noGoes : Tryz.checked.prog.funcs.any Func.goes = false := by kernel_rfl
theorem c_goes : false = Rows.wholeCountsRow.goesBy Tryz.checked.prog := by
 unfold OpenClaim.goesBy Program.goesAt Program.goesFrom
 rw [r_fn, Option.any_some, goes_of noGoes]
 rfl
theorem joined_facts : joinedFacts P0 3 Tryz.f3 Rows.wholeCountsSpec cR = true := by
 unfold joinedFacts
 rw [j0, j1, j2, j3, j4, j5, j6, j7, j8, ja, jb]
 kernel_rfl
theorem wholeCounts_holds : Rows.WholeCountsSaid :=
 OpenClaim.holds_of_wide 3 Tryz.f3 rfl rfl rfl rfl rfl rfl rfl ⟨rfl, rfl, rfl, rfl, rfl⟩ rfl rfl rfl rfl rfl r_fn Tryz.func3 joined_facts r_inst r_wrap
  (fun os started H enc _ => lifted os started H enc)
theorem wholeCounts_card : Rows.WholeCountsCardSaid :=
 Claim7.holds_tied_plain_at .later [] _ _ _ _
  wholeCounts_holds (fun _ h => by cases h) c_wf (fun _ h => by cases h) row_tie rfl ⟨rfl, rfl⟩ c_main rfl
  (fun f fn hf hfn => by
   obtain rfl : f = 3 := Option.some.inj (r_fn.symm.trans hf) |>.symm
   obtain rfl : fn = Tryz.f3 := (Option.some.inj (Tryz.func3.symm.trans hfn)).symm
   exact ⟨c_looks, fun j t ht => by
    rw [Tryz.params3] at ht
    have hm : t ∈ [22] := by simpa using Array.mem_of_getElem? ht
    obtain rfl : t = 22 := by simpa using hm
    exact c_stand⟩)
  c_goes
end Go.Proofs.YtadfnlnkgnfckaaGreatDoor
