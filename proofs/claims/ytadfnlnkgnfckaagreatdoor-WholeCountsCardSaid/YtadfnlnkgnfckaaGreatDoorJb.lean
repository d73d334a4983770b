import Derived.Test.YtadfnlnkgnfckaaGreatDoorRows
import Derived.ProofKit
import Derived.JoinedOf
set_option maxRecDepth 1000000
namespace Go.Proofs.YtadfnlnkgnfckaaGreatDoor
open Go
noncomputable abbrev P0 := Tryz.prog
noncomputable abbrev cR := Rows.wholeCountsRow
theorem j0 : cR.wf (OpenSpec.ofChange Rows.wholeCountsSpec) = true := by kernel_rfl
theorem j2 : mapsRowed P0 = true := by kernel_rfl
theorem j3 : Tryz.f3.params.all (P0.readableRec ·) = true := by kernel_rfl
theorem j4 : namedTie P0 cR.named Rows.wholeCountsSpec.vars = true := by kernel_rfl
theorem ja : (cR.plainKeys == P0.plainKeys) = true := by kernel_rfl
theorem jb : P0.stopsHeard = true := by kernel_rfl
theorem nty : P0.types.size = 868 := by kernel_rfl
theorem ng : (P0.globals.all fun g => decide (g.type < 868)) = true := by kernel_rfl
theorem nf : (P0.funcs.all fun f => f.params.all fun t => decide (t < 868)) = true := by kernel_rfl
noncomputable def Ln (a n : Nat) : Bool := (List.range' a n).all (rowFine P0)
theorem ln {a b c : Nat} (h : Ln a b = true) (k : Ln (a + b) c = true) : Ln a (b + c) = true := by
 unfold Ln at *
 rw [← List.range'_append_1, List.all_append, h, k]
 rfl
theorem l0 : Ln 0 124 = true := by kernel_rfl
theorem l1 : Ln 124 124 = true := by kernel_rfl
theorem l2 : Ln 248 124 = true := by kernel_rfl
theorem l3 : Ln 372 124 = true := by kernel_rfl
theorem l4 : Ln 496 124 = true := by kernel_rfl
theorem l5 : Ln 620 124 = true := by kernel_rfl
theorem l6 : Ln 744 124 = true := by kernel_rfl
theorem j1 : laidOutB P0 = true := by
 have h := ln l0 (ln l1 (ln l2 (ln l3 (ln l4 (ln l5 l6)))))
 have h : (List.range' 0 868).all (rowFine P0) = true := h
 unfold laidOutB
 rw [nty, ng, nf, List.range_eq_range', h]
 rfl
end Go.Proofs.YtadfnlnkgnfckaaGreatDoor
