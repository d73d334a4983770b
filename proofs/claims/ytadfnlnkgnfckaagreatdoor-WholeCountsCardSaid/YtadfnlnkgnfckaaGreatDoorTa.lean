import Derived.Test.YtadfnlnkgnfckaaGreatDoorRows
import Derived.LaidByTextLater
import Derived.LaidOnce
import Derived.SevenTiedAt
namespace Go.Proofs.YtadfnlnkgnfckaaGreatDoor
open Go
abbrev laid8 : List (String × DataW Unit) := [("strings.asciiSpace", Rows.laid_strings_asciiSpace), ("unicode/utf8.acceptRanges", Rows.laid_unicode_utf8_acceptRanges), ("unicode.White_Space", Rows.laid_unicode_White_Space), ("strconv.ErrSyntax", Rows.laid_strconv_ErrSyntax), ("strconv.ErrRange", Rows.laid_strconv_ErrRange), ("internal/strconv.uint64pow10", Rows.laid_internal_strconv_uint64pow10), ("math/bits.deBruijn32tab", Rows.laid_math_bits_deBruijn32tab), ("math/bits.deBruijn64tab", Rows.laid_math_bits_deBruijn64tab)]
noncomputable def doorCode : Code := Tryz.f826.body.getD .skip
theorem door_id : Tryz.prog.funcNamed "gosem.cut.vars" = some 826 := by kernel_rfl
theorem door_code : (Tryz.prog.funcs[826]?).bind (·.body) = some doorCode := by rw [Tryz.func826]; rfl
theorem door_lays : doorCode.laysInOrder [] = some [8, 9, 7, 6, 4, 3, 10, 2, 0] := by kernel_rfl
theorem door_alone : Tryz.prog.callsLaidAlone 826 doorCode = true := by kernel_rfl
theorem door_handle : doorCode.storedByHandle Tryz.prog = [] := by kernel_rfl
def oneFit (code : Code) (stored : List Nat) (x : String × DataW Unit) (v : Nat) (k : LaidKind) : Bool :=
 (stored.contains v == (some k != some .zero)) && callsFit code v (some k) && (([] : List Nat).contains v == (some k == some .handle)) && (x.2.handleName?.isSome == (some k == some .handle || some k == some .funcs)) &&
  (some k != some .handle || handlePair x) && (x.2.funcsIn?.isSome == (some k == some .funcs)) && mapsFit code v x.2 (some k)
theorem named_of {P : Program} {g : FuncId} {laid : List (String × DataW Unit)} {code : Code} {stored : List Nat} (hc : (P.funcs[g]?).bind (·.body) = some code) (hs : code.laysInOrder [] = some stored) (hd : (stored.eraseDups.length == stored.length) = true)
  (ha : P.callsLaidAlone g code = true) (hh : code.storedByHandle P = []) (hall : ∀ x, x ∈ laid → ∃ v k, P.globalNamed x.1 = some v ∧ P.kindBase x.1 = some k ∧ oneFit code stored x v k = true) : varsNamedLaterB P g laid = true := by
 unfold varsNamedLaterB
 simp only [hc, hs, hd, ha, hh, Bool.true_and]
 rw [List.all_eq_true]
 intro x hx
 obtain ⟨v, k, h1, h2, h3⟩ := hall x hx
 rw [h1, h2]
 exact h3
noncomputable abbrev kb := Tryz.prog.kindBase
noncomputable abbrev gb := Tryz.prog.globalNamed
theorem kb0 : kb "strings.asciiSpace" = some .data := by kernel_rfl
theorem gb0 : gb "strings.asciiSpace" = some 0 := by kernel_rfl
theorem kb1 : kb "unicode/utf8.acceptRanges" = some .data := by kernel_rfl
theorem gb1 : gb "unicode/utf8.acceptRanges" = some 6 := by kernel_rfl
theorem kb2 : kb "unicode.White_Space" = some .listed := by kernel_rfl
theorem gb2 : gb "unicode.White_Space" = some 2 := by kernel_rfl
theorem kb3 : kb "strconv.ErrSyntax" = some .sentinel := by kernel_rfl
theorem gb3 : gb "strconv.ErrSyntax" = some 3 := by kernel_rfl
theorem kb4 : kb "strconv.ErrRange" = some .sentinel := by kernel_rfl
theorem gb4 : gb "strconv.ErrRange" = some 4 := by kernel_rfl
theorem kb5 : kb "internal/strconv.uint64pow10" = some .data := by kernel_rfl
theorem gb5 : gb "internal/strconv.uint64pow10" = some 7 := by kernel_rfl
theorem kb6 : kb "math/bits.deBruijn32tab" = some .data := by kernel_rfl
theorem gb6 : gb "math/bits.deBruijn32tab" = some 8 := by kernel_rfl
theorem kb7 : kb "math/bits.deBruijn64tab" = some .data := by kernel_rfl
theorem gb7 : gb "math/bits.deBruijn64tab" = some 9 := by kernel_rfl
theorem door_named : varsNamedLaterB Tryz.prog 826 laid8 = true := by
 refine named_of door_code door_lays (by decide) door_alone door_handle fun x hx => ?_
 simp only [laid8, List.mem_cons, List.mem_nil_iff, or_false] at hx
 rcases hx with rfl | rfl | rfl | rfl | rfl | rfl | rfl | rfl
 ·exact ⟨0, .data, gb0, kb0, by kernel_rfl⟩
 ·exact ⟨6, .data, gb1, kb1, by kernel_rfl⟩
 ·exact ⟨2, .listed, gb2, kb2, by kernel_rfl⟩
 ·exact ⟨3, .sentinel, gb3, kb3, by kernel_rfl⟩
 ·exact ⟨4, .sentinel, gb4, kb4, by kernel_rfl⟩
 ·exact ⟨7, .data, gb5, kb5, by kernel_rfl⟩
 ·exact ⟨8, .data, gb6, kb6, by kernel_rfl⟩
 ·exact ⟨9, .data, gb7, kb7, by kernel_rfl⟩
theorem tieA : Tryz.prog.worded (varsWordLater true) = true := by kernel_rfl
theorem tieB : Tryz.prog.worded (varsWordLater !true) = false := by kernel_rfl
theorem tieC : Tryz.prog.worded rootWordLater = true := by kernel_rfl
theorem tieD : laid8.map (fun x => Tryz.prog.kindOfLater x.1) = [.data, .data, .listed, .sentinel, .sentinel, .data, .data, .data].map some := by kernel_rfl
theorem tieE : (Tryz.prog.funcNamed "gosem.cut.vars").isSome = true := by rw [door_id]; rfl
theorem tieF : varsNamedLaterB Tryz.prog (varsId Tryz.prog) laid8 = true := by
 have : varsId Tryz.prog = 826 := by unfold varsId; rw [door_id]; rfl
 rw [this]; exact door_named
end Go.Proofs.YtadfnlnkgnfckaaGreatDoor
