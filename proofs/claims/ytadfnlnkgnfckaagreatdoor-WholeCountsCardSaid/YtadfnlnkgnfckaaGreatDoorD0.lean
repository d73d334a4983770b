import Derived.Test.YtadfnlnkgnfckaaGreatDoorRows
import Derived.LaidMore
namespace Go.Proofs.YtadfnlnkgnfckaaGreatDoor
open Go
def zs (k : IntKind) (l : List Int) : Array Value := (l.map fun n => Value.int k n).toArray
def doorB0 : Obj := .cells (zs .u8 (List.replicate 9 0 ++ [1, 1, 1, 1, 1] ++ List.replicate 18 0 ++ [1] ++ List.replicate 223 0)) 342 (0, 0)
def doorB1 : Obj := .cells #[(.int .i64 0)] 3 (0, 0)
def doorB2 : Obj := .cells #[(.pointer (some ⟨19, 0, none⟩))] 469 (0, 0)
def doorB3 : Obj := .cells #[(.iface 583 (.pointer (some ⟨17, 0, none⟩)))] 185 (0, 0)
def doorB4 : Obj := .cells #[(.iface 583 (.pointer (some ⟨16, 0, none⟩)))] 185 (0, 0)
def doorB5 : Obj := .cells (zs .u8 (List.replicate 256 0)) 342 (0, 0)
def doorB6 : Obj := .cells (zs .u8 ([128, 191, 160, 191, 128, 159, 144, 191, 128, 143] ++ List.replicate 22 0)) 569 (0, 0)
def doorB7 : Obj := .cells (zs .u64 ([1, 10, 100, 1000, 10000, 100000, 1000000, 10000000, 100000000, 1000000000, 10000000000, 100000000000, 1000000000000, 10000000000000, 100000000000000, 1000000000000000, 10000000000000000, 100000000000000000, 1000000000000000000, 10000000000000000000])) 817 (0, 0)
def doorB8 : Obj := .cells (zs .u8 ([0, 1, 28, 2, 29, 14, 24, 3, 30, 22, 20, 15, 25, 17, 4, 8, 31, 27, 13, 23, 21, 19, 16, 7, 26, 12, 18, 6, 11, 5, 10, 9])) 845 (0, 0)
def doorB9 : Obj := .cells (zs .u8 ([0, 1, 56, 2, 57, 49, 28, 3, 61, 58, 42, 50, 38, 29, 17, 4, 62, 47, 59, 36, 45, 43, 51, 22, 53, 39, 33, 30, 24, 18, 12, 5, 63, 55, 48, 27, 60, 41, 37, 16, 46, 35, 44, 21, 52, 32, 23, 11, 54, 26, 40, 15, 34, 20, 31, 10, 25, 14, 19, 9, 13, 8, 7, 6])) 846 (0, 0)
def doorB10 : Obj := .cells #[(.pointer (some ⟨19, 0, none⟩))] 469 (0, 0)
def doorB12 : Obj := .map #[] 0
def doorB13 : Obj := .finalizers #[] none
def doorB14 : Obj := .cells #[(.bool false)] 0 (0, 0)
def doorB15 : Obj := .finalizers #[] none
def doorB16 : Obj := .cells #[(.string ⟨#[118, 97, 108, 117, 101, 32, 111, 117, 116, 32, 111, 102, 32, 114, 97, 110, 103, 101]⟩)] 585 (0, 0)
def doorB17 : Obj := .cells #[(.string ⟨#[105, 110, 118, 97, 108, 105, 100, 32, 115, 121, 110, 116, 97, 120]⟩)] 585 (0, 0)
def doorB18 : Obj := .cells (zs .u16 ([9, 13, 1, 32, 133, 101, 160, 5760, 5600, 8192, 8202, 1, 8232, 8233, 1, 8239, 8287, 48, 12288, 12288, 1])) 576 (0, 0)
def doorB19 : Obj := .cells #[(.slice (some ⟨18, 0, none⟩) 7 7), (.slice none 0 0), (.int .i64 2)] 573 (0, 0)
def doorHeap (o : Obj) : Array Obj := #[doorB0, doorB1, doorB2, doorB3, doorB4, doorB5, doorB6, doorB7, doorB8, doorB9, doorB10, o, doorB12, doorB13, doorB14, doorB15, doorB16, doorB17, doorB18, doorB19]
noncomputable def doorF (os : Os) (tape : Tape) : World := varsWorld Tryz.prog 100 826 os tape
abbrev dq (i : Nat) (b : Obj) : Prop := ∀ os tape, (doorF os tape).heap[i]? = some b
abbrev dx (i : Nat) (b : Obj) : Prop := ∀ o, (doorHeap o)[i]? = some b
end Go.Proofs.YtadfnlnkgnfckaaGreatDoor
