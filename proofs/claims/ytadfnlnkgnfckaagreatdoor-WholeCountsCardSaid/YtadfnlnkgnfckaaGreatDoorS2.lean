import Derived.Test.YtadfnlnkgnfckaaGreatDoorM
import Derived.Test.YtadfnlnkgnfckaaGreatDoorU
set_option maxRecDepth 1000000
noncomputable section
namespace Sx
open Go Go.Proofs
abbrev u4 : Sums := sumL baseS [sm1]
abbrev Q4 (S : Summ) (D : CT) (t : Nd) : Prop := ndD Tryz.prog u4 S (fun _ => D) D t = true
def t21d : List TX := [.ops [y,y,y,y,y,z,z] 2,.code [y,y,y,y,y,z,y],.code [y,y,y,y,y,y]]
def mf643 : FT := ⟨388,48,134283443,z,[(0,jP 17),(1,jI 1)],[.code []]⟩
def mf644 : FT := ⟨262,53,281544777795455,z,[(41,jP 17),(42,jI 1)],[.ops [y,y,y,z,z] 2,.code [y,y,y,z,y],.code [y,y,y,y]]⟩
def mf642 : FT := ⟨423,64,4611967630844108279,z,[(1,jI 24),(6,jP 17),(8,jI 1),(42,jP 17),(43,jI 1)],t21d⟩
def mo873 : AObj := jA true [.sl 11 0 28 6 (.var 0 0),.sl 15 0 28 1 (.lit 28),jM 16,.sl 181 0 4 1 (.var 31 0)]
def bq0 : List (Nat × (Int × Int)) := [(1,(1,63)),mw 2,m0 3,mw 4,mw 5,mw 6,mw 7,mw 8,mw 9,(10,(0,0)),mw 11,mw 12,mw 13,mw 14,mw 15,mw 16,mw 17,mw 18,mw 19,mw 20,mw 21,mw 22,mw 23,mw 24,mw 25,mw 26,mw 27,(0,(28,maxCap)),(31,(4,maxCap))]
def sm4_ca2 : CT := ⟨[mf643,mf644,mf642],[(0,o0),(11,o834),(15,o15),(16,o16),(17,mo873),(181,o18)],418,bq0,32⟩
def mf646 : FT := ⟨423,64,4611967630844108279,z,[(1,jI 16),(6,jP 17),(8,jI 1),(42,jP 17),(43,jI 1)],t21d⟩
def bq1 : List (Nat × (Int × Int)) := [(1,(1,63)),mw 2,m0 3,mw 4,mw 5,mw 6,mw 7,mw 8,mw 9,(10,(1,63)),mw 11,mw 12,mw 13,mw 14,mw 15,mw 16,mw 17,mw 18,mw 19,mw 20,mw 21,mw 22,mw 23,mw 24,mw 25,mw 26,mw 27,(0,(28,maxCap)),(31,(4,maxCap))]
def sm5_ca2 : CT := ⟨[mf643,mf644,mf646],[(0,o0),(11,o834),(15,o15),(16,o16),(17,mo873),(181,o18)],420,bq1,32⟩
def mf648 : FT := ⟨423,64,4611967630844108279,z,[(1,jI 20),(6,jP 17),(8,jI 1),(42,jP 17),(43,jI 1)],t21d⟩
def sm6_ca2 : CT := ⟨[mf643,mf644,mf648],[(0,o0),(11,o834),(15,o15),(16,o16),(17,mo873),(181,o18)],420,bq1,32⟩
def sm7_ca2 : CT := ⟨[mf643,mf644,mf642],[(0,o0),(11,o834),(15,o15),(16,o16),(17,mo873),(181,o18)],418,bq1,32⟩
theorem a_sm4 : fstB Tryz.prog u4 sm4 32499 sm4_ca2 = true := by decide +kernel
theorem a_sm4_ca2 : Q4 sm4 sm4_ca2 (.Z 40000) := by decide +kernel
theorem a_sm5 : fstB Tryz.prog u4 sm5 32889 sm5_ca2 = true := by decide +kernel
theorem a_sm5_ca2 : Q4 sm5 sm5_ca2 (.Z 40000) := by decide +kernel
theorem a_sm6 : fstB Tryz.prog u4 sm6 32889 sm6_ca2 = true := by decide +kernel
theorem a_sm6_ca2 : Q4 sm6 sm6_ca2 (.Z 40000) := by decide +kernel
theorem a_sm7 : fstB Tryz.prog u4 sm7 32499 sm7_ca2 = true := by decide +kernel
theorem a_sm7_ca2 : Q4 sm7 sm7_ca2 (.Z 40000) := by decide +kernel
end Sx
