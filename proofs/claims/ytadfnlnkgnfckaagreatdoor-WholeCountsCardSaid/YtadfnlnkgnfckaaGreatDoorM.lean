import Derived.Test.YtadfnlnkgnfckaaGreatDoorW1
import Derived.Test.YtadfnlnkgnfckaaGreatDoorProg
set_option maxRecDepth 1000000
noncomputable section
namespace Sx
open Go
def allS : Sums := sumL baseS [sm0, sm1, sm2, sm3, sm4, sm5, sm6, sm7, sm8, sm14, sm16, sm17, sm18, sm19, sm20, sm21]
abbrev Ck (g : Nat) (K : Ct) (t : Nd) : Prop := ndC Go.Proofs.Tryz.prog allS (tabO tab) g K t = true
def x0 : Nd := .X 0
end Sx
