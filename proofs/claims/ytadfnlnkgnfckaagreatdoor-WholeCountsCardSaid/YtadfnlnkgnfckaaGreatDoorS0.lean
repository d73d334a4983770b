import Derived.Test.YtadfnlnkgnfckaaGreatDoorM
set_option maxRecDepth 1000000
noncomputable section
namespace Sx
open Go
theorem s_sm0 : sm0.ok Go.Proofs.Tryz.prog (sumL baseS []) = true := by decide +kernel
theorem s_sm1 : sm1.ok Go.Proofs.Tryz.prog (sumL baseS [sm0]) = true := by decide +kernel
theorem s_sm2 : sm2.ok Go.Proofs.Tryz.prog (sumL baseS []) = true := by decide +kernel
theorem s_sm3 : sm3.ok Go.Proofs.Tryz.prog (sumL baseS []) = true := by decide +kernel
theorem s_sm8 : sm8.ok Go.Proofs.Tryz.prog (sumL baseS []) = true := by decide +kernel
end Sx
