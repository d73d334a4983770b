import Derived.Test.YtadfnlnkgnfckaaGreatDoorM
import Derived.KernelRfl
set_option maxRecDepth 1000000
noncomputable section
namespace Sx
open Go
theorem s_sm14 : sm14.ok Go.Proofs.Tryz.prog (sumL baseS []) = true := by decide +kernel
theorem s_sm17 : sm17.ok Go.Proofs.Tryz.prog (sumL baseS [sm1]) = true := by decide +kernel
theorem s_sm18 : sm18.ok Go.Proofs.Tryz.prog (sumL baseS [sm1]) = true := by decide +kernel
theorem s_sm19 : sm19.ok Go.Proofs.Tryz.prog (sumL baseS [sm1]) = true := by decide +kernel
theorem s_sm20 : sm20.ok Go.Proofs.Tryz.prog (sumL baseS [sm0]) = true := by decide +kernel
theorem types_ok : typesB Go.Proofs.Tryz.prog = true := by decide +kernel
theorem funcs_ok : funcsB Go.Proofs.Tryz.prog = true := by decide +kernel
theorem sp25 : OkS tab k25 := ⟨41, 26, by decide +kernel, fun r hr => by
 match r, hr with
 | 0, _ => exact ⟨by kernel_rfl, by decide +kernel⟩
 | 1, _ => exact ⟨by kernel_rfl, by decide +kernel⟩
 | 2, _ => exact ⟨by kernel_rfl, by decide +kernel⟩
 | 3, _ => exact ⟨by kernel_rfl, by decide +kernel⟩
⟩
theorem sp35 : OkS tab k35 := ⟨41, 36, by decide +kernel, fun r hr => by
 match r, hr with
 | 0, _ => exact ⟨by kernel_rfl, by decide +kernel⟩
 | 1, _ => exact ⟨by kernel_rfl, by decide +kernel⟩
 | 2, _ => exact ⟨by kernel_rfl, by decide +kernel⟩
 | 3, _ => exact ⟨by kernel_rfl, by decide +kernel⟩
⟩
theorem sp46 : OkS tab k46 := ⟨39, 47, by decide +kernel, fun r hr => by
 match r, hr with
 | 0, _ => exact ⟨by kernel_rfl, by decide +kernel⟩
 | 1, _ => exact ⟨by kernel_rfl, by decide +kernel⟩
 | 2, _ => exact ⟨by kernel_rfl, by decide +kernel⟩
 | 3, _ => exact ⟨by kernel_rfl, by decide +kernel⟩
⟩
end Sx
