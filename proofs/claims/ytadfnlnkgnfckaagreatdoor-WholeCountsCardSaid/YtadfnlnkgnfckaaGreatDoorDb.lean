import Derived.Test.YtadfnlnkgnfckaaGreatDoorD0
namespace Go.Proofs.YtadfnlnkgnfckaaGreatDoor
open Go
theorem dH10 : dq 10 doorB10 := fun _ _ => by kernel_rfl
theorem dH12 : dq 12 doorB12 := fun _ _ => by kernel_rfl
theorem dH13 : dq 13 doorB13 := fun _ _ => by kernel_rfl
theorem dH14 : dq 14 doorB14 := fun _ _ => by kernel_rfl
theorem dH15 : dq 15 doorB15 := fun _ _ => by kernel_rfl
theorem dH16 : dq 16 doorB16 := fun _ _ => by kernel_rfl
theorem dH17 : dq 17 doorB17 := fun _ _ => by kernel_rfl
theorem dH18 : dq 18 doorB18 := fun _ _ => by kernel_rfl
theorem dH19 : dq 19 doorB19 := fun _ _ => by kernel_rfl
theorem dHs : ∀ os tape, (doorF os tape).heap.size = 20 := fun _ _ => by kernel_rfl
theorem dHd : ∀ os tape, varsDone Tryz.prog 100 826 os tape = true := fun _ _ => by kernel_rfl
end Go.Proofs.YtadfnlnkgnfckaaGreatDoor
