import Derived.Test.YtadfnlnkgnfckaaGreatDoorD0
namespace Go.Proofs.YtadfnlnkgnfckaaGreatDoor
open Go
theorem dH0 : dq 0 doorB0 := fun _ _ => by kernel_rfl
theorem dH1 : dq 1 doorB1 := fun _ _ => by kernel_rfl
theorem dH2 : dq 2 doorB2 := fun _ _ => by kernel_rfl
theorem dH3 : dq 3 doorB3 := fun _ _ => by kernel_rfl
theorem dH4 : dq 4 doorB4 := fun _ _ => by kernel_rfl
theorem dH5 : dq 5 doorB5 := fun _ _ => by kernel_rfl
theorem dH6 : dq 6 doorB6 := fun _ _ => by kernel_rfl
theorem dH7 : dq 7 doorB7 := fun _ _ => by kernel_rfl
theorem dH8 : dq 8 doorB8 := fun _ _ => by kernel_rfl
theorem dH9 : dq 9 doorB9 := fun _ _ => by kernel_rfl
end Go.Proofs.YtadfnlnkgnfckaaGreatDoor
