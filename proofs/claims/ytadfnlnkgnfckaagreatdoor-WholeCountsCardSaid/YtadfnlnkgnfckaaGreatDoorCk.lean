import Derived.Test.YtadfnlnkgnfckaaGreatDoorM
set_option maxRecDepth 1000000
namespace Sx
open Go
theorem t19 : Ck 37 k19 (.L 23557 105) := by decide +kernel
theorem t300 : Ck 37 k300 (.F 5627 x0 (.F 9277 x0 (.F 8234 x0 (.L 13 302)))) := by decide +kernel
theorem t29 : Ck 37 k29 (.L 21372 138) := by decide +kernel
theorem t129 : Ck 37 k129 (.L 16684 130) := by decide +kernel
end Sx
