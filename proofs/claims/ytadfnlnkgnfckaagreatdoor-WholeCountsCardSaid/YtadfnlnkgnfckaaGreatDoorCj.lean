import Derived.Test.YtadfnlnkgnfckaaGreatDoorM
set_option maxRecDepth 1000000
namespace Sx
open Go
theorem t137 : Ck 37 k137 (.F 87 (.F 420 (.F 116 (.L 104 34) x0) (.F 4729 (.F 116 (.L 104 34) x0) (.F 4838 (.F 116 (.L 104 34) x0) (.F 4838 (.F 116 (.L 104 34) x0) (.F 7980 (.F 116 (.L 66 200) x0) (.L 13 201)))))) (.L 7 202)) := by decide +kernel
theorem t168 : Ck 37 k168 (.F 87 (.F 420 x0 (.F 4729 x0 (.F 7598 x0 (.F 4926 x0 (.L 13 315))))) (.F 256 x0 (.F 4838 x0 (.L 13 316)))) := by decide +kernel
theorem t171 : Ck 37 k171 (.F 5627 (.F 116 (.L 104 34) x0) (.F 5627 (.F 116 (.L 104 34) x0) (.F 8234 (.F 116 (.L 104 34) x0) (.L 13 173)))) := by decide +kernel
theorem t312 : Ck 37 k312 (.F 6298 x0 (.F 5699 x0 (.L 4949 53))) := by decide +kernel
theorem t33 : Ck 37 k33 (.F 36 (.L 104 34) x0) := by decide +kernel
theorem t363 : Ck 4 k363 (.L 100 371) := by decide +kernel
theorem t51 : Ck 37 k51 (.F 63 (.F 1 (.F 1 (.L 9 55) x0) x0) (.F 1 x0 x0)) := by decide +kernel
theorem t68 : Ck 37 k68 (.Z 15) := by decide +kernel
end Sx
