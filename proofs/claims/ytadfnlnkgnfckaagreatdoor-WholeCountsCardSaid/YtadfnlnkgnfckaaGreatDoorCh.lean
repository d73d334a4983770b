import Derived.Test.YtadfnlnkgnfckaaGreatDoorM
set_option maxRecDepth 1000000
namespace Sx
open Go
theorem t370 : Ck 4 k370 (.L 27172 378) := by decide +kernel
theorem t308 : Ck 37 k308 (.F 4825 x0 (.F 4838 x0 (.F 7972 x0 (.L 4419 160)))) := by decide +kernel
theorem t288 : Ck 37 k288 (.F 5627 x0 (.F 5627 x0 (.F 8234 x0 (.L 13 290)))) := by decide +kernel
theorem t175 : Ck 37 k175 (.F 7427 (.F 116 (.L 104 34) x0) (.L 4419 130)) := by decide +kernel
theorem t113 : Ck 37 k113 (.F 53 (.F 254 (.F 818 (.F 353 (.F 302 (.F 695 (.L 131 114) (.F 73 (.L 104 21) x0)) (.F 73 (.L 104 21) x0)) (.F 73 (.L 104 21) x0)) (.F 73 (.L 104 21) x0)) (.F 73 (.L 104 21) x0)) (.F 255 (.F 818 (.F 353 (.F 302 (.F 695 (.L 131 114) (.F 73 (.L 104 21) x0)) (.F 73 (.L 104 21) x0)) (.F 73 (.L 104 21) x0)) (.F 73 (.L 104 21) x0)) (.F 73 (.L 104 21) x0))) := by decide +kernel
end Sx
