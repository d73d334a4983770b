import Derived.Test.YtadfnlnkgnfckaaGreatDoorM
set_option maxRecDepth 1000000
namespace Sx
open Go
theorem t28 : Ck 37 k28 (.L 21372 135) := by decide +kernel
theorem t109 : Ck 37 k109 (.F 123 (.L 2101 110) (.L 1745 111)) := by decide +kernel
theorem t120 : Ck 37 k120 (.F 53 (.F 254 (.F 818 (.F 353 (.F 302 (.F 695 (.L 131 122) (.F 73 (.L 61 23) x0)) (.F 73 (.L 61 23) x0)) (.F 73 (.L 61 23) x0)) (.F 73 (.L 61 23) x0)) (.F 73 (.L 61 23) x0)) (.F 255 (.F 818 (.F 353 (.F 302 (.F 695 (.L 131 122) (.F 73 (.L 61 23) x0)) (.F 73 (.L 61 23) x0)) (.F 73 (.L 61 23) x0)) (.F 73 (.L 61 23) x0)) (.F 73 (.L 61 23) x0))) := by decide +kernel
theorem t141 : Ck 37 k141 (.L 19 142) := by decide +kernel
theorem t143 : Ck 37 k143 (.L 16883 35) := by decide +kernel
theorem t152 : Ck 37 k152 (.F 87 (.F 420 (.F 116 (.L 61 44) x0) (.F 4729 (.F 116 (.L 61 44) x0) (.F 4838 (.F 116 (.L 61 44) x0) (.F 4838 (.F 116 (.L 61 44) x0) (.F 7980 (.F 116 (.L 61 44) x0) (.L 13 250)))))) (.L 7 251)) := by decide +kernel
theorem t192 : Ck 37 k192 (.F 4825 (.F 116 (.L 104 34) x0) (.F 4838 (.F 116 (.L 104 34) x0) (.F 8377 (.F 116 (.L 104 34) x0) (.L 13 193)))) := by decide +kernel
theorem t203 : Ck 37 k203 (.F 7668 (.F 116 (.L 104 34) x0) (.F 4957 (.F 116 (.L 104 34) x0) (.F 4957 (.F 116 (.L 104 34) x0) (.F 4751 (.F 116 (.L 104 34) x0) (.L 13 205))))) := by decide +kernel
theorem t211 : Ck 37 k211 (.F 6298 (.F 116 (.L 104 34) x0) (.F 5699 (.F 116 (.L 104 34) x0) (.F 4994 x0 (.F 27 (.L 12 32) x0)))) := by decide +kernel
theorem t221 : Ck 37 k221 (.F 8221 (.F 116 (.L 104 34) x0) (.F 8182 (.F 116 (.L 104 34) x0) (.F 4729 (.F 116 (.L 104 34) x0) (.L 13 222)))) := by decide +kernel
theorem t225 : Ck 37 k225 (.F 7959 (.F 116 (.L 104 34) x0) (.L 4419 140)) := by decide +kernel
theorem t250 : Ck 37 k250 (.F 5627 (.F 116 (.L 61 44) x0) (.F 5627 (.F 116 (.L 61 44) x0) (.F 8234 (.F 116 (.L 61 44) x0) (.L 13 252)))) := by decide +kernel
theorem t254 : Ck 37 k254 (.F 7427 (.F 116 (.L 61 44) x0) (.L 4419 151)) := by decide +kernel
theorem t281 : Ck 37 k281 (.F 7668 x0 (.F 4957 x0 (.F 4957 x0 (.F 4751 x0 (.L 13 283))))) := by decide +kernel
theorem t329 : Ck 37 k329 (.F 38 (.F 116 (.L 61 44) x0) (.F 4838 (.F 116 (.L 61 44) x0) (.F 4984 (.F 116 (.L 61 44) x0) (.F 7642 (.F 116 (.L 61 44) x0) (.F 4729 (.F 116 (.L 61 44) x0) (.L 13 330)))))) := by decide +kernel
theorem t340 : Ck 4 k340 (.Z 37) := by decide +kernel
theorem t344 : Ck 4 k344 (.L 22826 352) := by decide +kernel
theorem t354 : Ck 4 k354 (.L 60833 362) := by decide +kernel
theorem t360 : Ck 4 k360 (.L 100 368) := by decide +kernel
theorem t376 : Ck 4 k376 (.L 15833 0) := by decide +kernel
end Sx
