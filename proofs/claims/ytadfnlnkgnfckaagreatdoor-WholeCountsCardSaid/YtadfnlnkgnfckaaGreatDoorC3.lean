import Derived.Test.YtadfnlnkgnfckaaGreatDoorM
set_option maxRecDepth 1000000
namespace Sx
open Go
theorem t5 : Ck 37 k5 (.F 36 (.L 104 7) x0) := by decide +kernel
theorem t38 : Ck 37 k38 (.L 21950 150) := by decide +kernel
theorem t58 : Ck 37 k58 (.F 13 (.F 1 (.F 1 x0 x0) x0) (.F 1 x0 (.L 9 62))) := by decide +kernel
theorem t86 : Ck 37 k86 (.L 4083 87) := by decide +kernel
theorem t112 : Ck 37 k112 (.F 123 (.F 164 (.F 346 (.F 353 (.F 695 (.F 522 x0 (.F 27 (.L 12 20) x0)) (.F 73 (.L 104 21) x0)) (.F 73 (.L 104 21) x0)) (.F 73 (.L 104 21) x0)) (.F 73 (.L 104 21) x0)) (.F 158 (.F 346 (.F 818 (.F 353 (.F 695 (.L 131 114) (.F 73 (.L 104 21) x0)) (.F 73 (.L 104 21) x0)) (.F 73 (.L 104 21) x0)) (.F 73 (.L 104 21) x0)) (.F 73 (.L 104 21) x0))) := by decide +kernel
theorem t128 : Ck 37 k128 (.L 16883 25) := by decide +kernel
theorem t149 : Ck 37 k149 (.F 87 (.F 420 (.F 116 (.L 61 44) x0) (.F 4729 (.F 116 (.L 61 44) x0) (.F 4838 (.F 116 (.L 61 44) x0) (.F 4838 (.F 116 (.L 61 44) x0) (.F 7980 (.F 116 (.L 61 44) x0) (.L 13 240)))))) (.L 7 241)) := by decide +kernel
theorem t177 : Ck 37 k177 (.F 4825 (.F 116 (.L 104 34) x0) (.F 4838 (.F 116 (.L 104 34) x0) (.F 8377 (.F 116 (.L 104 34) x0) (.L 13 178)))) := by decide +kernel
theorem t185 : Ck 37 k185 (.L 38 34) := by decide +kernel
theorem t188 : Ck 37 k188 (.F 7668 (.F 116 (.L 104 34) x0) (.F 4957 (.F 116 (.L 104 34) x0) (.F 4957 (.F 116 (.L 104 34) x0) (.F 4751 (.F 116 (.L 104 34) x0) (.L 13 190))))) := by decide +kernel
theorem t196 : Ck 37 k196 (.F 6298 (.F 116 (.L 104 34) x0) (.F 5699 (.F 116 (.L 104 34) x0) (.F 4994 x0 (.F 27 (.L 12 31) x0)))) := by decide +kernel
theorem t210 : Ck 37 k210 (.F 7959 (.F 116 (.L 104 34) x0) (.L 4419 137)) := by decide +kernel
theorem t244 : Ck 37 k244 (.F 7427 (.F 116 (.L 61 44) x0) (.L 4419 148)) := by decide +kernel
theorem t247 : Ck 37 k247 (.F 5627 (.F 116 (.L 61 44) x0) (.F 5627 (.F 116 (.L 61 44) x0) (.F 8234 (.F 116 (.L 61 44) x0) (.L 13 248)))) := by decide +kernel
theorem t286 : Ck 37 k286 (.F 8221 x0 (.F 8078 x0 (.F 4957 x0 (.L 13 287)))) := by decide +kernel
theorem t326 : Ck 37 k326 (.F 38 (.F 116 (.L 61 44) x0) (.F 4838 (.F 116 (.L 61 44) x0) (.F 4984 (.F 116 (.L 61 44) x0) (.F 7642 (.F 116 (.L 61 44) x0) (.F 4729 (.F 116 (.L 61 44) x0) (.L 13 327)))))) := by decide +kernel
theorem t341 : Ck 4 k341 (.L 22478 349) := by decide +kernel
theorem t345 : Ck 4 k345 (.L 22652 353) := by decide +kernel
theorem t352 : Ck 4 k352 (.L 60833 360) := by decide +kernel
theorem t375 : Ck 4 k375 (.L 15833 0) := by decide +kernel
end Sx
