import Derived.Test.YtadfnlnkgnfckaaGreatDoorM
set_option maxRecDepth 1000000
namespace Sx
open Go
theorem t1 : Ck 37 k1 (.L 8 2) := by decide +kernel
theorem t63 : Ck 37 k63 (.F 13 (.F 1 (.F 1 x0 x0) x0) (.F 1 x0 (.L 9 67))) := by decide +kernel
theorem t98 : Ck 37 k98 (.F 87 (.F 678 (.F 65 (.L 61 18) x0) (.F 542 (.F 65 (.L 61 18) x0) (.F 3666 (.F 65 (.L 61 18) x0) (.F 851 (.F 65 (.L 61 18) x0) (.F 2236 (.F 65 (.L 61 18) x0) (.F 2236 (.F 65 (.L 61 18) x0) (.L 1616 100))))))) (.F 402 (.F 65 (.L 61 18) x0) (.F 794 (.F 65 (.L 61 18) x0) (.F 794 (.F 65 (.L 61 18) x0) (.F 1052 (.F 65 (.L 61 18) x0) (.F 3567 (.F 65 (.L 61 18) x0) (.F 542 (.F 65 (.L 61 18) x0) (.F 794 (.F 65 (.L 61 18) x0) (.F 794 (.F 65 (.L 61 18) x0) (.L 43 103)))))))))) := by decide +kernel
theorem t122 : Ck 37 k122 (.F 123 (.F 164 (.F 346 (.F 353 (.F 695 (.L 400 124) (.F 73 (.L 61 23) x0)) (.F 73 (.L 61 23) x0)) (.F 73 (.L 61 23) x0)) (.F 73 (.L 61 23) x0)) (.F 158 (.F 346 (.F 818 (.F 353 (.F 695 (.L 131 125) (.F 73 (.L 61 23) x0)) (.F 73 (.L 61 23) x0)) (.F 73 (.L 61 23) x0)) (.F 73 (.L 61 23) x0)) (.F 73 (.L 61 23) x0))) := by decide +kernel
theorem t124 : Ck 37 k124 (.F 51 (.F 101 x0 (.F 27 (.L 85 23) x0)) (.F 74 x0 x0)) := by decide +kernel
theorem t162 : Ck 37 k162 (.F 87 (.F 420 x0 (.F 4729 x0 (.F 7598 x0 (.F 4926 x0 (.L 13 309))))) (.F 256 x0 (.F 4838 x0 (.L 13 310)))) := by decide +kernel
theorem t176 : Ck 37 k176 (.F 8221 (.F 116 (.L 104 34) x0) (.F 8182 (.F 116 (.L 104 34) x0) (.F 4729 (.F 116 (.L 104 34) x0) (.L 13 177)))) := by decide +kernel
theorem t183 : Ck 37 k183 (.F 4716 (.F 116 (.L 104 34) x0) (.F 4838 (.F 116 (.L 104 34) x0) (.F 4838 (.F 116 (.L 104 34) x0) (.F 7972 (.F 116 (.L 104 34) x0) (.L 13 184))))) := by decide +kernel
theorem t195 : Ck 37 k195 (.F 7959 (.F 116 (.L 104 34) x0) (.L 4419 134)) := by decide +kernel
theorem t199 : Ck 37 k199 (.L 4406 134) := by decide +kernel
theorem t207 : Ck 37 k207 (.F 4825 (.F 116 (.L 104 34) x0) (.F 4838 (.F 116 (.L 104 34) x0) (.F 8377 (.F 116 (.L 104 34) x0) (.L 13 208)))) := by decide +kernel
theorem t226 : Ck 37 k226 (.F 6298 (.F 116 (.L 104 34) x0) (.F 5699 (.F 116 (.L 104 34) x0) (.F 4994 x0 (.F 27 (.L 12 33) x0)))) := by decide +kernel
theorem t234 : Ck 37 k234 (.F 7427 (.F 116 (.L 61 44) x0) (.L 4419 145)) := by decide +kernel
theorem t243 : Ck 37 k243 (.F 8499 (.F 116 (.L 61 44) x0) (.F 5640 (.F 116 (.L 61 44) x0) (.F 9277 (.F 116 (.L 61 44) x0) (.L 13 245)))) := by decide +kernel
theorem t257 : Ck 37 k257 (.F 5627 (.F 116 (.L 61 44) x0) (.F 5627 (.F 116 (.L 61 44) x0) (.F 8234 (.F 116 (.L 61 44) x0) (.L 13 258)))) := by decide +kernel
theorem t295 : Ck 37 k295 (.F 8221 x0 (.F 8078 x0 (.F 4957 x0 (.L 13 296)))) := by decide +kernel
theorem t306 : Ck 37 k306 (.F 6298 x0 (.F 5699 x0 (.L 4949 51))) := by decide +kernel
theorem t321 : Ck 37 k321 (.L 38 16) := by decide +kernel
theorem t335 : Ck 37 k335 (.F 38 (.F 116 (.L 61 44) x0) (.F 4838 (.F 116 (.L 61 44) x0) (.F 4984 (.F 116 (.L 61 44) x0) (.F 7642 (.F 116 (.L 61 44) x0) (.F 4729 (.F 116 (.L 61 44) x0) (.L 13 336)))))) := by decide +kernel
theorem t351 : Ck 4 k351 (.L 60530 359) := by decide +kernel
theorem t374 : Ck 4 k374 (.L 15833 0) := by decide +kernel
end Sx
