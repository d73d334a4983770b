import Derived.Test.YtadfnlnkgnfckaaGreatDoorM
set_option maxRecDepth 1000000
namespace Sx
open Go
theorem t7 : Ck 37 k7 (.L 8003 71) := by decide +kernel
theorem t52 : Ck 37 k52 (.F 63 (.F 1 (.F 1 x0 x0) x0) (.F 1 x0 (.L 9 56))) := by decide +kernel
theorem t56 : Ck 37 k56 (.F 13 (.F 1 (.F 1 (.L 9 60) x0) x0) (.F 1 x0 x0)) := by decide +kernel
theorem t76 : Ck 37 k76 (.F 44 (.F 76 (.F 195 x0 x0) (.L 738 78)) (.F 167 (.F 221 x0 x0) (.F 345 (.F 242 x0 x0) (.F 241 (.F 270 x0 x0) (.F 725 (.F 242 x0 x0) (.F 288 (.F 275 x0 x0) (.F 708 (.F 242 x0 x0) (.F 241 (.F 270 x0 x0) (.F 293 (.F 297 x0 x0) (.F 876 (.F 297 x0 x0) (.F 1038 (.F 228 x0 x0) (.L 628 76)))))))))))) := by decide +kernel
theorem t81 : Ck 37 k81 (.F 44 (.F 76 (.F 242 (.L 61 13) x0) (.F 241 (.F 270 (.L 61 13) x0) (.F 293 (.F 297 (.L 61 13) x0) (.F 876 (.F 297 (.L 61 13) x0) (.F 1038 (.F 228 (.L 61 13) x0) (.L 628 79)))))) (.F 167 (.F 268 (.L 61 13) x0) (.F 301 (.F 289 (.L 61 13) x0) (.F 241 (.F 317 (.L 61 13) x0) (.F 293 (.F 344 (.L 61 13) x0) (.F 796 (.F 344 (.L 61 13) x0) (.F 1289 (.F 289 (.L 61 13) x0) (.F 241 (.F 317 (.L 61 13) x0) (.F 293 (.F 344 (.L 61 13) x0) (.F 836 (.F 344 (.L 61 13) x0) (.F 998 (.F 275 (.L 61 13) x0) (.L 588 81)))))))))))) := by decide +kernel
theorem t85 : Ck 37 k85 (.F 87 (.F 12047 x0 (.F 27 (.L 12 15) x0)) (.L 8782 86)) := by decide +kernel
theorem t91 : Ck 37 k91 (.F 87 (.F 678 (.F 65 (.L 104 16) x0) (.F 542 (.F 65 (.L 104 16) x0) (.F 794 (.F 65 (.L 104 16) x0) (.F 794 (.F 65 (.L 104 16) x0) (.F 4048 (.F 65 (.L 104 16) x0) (.F 1453 (.F 65 (.L 104 16) x0) (.F 1083 (.F 65 (.L 104 16) x0) (.F 3547 (.F 65 (.L 104 16) x0) (.F 3606 (.F 65 (.L 104 16) x0) (.F 882 (.F 65 (.L 104 16) x0) (.F 882 (.F 65 (.L 104 16) x0) (.F 564 (.F 65 (.L 104 16) x0) (.L 43 318))))))))))))) (.F 402 (.F 65 (.L 104 16) x0) (.F 794 (.F 65 (.L 104 16) x0) (.L 622 319)))) := by decide +kernel
theorem t92 : Ck 37 k92 (.L 38465 93) := by decide +kernel
theorem t107 : Ck 37 k107 (.L 3415 108) := by decide +kernel
theorem t130 : Ck 37 k130 (.F 87 (.F 420 (.F 116 (.L 104 34) x0) (.F 4729 (.F 116 (.L 104 34) x0) (.F 7598 (.F 116 (.L 104 34) x0) (.F 4926 (.F 116 (.L 104 34) x0) (.L 13 181))))) (.F 256 (.F 116 (.L 104 34) x0) (.L 13 182))) := by decide +kernel
theorem t154 : Ck 37 k154 (.F 87 (.F 420 (.F 116 (.L 61 44) x0) (.F 4729 (.F 116 (.L 61 44) x0) (.F 7598 (.F 116 (.L 61 44) x0) (.F 4926 (.F 116 (.L 61 44) x0) (.L 13 334))))) (.F 256 (.F 116 (.L 61 44) x0) (.L 4800 335))) := by decide +kernel
theorem t167 : Ck 37 k167 (.L 16684 168) := by decide +kernel
theorem t204 : Ck 37 k204 (.F 8499 (.F 116 (.L 104 34) x0) (.F 5640 (.F 116 (.L 104 34) x0) (.F 9277 (.F 116 (.L 66 200) x0) (.L 13 206)))) := by decide +kernel
theorem t287 : Ck 37 k287 (.F 4738 x0 (.F 7972 x0 (.L 4419 163))) := by decide +kernel
theorem t294 : Ck 37 k294 (.F 8364 x0 (.F 5640 x0 (.F 5627 x0 (.L 13 295)))) := by decide +kernel
theorem t298 : Ck 37 k298 (.F 4825 x0 (.F 4838 x0 (.F 4838 x0 (.F 8512 x0 (.L 13 300))))) := by decide +kernel
theorem t307 : Ck 37 k307 (.F 4825 x0 (.F 4984 x0 (.F 7642 x0 (.F 4729 x0 (.L 13 308))))) := by decide +kernel
theorem t320 : Ck 37 k320 (.F 4402 (.F 65 (.L 104 16) x0) (.F 1453 (.F 65 (.L 104 16) x0) (.F 1083 (.F 65 (.L 104 16) x0) (.F 3547 (.F 65 (.L 104 16) x0) (.F 4003 (.F 65 (.L 104 16) x0) (.F 882 (.F 65 (.L 104 16) x0) (.F 564 (.F 65 (.L 104 16) x0) (.F 4040 (.F 65 (.L 104 16) x0) (.L 86 91))))))))) := by decide +kernel
theorem t342 : Ck 4 k342 (.L 22652 350) := by decide +kernel
theorem t364 : Ck 4 k364 (.L 100 372) := by decide +kernel
theorem t379 : Ck 4 k379 (.L 15833 0) := by decide +kernel
end Sx
