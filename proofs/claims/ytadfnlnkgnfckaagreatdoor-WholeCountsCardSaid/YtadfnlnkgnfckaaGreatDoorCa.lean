import Derived.Test.YtadfnlnkgnfckaaGreatDoorM
set_option maxRecDepth 1000000
namespace Sx
open Go
theorem t8 : Ck 37 k8 (.F 44 (.F 76 (.F 195 x0 x0) (.F 904 x0 (.F 27 (.L 12 5) x0))) (.F 167 (.F 221 x0 x0) (.F 345 (.F 242 x0 x0) (.F 241 (.F 270 x0 x0) (.F 725 (.F 242 x0 x0) (.F 288 (.F 275 x0 x0) (.F 708 (.F 242 x0 x0) (.F 241 (.F 270 x0 x0) (.F 293 (.F 297 x0 x0) (.F 876 (.F 297 x0 x0) (.F 1038 (.F 228 x0 x0) (.L 628 8)))))))))))) := by decide +kernel
theorem t34 : Ck 37 k34 (.L 8011 141) := by decide +kernel
theorem t57 : Ck 37 k57 (.F 13 (.F 1 (.F 1 x0 x0) x0) (.F 1 x0 (.L 9 61))) := by decide +kernel
theorem t87 : Ck 37 k87 (.F 87 (.L 22467 88) (.L 1239 89)) := by decide +kernel
theorem t95 : Ck 37 k95 (.F 87 (.L 11825 17) (.L 8782 96)) := by decide +kernel
theorem t99 : Ck 37 k99 (.L 22138 101) := by decide +kernel
theorem t103 : Ck 37 k103 (.F 3997 (.F 65 (.L 61 18) x0) (.L 86 102)) := by decide +kernel
theorem t111 : Ck 37 k111 (.F 53 (.F 1 (.F 253 (.F 818 (.F 353 (.F 695 (.F 346 x0 (.F 73 x0 x0)) (.F 73 x0 x0)) (.F 73 x0 x0)) (.F 73 x0 x0)) (.F 73 x0 x0)) (.F 254 (.F 818 (.F 353 (.F 695 (.F 346 (.L 197 113) (.F 73 (.L 104 21) x0)) (.F 73 (.L 104 21) x0)) (.F 73 (.L 104 21) x0)) (.F 73 (.L 104 21) x0)) (.F 73 (.L 104 21) x0))) (.F 1 (.F 254 (.F 818 (.F 353 (.F 695 (.F 346 (.L 197 113) (.F 73 (.L 104 21) x0)) (.F 73 (.L 104 21) x0)) (.F 73 (.L 104 21) x0)) (.F 73 (.L 104 21) x0)) (.F 73 (.L 104 21) x0)) (.F 255 (.F 818 (.F 353 (.F 695 (.F 346 (.L 197 113) (.F 73 (.L 104 21) x0)) (.F 73 (.L 104 21) x0)) (.F 73 (.L 104 21) x0)) (.F 73 (.L 104 21) x0)) (.F 73 (.L 104 21) x0)))) := by decide +kernel
theorem t127 : Ck 37 k127 (.L 38465 128) := by decide +kernel
theorem t133 : Ck 37 k133 (.F 87 (.F 420 (.F 116 (.L 104 34) x0) (.F 4729 (.F 116 (.L 104 34) x0) (.F 7598 (.F 116 (.L 104 34) x0) (.F 4926 (.F 116 (.L 104 34) x0) (.L 13 196))))) (.F 256 (.F 116 (.L 104 34) x0) (.L 13 197))) := by decide +kernel
theorem t157 : Ck 37 k157 (.L 16883 46) := by decide +kernel
theorem t182 : Ck 37 k182 (.F 4825 (.F 116 (.L 104 34) x0) (.F 4838 (.F 116 (.L 104 34) x0) (.F 4984 (.F 116 (.L 104 34) x0) (.F 7642 (.F 116 (.L 104 34) x0) (.L 13 183))))) := by decide +kernel
theorem t219 : Ck 37 k219 (.F 8499 (.F 116 (.L 104 34) x0) (.F 5640 (.F 116 (.L 104 34) x0) (.F 9277 (.F 116 (.L 66 215) x0) (.L 13 221)))) := by decide +kernel
theorem t265 : Ck 37 k265 (.F 8221 (.F 116 (.L 61 44) x0) (.F 8182 (.F 116 (.L 61 44) x0) (.F 4729 (.F 116 (.L 61 44) x0) (.L 13 266)))) := by decide +kernel
theorem t289 : Ck 37 k289 (.F 4825 x0 (.F 4838 x0 (.F 4838 x0 (.F 8512 x0 (.L 13 291))))) := by decide +kernel
theorem t293 : Ck 37 k293 (.F 8169 x0 (.F 4729 x0 (.F 4838 x0 (.F 4838 x0 (.L 13 294))))) := by decide +kernel
theorem t296 : Ck 37 k296 (.F 4738 x0 (.F 7972 x0 (.L 4419 166))) := by decide +kernel
theorem t303 : Ck 37 k303 (.F 8364 x0 (.F 5640 x0 (.F 5627 x0 (.L 13 304)))) := by decide +kernel
theorem t357 : Ck 4 k357 (.L 100 365) := by decide +kernel
theorem t378 : Ck 4 k378 (.L 15833 0) := by decide +kernel
end Sx
