import Derived.Test.YtadfnlnkgnfckaaGreatDoorM
set_option maxRecDepth 1000000
namespace Sx
open Go
theorem t11 : Ck 37 k11 (.F 44 (.F 76 (.F 242 (.L 104 7) x0) (.F 241 (.F 270 (.L 104 7) x0) (.F 293 (.F 297 (.L 104 7) x0) (.F 876 (.F 297 (.L 104 7) x0) (.F 1038 (.F 228 (.L 104 7) x0) (.L 628 10)))))) (.F 167 (.F 268 (.L 104 7) x0) (.F 301 (.F 289 (.L 104 7) x0) (.F 241 (.F 317 (.L 104 7) x0) (.F 293 (.F 344 (.L 104 7) x0) (.F 796 (.F 344 (.L 104 7) x0) (.F 1289 (.F 289 (.L 104 7) x0) (.F 241 (.F 317 (.L 104 7) x0) (.F 293 (.F 344 (.L 104 7) x0) (.F 836 (.F 344 (.L 104 7) x0) (.F 998 (.F 275 (.L 104 7) x0) (.L 588 11)))))))))))) := by decide +kernel
theorem t20 : Ck 37 k20 (.F 36 (.L 104 21) x0) := by decide +kernel
theorem t47 : Ck 37 k47 (.L 21372 158) := by decide +kernel
theorem t54 : Ck 37 k54 (.F 63 (.F 1 (.F 1 x0 x0) x0) (.F 1 x0 (.L 9 58))) := by decide +kernel
theorem t65 : Ck 37 k65 (.F 13 (.F 1 (.F 1 x0 x0) x0) (.F 1 x0 (.L 9 69))) := by decide +kernel
theorem t69 : Ck 37 k69 (.Z 15) := by decide +kernel
theorem t119 : Ck 37 k119 (.F 123 (.L 2101 120) (.L 1745 121)) := by decide +kernel
theorem t123 : Ck 37 k123 (.F 53 (.F 254 (.F 818 (.F 353 (.F 302 (.F 695 (.L 131 125) (.F 73 (.L 61 23) x0)) (.F 73 (.L 61 23) x0)) (.F 73 (.L 61 23) x0)) (.F 73 (.L 61 23) x0)) (.F 73 (.L 61 23) x0)) (.F 255 (.F 818 (.F 353 (.F 302 (.F 695 (.L 131 125) (.F 73 (.L 61 23) x0)) (.F 73 (.L 61 23) x0)) (.F 73 (.L 61 23) x0)) (.F 73 (.L 61 23) x0)) (.F 73 (.L 61 23) x0))) := by decide +kernel
theorem t131 : Ck 37 k131 (.F 87 (.F 420 (.F 116 (.L 104 34) x0) (.F 4729 (.F 116 (.L 104 34) x0) (.F 4838 (.F 116 (.L 104 34) x0) (.F 4838 (.F 116 (.L 104 34) x0) (.F 7980 (.F 116 (.L 66 170) x0) (.L 13 171)))))) (.L 7 172)) := by decide +kernel
theorem t132 : Ck 37 k132 (.L 16684 133) := by decide +kernel
theorem t163 : Ck 37 k163 (.F 87 (.F 420 x0 (.F 4729 x0 (.F 4838 x0 (.F 4838 x0 (.F 7980 x0 (.L 13 279)))))) (.F 256 x0 (.L 13 280))) := by decide +kernel
theorem t178 : Ck 37 k178 (.F 5627 (.F 116 (.L 104 34) x0) (.F 5627 (.F 116 (.L 104 34) x0) (.F 8234 (.F 116 (.L 104 34) x0) (.L 13 179)))) := by decide +kernel
theorem t194 : Ck 37 k194 (.F 8065 (.F 116 (.L 104 34) x0) (.F 4957 (.F 116 (.L 104 34) x0) (.F 4751 (.F 116 (.L 104 34) x0) (.L 13 195)))) := by decide +kernel
theorem t228 : Ck 37 k228 (.F 4716 (.F 116 (.L 104 34) x0) (.F 4838 (.F 116 (.L 104 34) x0) (.F 4838 (.F 116 (.L 104 34) x0) (.F 7972 (.F 116 (.L 104 34) x0) (.L 13 229))))) := by decide +kernel
theorem t264 : Ck 37 k264 (.F 7427 (.F 116 (.L 61 44) x0) (.L 4419 154)) := by decide +kernel
theorem t297 : Ck 37 k297 (.F 5627 x0 (.F 5627 x0 (.F 8234 x0 (.L 13 299)))) := by decide +kernel
theorem t311 : Ck 37 k311 (.F 4825 x0 (.F 4838 x0 (.F 7972 x0 (.L 4419 163)))) := by decide +kernel
theorem t315 : Ck 37 k315 (.F 6298 x0 (.F 5699 x0 (.L 4949 54))) := by decide +kernel
theorem t333 : Ck 37 k333 (.F 4825 (.F 116 (.L 61 44) x0) (.F 4838 (.F 116 (.L 61 44) x0) (.F 7972 (.F 116 (.L 61 44) x0) (.L 4419 152)))) := by decide +kernel
theorem t348 : Ck 4 k348 (.L 23000 356) := by decide +kernel
theorem t368 : Ck 4 k368 (.L 27172 376) := by decide +kernel
theorem t371 : Ck 4 k371 (.L 27172 379) := by decide +kernel
end Sx
