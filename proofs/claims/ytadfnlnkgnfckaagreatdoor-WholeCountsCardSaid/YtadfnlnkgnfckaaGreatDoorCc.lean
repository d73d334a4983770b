import Derived.Test.YtadfnlnkgnfckaaGreatDoorM
set_option maxRecDepth 1000000
namespace Sx
open Go
theorem t6 : Ck 37 k6 (.F 44 (.L 3173 8) (.L 6085 9)) := by decide +kernel
theorem t9 : Ck 37 k9 (.F 44 (.F 76 (.F 242 x0 x0) (.F 241 (.F 270 x0 x0) (.F 293 (.F 297 x0 x0) (.F 876 (.F 297 x0 x0) (.F 1059 (.F 228 x0 x0) (.L 628 10)))))) (.F 167 (.F 268 x0 x0) (.F 301 (.F 289 x0 x0) (.F 241 (.F 317 x0 x0) (.F 293 (.F 344 x0 x0) (.F 796 (.F 344 x0 x0) (.F 1289 (.F 289 x0 x0) (.F 241 (.F 317 x0 x0) (.F 293 (.F 344 x0 x0) (.F 836 (.F 344 x0 x0) (.F 998 (.F 275 x0 x0) (.L 588 9)))))))))))) := by decide +kernel
theorem t10 : Ck 37 k10 (.F 44 (.F 76 (.F 195 (.L 104 7) x0) (.F 904 x0 (.F 27 (.L 12 5) x0))) (.F 167 (.F 221 (.L 104 7) x0) (.F 345 (.F 242 (.L 104 7) x0) (.F 241 (.F 270 (.L 104 7) x0) (.F 725 (.F 242 (.L 104 7) x0) (.F 288 (.F 275 (.L 104 7) x0) (.F 799 (.F 268 (.L 104 7) x0) (.F 301 (.F 289 (.L 104 7) x0) (.F 241 (.F 317 (.L 104 7) x0) (.F 293 (.F 344 (.L 104 7) x0) (.F 796 (.F 344 (.L 104 7) x0) (.F 1289 (.F 289 (.L 104 7) x0) (.F 241 (.F 317 (.L 104 7) x0) (.F 293 (.F 344 (.L 104 7) x0) (.F 836 (.F 344 (.L 104 7) x0) (.F 998 (.F 275 (.L 104 7) x0) (.L 588 11))))))))))))))))) := by decide +kernel
theorem t13 : Ck 37 k13 (.L 79 14) := by decide +kernel
theorem t16 : Ck 37 k16 (.L 8007 92) := by decide +kernel
theorem t30 : Ck 37 k30 (.F 36 (.L 104 34) x0) := by decide +kernel
theorem t66 : Ck 37 k66 (.F 13 (.F 1 (.F 1 (.L 9 70) x0) x0) (.F 1 x0 x0)) := by decide +kernel
theorem t82 : Ck 37 k82 (.L 38465 83) := by decide +kernel
theorem t101 : Ck 37 k101 (.L 20060 102) := by decide +kernel
theorem t116 : Ck 37 k116 (.L 22609 117) := by decide +kernel
theorem t117 : Ck 37 k117 (.L 3993 118) := by decide +kernel
theorem t126 : Ck 37 k126 (.L 19 127) := by decide +kernel
theorem t151 : Ck 37 k151 (.F 87 (.F 420 (.F 116 (.L 61 44) x0) (.F 4729 (.F 116 (.L 61 44) x0) (.F 7598 (.F 116 (.L 61 44) x0) (.F 4926 (.F 116 (.L 61 44) x0) (.L 13 331))))) (.F 256 (.F 116 (.L 61 44) x0) (.L 4800 332))) := by decide +kernel
theorem t161 : Ck 37 k161 (.L 16684 162) := by decide +kernel
theorem t189 : Ck 37 k189 (.F 8499 (.F 116 (.L 104 34) x0) (.F 5640 (.F 116 (.L 104 34) x0) (.F 9277 (.F 116 (.L 66 185) x0) (.L 13 191)))) := by decide +kernel
theorem t216 : Ck 37 k216 (.F 5627 (.F 116 (.L 104 34) x0) (.F 5627 (.F 116 (.L 104 34) x0) (.F 8234 (.F 116 (.L 104 34) x0) (.L 13 218)))) := by decide +kernel
theorem t227 : Ck 37 k227 (.F 4825 (.F 116 (.L 104 34) x0) (.F 4838 (.F 116 (.L 104 34) x0) (.F 4984 (.F 116 (.L 104 34) x0) (.F 7642 (.F 116 (.L 104 34) x0) (.L 13 228))))) := by decide +kernel
theorem t245 : Ck 37 k245 (.F 8221 (.F 116 (.L 61 44) x0) (.F 8182 (.F 116 (.L 61 44) x0) (.F 4729 (.F 116 (.L 61 44) x0) (.L 13 246)))) := by decide +kernel
theorem t252 : Ck 37 k252 (.F 7668 (.F 116 (.L 61 44) x0) (.F 4957 (.F 116 (.L 61 44) x0) (.F 4957 (.F 116 (.L 61 44) x0) (.F 4751 (.F 116 (.L 61 44) x0) (.L 13 254))))) := by decide +kernel
theorem t278 : Ck 37 k278 (.F 4738 x0 (.F 7972 x0 (.L 4419 160))) := by decide +kernel
theorem t279 : Ck 37 k279 (.F 5627 x0 (.F 5627 x0 (.F 8234 x0 (.L 13 281)))) := by decide +kernel
theorem t313 : Ck 37 k313 (.F 4825 x0 (.F 4984 x0 (.F 7642 x0 (.F 4729 x0 (.L 13 314))))) := by decide +kernel
end Sx
