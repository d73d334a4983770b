import Derived.Test.YtadfnlnkgnfckaaGreatDoorM
set_option maxRecDepth 1000000
noncomputable section
namespace Sx
open Go
theorem t10 : Ck 37 k10 (.F 44 (.F 76 (.F 195 (.L 104 7) (.X 0)) (.F 904 (.X 0) (.F 27 (.L 12 5) (.X 0)))) (.F 167 (.F 221 (.L 104 7) (.X 0)) (.F 345 (.F 242 (.L 104 7) (.X 0)) (.F 241 (.F 270 (.L 104 7) (.X 0)) (.F 725 (.F 242 (.L 104 7) (.X 0)) (.F 288 (.F 275 (.L 104 7) (.X 0)) (.F 799 (.F 268 (.L 104 7) (.X 0)) (.F 301 (.F 289 (.L 104 7) (.X 0)) (.F 241 (.F 317 (.L 104 7) (.X 0)) (.F 293 (.F 344 (.L 104 7) (.X 0)) (.F 796 (.F 344 (.L 104 7) (.X 0)) (.F 1289 (.F 289 (.L 104 7) (.X 0)) (.F 241 (.F 317 (.L 104 7) (.X 0)) (.F 293 (.F 344 (.L 104 7) (.X 0)) (.F 836 (.F 344 (.L 104 7) (.X 0)) (.F 998 (.F 275 (.L 104 7) (.X 0)) (.L 588 11))))))))))))))))) := by decide +kernel
theorem t13 : Ck 37 k13 (.L 79 14) := by decide +kernel
theorem t15 : Ck 37 k15 (.F 36 (.L 104 16) (.X 0)) := by decide +kernel
theorem t24 : Ck 37 k24 (.L 8011 126) := by decide +kernel
theorem t31 : Ck 37 k31 (.F 36 (.L 104 34) (.X 0)) := by decide +kernel
theorem t40 : Ck 37 k40 (.F 86 (.F 301 (.X 0) (.F 27 (.L 85 44) (.X 0))) (.F 137 (.X 0) (.X 0))) := by decide +kernel
theorem t43 : Ck 37 k43 (.F 86 (.F 301 (.X 0) (.F 27 (.L 85 44) (.X 0))) (.F 137 (.X 0) (.X 0))) := by decide +kernel
theorem t54 : Ck 37 k54 (.F 63 (.F 1 (.F 1 (.X 0) (.X 0)) (.X 0)) (.F 1 (.X 0) (.L 9 58))) := by decide +kernel
theorem t56 : Ck 37 k56 (.F 13 (.F 1 (.F 1 (.L 9 60) (.X 0)) (.X 0)) (.F 1 (.X 0) (.X 0))) := by decide +kernel
theorem t58 : Ck 37 k58 (.F 13 (.F 1 (.F 1 (.X 0) (.X 0)) (.X 0)) (.F 1 (.X 0) (.L 9 62))) := by decide +kernel
theorem t64 : Ck 37 k64 (.F 13 (.F 1 (.F 1 (.X 0) (.X 0)) (.X 0)) (.F 1 (.X 0) (.L 9 68))) := by decide +kernel
theorem t69 : Ck 37 k69 (.Z 15) := by decide +kernel
theorem t82 : Ck 37 k82 (.L 38465 83) := by decide +kernel
theorem t94 : Ck 37 k94 (.L 9443 95) := by decide +kernel
theorem t109 : Ck 37 k109 (.F 123 (.L 2101 110) (.L 1745 111)) := by decide +kernel
theorem t110 : Ck 37 k110 (.F 53 (.F 254 (.F 818 (.F 353 (.F 302 (.F 695 (.L 131 112) (.F 73 (.L 104 21) (.X 0))) (.F 73 (.L 104 21) (.X 0))) (.F 73 (.L 104 21) (.X 0))) (.F 73 (.L 104 21) (.X 0))) (.F 73 (.L 104 21) (.X 0))) (.F 255 (.F 818 (.F 353 (.F 302 (.F 695 (.L 131 112) (.F 73 (.L 104 21) (.X 0))) (.F 73 (.L 104 21) (.X 0))) (.F 73 (.L 104 21) (.X 0))) (.F 73 (.L 104 21) (.X 0))) (.F 73 (.L 104 21) (.X 0)))) := by decide +kernel
theorem t131 : Ck 37 k131 (.F 87 (.F 420 (.F 116 (.L 104 34) (.X 0)) (.F 4729 (.F 116 (.L 104 34) (.X 0)) (.F 4838 (.F 116 (.L 104 34) (.X 0)) (.F 4838 (.F 116 (.L 104 34) (.X 0)) (.F 7980 (.F 116 (.L 66 170) (.X 0)) (.L 13 171)))))) (.L 7 172)) := by decide +kernel
theorem t139 : Ck 37 k139 (.F 87 (.F 420 (.F 116 (.L 104 34) (.X 0)) (.F 4729 (.F 116 (.L 104 34) (.X 0)) (.F 7598 (.F 116 (.L 104 34) (.X 0)) (.F 4926 (.F 116 (.L 104 34) (.X 0)) (.L 13 226))))) (.F 256 (.F 116 (.L 104 34) (.X 0)) (.L 13 227))) := by decide +kernel
theorem t141 : Ck 37 k141 (.L 19 142) := by decide +kernel
theorem t146 : Ck 37 k146 (.F 87 (.F 420 (.F 116 (.L 61 44) (.X 0)) (.F 4729 (.F 116 (.L 61 44) (.X 0)) (.F 4838 (.F 116 (.L 61 44) (.X 0)) (.F 4838 (.F 116 (.L 61 44) (.X 0)) (.F 7980 (.F 116 (.L 61 44) (.X 0)) (.L 13 230)))))) (.L 7 231)) := by decide +kernel
theorem t151 : Ck 37 k151 (.F 87 (.F 420 (.F 116 (.L 61 44) (.X 0)) (.F 4729 (.F 116 (.L 61 44) (.X 0)) (.F 7598 (.F 116 (.L 61 44) (.X 0)) (.F 4926 (.F 116 (.L 61 44) (.X 0)) (.L 13 331))))) (.F 256 (.F 116 (.L 61 44) (.X 0)) (.L 4800 332))) := by decide +kernel
theorem t153 : Ck 37 k153 (.L 16684 154) := by decide +kernel
theorem t157 : Ck 37 k157 (.L 16883 46) := by decide +kernel
theorem t159 : Ck 37 k159 (.F 87 (.F 420 (.X 0) (.F 4729 (.X 0) (.F 7598 (.X 0) (.F 4926 (.X 0) (.L 13 306))))) (.F 256 (.X 0) (.F 4838 (.X 0) (.L 13 307)))) := by decide +kernel
theorem t173 : Ck 37 k173 (.F 7668 (.F 116 (.L 104 34) (.X 0)) (.F 4957 (.F 116 (.L 104 34) (.X 0)) (.F 4957 (.F 116 (.L 104 34) (.X 0)) (.F 4751 (.F 116 (.L 104 34) (.X 0)) (.L 13 175))))) := by decide +kernel
theorem t178 : Ck 37 k178 (.F 5627 (.F 116 (.L 104 34) (.X 0)) (.F 5627 (.F 116 (.L 104 34) (.X 0)) (.F 8234 (.F 116 (.L 104 34) (.X 0)) (.L 13 179)))) := by decide +kernel
theorem t194 : Ck 37 k194 (.F 8065 (.F 116 (.L 104 34) (.X 0)) (.F 4957 (.F 116 (.L 104 34) (.X 0)) (.F 4751 (.F 116 (.L 104 34) (.X 0)) (.L 13 195)))) := by decide +kernel
theorem t195 : Ck 37 k195 (.F 7959 (.F 116 (.L 104 34) (.X 0)) (.L 4419 134)) := by decide +kernel
theorem t199 : Ck 37 k199 (.L 4406 134) := by decide +kernel
theorem t206 : Ck 37 k206 (.F 8221 (.F 116 (.L 104 34) (.X 0)) (.F 8182 (.F 116 (.L 104 34) (.X 0)) (.F 4729 (.F 116 (.L 104 34) (.X 0)) (.L 13 207)))) := by decide +kernel
theorem t212 : Ck 37 k212 (.F 4825 (.F 116 (.L 104 34) (.X 0)) (.F 4838 (.F 116 (.L 104 34) (.X 0)) (.F 4984 (.F 116 (.L 104 34) (.X 0)) (.F 7642 (.F 116 (.L 104 34) (.X 0)) (.L 13 213))))) := by decide +kernel
theorem t215 : Ck 37 k215 (.L 38 34) := by decide +kernel
theorem t216 : Ck 37 k216 (.F 5627 (.F 116 (.L 104 34) (.X 0)) (.F 5627 (.F 116 (.L 104 34) (.X 0)) (.F 8234 (.F 116 (.L 104 34) (.X 0)) (.L 13 218)))) := by decide +kernel
theorem t241 : Ck 37 k241 (.F 249 (.F 116 (.L 61 44) (.X 0)) (.F 4838 (.F 116 (.L 61 44) (.X 0)) (.F 4838 (.F 116 (.L 61 44) (.X 0)) (.F 4838 (.F 116 (.L 61 44) (.X 0)) (.L 13 243))))) := by decide +kernel
theorem t247 : Ck 37 k247 (.F 5627 (.F 116 (.L 61 44) (.X 0)) (.F 5627 (.F 116 (.L 61 44) (.X 0)) (.F 8234 (.F 116 (.L 61 44) (.X 0)) (.L 13 248)))) := by decide +kernel
theorem t259 : Ck 37 k259 (.F 7959 (.F 116 (.L 61 44) (.X 0)) (.L 4419 152)) := by decide +kernel
theorem t264 : Ck 37 k264 (.F 7427 (.F 116 (.L 61 44) (.X 0)) (.L 4419 154)) := by decide +kernel
theorem t265 : Ck 37 k265 (.F 8221 (.F 116 (.L 61 44) (.X 0)) (.F 8182 (.F 116 (.L 61 44) (.X 0)) (.F 4729 (.F 116 (.L 61 44) (.X 0)) (.L 13 266)))) := by decide +kernel
theorem t268 : Ck 37 k268 (.F 8065 (.F 116 (.L 61 44) (.X 0)) (.F 4957 (.F 116 (.L 61 44) (.X 0)) (.F 4751 (.F 116 (.L 61 44) (.X 0)) (.L 13 269)))) := by decide +kernel
theorem t271 : Ck 37 k271 (.F 4825 (.X 0) (.F 4838 (.X 0) (.F 4838 (.X 0) (.F 8512 (.X 0) (.L 13 273))))) := by decide +kernel
theorem t272 : Ck 37 k272 (.F 7668 (.X 0) (.F 4957 (.X 0) (.F 4957 (.X 0) (.F 4751 (.X 0) (.L 13 274))))) := by decide +kernel
theorem t286 : Ck 37 k286 (.F 8221 (.X 0) (.F 8078 (.X 0) (.F 4957 (.X 0) (.L 13 287)))) := by decide +kernel
theorem t300 : Ck 37 k300 (.F 5627 (.X 0) (.F 9277 (.X 0) (.F 8234 (.X 0) (.L 13 302)))) := by decide +kernel
theorem t302 : Ck 37 k302 (.F 8169 (.X 0) (.F 4729 (.X 0) (.F 4838 (.X 0) (.F 4838 (.X 0) (.L 13 303))))) := by decide +kernel
theorem t303 : Ck 37 k303 (.F 8364 (.X 0) (.F 5640 (.X 0) (.F 5627 (.X 0) (.L 13 304)))) := by decide +kernel
theorem t316 : Ck 37 k316 (.F 4825 (.X 0) (.F 4984 (.X 0) (.F 7642 (.X 0) (.F 4729 (.X 0) (.L 13 317))))) := by decide +kernel
theorem t331 : Ck 37 k331 (.F 6298 (.F 116 (.L 61 44) (.X 0)) (.F 5699 (.F 116 (.L 61 44) (.X 0)) (.L 4748 42))) := by decide +kernel
theorem t342 : Ck 4 k342 (.L 22652 350) := by decide +kernel
theorem t351 : Ck 4 k351 (.L 60530 359) := by decide +kernel
theorem t361 : Ck 4 k361 (.L 100 369) := by decide +kernel
theorem t366 : Ck 4 k366 (.L 27129 374) := by decide +kernel
theorem t376 : Ck 4 k376 (.L 15833 0) := by decide +kernel
end Sx
