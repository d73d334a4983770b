import Derived.Test.YtadfnlnkgnfckaaGreatDoorM
set_option maxRecDepth 1000000
noncomputable section
namespace Sx
open Go
theorem t2 : Ck 37 k2 (.L 38465 3) := by decide +kernel
theorem t5 : Ck 37 k5 (.F 36 (.L 104 7) (.X 0)) := by decide +kernel
theorem t9 : Ck 37 k9 (.F 44 (.F 76 (.F 242 (.X 0) (.X 0)) (.F 241 (.F 270 (.X 0) (.X 0)) (.F 293 (.F 297 (.X 0) (.X 0)) (.F 876 (.F 297 (.X 0) (.X 0)) (.F 1059 (.F 228 (.X 0) (.X 0)) (.L 628 10)))))) (.F 167 (.F 268 (.X 0) (.X 0)) (.F 301 (.F 289 (.X 0) (.X 0)) (.F 241 (.F 317 (.X 0) (.X 0)) (.F 293 (.F 344 (.X 0) (.X 0)) (.F 796 (.F 344 (.X 0) (.X 0)) (.F 1289 (.F 289 (.X 0) (.X 0)) (.F 241 (.F 317 (.X 0) (.X 0)) (.F 293 (.F 344 (.X 0) (.X 0)) (.F 836 (.F 344 (.X 0) (.X 0)) (.F 998 (.F 275 (.X 0) (.X 0)) (.L 588 9)))))))))))) := by decide +kernel
theorem t17 : Ck 37 k17 (.F 47 (.F 456 (.X 0) (.F 27 (.L 85 18) (.X 0))) (.F 108 (.X 0) (.X 0))) := by decide +kernel
theorem t20 : Ck 37 k20 (.F 36 (.L 104 21) (.X 0)) := by decide +kernel
theorem t34 : Ck 37 k34 (.L 8011 141) := by decide +kernel
theorem t37 : Ck 37 k37 (.L 21950 147) := by decide +kernel
theorem t42 : Ck 37 k42 (.F 86 (.F 301 (.X 0) (.F 27 (.L 85 44) (.X 0))) (.F 137 (.X 0) (.X 0))) := by decide +kernel
theorem t44 : Ck 37 k44 (.F 16 (.Z 8) (.L 6 45)) := by decide +kernel
theorem t48 : Ck 37 k48 (.L 21372 161) := by decide +kernel
theorem t52 : Ck 37 k52 (.F 63 (.F 1 (.F 1 (.X 0) (.X 0)) (.X 0)) (.F 1 (.X 0) (.L 9 56))) := by decide +kernel
theorem t55 : Ck 37 k55 (.F 13 (.F 1 (.F 1 (.X 0) (.X 0)) (.X 0)) (.F 1 (.X 0) (.L 9 59))) := by decide +kernel
theorem t62 : Ck 37 k62 (.F 13 (.F 1 (.F 1 (.X 0) (.X 0)) (.X 0)) (.F 1 (.X 0) (.L 9 66))) := by decide +kernel
theorem t71 : Ck 37 k71 (.L 8 72) := by decide +kernel
theorem t76 : Ck 37 k76 (.F 44 (.F 76 (.F 195 (.X 0) (.X 0)) (.L 738 78)) (.F 167 (.F 221 (.X 0) (.X 0)) (.F 345 (.F 242 (.X 0) (.X 0)) (.F 241 (.F 270 (.X 0) (.X 0)) (.F 725 (.F 242 (.X 0) (.X 0)) (.F 288 (.F 275 (.X 0) (.X 0)) (.F 708 (.F 242 (.X 0) (.X 0)) (.F 241 (.F 270 (.X 0) (.X 0)) (.F 293 (.F 297 (.X 0) (.X 0)) (.F 876 (.F 297 (.X 0) (.X 0)) (.F 1038 (.F 228 (.X 0) (.X 0)) (.L 628 76)))))))))))) := by decide +kernel
theorem t85 : Ck 37 k85 (.F 87 (.F 12047 (.X 0) (.F 27 (.L 12 15) (.X 0))) (.L 8782 86)) := by decide +kernel
theorem t90 : Ck 37 k90 (.L 20060 91) := by decide +kernel
theorem t117 : Ck 37 k117 (.L 3993 118) := by decide +kernel
theorem t120 : Ck 37 k120 (.F 53 (.F 254 (.F 818 (.F 353 (.F 302 (.F 695 (.L 131 122) (.F 73 (.L 61 23) (.X 0))) (.F 73 (.L 61 23) (.X 0))) (.F 73 (.L 61 23) (.X 0))) (.F 73 (.L 61 23) (.X 0))) (.F 73 (.L 61 23) (.X 0))) (.F 255 (.F 818 (.F 353 (.F 302 (.F 695 (.L 131 122) (.F 73 (.L 61 23) (.X 0))) (.F 73 (.L 61 23) (.X 0))) (.F 73 (.L 61 23) (.X 0))) (.F 73 (.L 61 23) (.X 0))) (.F 73 (.L 61 23) (.X 0)))) := by decide +kernel
theorem t143 : Ck 37 k143 (.L 16883 35) := by decide +kernel
theorem t148 : Ck 37 k148 (.F 87 (.F 420 (.F 116 (.L 61 44) (.X 0)) (.F 4729 (.F 116 (.L 61 44) (.X 0)) (.F 7598 (.F 116 (.L 61 44) (.X 0)) (.F 4926 (.F 116 (.L 61 44) (.X 0)) (.L 13 328))))) (.F 256 (.F 116 (.L 61 44) (.X 0)) (.L 4800 329))) := by decide +kernel
theorem t150 : Ck 37 k150 (.L 16684 151) := by decide +kernel
theorem t160 : Ck 37 k160 (.F 87 (.F 420 (.X 0) (.F 4729 (.X 0) (.F 4838 (.X 0) (.F 4838 (.X 0) (.F 7980 (.X 0) (.L 13 270)))))) (.F 256 (.X 0) (.L 13 271))) := by decide +kernel
theorem t165 : Ck 37 k165 (.F 87 (.F 420 (.X 0) (.F 4729 (.X 0) (.F 7598 (.X 0) (.F 4926 (.X 0) (.L 13 312))))) (.F 256 (.X 0) (.F 4838 (.X 0) (.L 13 313)))) := by decide +kernel
theorem t179 : Ck 37 k179 (.F 8065 (.F 116 (.L 104 34) (.X 0)) (.F 4957 (.F 116 (.L 104 34) (.X 0)) (.F 4751 (.F 116 (.L 104 34) (.X 0)) (.L 13 180)))) := by decide +kernel
theorem t180 : Ck 37 k180 (.F 7959 (.F 116 (.L 104 34) (.X 0)) (.L 4419 131)) := by decide +kernel
theorem t184 : Ck 37 k184 (.L 4406 131) := by decide +kernel
theorem t185 : Ck 37 k185 (.L 38 34) := by decide +kernel
theorem t192 : Ck 37 k192 (.F 4825 (.F 116 (.L 104 34) (.X 0)) (.F 4838 (.F 116 (.L 104 34) (.X 0)) (.F 8377 (.F 116 (.L 104 34) (.X 0)) (.L 13 193)))) := by decide +kernel
theorem t219 : Ck 37 k219 (.F 8499 (.F 116 (.L 104 34) (.X 0)) (.F 5640 (.F 116 (.L 104 34) (.X 0)) (.F 9277 (.F 116 (.L 66 215) (.X 0)) (.L 13 221)))) := by decide +kernel
theorem t249 : Ck 37 k249 (.F 7959 (.F 116 (.L 61 44) (.X 0)) (.L 4419 149)) := by decide +kernel
theorem t254 : Ck 37 k254 (.F 7427 (.F 116 (.L 61 44) (.X 0)) (.L 4419 151)) := by decide +kernel
theorem t258 : Ck 37 k258 (.F 8065 (.F 116 (.L 61 44) (.X 0)) (.F 4957 (.F 116 (.L 61 44) (.X 0)) (.F 4751 (.F 116 (.L 61 44) (.X 0)) (.L 13 259)))) := by decide +kernel
theorem t260 : Ck 37 k260 (.F 5627 (.F 116 (.L 61 44) (.X 0)) (.F 5627 (.F 116 (.L 61 44) (.X 0)) (.F 8234 (.F 116 (.L 61 44) (.X 0)) (.L 13 262)))) := by decide +kernel
theorem t262 : Ck 37 k262 (.F 7668 (.F 116 (.L 61 44) (.X 0)) (.F 4957 (.F 116 (.L 61 44) (.X 0)) (.F 4957 (.F 116 (.L 61 44) (.X 0)) (.F 4751 (.F 116 (.L 61 44) (.X 0)) (.L 13 264))))) := by decide +kernel
theorem t263 : Ck 37 k263 (.F 8499 (.F 116 (.L 61 44) (.X 0)) (.F 5640 (.F 116 (.L 61 44) (.X 0)) (.F 9277 (.F 116 (.L 61 44) (.X 0)) (.L 13 265)))) := by decide +kernel
theorem t279 : Ck 37 k279 (.F 5627 (.X 0) (.F 5627 (.X 0) (.F 8234 (.X 0) (.L 13 281)))) := by decide +kernel
theorem t290 : Ck 37 k290 (.F 7668 (.X 0) (.F 4957 (.X 0) (.F 4957 (.X 0) (.F 4751 (.X 0) (.L 13 292))))) := by decide +kernel
theorem t291 : Ck 37 k291 (.F 5627 (.X 0) (.F 9277 (.X 0) (.F 8234 (.X 0) (.L 13 293)))) := by decide +kernel
theorem t308 : Ck 37 k308 (.F 4825 (.X 0) (.F 4838 (.X 0) (.F 7972 (.X 0) (.L 4419 160)))) := by decide +kernel
theorem t319 : Ck 37 k319 (.F 172 (.F 65 (.L 104 16) (.X 0)) (.F 794 (.F 65 (.L 104 16) (.X 0)) (.F 4580 (.F 65 (.L 104 16) (.X 0)) (.F 1453 (.F 65 (.L 104 16) (.X 0)) (.F 4733 (.F 65 (.L 104 16) (.X 0)) (.F 3547 (.F 65 (.L 104 16) (.X 0)) (.F 4107 (.F 65 (.L 104 16) (.X 0)) (.F 542 (.F 65 (.L 104 16) (.X 0)) (.F 794 (.F 65 (.L 104 16) (.X 0)) (.F 794 (.F 65 (.L 104 16) (.X 0)) (.L 43 320))))))))))) := by decide +kernel
theorem t320 : Ck 37 k320 (.F 4402 (.F 65 (.L 104 16) (.X 0)) (.F 1453 (.F 65 (.L 104 16) (.X 0)) (.F 1083 (.F 65 (.L 104 16) (.X 0)) (.F 3547 (.F 65 (.L 104 16) (.X 0)) (.F 4003 (.F 65 (.L 104 16) (.X 0)) (.F 882 (.F 65 (.L 104 16) (.X 0)) (.F 564 (.F 65 (.L 104 16) (.X 0)) (.F 4040 (.F 65 (.L 104 16) (.X 0)) (.L 86 91))))))))) := by decide +kernel
theorem t328 : Ck 37 k328 (.F 6298 (.F 116 (.L 61 44) (.X 0)) (.F 5699 (.F 116 (.L 61 44) (.X 0)) (.L 4748 41))) := by decide +kernel
theorem t330 : Ck 37 k330 (.F 4825 (.F 116 (.L 61 44) (.X 0)) (.F 4838 (.F 116 (.L 61 44) (.X 0)) (.F 7972 (.F 116 (.L 61 44) (.X 0)) (.L 4419 149)))) := by decide +kernel
theorem t339 : Ck 4 k339 (.Z 37) := by decide +kernel
theorem t345 : Ck 4 k345 (.L 22652 353) := by decide +kernel
theorem t349 : Ck 4 k349 (.L 60227 357) := by decide +kernel
theorem t359 : Ck 4 k359 (.L 100 367) := by decide +kernel
theorem t364 : Ck 4 k364 (.L 100 372) := by decide +kernel
theorem t370 : Ck 4 k370 (.L 27172 378) := by decide +kernel
theorem t375 : Ck 4 k375 (.L 15833 0) := by decide +kernel
theorem t380 : Ck 4 k380 (.L 15833 0) := by decide +kernel
end Sx
