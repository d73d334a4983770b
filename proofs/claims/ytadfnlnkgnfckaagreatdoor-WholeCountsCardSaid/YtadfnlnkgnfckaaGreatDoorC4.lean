import Derived.Test.YtadfnlnkgnfckaaGreatDoorM
set_option maxRecDepth 1000000
noncomputable section
namespace Sx
open Go
theorem t1 : Ck 37 k1 (.L 8 2) := by decide +kernel
theorem t11 : Ck 37 k11 (.F 44 (.F 76 (.F 242 (.L 104 7) (.X 0)) (.F 241 (.F 270 (.L 104 7) (.X 0)) (.F 293 (.F 297 (.L 104 7) (.X 0)) (.F 876 (.F 297 (.L 104 7) (.X 0)) (.F 1038 (.F 228 (.L 104 7) (.X 0)) (.L 628 10)))))) (.F 167 (.F 268 (.L 104 7) (.X 0)) (.F 301 (.F 289 (.L 104 7) (.X 0)) (.F 241 (.F 317 (.L 104 7) (.X 0)) (.F 293 (.F 344 (.L 104 7) (.X 0)) (.F 796 (.F 344 (.L 104 7) (.X 0)) (.F 1289 (.F 289 (.L 104 7) (.X 0)) (.F 241 (.F 317 (.L 104 7) (.X 0)) (.F 293 (.F 344 (.L 104 7) (.X 0)) (.F 836 (.F 344 (.L 104 7) (.X 0)) (.F 998 (.F 275 (.L 104 7) (.X 0)) (.L 588 11)))))))))))) := by decide +kernel
theorem t12 : Ck 37 k12 (.F 17 (.F 150 (.X 0) (.F 27 (.L 85 13) (.X 0))) (.F 105 (.X 0) (.X 0))) := by decide +kernel
theorem t18 : Ck 37 k18 (.L 79 19) := by decide +kernel
theorem t19 : Ck 37 k19 (.L 23557 105) := by decide +kernel
theorem t32 : Ck 37 k32 (.F 36 (.L 104 34) (.X 0)) := by decide +kernel
theorem t41 : Ck 37 k41 (.F 86 (.F 301 (.X 0) (.F 27 (.L 85 44) (.X 0))) (.F 137 (.X 0) (.X 0))) := by decide +kernel
theorem t50 : Ck 37 k50 (.L 21372 167) := by decide +kernel
theorem t59 : Ck 37 k59 (.F 13 (.F 1 (.F 1 (.X 0) (.X 0)) (.X 0)) (.F 1 (.X 0) (.L 9 63))) := by decide +kernel
theorem t61 : Ck 37 k61 (.F 13 (.F 1 (.F 1 (.L 9 65) (.X 0)) (.X 0)) (.F 1 (.X 0) (.X 0))) := by decide +kernel
theorem t65 : Ck 37 k65 (.F 13 (.F 1 (.F 1 (.X 0) (.X 0)) (.X 0)) (.F 1 (.X 0) (.L 9 69))) := by decide +kernel
theorem t67 : Ck 37 k67 (.Z 15) := by decide +kernel
theorem t72 : Ck 37 k72 (.L 38465 73) := by decide +kernel
theorem t80 : Ck 37 k80 (.F 17 (.F 150 (.X 0) (.F 27 (.L 85 13) (.X 0))) (.F 105 (.X 0) (.X 0))) := by decide +kernel
theorem t83 : Ck 37 k83 (.L 19525 84) := by decide +kernel
theorem t84 : Ck 37 k84 (.L 9443 85) := by decide +kernel
theorem t99 : Ck 37 k99 (.L 22138 101) := by decide +kernel
theorem t102 : Ck 37 k102 (.F 87 (.F 678 (.F 65 (.L 61 18) (.X 0)) (.F 542 (.F 65 (.L 61 18) (.X 0)) (.F 794 (.F 65 (.L 61 18) (.X 0)) (.F 794 (.F 65 (.L 61 18) (.X 0)) (.F 4048 (.F 65 (.L 61 18) (.X 0)) (.F 1453 (.F 65 (.L 61 18) (.X 0)) (.F 1083 (.F 65 (.L 61 18) (.X 0)) (.F 3547 (.F 65 (.L 61 18) (.X 0)) (.F 3606 (.F 65 (.L 61 18) (.X 0)) (.F 882 (.F 65 (.L 61 18) (.X 0)) (.F 882 (.F 65 (.L 61 18) (.X 0)) (.F 564 (.F 65 (.L 61 18) (.X 0)) (.L 43 322))))))))))))) (.F 402 (.F 65 (.L 61 18) (.X 0)) (.F 794 (.F 65 (.L 61 18) (.X 0)) (.F 794 (.F 65 (.L 61 18) (.X 0)) (.L 43 323))))) := by decide +kernel
theorem t104 : Ck 37 k104 (.F 3997 (.F 65 (.L 104 16) (.X 0)) (.L 86 91)) := by decide +kernel
theorem t113 : Ck 37 k113 (.F 53 (.F 254 (.F 818 (.F 353 (.F 302 (.F 695 (.L 131 114) (.F 73 (.L 104 21) (.X 0))) (.F 73 (.L 104 21) (.X 0))) (.F 73 (.L 104 21) (.X 0))) (.F 73 (.L 104 21) (.X 0))) (.F 73 (.L 104 21) (.X 0))) (.F 255 (.F 818 (.F 353 (.F 302 (.F 695 (.L 131 114) (.F 73 (.L 104 21) (.X 0))) (.F 73 (.L 104 21) (.X 0))) (.F 73 (.L 104 21) (.X 0))) (.F 73 (.L 104 21) (.X 0))) (.F 73 (.L 104 21) (.X 0)))) := by decide +kernel
theorem t115 : Ck 37 k115 (.L 8193 116) := by decide +kernel
theorem t119 : Ck 37 k119 (.F 123 (.L 2101 120) (.L 1745 121)) := by decide +kernel
theorem t121 : Ck 37 k121 (.F 53 (.F 1 (.F 253 (.F 818 (.F 353 (.F 695 (.F 346 (.X 0) (.F 73 (.X 0) (.X 0))) (.F 73 (.X 0) (.X 0))) (.F 73 (.X 0) (.X 0))) (.F 73 (.X 0) (.X 0))) (.F 73 (.X 0) (.X 0))) (.F 254 (.F 818 (.F 353 (.F 695 (.F 346 (.L 197 123) (.F 73 (.L 61 23) (.X 0))) (.F 73 (.L 61 23) (.X 0))) (.F 73 (.L 61 23) (.X 0))) (.F 73 (.L 61 23) (.X 0))) (.F 73 (.L 61 23) (.X 0)))) (.F 1 (.F 254 (.F 818 (.F 353 (.F 695 (.F 346 (.L 197 123) (.F 73 (.L 61 23) (.X 0))) (.F 73 (.L 61 23) (.X 0))) (.F 73 (.L 61 23) (.X 0))) (.F 73 (.L 61 23) (.X 0))) (.F 73 (.L 61 23) (.X 0))) (.F 255 (.F 818 (.F 353 (.F 695 (.F 346 (.L 197 123) (.F 73 (.L 61 23) (.X 0))) (.F 73 (.L 61 23) (.X 0))) (.F 73 (.L 61 23) (.X 0))) (.F 73 (.L 61 23) (.X 0))) (.F 73 (.L 61 23) (.X 0))))) := by decide +kernel
theorem t133 : Ck 37 k133 (.F 87 (.F 420 (.F 116 (.L 104 34) (.X 0)) (.F 4729 (.F 116 (.L 104 34) (.X 0)) (.F 7598 (.F 116 (.L 104 34) (.X 0)) (.F 4926 (.F 116 (.L 104 34) (.X 0)) (.L 13 196))))) (.F 256 (.F 116 (.L 104 34) (.X 0)) (.L 13 197))) := by decide +kernel
theorem t135 : Ck 37 k135 (.L 16684 136) := by decide +kernel
theorem t137 : Ck 37 k137 (.F 87 (.F 420 (.F 116 (.L 104 34) (.X 0)) (.F 4729 (.F 116 (.L 104 34) (.X 0)) (.F 4838 (.F 116 (.L 104 34) (.X 0)) (.F 4838 (.F 116 (.L 104 34) (.X 0)) (.F 7980 (.F 116 (.L 66 200) (.X 0)) (.L 13 201)))))) (.L 7 202)) := by decide +kernel
theorem t152 : Ck 37 k152 (.F 87 (.F 420 (.F 116 (.L 61 44) (.X 0)) (.F 4729 (.F 116 (.L 61 44) (.X 0)) (.F 4838 (.F 116 (.L 61 44) (.X 0)) (.F 4838 (.F 116 (.L 61 44) (.X 0)) (.F 7980 (.F 116 (.L 61 44) (.X 0)) (.L 13 250)))))) (.L 7 251)) := by decide +kernel
theorem t164 : Ck 37 k164 (.L 16684 165) := by decide +kernel
theorem t176 : Ck 37 k176 (.F 8221 (.F 116 (.L 104 34) (.X 0)) (.F 8182 (.F 116 (.L 104 34) (.X 0)) (.F 4729 (.F 116 (.L 104 34) (.X 0)) (.L 13 177)))) := by decide +kernel
theorem t186 : Ck 37 k186 (.F 5627 (.F 116 (.L 104 34) (.X 0)) (.F 5627 (.F 116 (.L 104 34) (.X 0)) (.F 8234 (.F 116 (.L 104 34) (.X 0)) (.L 13 188)))) := by decide +kernel
theorem t187 : Ck 37 k187 (.F 249 (.F 116 (.L 104 34) (.X 0)) (.F 4838 (.F 116 (.L 104 34) (.X 0)) (.F 4838 (.F 116 (.L 104 34) (.X 0)) (.F 4838 (.F 116 (.L 104 34) (.X 0)) (.L 13 189))))) := by decide +kernel
theorem t190 : Ck 37 k190 (.F 7427 (.F 116 (.L 104 34) (.X 0)) (.L 4419 133)) := by decide +kernel
theorem t196 : Ck 37 k196 (.F 6298 (.F 116 (.L 104 34) (.X 0)) (.F 5699 (.F 116 (.L 104 34) (.X 0)) (.F 4994 (.X 0) (.F 27 (.L 12 31) (.X 0))))) := by decide +kernel
theorem t197 : Ck 37 k197 (.F 4825 (.F 116 (.L 104 34) (.X 0)) (.F 4838 (.F 116 (.L 104 34) (.X 0)) (.F 4984 (.F 116 (.L 104 34) (.X 0)) (.F 7642 (.F 116 (.L 104 34) (.X 0)) (.L 13 198))))) := by decide +kernel
theorem t223 : Ck 37 k223 (.F 5627 (.F 116 (.L 104 34) (.X 0)) (.F 5627 (.F 116 (.L 104 34) (.X 0)) (.F 8234 (.F 116 (.L 104 34) (.X 0)) (.L 13 224)))) := by decide +kernel
theorem t228 : Ck 37 k228 (.F 4716 (.F 116 (.L 104 34) (.X 0)) (.F 4838 (.F 116 (.L 104 34) (.X 0)) (.F 4838 (.F 116 (.L 104 34) (.X 0)) (.F 7972 (.F 116 (.L 104 34) (.X 0)) (.L 13 229))))) := by decide +kernel
theorem t242 : Ck 37 k242 (.F 7668 (.F 116 (.L 61 44) (.X 0)) (.F 4957 (.F 116 (.L 61 44) (.X 0)) (.F 4957 (.F 116 (.L 61 44) (.X 0)) (.F 4751 (.F 116 (.L 61 44) (.X 0)) (.L 13 244))))) := by decide +kernel
theorem t245 : Ck 37 k245 (.F 8221 (.F 116 (.L 61 44) (.X 0)) (.F 8182 (.F 116 (.L 61 44) (.X 0)) (.F 4729 (.F 116 (.L 61 44) (.X 0)) (.L 13 246)))) := by decide +kernel
theorem t250 : Ck 37 k250 (.F 5627 (.F 116 (.L 61 44) (.X 0)) (.F 5627 (.F 116 (.L 61 44) (.X 0)) (.F 8234 (.F 116 (.L 61 44) (.X 0)) (.L 13 252)))) := by decide +kernel
theorem t256 : Ck 37 k256 (.F 4825 (.F 116 (.L 61 44) (.X 0)) (.F 4838 (.F 116 (.L 61 44) (.X 0)) (.F 8377 (.F 116 (.L 61 44) (.X 0)) (.L 13 257)))) := by decide +kernel
theorem t282 : Ck 37 k282 (.F 5627 (.X 0) (.F 9277 (.X 0) (.F 8234 (.X 0) (.L 13 284)))) := by decide +kernel
theorem t283 : Ck 37 k283 (.F 7427 (.X 0) (.L 4419 162)) := by decide +kernel
theorem t287 : Ck 37 k287 (.F 4738 (.X 0) (.F 7972 (.X 0) (.L 4419 163))) := by decide +kernel
theorem t307 : Ck 37 k307 (.F 4825 (.X 0) (.F 4984 (.X 0) (.F 7642 (.X 0) (.F 4729 (.X 0) (.L 13 308))))) := by decide +kernel
theorem t309 : Ck 37 k309 (.F 6298 (.X 0) (.F 5699 (.X 0) (.L 4949 52))) := by decide +kernel
theorem t321 : Ck 37 k321 (.L 38 16) := by decide +kernel
theorem t336 : Ck 37 k336 (.F 4825 (.F 116 (.L 61 44) (.X 0)) (.F 4838 (.F 116 (.L 61 44) (.X 0)) (.F 7972 (.F 116 (.L 61 44) (.X 0)) (.L 4419 155)))) := by decide +kernel
theorem t347 : Ck 4 k347 (.L 22826 355) := by decide +kernel
theorem t350 : Ck 4 k350 (.L 60530 358) := by decide +kernel
theorem t357 : Ck 4 k357 (.L 100 365) := by decide +kernel
theorem t362 : Ck 4 k362 (.L 100 370) := by decide +kernel
theorem t371 : Ck 4 k371 (.L 27172 379) := by decide +kernel
end Sx
