import Derived.Test.YtadfnlnkgnfckaaGreatDoorM
set_option maxRecDepth 1000000
noncomputable section
namespace Sx
open Go
theorem t8 : Ck 37 k8 (.F 44 (.F 76 (.F 195 (.X 0) (.X 0)) (.F 904 (.X 0) (.F 27 (.L 12 5) (.X 0)))) (.F 167 (.F 221 (.X 0) (.X 0)) (.F 345 (.F 242 (.X 0) (.X 0)) (.F 241 (.F 270 (.X 0) (.X 0)) (.F 725 (.F 242 (.X 0) (.X 0)) (.F 288 (.F 275 (.X 0) (.X 0)) (.F 708 (.F 242 (.X 0) (.X 0)) (.F 241 (.F 270 (.X 0) (.X 0)) (.F 293 (.F 297 (.X 0) (.X 0)) (.F 876 (.F 297 (.X 0) (.X 0)) (.F 1038 (.F 228 (.X 0) (.X 0)) (.L 628 8)))))))))))) := by decide +kernel
theorem t16 : Ck 37 k16 (.L 8007 92) := by decide +kernel
theorem t21 : Ck 37 k21 (.L 23557 115) := by decide +kernel
theorem t26 : Ck 37 k26 (.L 21372 129) := by decide +kernel
theorem t38 : Ck 37 k38 (.L 21950 150) := by decide +kernel
theorem t47 : Ck 37 k47 (.L 21372 158) := by decide +kernel
theorem t74 : Ck 37 k74 (.F 44 (.L 814 12) (.L 2354 75)) := by decide +kernel
theorem t101 : Ck 37 k101 (.L 20060 102) := by decide +kernel
theorem t112 : Ck 37 k112 (.F 123 (.F 164 (.F 346 (.F 353 (.F 695 (.F 522 (.X 0) (.F 27 (.L 12 20) (.X 0))) (.F 73 (.L 104 21) (.X 0))) (.F 73 (.L 104 21) (.X 0))) (.F 73 (.L 104 21) (.X 0))) (.F 73 (.L 104 21) (.X 0))) (.F 158 (.F 346 (.F 818 (.F 353 (.F 695 (.L 131 114) (.F 73 (.L 104 21) (.X 0))) (.F 73 (.L 104 21) (.X 0))) (.F 73 (.L 104 21) (.X 0))) (.F 73 (.L 104 21) (.X 0))) (.F 73 (.L 104 21) (.X 0)))) := by decide +kernel
theorem t116 : Ck 37 k116 (.L 22609 117) := by decide +kernel
theorem t132 : Ck 37 k132 (.L 16684 133) := by decide +kernel
theorem t140 : Ck 37 k140 (.F 87 (.F 420 (.F 116 (.L 104 34) (.X 0)) (.F 4729 (.F 116 (.L 104 34) (.X 0)) (.F 4838 (.F 116 (.L 104 34) (.X 0)) (.F 4838 (.F 116 (.L 104 34) (.X 0)) (.F 7980 (.F 116 (.L 66 215) (.X 0)) (.L 13 216)))))) (.L 7 217)) := by decide +kernel
theorem t142 : Ck 37 k142 (.L 38465 143) := by decide +kernel
theorem t155 : Ck 37 k155 (.F 87 (.F 420 (.F 116 (.L 61 44) (.X 0)) (.F 4729 (.F 116 (.L 61 44) (.X 0)) (.F 4838 (.F 116 (.L 61 44) (.X 0)) (.F 4838 (.F 116 (.L 61 44) (.X 0)) (.F 7980 (.F 116 (.L 61 44) (.X 0)) (.L 13 260)))))) (.L 7 261)) := by decide +kernel
theorem t161 : Ck 37 k161 (.L 16684 162) := by decide +kernel
theorem t163 : Ck 37 k163 (.F 87 (.F 420 (.X 0) (.F 4729 (.X 0) (.F 4838 (.X 0) (.F 4838 (.X 0) (.F 7980 (.X 0) (.L 13 279)))))) (.F 256 (.X 0) (.L 13 280))) := by decide +kernel
theorem t168 : Ck 37 k168 (.F 87 (.F 420 (.X 0) (.F 4729 (.X 0) (.F 7598 (.X 0) (.F 4926 (.X 0) (.L 13 315))))) (.F 256 (.X 0) (.F 4838 (.X 0) (.L 13 316)))) := by decide +kernel
theorem t172 : Ck 37 k172 (.F 249 (.F 116 (.L 104 34) (.X 0)) (.F 4838 (.F 116 (.L 104 34) (.X 0)) (.F 4838 (.F 116 (.L 104 34) (.X 0)) (.F 4838 (.F 116 (.L 104 34) (.X 0)) (.L 13 174))))) := by decide +kernel
theorem t175 : Ck 37 k175 (.F 7427 (.F 116 (.L 104 34) (.X 0)) (.L 4419 130)) := by decide +kernel
theorem t181 : Ck 37 k181 (.F 6298 (.F 116 (.L 104 34) (.X 0)) (.F 5699 (.F 116 (.L 104 34) (.X 0)) (.F 4994 (.X 0) (.F 27 (.L 12 30) (.X 0))))) := by decide +kernel
theorem t203 : Ck 37 k203 (.F 7668 (.F 116 (.L 104 34) (.X 0)) (.F 4957 (.F 116 (.L 104 34) (.X 0)) (.F 4957 (.F 116 (.L 104 34) (.X 0)) (.F 4751 (.F 116 (.L 104 34) (.X 0)) (.L 13 205))))) := by decide +kernel
theorem t207 : Ck 37 k207 (.F 4825 (.F 116 (.L 104 34) (.X 0)) (.F 4838 (.F 116 (.L 104 34) (.X 0)) (.F 8377 (.F 116 (.L 104 34) (.X 0)) (.L 13 208)))) := by decide +kernel
theorem t209 : Ck 37 k209 (.F 8065 (.F 116 (.L 104 34) (.X 0)) (.F 4957 (.F 116 (.L 104 34) (.X 0)) (.F 4751 (.F 116 (.L 104 34) (.X 0)) (.L 13 210)))) := by decide +kernel
theorem t214 : Ck 37 k214 (.L 4406 137) := by decide +kernel
theorem t225 : Ck 37 k225 (.F 7959 (.F 116 (.L 104 34) (.X 0)) (.L 4419 140)) := by decide +kernel
theorem t244 : Ck 37 k244 (.F 7427 (.F 116 (.L 61 44) (.X 0)) (.L 4419 148)) := by decide +kernel
theorem t261 : Ck 37 k261 (.F 249 (.F 116 (.L 61 44) (.X 0)) (.F 4838 (.F 116 (.L 61 44) (.X 0)) (.F 4838 (.F 116 (.L 61 44) (.X 0)) (.F 4838 (.F 116 (.L 61 44) (.X 0)) (.L 13 263))))) := by decide +kernel
theorem t267 : Ck 37 k267 (.F 5627 (.F 116 (.L 61 44) (.X 0)) (.F 5627 (.F 116 (.L 61 44) (.X 0)) (.F 8234 (.F 116 (.L 61 44) (.X 0)) (.L 13 268)))) := by decide +kernel
theorem t278 : Ck 37 k278 (.F 4738 (.X 0) (.F 7972 (.X 0) (.L 4419 160))) := by decide +kernel
theorem t280 : Ck 37 k280 (.F 4825 (.X 0) (.F 4838 (.X 0) (.F 4838 (.X 0) (.F 8512 (.X 0) (.L 13 282))))) := by decide +kernel
theorem t288 : Ck 37 k288 (.F 5627 (.X 0) (.F 5627 (.X 0) (.F 8234 (.X 0) (.L 13 290)))) := by decide +kernel
theorem t299 : Ck 37 k299 (.F 7668 (.X 0) (.F 4957 (.X 0) (.F 4957 (.X 0) (.F 4751 (.X 0) (.L 13 301))))) := by decide +kernel
theorem t306 : Ck 37 k306 (.F 6298 (.X 0) (.F 5699 (.X 0) (.L 4949 51))) := by decide +kernel
theorem t311 : Ck 37 k311 (.F 4825 (.X 0) (.F 4838 (.X 0) (.F 7972 (.X 0) (.L 4419 163)))) := by decide +kernel
theorem t318 : Ck 37 k318 (.F 3465 (.F 65 (.L 104 16) (.X 0)) (.L 86 88)) := by decide +kernel
theorem t324 : Ck 37 k324 (.F 4402 (.F 65 (.L 61 18) (.X 0)) (.F 1453 (.F 65 (.L 61 18) (.X 0)) (.F 1083 (.F 65 (.L 61 18) (.X 0)) (.F 3547 (.F 65 (.L 61 18) (.X 0)) (.F 4003 (.F 65 (.L 61 18) (.X 0)) (.F 882 (.F 65 (.L 61 18) (.X 0)) (.F 564 (.F 65 (.L 61 18) (.X 0)) (.F 4040 (.F 65 (.L 61 18) (.X 0)) (.L 86 102))))))))) := by decide +kernel
theorem t329 : Ck 37 k329 (.F 38 (.F 116 (.L 61 44) (.X 0)) (.F 4838 (.F 116 (.L 61 44) (.X 0)) (.F 4984 (.F 116 (.L 61 44) (.X 0)) (.F 7642 (.F 116 (.L 61 44) (.X 0)) (.F 4729 (.F 116 (.L 61 44) (.X 0)) (.L 13 330)))))) := by decide +kernel
theorem t333 : Ck 37 k333 (.F 4825 (.F 116 (.L 61 44) (.X 0)) (.F 4838 (.F 116 (.L 61 44) (.X 0)) (.F 7972 (.F 116 (.L 61 44) (.X 0)) (.L 4419 152)))) := by decide +kernel
theorem t354 : Ck 4 k354 (.L 60833 362) := by decide +kernel
theorem t365 : Ck 4 k365 (.L 27086 373) := by decide +kernel
end Sx
