import Derived.Test.YtadfnlnkgnfckaaGreatDoorM
set_option maxRecDepth 1000000
noncomputable section
namespace Sx
open Go
theorem t3 : Ck 37 k3 (.L 10393 4) := by decide +kernel
theorem t4 : Ck 37 k4 (.F 44 (.F 980 (.X 0) (.F 27 (.L 12 5) (.X 0))) (.L 2354 6)) := by decide +kernel
theorem t7 : Ck 37 k7 (.L 8003 71) := by decide +kernel
theorem t27 : Ck 37 k27 (.L 21372 132) := by decide +kernel
theorem t39 : Ck 37 k39 (.L 21950 153) := by decide +kernel
theorem t49 : Ck 37 k49 (.L 21372 164) := by decide +kernel
theorem t89 : Ck 37 k89 (.L 22138 90) := by decide +kernel
theorem t92 : Ck 37 k92 (.L 38465 93) := by decide +kernel
theorem t93 : Ck 37 k93 (.L 20103 94) := by decide +kernel
theorem t95 : Ck 37 k95 (.F 87 (.L 11825 17) (.L 8782 96)) := by decide +kernel
theorem t103 : Ck 37 k103 (.F 3997 (.F 65 (.L 61 18) (.X 0)) (.L 86 102)) := by decide +kernel
theorem t108 : Ck 37 k108 (.F 123 (.F 2080 (.X 0) (.F 27 (.L 12 20) (.X 0))) (.L 2501 109)) := by decide +kernel
theorem t114 : Ck 37 k114 (.F 123 (.F 164 (.F 346 (.F 353 (.F 695 (.F 346 (.L 197 110) (.F 73 (.L 104 21) (.X 0))) (.F 73 (.L 104 21) (.X 0))) (.F 73 (.L 104 21) (.X 0))) (.F 73 (.L 104 21) (.X 0))) (.F 73 (.L 104 21) (.X 0))) (.F 158 (.F 695 (.F 695 (.L 197 111) (.F 73 (.L 104 21) (.X 0))) (.F 73 (.L 104 21) (.X 0))) (.F 73 (.L 104 21) (.X 0)))) := by decide +kernel
theorem t128 : Ck 37 k128 (.L 16883 25) := by decide +kernel
theorem t134 : Ck 37 k134 (.F 87 (.F 420 (.F 116 (.L 104 34) (.X 0)) (.F 4729 (.F 116 (.L 104 34) (.X 0)) (.F 4838 (.F 116 (.L 104 34) (.X 0)) (.F 4838 (.F 116 (.L 104 34) (.X 0)) (.F 7980 (.F 116 (.L 66 185) (.X 0)) (.L 13 186)))))) (.L 7 187)) := by decide +kernel
theorem t147 : Ck 37 k147 (.L 16684 148) := by decide +kernel
theorem t149 : Ck 37 k149 (.F 87 (.F 420 (.F 116 (.L 61 44) (.X 0)) (.F 4729 (.F 116 (.L 61 44) (.X 0)) (.F 4838 (.F 116 (.L 61 44) (.X 0)) (.F 4838 (.F 116 (.L 61 44) (.X 0)) (.F 7980 (.F 116 (.L 61 44) (.X 0)) (.L 13 240)))))) (.L 7 241)) := by decide +kernel
theorem t154 : Ck 37 k154 (.F 87 (.F 420 (.F 116 (.L 61 44) (.X 0)) (.F 4729 (.F 116 (.L 61 44) (.X 0)) (.F 7598 (.F 116 (.L 61 44) (.X 0)) (.F 4926 (.F 116 (.L 61 44) (.X 0)) (.L 13 334))))) (.F 256 (.F 116 (.L 61 44) (.X 0)) (.L 4800 335))) := by decide +kernel
theorem t162 : Ck 37 k162 (.F 87 (.F 420 (.X 0) (.F 4729 (.X 0) (.F 7598 (.X 0) (.F 4926 (.X 0) (.L 13 309))))) (.F 256 (.X 0) (.F 4838 (.X 0) (.L 13 310)))) := by decide +kernel
theorem t177 : Ck 37 k177 (.F 4825 (.F 116 (.L 104 34) (.X 0)) (.F 4838 (.F 116 (.L 104 34) (.X 0)) (.F 8377 (.F 116 (.L 104 34) (.X 0)) (.L 13 178)))) := by decide +kernel
theorem t188 : Ck 37 k188 (.F 7668 (.F 116 (.L 104 34) (.X 0)) (.F 4957 (.F 116 (.L 104 34) (.X 0)) (.F 4957 (.F 116 (.L 104 34) (.X 0)) (.F 4751 (.F 116 (.L 104 34) (.X 0)) (.L 13 190))))) := by decide +kernel
theorem t210 : Ck 37 k210 (.F 7959 (.F 116 (.L 104 34) (.X 0)) (.L 4419 137)) := by decide +kernel
theorem t227 : Ck 37 k227 (.F 4825 (.F 116 (.L 104 34) (.X 0)) (.F 4838 (.F 116 (.L 104 34) (.X 0)) (.F 4984 (.F 116 (.L 104 34) (.X 0)) (.F 7642 (.F 116 (.L 104 34) (.X 0)) (.L 13 228))))) := by decide +kernel
theorem t246 : Ck 37 k246 (.F 4825 (.F 116 (.L 61 44) (.X 0)) (.F 4838 (.F 116 (.L 61 44) (.X 0)) (.F 8377 (.F 116 (.L 61 44) (.X 0)) (.L 13 247)))) := by decide +kernel
theorem t248 : Ck 37 k248 (.F 8065 (.F 116 (.L 61 44) (.X 0)) (.F 4957 (.F 116 (.L 61 44) (.X 0)) (.F 4751 (.F 116 (.L 61 44) (.X 0)) (.L 13 249)))) := by decide +kernel
theorem t251 : Ck 37 k251 (.F 249 (.F 116 (.L 61 44) (.X 0)) (.F 4838 (.F 116 (.L 61 44) (.X 0)) (.F 4838 (.F 116 (.L 61 44) (.X 0)) (.F 4838 (.F 116 (.L 61 44) (.X 0)) (.L 13 253))))) := by decide +kernel
theorem t252 : Ck 37 k252 (.F 7668 (.F 116 (.L 61 44) (.X 0)) (.F 4957 (.F 116 (.L 61 44) (.X 0)) (.F 4957 (.F 116 (.L 61 44) (.X 0)) (.F 4751 (.F 116 (.L 61 44) (.X 0)) (.L 13 254))))) := by decide +kernel
theorem t257 : Ck 37 k257 (.F 5627 (.F 116 (.L 61 44) (.X 0)) (.F 5627 (.F 116 (.L 61 44) (.X 0)) (.F 8234 (.F 116 (.L 61 44) (.X 0)) (.L 13 258)))) := by decide +kernel
theorem t269 : Ck 37 k269 (.F 7959 (.F 116 (.L 61 44) (.X 0)) (.L 4419 155)) := by decide +kernel
theorem t270 : Ck 37 k270 (.F 5627 (.X 0) (.F 5627 (.X 0) (.F 8234 (.X 0) (.L 13 272)))) := by decide +kernel
theorem t274 : Ck 37 k274 (.F 7427 (.X 0) (.L 4419 159)) := by decide +kernel
theorem t281 : Ck 37 k281 (.F 7668 (.X 0) (.F 4957 (.X 0) (.F 4957 (.X 0) (.F 4751 (.X 0) (.L 13 283))))) := by decide +kernel
theorem t325 : Ck 37 k325 (.F 6298 (.F 116 (.L 61 44) (.X 0)) (.F 5699 (.F 116 (.L 61 44) (.X 0)) (.L 4748 40))) := by decide +kernel
theorem t326 : Ck 37 k326 (.F 38 (.F 116 (.L 61 44) (.X 0)) (.F 4838 (.F 116 (.L 61 44) (.X 0)) (.F 4984 (.F 116 (.L 61 44) (.X 0)) (.F 7642 (.F 116 (.L 61 44) (.X 0)) (.F 4729 (.F 116 (.L 61 44) (.X 0)) (.L 13 327)))))) := by decide +kernel
theorem t327 : Ck 37 k327 (.F 4825 (.F 116 (.L 61 44) (.X 0)) (.F 4838 (.F 116 (.L 61 44) (.X 0)) (.F 7972 (.F 116 (.L 61 44) (.X 0)) (.L 4419 146)))) := by decide +kernel
theorem t343 : Ck 4 k343 (.L 22652 351) := by decide +kernel
theorem t353 : Ck 4 k353 (.L 60530 361) := by decide +kernel
theorem t367 : Ck 4 k367 (.L 27129 375) := by decide +kernel
theorem t374 : Ck 4 k374 (.L 15833 0) := by decide +kernel
theorem t379 : Ck 4 k379 (.L 15833 0) := by decide +kernel
end Sx
