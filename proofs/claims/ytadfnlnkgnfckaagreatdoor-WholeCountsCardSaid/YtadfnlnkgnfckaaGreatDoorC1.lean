import Derived.Test.YtadfnlnkgnfckaaGreatDoorM
set_option maxRecDepth 1000000
noncomputable section
namespace Sx
open Go
theorem t0 : Ck 37 k0 (.L 8003 1) := by decide +kernel
theorem t75 : Ck 37 k75 (.F 44 (.L 3173 76) (.L 6085 77)) := by decide +kernel
theorem t79 : Ck 37 k79 (.F 44 (.F 76 (.F 195 (.L 61 13) (.X 0)) (.L 738 80)) (.F 167 (.F 221 (.L 61 13) (.X 0)) (.F 345 (.F 242 (.L 61 13) (.X 0)) (.F 241 (.F 270 (.L 61 13) (.X 0)) (.F 725 (.F 242 (.L 61 13) (.X 0)) (.F 288 (.F 275 (.L 61 13) (.X 0)) (.F 799 (.F 268 (.L 61 13) (.X 0)) (.F 301 (.F 289 (.L 61 13) (.X 0)) (.F 241 (.F 317 (.L 61 13) (.X 0)) (.F 293 (.F 344 (.L 61 13) (.X 0)) (.F 796 (.F 344 (.L 61 13) (.X 0)) (.F 1289 (.F 289 (.L 61 13) (.X 0)) (.F 241 (.F 317 (.L 61 13) (.X 0)) (.F 293 (.F 344 (.L 61 13) (.X 0)) (.F 836 (.F 344 (.L 61 13) (.X 0)) (.F 998 (.F 275 (.L 61 13) (.X 0)) (.L 588 81))))))))))))))))) := by decide +kernel
theorem t81 : Ck 37 k81 (.F 44 (.F 76 (.F 242 (.L 61 13) (.X 0)) (.F 241 (.F 270 (.L 61 13) (.X 0)) (.F 293 (.F 297 (.L 61 13) (.X 0)) (.F 876 (.F 297 (.L 61 13) (.X 0)) (.F 1038 (.F 228 (.L 61 13) (.X 0)) (.L 628 79)))))) (.F 167 (.F 268 (.L 61 13) (.X 0)) (.F 301 (.F 289 (.L 61 13) (.X 0)) (.F 241 (.F 317 (.L 61 13) (.X 0)) (.F 293 (.F 344 (.L 61 13) (.X 0)) (.F 796 (.F 344 (.L 61 13) (.X 0)) (.F 1289 (.F 289 (.L 61 13) (.X 0)) (.F 241 (.F 317 (.L 61 13) (.X 0)) (.F 293 (.F 344 (.L 61 13) (.X 0)) (.F 836 (.F 344 (.L 61 13) (.X 0)) (.F 998 (.F 275 (.L 61 13) (.X 0)) (.L 588 81)))))))))))) := by decide +kernel
theorem t86 : Ck 37 k86 (.L 4083 87) := by decide +kernel
theorem t87 : Ck 37 k87 (.F 87 (.L 22467 88) (.L 1239 89)) := by decide +kernel
theorem t88 : Ck 37 k88 (.F 87 (.F 678 (.F 65 (.L 104 16) (.X 0)) (.F 542 (.F 65 (.L 104 16) (.X 0)) (.F 3666 (.F 65 (.L 104 16) (.X 0)) (.F 851 (.F 65 (.L 104 16) (.X 0)) (.F 2236 (.F 65 (.L 104 16) (.X 0)) (.F 2236 (.F 65 (.L 104 16) (.X 0)) (.F 1838 (.X 0) (.F 27 (.L 12 15) (.X 0))))))))) (.F 402 (.F 65 (.L 104 16) (.X 0)) (.F 794 (.F 65 (.L 104 16) (.X 0)) (.F 794 (.F 65 (.L 104 16) (.X 0)) (.F 1052 (.F 65 (.L 104 16) (.X 0)) (.F 3567 (.F 65 (.L 104 16) (.X 0)) (.F 542 (.F 65 (.L 104 16) (.X 0)) (.F 794 (.F 65 (.L 104 16) (.X 0)) (.F 794 (.F 65 (.L 66 321) (.X 0)) (.L 43 104)))))))))) := by decide +kernel
theorem t98 : Ck 37 k98 (.F 87 (.F 678 (.F 65 (.L 61 18) (.X 0)) (.F 542 (.F 65 (.L 61 18) (.X 0)) (.F 3666 (.F 65 (.L 61 18) (.X 0)) (.F 851 (.F 65 (.L 61 18) (.X 0)) (.F 2236 (.F 65 (.L 61 18) (.X 0)) (.F 2236 (.F 65 (.L 61 18) (.X 0)) (.L 1616 100))))))) (.F 402 (.F 65 (.L 61 18) (.X 0)) (.F 794 (.F 65 (.L 61 18) (.X 0)) (.F 794 (.F 65 (.L 61 18) (.X 0)) (.F 1052 (.F 65 (.L 61 18) (.X 0)) (.F 3567 (.F 65 (.L 61 18) (.X 0)) (.F 542 (.F 65 (.L 61 18) (.X 0)) (.F 794 (.F 65 (.L 61 18) (.X 0)) (.F 794 (.F 65 (.L 61 18) (.X 0)) (.L 43 103)))))))))) := by decide +kernel
theorem t106 : Ck 37 k106 (.L 22609 107) := by decide +kernel
theorem t107 : Ck 37 k107 (.L 3415 108) := by decide +kernel
theorem t118 : Ck 37 k118 (.F 123 (.L 1958 22) (.L 2501 119)) := by decide +kernel
theorem t122 : Ck 37 k122 (.F 123 (.F 164 (.F 346 (.F 353 (.F 695 (.L 400 124) (.F 73 (.L 61 23) (.X 0))) (.F 73 (.L 61 23) (.X 0))) (.F 73 (.L 61 23) (.X 0))) (.F 73 (.L 61 23) (.X 0))) (.F 158 (.F 346 (.F 818 (.F 353 (.F 695 (.L 131 125) (.F 73 (.L 61 23) (.X 0))) (.F 73 (.L 61 23) (.X 0))) (.F 73 (.L 61 23) (.X 0))) (.F 73 (.L 61 23) (.X 0))) (.F 73 (.L 61 23) (.X 0)))) := by decide +kernel
theorem t127 : Ck 37 k127 (.L 38465 128) := by decide +kernel
theorem t136 : Ck 37 k136 (.F 87 (.F 420 (.F 116 (.L 104 34) (.X 0)) (.F 4729 (.F 116 (.L 104 34) (.X 0)) (.F 7598 (.F 116 (.L 104 34) (.X 0)) (.F 4926 (.F 116 (.L 104 34) (.X 0)) (.L 13 211))))) (.F 256 (.F 116 (.L 104 34) (.X 0)) (.L 13 212))) := by decide +kernel
theorem t138 : Ck 37 k138 (.L 16684 139) := by decide +kernel
theorem t167 : Ck 37 k167 (.L 16684 168) := by decide +kernel
theorem t171 : Ck 37 k171 (.F 5627 (.F 116 (.L 104 34) (.X 0)) (.F 5627 (.F 116 (.L 104 34) (.X 0)) (.F 8234 (.F 116 (.L 104 34) (.X 0)) (.L 13 173)))) := by decide +kernel
theorem t182 : Ck 37 k182 (.F 4825 (.F 116 (.L 104 34) (.X 0)) (.F 4838 (.F 116 (.L 104 34) (.X 0)) (.F 4984 (.F 116 (.L 104 34) (.X 0)) (.F 7642 (.F 116 (.L 104 34) (.X 0)) (.L 13 183))))) := by decide +kernel
theorem t191 : Ck 37 k191 (.F 8221 (.F 116 (.L 104 34) (.X 0)) (.F 8182 (.F 116 (.L 104 34) (.X 0)) (.F 4729 (.F 116 (.L 104 34) (.X 0)) (.L 13 192)))) := by decide +kernel
theorem t202 : Ck 37 k202 (.F 249 (.F 116 (.L 104 34) (.X 0)) (.F 4838 (.F 116 (.L 104 34) (.X 0)) (.F 4838 (.F 116 (.L 104 34) (.X 0)) (.F 4838 (.F 116 (.L 104 34) (.X 0)) (.L 13 204))))) := by decide +kernel
theorem t208 : Ck 37 k208 (.F 5627 (.F 116 (.L 104 34) (.X 0)) (.F 5627 (.F 116 (.L 104 34) (.X 0)) (.F 8234 (.F 116 (.L 104 34) (.X 0)) (.L 13 209)))) := by decide +kernel
theorem t211 : Ck 37 k211 (.F 6298 (.F 116 (.L 104 34) (.X 0)) (.F 5699 (.F 116 (.L 104 34) (.X 0)) (.F 4994 (.X 0) (.F 27 (.L 12 32) (.X 0))))) := by decide +kernel
theorem t213 : Ck 37 k213 (.F 4716 (.F 116 (.L 104 34) (.X 0)) (.F 4838 (.F 116 (.L 104 34) (.X 0)) (.F 4838 (.F 116 (.L 104 34) (.X 0)) (.F 7972 (.F 116 (.L 104 34) (.X 0)) (.L 13 214))))) := by decide +kernel
theorem t220 : Ck 37 k220 (.F 7427 (.F 116 (.L 104 34) (.X 0)) (.L 4419 139)) := by decide +kernel
theorem t232 : Ck 37 k232 (.F 7668 (.F 116 (.L 61 44) (.X 0)) (.F 4957 (.F 116 (.L 61 44) (.X 0)) (.F 4957 (.F 116 (.L 61 44) (.X 0)) (.F 4751 (.F 116 (.L 61 44) (.X 0)) (.L 13 234))))) := by decide +kernel
theorem t233 : Ck 37 k233 (.F 8499 (.F 116 (.L 61 44) (.X 0)) (.F 5640 (.F 116 (.L 61 44) (.X 0)) (.F 9277 (.F 116 (.L 61 44) (.X 0)) (.L 13 235)))) := by decide +kernel
theorem t240 : Ck 37 k240 (.F 5627 (.F 116 (.L 61 44) (.X 0)) (.F 5627 (.F 116 (.L 61 44) (.X 0)) (.F 8234 (.F 116 (.L 61 44) (.X 0)) (.L 13 242)))) := by decide +kernel
theorem t255 : Ck 37 k255 (.F 8221 (.F 116 (.L 61 44) (.X 0)) (.F 8182 (.F 116 (.L 61 44) (.X 0)) (.F 4729 (.F 116 (.L 61 44) (.X 0)) (.L 13 256)))) := by decide +kernel
theorem t266 : Ck 37 k266 (.F 4825 (.F 116 (.L 61 44) (.X 0)) (.F 4838 (.F 116 (.L 61 44) (.X 0)) (.F 8377 (.F 116 (.L 61 44) (.X 0)) (.L 13 267)))) := by decide +kernel
theorem t273 : Ck 37 k273 (.F 5627 (.X 0) (.F 9277 (.X 0) (.F 8234 (.X 0) (.L 13 275)))) := by decide +kernel
theorem t277 : Ck 37 k277 (.F 8221 (.X 0) (.F 8078 (.X 0) (.F 4957 (.X 0) (.L 13 278)))) := by decide +kernel
theorem t293 : Ck 37 k293 (.F 8169 (.X 0) (.F 4729 (.X 0) (.F 4838 (.X 0) (.F 4838 (.X 0) (.L 13 294))))) := by decide +kernel
theorem t294 : Ck 37 k294 (.F 8364 (.X 0) (.F 5640 (.X 0) (.F 5627 (.X 0) (.L 13 295)))) := by decide +kernel
theorem t296 : Ck 37 k296 (.F 4738 (.X 0) (.F 7972 (.X 0) (.L 4419 166))) := by decide +kernel
theorem t301 : Ck 37 k301 (.F 7427 (.X 0) (.L 4419 168)) := by decide +kernel
theorem t312 : Ck 37 k312 (.F 6298 (.X 0) (.F 5699 (.X 0) (.L 4949 53))) := by decide +kernel
theorem t314 : Ck 37 k314 (.F 4825 (.X 0) (.F 4838 (.X 0) (.F 7972 (.X 0) (.L 4419 166)))) := by decide +kernel
theorem t348 : Ck 4 k348 (.L 23000 356) := by decide +kernel
theorem t352 : Ck 4 k352 (.L 60833 360) := by decide +kernel
theorem t369 : Ck 4 k369 (.L 27129 377) := by decide +kernel
end Sx
