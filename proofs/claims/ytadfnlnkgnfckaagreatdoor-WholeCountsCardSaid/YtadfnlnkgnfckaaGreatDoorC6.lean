import Derived.Test.YtadfnlnkgnfckaaGreatDoorM
set_option maxRecDepth 1000000
namespace Sx
open Go
theorem t0 : Ck 37 k0 (.L 8003 1) := by decide +kernel
theorem t37 : Ck 37 k37 (.L 21950 147) := by decide +kernel
theorem t55 : Ck 37 k55 (.F 13 (.F 1 (.F 1 x0 x0) x0) (.F 1 x0 (.L 9 59))) := by decide +kernel
theorem t73 : Ck 37 k73 (.L 10971 74) := by decide +kernel
theorem t74 : Ck 37 k74 (.F 44 (.L 814 12) (.L 2354 75)) := by decide +kernel
theorem t153 : Ck 37 k153 (.L 16684 154) := by decide +kernel
theorem t159 : Ck 37 k159 (.F 87 (.F 420 x0 (.F 4729 x0 (.F 7598 x0 (.F 4926 x0 (.L 13 306))))) (.F 256 x0 (.F 4838 x0 (.L 13 307)))) := by decide +kernel
theorem t170 : Ck 37 k170 (.L 38 34) := by decide +kernel
theorem t202 : Ck 37 k202 (.F 249 (.F 116 (.L 104 34) x0) (.F 4838 (.F 116 (.L 104 34) x0) (.F 4838 (.F 116 (.L 104 34) x0) (.F 4838 (.F 116 (.L 104 34) x0) (.L 13 204))))) := by decide +kernel
theorem t233 : Ck 37 k233 (.F 8499 (.F 116 (.L 61 44) x0) (.F 5640 (.F 116 (.L 61 44) x0) (.F 9277 (.F 116 (.L 61 44) x0) (.L 13 235)))) := by decide +kernel
theorem t240 : Ck 37 k240 (.F 5627 (.F 116 (.L 61 44) x0) (.F 5627 (.F 116 (.L 61 44) x0) (.F 8234 (.F 116 (.L 61 44) x0) (.L 13 242)))) := by decide +kernel
theorem t259 : Ck 37 k259 (.F 7959 (.F 116 (.L 61 44) x0) (.L 4419 152)) := by decide +kernel
theorem t266 : Ck 37 k266 (.F 4825 (.F 116 (.L 61 44) x0) (.F 4838 (.F 116 (.L 61 44) x0) (.F 8377 (.F 116 (.L 61 44) x0) (.L 13 267)))) := by decide +kernel
theorem t268 : Ck 37 k268 (.F 8065 (.F 116 (.L 61 44) x0) (.F 4957 (.F 116 (.L 61 44) x0) (.F 4751 (.F 116 (.L 61 44) x0) (.L 13 269)))) := by decide +kernel
theorem t277 : Ck 37 k277 (.F 8221 x0 (.F 8078 x0 (.F 4957 x0 (.L 13 278)))) := by decide +kernel
theorem t282 : Ck 37 k282 (.F 5627 x0 (.F 9277 x0 (.F 8234 x0 (.L 13 284)))) := by decide +kernel
theorem t299 : Ck 37 k299 (.F 7668 x0 (.F 4957 x0 (.F 4957 x0 (.F 4751 x0 (.L 13 301))))) := by decide +kernel
theorem t319 : Ck 37 k319 (.F 172 (.F 65 (.L 104 16) x0) (.F 794 (.F 65 (.L 104 16) x0) (.F 4580 (.F 65 (.L 104 16) x0) (.F 1453 (.F 65 (.L 104 16) x0) (.F 4733 (.F 65 (.L 104 16) x0) (.F 3547 (.F 65 (.L 104 16) x0) (.F 4107 (.F 65 (.L 104 16) x0) (.F 542 (.F 65 (.L 104 16) x0) (.F 794 (.F 65 (.L 104 16) x0) (.F 794 (.F 65 (.L 104 16) x0) (.L 43 320))))))))))) := by decide +kernel
theorem t350 : Ck 4 k350 (.L 60530 358) := by decide +kernel
theorem t361 : Ck 4 k361 (.L 100 369) := by decide +kernel
end Sx
