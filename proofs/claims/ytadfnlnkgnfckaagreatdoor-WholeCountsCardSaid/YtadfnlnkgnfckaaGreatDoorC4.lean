import Derived.Test.YtadfnlnkgnfckaaGreatDoorM
set_option maxRecDepth 1000000
namespace Sx
open Go
theorem t18 : Ck 37 k18 (.L 79 19) := by decide +kernel
theorem t27 : Ck 37 k27 (.L 21372 132) := by decide +kernel
theorem t31 : Ck 37 k31 (.F 36 (.L 104 34) x0) := by decide +kernel
theorem t44 : Ck 37 k44 (.F 16 (.Z 8) (.L 6 45)) := by decide +kernel
theorem t71 : Ck 37 k71 (.L 8 72) := by decide +kernel
theorem t94 : Ck 37 k94 (.L 9443 95) := by decide +kernel
theorem t115 : Ck 37 k115 (.L 8193 116) := by decide +kernel
theorem t150 : Ck 37 k150 (.L 16684 151) := by decide +kernel
theorem t184 : Ck 37 k184 (.L 4406 131) := by decide +kernel
theorem t187 : Ck 37 k187 (.F 249 (.F 116 (.L 104 34) x0) (.F 4838 (.F 116 (.L 104 34) x0) (.F 4838 (.F 116 (.L 104 34) x0) (.F 4838 (.F 116 (.L 104 34) x0) (.L 13 189))))) := by decide +kernel
theorem t198 : Ck 37 k198 (.F 4716 (.F 116 (.L 104 34) x0) (.F 4838 (.F 116 (.L 104 34) x0) (.F 4838 (.F 116 (.L 104 34) x0) (.F 7972 (.F 116 (.L 104 34) x0) (.L 13 199))))) := by decide +kernel
theorem t206 : Ck 37 k206 (.F 8221 (.F 116 (.L 104 34) x0) (.F 8182 (.F 116 (.L 104 34) x0) (.F 4729 (.F 116 (.L 104 34) x0) (.L 13 207)))) := by decide +kernel
theorem t237 : Ck 37 k237 (.F 5627 (.F 116 (.L 61 44) x0) (.F 5627 (.F 116 (.L 61 44) x0) (.F 8234 (.F 116 (.L 61 44) x0) (.L 13 238)))) := by decide +kernel
theorem t249 : Ck 37 k249 (.F 7959 (.F 116 (.L 61 44) x0) (.L 4419 149)) := by decide +kernel
theorem t253 : Ck 37 k253 (.F 8499 (.F 116 (.L 61 44) x0) (.F 5640 (.F 116 (.L 61 44) x0) (.F 9277 (.F 116 (.L 61 44) x0) (.L 13 255)))) := by decide +kernel
theorem t256 : Ck 37 k256 (.F 4825 (.F 116 (.L 61 44) x0) (.F 4838 (.F 116 (.L 61 44) x0) (.F 8377 (.F 116 (.L 61 44) x0) (.L 13 257)))) := by decide +kernel
theorem t258 : Ck 37 k258 (.F 8065 (.F 116 (.L 61 44) x0) (.F 4957 (.F 116 (.L 61 44) x0) (.F 4751 (.F 116 (.L 61 44) x0) (.L 13 259)))) := by decide +kernel
theorem t273 : Ck 37 k273 (.F 5627 x0 (.F 9277 x0 (.F 8234 x0 (.L 13 275)))) := by decide +kernel
theorem t323 : Ck 37 k323 (.F 751 (.F 65 (.L 61 18) x0) (.F 4580 (.F 65 (.L 61 18) x0) (.F 1453 (.F 65 (.L 61 18) x0) (.F 4733 (.F 65 (.L 61 18) x0) (.F 3547 (.F 65 (.L 61 18) x0) (.F 4107 (.F 65 (.L 61 18) x0) (.F 542 (.F 65 (.L 61 18) x0) (.F 794 (.F 65 (.L 61 18) x0) (.F 794 (.F 65 (.L 61 18) x0) (.L 43 324)))))))))) := by decide +kernel
theorem t347 : Ck 4 k347 (.L 22826 355) := by decide +kernel
theorem t353 : Ck 4 k353 (.L 60530 361) := by decide +kernel
end Sx
