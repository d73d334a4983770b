import Derived.Test.YtadfnlnkgnfckaaGreatDoorM
set_option maxRecDepth 1000000
namespace Sx
open Go
theorem t17 : Ck 37 k17 (.F 47 (.F 456 x0 (.F 27 (.L 85 18) x0)) (.F 108 x0 x0)) := by decide +kernel
theorem t45 : Ck 37 k45 (.L 7973 156) := by decide +kernel
theorem t48 : Ck 37 k48 (.L 21372 161) := by decide +kernel
theorem t64 : Ck 37 k64 (.F 13 (.F 1 (.F 1 x0 x0) x0) (.F 1 x0 (.L 9 68))) := by decide +kernel
theorem t67 : Ck 37 k67 (.Z 15) := by decide +kernel
theorem t80 : Ck 37 k80 (.F 17 (.F 150 x0 (.F 27 (.L 85 13) x0)) (.F 105 x0 x0)) := by decide +kernel
theorem t83 : Ck 37 k83 (.L 19525 84) := by decide +kernel
theorem t88 : Ck 37 k88 (.F 87 (.F 678 (.F 65 (.L 104 16) x0) (.F 542 (.F 65 (.L 104 16) x0) (.F 3666 (.F 65 (.L 104 16) x0) (.F 851 (.F 65 (.L 104 16) x0) (.F 2236 (.F 65 (.L 104 16) x0) (.F 2236 (.F 65 (.L 104 16) x0) (.F 1838 x0 (.F 27 (.L 12 15) x0)))))))) (.F 402 (.F 65 (.L 104 16) x0) (.F 794 (.F 65 (.L 104 16) x0) (.F 794 (.F 65 (.L 104 16) x0) (.F 1052 (.F 65 (.L 104 16) x0) (.F 3567 (.F 65 (.L 104 16) x0) (.F 542 (.F 65 (.L 104 16) x0) (.F 794 (.F 65 (.L 104 16) x0) (.F 794 (.F 65 (.L 66 321) x0) (.L 43 104)))))))))) := by decide +kernel
theorem t100 : Ck 37 k100 (.F 47 (.F 456 x0 (.F 27 (.L 85 18) x0)) (.F 108 x0 x0)) := by decide +kernel
theorem t102 : Ck 37 k102 (.F 87 (.F 678 (.F 65 (.L 61 18) x0) (.F 542 (.F 65 (.L 61 18) x0) (.F 794 (.F 65 (.L 61 18) x0) (.F 794 (.F 65 (.L 61 18) x0) (.F 4048 (.F 65 (.L 61 18) x0) (.F 1453 (.F 65 (.L 61 18) x0) (.F 1083 (.F 65 (.L 61 18) x0) (.F 3547 (.F 65 (.L 61 18) x0) (.F 3606 (.F 65 (.L 61 18) x0) (.F 882 (.F 65 (.L 61 18) x0) (.F 882 (.F 65 (.L 61 18) x0) (.F 564 (.F 65 (.L 61 18) x0) (.L 43 322))))))))))))) (.F 402 (.F 65 (.L 61 18) x0) (.F 794 (.F 65 (.L 61 18) x0) (.F 794 (.F 65 (.L 61 18) x0) (.L 43 323))))) := by decide +kernel
theorem t134 : Ck 37 k134 (.F 87 (.F 420 (.F 116 (.L 104 34) x0) (.F 4729 (.F 116 (.L 104 34) x0) (.F 4838 (.F 116 (.L 104 34) x0) (.F 4838 (.F 116 (.L 104 34) x0) (.F 7980 (.F 116 (.L 66 185) x0) (.L 13 186)))))) (.L 7 187)) := by decide +kernel
theorem t160 : Ck 37 k160 (.F 87 (.F 420 x0 (.F 4729 x0 (.F 4838 x0 (.F 4838 x0 (.F 7980 x0 (.L 13 270)))))) (.F 256 x0 (.L 13 271))) := by decide +kernel
theorem t186 : Ck 37 k186 (.F 5627 (.F 116 (.L 104 34) x0) (.F 5627 (.F 116 (.L 104 34) x0) (.F 8234 (.F 116 (.L 104 34) x0) (.L 13 188)))) := by decide +kernel
theorem t190 : Ck 37 k190 (.F 7427 (.F 116 (.L 104 34) x0) (.L 4419 133)) := by decide +kernel
theorem t209 : Ck 37 k209 (.F 8065 (.F 116 (.L 104 34) x0) (.F 4957 (.F 116 (.L 104 34) x0) (.F 4751 (.F 116 (.L 104 34) x0) (.L 13 210)))) := by decide +kernel
theorem t231 : Ck 37 k231 (.F 249 (.F 116 (.L 61 44) x0) (.F 4838 (.F 116 (.L 61 44) x0) (.F 4838 (.F 116 (.L 61 44) x0) (.F 4838 (.F 116 (.L 61 44) x0) (.L 13 233))))) := by decide +kernel
theorem t314 : Ck 37 k314 (.F 4825 x0 (.F 4838 x0 (.F 7972 x0 (.L 4419 166)))) := by decide +kernel
theorem t325 : Ck 37 k325 (.F 6298 (.F 116 (.L 61 44) x0) (.F 5699 (.F 116 (.L 61 44) x0) (.L 4748 40))) := by decide +kernel
theorem t336 : Ck 37 k336 (.F 4825 (.F 116 (.L 61 44) x0) (.F 4838 (.F 116 (.L 61 44) x0) (.F 7972 (.F 116 (.L 61 44) x0) (.L 4419 155)))) := by decide +kernel
theorem t337 : Ck 4 k337 (.F 48 (.Z 25) (.F 7 (.Z 18) (.F 29 (.Z 25) (.F 7 (.Z 18) (.F 29 (.Z 25) (.F 7 (.Z 18) (.F 29 (.Z 25) (.F 7 (.Z 18) (.F 51 (.F 25 (.F 25 (.L 48 341) (.L 94 342)) (.F 71 (.L 48 343) (.L 94 344))) (.F 71 (.F 25 (.L 48 345) (.L 94 346)) (.F 71 (.L 48 347) (.L 94 348)))))))))))) := by decide +kernel
theorem t359 : Ck 4 k359 (.L 100 367) := by decide +kernel
theorem t367 : Ck 4 k367 (.L 27129 375) := by decide +kernel
theorem t372 : Ck 4 k372 (.L 27215 380) := by decide +kernel
theorem t380 : Ck 4 k380 (.L 15833 0) := by decide +kernel
end Sx
