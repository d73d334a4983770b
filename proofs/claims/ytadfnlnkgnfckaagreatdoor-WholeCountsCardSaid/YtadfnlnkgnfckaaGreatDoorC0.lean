import Derived.Test.YtadfnlnkgnfckaaGreatDoorM
set_option maxRecDepth 1000000
noncomputable section
namespace Sx
open Go
theorem t30 : Ck 37 k30 (.F 36 (.L 104 34) (.X 0)) := by decide +kernel
theorem t45 : Ck 37 k45 (.L 7973 156) := by decide +kernel
theorem t51 : Ck 37 k51 (.F 63 (.F 1 (.F 1 (.L 9 55) (.X 0)) (.X 0)) (.F 1 (.X 0) (.X 0))) := by decide +kernel
theorem t57 : Ck 37 k57 (.F 13 (.F 1 (.F 1 (.X 0) (.X 0)) (.X 0)) (.F 1 (.X 0) (.L 9 61))) := by decide +kernel
theorem t63 : Ck 37 k63 (.F 13 (.F 1 (.F 1 (.X 0) (.X 0)) (.X 0)) (.F 1 (.X 0) (.L 9 67))) := by decide +kernel
theorem t68 : Ck 37 k68 (.Z 15) := by decide +kernel
theorem t73 : Ck 37 k73 (.L 10971 74) := by decide +kernel
theorem t78 : Ck 37 k78 (.F 17 (.F 150 (.X 0) (.F 27 (.L 85 13) (.X 0))) (.F 105 (.X 0) (.X 0))) := by decide +kernel
theorem t96 : Ck 37 k96 (.L 4083 97) := by decide +kernel
theorem t158 : Ck 37 k158 (.L 16684 159) := by decide +kernel
theorem t166 : Ck 37 k166 (.F 87 (.F 420 (.X 0) (.F 4729 (.X 0) (.F 4838 (.X 0) (.F 4838 (.X 0) (.F 7980 (.X 0) (.L 13 288)))))) (.F 256 (.X 0) (.L 13 289))) := by decide +kernel
theorem t183 : Ck 37 k183 (.F 4716 (.F 116 (.L 104 34) (.X 0)) (.F 4838 (.F 116 (.L 104 34) (.X 0)) (.F 4838 (.F 116 (.L 104 34) (.X 0)) (.F 7972 (.F 116 (.L 104 34) (.X 0)) (.L 13 184))))) := by decide +kernel
theorem t200 : Ck 37 k200 (.L 38 34) := by decide +kernel
theorem t217 : Ck 37 k217 (.F 249 (.F 116 (.L 104 34) (.X 0)) (.F 4838 (.F 116 (.L 104 34) (.X 0)) (.F 4838 (.F 116 (.L 104 34) (.X 0)) (.F 4838 (.F 116 (.L 104 34) (.X 0)) (.L 13 219))))) := by decide +kernel
theorem t221 : Ck 37 k221 (.F 8221 (.F 116 (.L 104 34) (.X 0)) (.F 8182 (.F 116 (.L 104 34) (.X 0)) (.F 4729 (.F 116 (.L 104 34) (.X 0)) (.L 13 222)))) := by decide +kernel
theorem t224 : Ck 37 k224 (.F 8065 (.F 116 (.L 104 34) (.X 0)) (.F 4957 (.F 116 (.L 104 34) (.X 0)) (.F 4751 (.F 116 (.L 104 34) (.X 0)) (.L 13 225)))) := by decide +kernel
theorem t230 : Ck 37 k230 (.F 5627 (.F 116 (.L 61 44) (.X 0)) (.F 5627 (.F 116 (.L 61 44) (.X 0)) (.F 8234 (.F 116 (.L 61 44) (.X 0)) (.L 13 232)))) := by decide +kernel
theorem t239 : Ck 37 k239 (.F 7959 (.F 116 (.L 61 44) (.X 0)) (.L 4419 146)) := by decide +kernel
theorem t243 : Ck 37 k243 (.F 8499 (.F 116 (.L 61 44) (.X 0)) (.F 5640 (.F 116 (.L 61 44) (.X 0)) (.F 9277 (.F 116 (.L 61 44) (.X 0)) (.L 13 245)))) := by decide +kernel
theorem t275 : Ck 37 k275 (.F 8169 (.X 0) (.F 4729 (.X 0) (.F 4838 (.X 0) (.F 4838 (.X 0) (.L 13 276))))) := by decide +kernel
theorem t289 : Ck 37 k289 (.F 4825 (.X 0) (.F 4838 (.X 0) (.F 4838 (.X 0) (.F 8512 (.X 0) (.L 13 291))))) := by decide +kernel
theorem t295 : Ck 37 k295 (.F 8221 (.X 0) (.F 8078 (.X 0) (.F 4957 (.X 0) (.L 13 296)))) := by decide +kernel
theorem t297 : Ck 37 k297 (.F 5627 (.X 0) (.F 5627 (.X 0) (.F 8234 (.X 0) (.L 13 299)))) := by decide +kernel
theorem t310 : Ck 37 k310 (.F 4825 (.X 0) (.F 4984 (.X 0) (.F 7642 (.X 0) (.F 4729 (.X 0) (.L 13 311))))) := by decide +kernel
theorem t334 : Ck 37 k334 (.F 6298 (.F 116 (.L 61 44) (.X 0)) (.F 5699 (.F 116 (.L 61 44) (.X 0)) (.L 4748 43))) := by decide +kernel
theorem t356 : Ck 4 k356 (.L 61136 364) := by decide +kernel
end Sx
