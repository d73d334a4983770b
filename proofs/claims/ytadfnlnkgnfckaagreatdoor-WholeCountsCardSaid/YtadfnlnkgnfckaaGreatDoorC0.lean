import Derived.Test.YtadfnlnkgnfckaaGreatDoorM
set_option maxRecDepth 1000000
namespace Sx
open Go
theorem t42 : Ck 37 k42 (.F 86 (.F 301 x0 (.F 27 (.L 85 44) x0)) (.F 137 x0 x0)) := by decide +kernel
theorem t59 : Ck 37 k59 (.F 13 (.F 1 (.F 1 x0 x0) x0) (.F 1 x0 (.L 9 63))) := by decide +kernel
theorem t78 : Ck 37 k78 (.F 17 (.F 150 x0 (.F 27 (.L 85 13) x0)) (.F 105 x0 x0)) := by decide +kernel
theorem t125 : Ck 37 k125 (.F 123 (.F 164 (.F 346 (.F 353 (.F 695 (.F 346 (.L 197 120) (.F 73 (.L 61 23) x0)) (.F 73 (.L 61 23) x0)) (.F 73 (.L 61 23) x0)) (.F 73 (.L 61 23) x0)) (.F 73 (.L 61 23) x0)) (.F 158 (.F 695 (.F 695 (.L 197 121) (.F 73 (.L 61 23) x0)) (.F 73 (.L 61 23) x0)) (.F 73 (.L 61 23) x0))) := by decide +kernel
theorem t144 : Ck 37 k144 (.L 16684 145) := by decide +kernel
theorem t146 : Ck 37 k146 (.F 87 (.F 420 (.F 116 (.L 61 44) x0) (.F 4729 (.F 116 (.L 61 44) x0) (.F 4838 (.F 116 (.L 61 44) x0) (.F 4838 (.F 116 (.L 61 44) x0) (.F 7980 (.F 116 (.L 61 44) x0) (.L 13 230)))))) (.L 7 231)) := by decide +kernel
theorem t173 : Ck 37 k173 (.F 7668 (.F 116 (.L 104 34) x0) (.F 4957 (.F 116 (.L 104 34) x0) (.F 4957 (.F 116 (.L 104 34) x0) (.F 4751 (.F 116 (.L 104 34) x0) (.L 13 175))))) := by decide +kernel
theorem t191 : Ck 37 k191 (.F 8221 (.F 116 (.L 104 34) x0) (.F 8182 (.F 116 (.L 104 34) x0) (.F 4729 (.F 116 (.L 104 34) x0) (.L 13 192)))) := by decide +kernel
theorem t222 : Ck 37 k222 (.F 4825 (.F 116 (.L 104 34) x0) (.F 4838 (.F 116 (.L 104 34) x0) (.F 8377 (.F 116 (.L 104 34) x0) (.L 13 223)))) := by decide +kernel
theorem t229 : Ck 37 k229 (.L 4406 140) := by decide +kernel
theorem t238 : Ck 37 k238 (.F 8065 (.F 116 (.L 61 44) x0) (.F 4957 (.F 116 (.L 61 44) x0) (.F 4751 (.F 116 (.L 61 44) x0) (.L 13 239)))) := by decide +kernel
theorem t260 : Ck 37 k260 (.F 5627 (.F 116 (.L 61 44) x0) (.F 5627 (.F 116 (.L 61 44) x0) (.F 8234 (.F 116 (.L 61 44) x0) (.L 13 262)))) := by decide +kernel
theorem t261 : Ck 37 k261 (.F 249 (.F 116 (.L 61 44) x0) (.F 4838 (.F 116 (.L 61 44) x0) (.F 4838 (.F 116 (.L 61 44) x0) (.F 4838 (.F 116 (.L 61 44) x0) (.L 13 263))))) := by decide +kernel
theorem t262 : Ck 37 k262 (.F 7668 (.F 116 (.L 61 44) x0) (.F 4957 (.F 116 (.L 61 44) x0) (.F 4957 (.F 116 (.L 61 44) x0) (.F 4751 (.F 116 (.L 61 44) x0) (.L 13 264))))) := by decide +kernel
theorem t269 : Ck 37 k269 (.F 7959 (.F 116 (.L 61 44) x0) (.L 4419 155)) := by decide +kernel
theorem t272 : Ck 37 k272 (.F 7668 x0 (.F 4957 x0 (.F 4957 x0 (.F 4751 x0 (.L 13 274))))) := by decide +kernel
theorem t283 : Ck 37 k283 (.F 7427 x0 (.L 4419 162)) := by decide +kernel
theorem t304 : Ck 37 k304 (.F 8221 x0 (.F 8078 x0 (.F 4957 x0 (.L 13 305)))) := by decide +kernel
theorem t343 : Ck 4 k343 (.L 22652 351) := by decide +kernel
theorem t356 : Ck 4 k356 (.L 61136 364) := by decide +kernel
theorem t358 : Ck 4 k358 (.L 100 366) := by decide +kernel
end Sx
