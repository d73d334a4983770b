import Derived.Test.YtadfnlnkgnfckaaGreatDoorM
set_option maxRecDepth 1000000
namespace Sx
open Go
theorem t22 : Ck 37 k22 (.F 51 (.F 101 x0 (.F 27 (.L 85 23) x0)) (.F 74 x0 x0)) := by decide +kernel
theorem t26 : Ck 37 k26 (.L 21372 129) := by decide +kernel
theorem t39 : Ck 37 k39 (.L 21950 153) := by decide +kernel
theorem t61 : Ck 37 k61 (.F 13 (.F 1 (.F 1 (.L 9 65) x0) x0) (.F 1 x0 x0)) := by decide +kernel
theorem t84 : Ck 37 k84 (.L 9443 85) := by decide +kernel
theorem t104 : Ck 37 k104 (.F 3997 (.F 65 (.L 104 16) x0) (.L 86 91)) := by decide +kernel
theorem t105 : Ck 37 k105 (.L 8193 106) := by decide +kernel
theorem t147 : Ck 37 k147 (.L 16684 148) := by decide +kernel
theorem t165 : Ck 37 k165 (.F 87 (.F 420 x0 (.F 4729 x0 (.F 7598 x0 (.F 4926 x0 (.L 13 312))))) (.F 256 x0 (.F 4838 x0 (.L 13 313)))) := by decide +kernel
theorem t172 : Ck 37 k172 (.F 249 (.F 116 (.L 104 34) x0) (.F 4838 (.F 116 (.L 104 34) x0) (.F 4838 (.F 116 (.L 104 34) x0) (.F 4838 (.F 116 (.L 104 34) x0) (.L 13 174))))) := by decide +kernel
theorem t200 : Ck 37 k200 (.L 38 34) := by decide +kernel
theorem t213 : Ck 37 k213 (.F 4716 (.F 116 (.L 104 34) x0) (.F 4838 (.F 116 (.L 104 34) x0) (.F 4838 (.F 116 (.L 104 34) x0) (.F 7972 (.F 116 (.L 104 34) x0) (.L 13 214))))) := by decide +kernel
theorem t230 : Ck 37 k230 (.F 5627 (.F 116 (.L 61 44) x0) (.F 5627 (.F 116 (.L 61 44) x0) (.F 8234 (.F 116 (.L 61 44) x0) (.L 13 232)))) := by decide +kernel
theorem t239 : Ck 37 k239 (.F 7959 (.F 116 (.L 61 44) x0) (.L 4419 146)) := by decide +kernel
theorem t246 : Ck 37 k246 (.F 4825 (.F 116 (.L 61 44) x0) (.F 4838 (.F 116 (.L 61 44) x0) (.F 8377 (.F 116 (.L 61 44) x0) (.L 13 247)))) := by decide +kernel
theorem t248 : Ck 37 k248 (.F 8065 (.F 116 (.L 61 44) x0) (.F 4957 (.F 116 (.L 61 44) x0) (.F 4751 (.F 116 (.L 61 44) x0) (.L 13 249)))) := by decide +kernel
theorem t263 : Ck 37 k263 (.F 8499 (.F 116 (.L 61 44) x0) (.F 5640 (.F 116 (.L 61 44) x0) (.F 9277 (.F 116 (.L 61 44) x0) (.L 13 265)))) := by decide +kernel
theorem t291 : Ck 37 k291 (.F 5627 x0 (.F 9277 x0 (.F 8234 x0 (.L 13 293)))) := by decide +kernel
theorem t327 : Ck 37 k327 (.F 4825 (.F 116 (.L 61 44) x0) (.F 4838 (.F 116 (.L 61 44) x0) (.F 7972 (.F 116 (.L 61 44) x0) (.L 4419 146)))) := by decide +kernel
theorem t349 : Ck 4 k349 (.L 60227 357) := by decide +kernel
end Sx
