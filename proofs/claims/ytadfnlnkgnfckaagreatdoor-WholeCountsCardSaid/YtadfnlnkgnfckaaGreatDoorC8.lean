import Derived.Test.YtadfnlnkgnfckaaGreatDoorM
set_option maxRecDepth 1000000
namespace Sx
open Go
theorem t3 : Ck 37 k3 (.L 10393 4) := by decide +kernel
theorem t14 : Ck 37 k14 (.L 8007 82) := by decide +kernel
theorem t21 : Ck 37 k21 (.L 23557 115) := by decide +kernel
theorem t23 : Ck 37 k23 (.L 79 24) := by decide +kernel
theorem t32 : Ck 37 k32 (.F 36 (.L 104 34) x0) := by decide +kernel
theorem t50 : Ck 37 k50 (.L 21372 167) := by decide +kernel
theorem t89 : Ck 37 k89 (.L 22138 90) := by decide +kernel
theorem t135 : Ck 37 k135 (.L 16684 136) := by decide +kernel
theorem t156 : Ck 37 k156 (.L 38465 157) := by decide +kernel
theorem t169 : Ck 37 k169 (.F 87 (.F 420 x0 (.F 4729 x0 (.F 4838 x0 (.F 4838 x0 (.F 7980 x0 (.L 13 297)))))) (.F 256 x0 (.L 13 298))) := by decide +kernel
theorem t201 : Ck 37 k201 (.F 5627 (.F 116 (.L 104 34) x0) (.F 5627 (.F 116 (.L 104 34) x0) (.F 8234 (.F 116 (.L 104 34) x0) (.L 13 203)))) := by decide +kernel
theorem t205 : Ck 37 k205 (.F 7427 (.F 116 (.L 104 34) x0) (.L 4419 136)) := by decide +kernel
theorem t236 : Ck 37 k236 (.F 4825 (.F 116 (.L 61 44) x0) (.F 4838 (.F 116 (.L 61 44) x0) (.F 8377 (.F 116 (.L 61 44) x0) (.L 13 237)))) := by decide +kernel
theorem t241 : Ck 37 k241 (.F 249 (.F 116 (.L 61 44) x0) (.F 4838 (.F 116 (.L 61 44) x0) (.F 4838 (.F 116 (.L 61 44) x0) (.F 4838 (.F 116 (.L 61 44) x0) (.L 13 243))))) := by decide +kernel
theorem t280 : Ck 37 k280 (.F 4825 x0 (.F 4838 x0 (.F 4838 x0 (.F 8512 x0 (.L 13 282))))) := by decide +kernel
theorem t284 : Ck 37 k284 (.F 8169 x0 (.F 4729 x0 (.F 4838 x0 (.F 4838 x0 (.L 13 285))))) := by decide +kernel
theorem t285 : Ck 37 k285 (.F 8364 x0 (.F 5640 x0 (.F 5627 x0 (.L 13 286)))) := by decide +kernel
theorem t322 : Ck 37 k322 (.F 3465 (.F 65 (.L 61 18) x0) (.L 86 98)) := by decide +kernel
theorem t328 : Ck 37 k328 (.F 6298 (.F 116 (.L 61 44) x0) (.F 5699 (.F 116 (.L 61 44) x0) (.L 4748 41))) := by decide +kernel
theorem t338 : Ck 4 k338 (.Z 37) := by decide +kernel
theorem t366 : Ck 4 k366 (.L 27129 374) := by decide +kernel
end Sx
