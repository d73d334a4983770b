import Derived.Test.YtadfnlnkgnfckaaGreatDoorM
set_option maxRecDepth 1000000
namespace Sx
open Go
theorem t4 : Ck 37 k4 (.F 44 (.F 980 x0 (.F 27 (.L 12 5) x0)) (.L 2354 6)) := by decide +kernel
theorem t12 : Ck 37 k12 (.F 17 (.F 150 x0 (.F 27 (.L 85 13) x0)) (.F 105 x0 x0)) := by decide +kernel
theorem t70 : Ck 37 k70 (.Z 15) := by decide +kernel
theorem t72 : Ck 37 k72 (.L 38465 73) := by decide +kernel
theorem t90 : Ck 37 k90 (.L 20060 91) := by decide +kernel
theorem t106 : Ck 37 k106 (.L 22609 107) := by decide +kernel
theorem t110 : Ck 37 k110 (.F 53 (.F 254 (.F 818 (.F 353 (.F 302 (.F 695 (.L 131 112) (.F 73 (.L 104 21) x0)) (.F 73 (.L 104 21) x0)) (.F 73 (.L 104 21) x0)) (.F 73 (.L 104 21) x0)) (.F 73 (.L 104 21) x0)) (.F 255 (.F 818 (.F 353 (.F 302 (.F 695 (.L 131 112) (.F 73 (.L 104 21) x0)) (.F 73 (.L 104 21) x0)) (.F 73 (.L 104 21) x0)) (.F 73 (.L 104 21) x0)) (.F 73 (.L 104 21) x0))) := by decide +kernel
theorem t148 : Ck 37 k148 (.F 87 (.F 420 (.F 116 (.L 61 44) x0) (.F 4729 (.F 116 (.L 61 44) x0) (.F 7598 (.F 116 (.L 61 44) x0) (.F 4926 (.F 116 (.L 61 44) x0) (.L 13 328))))) (.F 256 (.F 116 (.L 61 44) x0) (.L 4800 329))) := by decide +kernel
theorem t164 : Ck 37 k164 (.L 16684 165) := by decide +kernel
theorem t174 : Ck 37 k174 (.F 8499 (.F 116 (.L 104 34) x0) (.F 5640 (.F 116 (.L 104 34) x0) (.F 9277 (.F 116 (.L 66 170) x0) (.L 13 176)))) := by decide +kernel
theorem t180 : Ck 37 k180 (.F 7959 (.F 116 (.L 104 34) x0) (.L 4419 131)) := by decide +kernel
theorem t208 : Ck 37 k208 (.F 5627 (.F 116 (.L 104 34) x0) (.F 5627 (.F 116 (.L 104 34) x0) (.F 8234 (.F 116 (.L 104 34) x0) (.L 13 209)))) := by decide +kernel
theorem t212 : Ck 37 k212 (.F 4825 (.F 116 (.L 104 34) x0) (.F 4838 (.F 116 (.L 104 34) x0) (.F 4984 (.F 116 (.L 104 34) x0) (.F 7642 (.F 116 (.L 104 34) x0) (.L 13 213))))) := by decide +kernel
theorem t235 : Ck 37 k235 (.F 8221 (.F 116 (.L 61 44) x0) (.F 8182 (.F 116 (.L 61 44) x0) (.F 4729 (.F 116 (.L 61 44) x0) (.L 13 236)))) := by decide +kernel
theorem t242 : Ck 37 k242 (.F 7668 (.F 116 (.L 61 44) x0) (.F 4957 (.F 116 (.L 61 44) x0) (.F 4957 (.F 116 (.L 61 44) x0) (.F 4751 (.F 116 (.L 61 44) x0) (.L 13 244))))) := by decide +kernel
theorem t270 : Ck 37 k270 (.F 5627 x0 (.F 5627 x0 (.F 8234 x0 (.L 13 272)))) := by decide +kernel
theorem t301 : Ck 37 k301 (.F 7427 x0 (.L 4419 168)) := by decide +kernel
theorem t310 : Ck 37 k310 (.F 4825 x0 (.F 4984 x0 (.F 7642 x0 (.F 4729 x0 (.L 13 311))))) := by decide +kernel
theorem t334 : Ck 37 k334 (.F 6298 (.F 116 (.L 61 44) x0) (.F 5699 (.F 116 (.L 61 44) x0) (.L 4748 43))) := by decide +kernel
theorem t339 : Ck 4 k339 (.Z 37) := by decide +kernel
theorem t373 : Ck 4 k373 (.L 15833 0) := by decide +kernel
end Sx
