import Derived.Test.YtadfnlnkgnfckaaGreatDoorM
set_option maxRecDepth 1000000
namespace Sx
open Go
theorem t36 : Ck 37 k36 (.L 21950 144) := by decide +kernel
theorem t40 : Ck 37 k40 (.F 86 (.F 301 x0 (.F 27 (.L 85 44) x0)) (.F 137 x0 x0)) := by decide +kernel
theorem t43 : Ck 37 k43 (.F 86 (.F 301 x0 (.F 27 (.L 85 44) x0)) (.F 137 x0 x0)) := by decide +kernel
theorem t108 : Ck 37 k108 (.F 123 (.F 2080 x0 (.F 27 (.L 12 20) x0)) (.L 2501 109)) := by decide +kernel
theorem t118 : Ck 37 k118 (.F 123 (.L 1958 22) (.L 2501 119)) := by decide +kernel
theorem t121 : Ck 37 k121 (.F 53 (.F 1 (.F 253 (.F 818 (.F 353 (.F 695 (.F 346 x0 (.F 73 x0 x0)) (.F 73 x0 x0)) (.F 73 x0 x0)) (.F 73 x0 x0)) (.F 73 x0 x0)) (.F 254 (.F 818 (.F 353 (.F 695 (.F 346 (.L 197 123) (.F 73 (.L 61 23) x0)) (.F 73 (.L 61 23) x0)) (.F 73 (.L 61 23) x0)) (.F 73 (.L 61 23) x0)) (.F 73 (.L 61 23) x0))) (.F 1 (.F 254 (.F 818 (.F 353 (.F 695 (.F 346 (.L 197 123) (.F 73 (.L 61 23) x0)) (.F 73 (.L 61 23) x0)) (.F 73 (.L 61 23) x0)) (.F 73 (.L 61 23) x0)) (.F 73 (.L 61 23) x0)) (.F 255 (.F 818 (.F 353 (.F 695 (.F 346 (.L 197 123) (.F 73 (.L 61 23) x0)) (.F 73 (.L 61 23) x0)) (.F 73 (.L 61 23) x0)) (.F 73 (.L 61 23) x0)) (.F 73 (.L 61 23) x0)))) := by decide +kernel
theorem t136 : Ck 37 k136 (.F 87 (.F 420 (.F 116 (.L 104 34) x0) (.F 4729 (.F 116 (.L 104 34) x0) (.F 7598 (.F 116 (.L 104 34) x0) (.F 4926 (.F 116 (.L 104 34) x0) (.L 13 211))))) (.F 256 (.F 116 (.L 104 34) x0) (.L 13 212))) := by decide +kernel
theorem t155 : Ck 37 k155 (.F 87 (.F 420 (.F 116 (.L 61 44) x0) (.F 4729 (.F 116 (.L 61 44) x0) (.F 4838 (.F 116 (.L 61 44) x0) (.F 4838 (.F 116 (.L 61 44) x0) (.F 7980 (.F 116 (.L 61 44) x0) (.L 13 260)))))) (.L 7 261)) := by decide +kernel
theorem t218 : Ck 37 k218 (.F 7668 (.F 116 (.L 104 34) x0) (.F 4957 (.F 116 (.L 104 34) x0) (.F 4957 (.F 116 (.L 104 34) x0) (.F 4751 (.F 116 (.L 104 34) x0) (.L 13 220))))) := by decide +kernel
theorem t267 : Ck 37 k267 (.F 5627 (.F 116 (.L 61 44) x0) (.F 5627 (.F 116 (.L 61 44) x0) (.F 8234 (.F 116 (.L 61 44) x0) (.L 13 268)))) := by decide +kernel
theorem t274 : Ck 37 k274 (.F 7427 x0 (.L 4419 159)) := by decide +kernel
theorem t290 : Ck 37 k290 (.F 7668 x0 (.F 4957 x0 (.F 4957 x0 (.F 4751 x0 (.L 13 292))))) := by decide +kernel
theorem t305 : Ck 37 k305 (.F 4738 x0 (.F 7972 x0 (.L 4419 169))) := by decide +kernel
theorem t309 : Ck 37 k309 (.F 6298 x0 (.F 5699 x0 (.L 4949 52))) := by decide +kernel
theorem t324 : Ck 37 k324 (.F 4402 (.F 65 (.L 61 18) x0) (.F 1453 (.F 65 (.L 61 18) x0) (.F 1083 (.F 65 (.L 61 18) x0) (.F 3547 (.F 65 (.L 61 18) x0) (.F 4003 (.F 65 (.L 61 18) x0) (.F 882 (.F 65 (.L 61 18) x0) (.F 564 (.F 65 (.L 61 18) x0) (.F 4040 (.F 65 (.L 61 18) x0) (.L 86 102))))))))) := by decide +kernel
theorem t332 : Ck 37 k332 (.F 38 (.F 116 (.L 61 44) x0) (.F 4838 (.F 116 (.L 61 44) x0) (.F 4984 (.F 116 (.L 61 44) x0) (.F 7642 (.F 116 (.L 61 44) x0) (.F 4729 (.F 116 (.L 61 44) x0) (.L 13 333)))))) := by decide +kernel
theorem t346 : Ck 4 k346 (.L 22826 354) := by decide +kernel
theorem t355 : Ck 4 k355 (.L 60833 363) := by decide +kernel
theorem t377 : Ck 4 k377 (.L 15833 0) := by decide +kernel
end Sx
