import Derived.Test.YtadfnlnkgnfckaaGreatDoorM
set_option maxRecDepth 1000000
namespace Sx
open Go
theorem t41 : Ck 37 k41 (.F 86 (.F 301 x0 (.F 27 (.L 85 44) x0)) (.F 137 x0 x0)) := by decide +kernel
theorem t49 : Ck 37 k49 (.L 21372 164) := by decide +kernel
theorem t62 : Ck 37 k62 (.F 13 (.F 1 (.F 1 x0 x0) x0) (.F 1 x0 (.L 9 66))) := by decide +kernel
theorem t114 : Ck 37 k114 (.F 123 (.F 164 (.F 346 (.F 353 (.F 695 (.F 346 (.L 197 110) (.F 73 (.L 104 21) x0)) (.F 73 (.L 104 21) x0)) (.F 73 (.L 104 21) x0)) (.F 73 (.L 104 21) x0)) (.F 73 (.L 104 21) x0)) (.F 158 (.F 695 (.F 695 (.L 197 111) (.F 73 (.L 104 21) x0)) (.F 73 (.L 104 21) x0)) (.F 73 (.L 104 21) x0))) := by decide +kernel
theorem t138 : Ck 37 k138 (.L 16684 139) := by decide +kernel
theorem t142 : Ck 37 k142 (.L 38465 143) := by decide +kernel
theorem t145 : Ck 37 k145 (.F 87 (.F 420 (.F 116 (.L 61 44) x0) (.F 4729 (.F 116 (.L 61 44) x0) (.F 7598 (.F 116 (.L 61 44) x0) (.F 4926 (.F 116 (.L 61 44) x0) (.L 13 325))))) (.F 256 (.F 116 (.L 61 44) x0) (.L 4800 326))) := by decide +kernel
theorem t166 : Ck 37 k166 (.F 87 (.F 420 x0 (.F 4729 x0 (.F 4838 x0 (.F 4838 x0 (.F 7980 x0 (.L 13 288)))))) (.F 256 x0 (.L 13 289))) := by decide +kernel
theorem t193 : Ck 37 k193 (.F 5627 (.F 116 (.L 104 34) x0) (.F 5627 (.F 116 (.L 104 34) x0) (.F 8234 (.F 116 (.L 104 34) x0) (.L 13 194)))) := by decide +kernel
theorem t214 : Ck 37 k214 (.L 4406 137) := by decide +kernel
theorem t215 : Ck 37 k215 (.L 38 34) := by decide +kernel
theorem t220 : Ck 37 k220 (.F 7427 (.F 116 (.L 104 34) x0) (.L 4419 139)) := by decide +kernel
theorem t224 : Ck 37 k224 (.F 8065 (.F 116 (.L 104 34) x0) (.F 4957 (.F 116 (.L 104 34) x0) (.F 4751 (.F 116 (.L 104 34) x0) (.L 13 225)))) := by decide +kernel
theorem t251 : Ck 37 k251 (.F 249 (.F 116 (.L 61 44) x0) (.F 4838 (.F 116 (.L 61 44) x0) (.F 4838 (.F 116 (.L 61 44) x0) (.F 4838 (.F 116 (.L 61 44) x0) (.L 13 253))))) := by decide +kernel
theorem t271 : Ck 37 k271 (.F 4825 x0 (.F 4838 x0 (.F 4838 x0 (.F 8512 x0 (.L 13 273))))) := by decide +kernel
theorem t275 : Ck 37 k275 (.F 8169 x0 (.F 4729 x0 (.F 4838 x0 (.F 4838 x0 (.L 13 276))))) := by decide +kernel
theorem t276 : Ck 37 k276 (.F 8364 x0 (.F 5640 x0 (.F 5627 x0 (.L 13 277)))) := by decide +kernel
theorem t292 : Ck 37 k292 (.F 7427 x0 (.L 4419 165)) := by decide +kernel
theorem t317 : Ck 37 k317 (.F 4825 x0 (.F 4838 x0 (.F 7972 x0 (.L 4419 169)))) := by decide +kernel
theorem t331 : Ck 37 k331 (.F 6298 (.F 116 (.L 61 44) x0) (.F 5699 (.F 116 (.L 61 44) x0) (.L 4748 42))) := by decide +kernel
theorem t362 : Ck 4 k362 (.L 100 370) := by decide +kernel
theorem t365 : Ck 4 k365 (.L 27086 373) := by decide +kernel
end Sx
