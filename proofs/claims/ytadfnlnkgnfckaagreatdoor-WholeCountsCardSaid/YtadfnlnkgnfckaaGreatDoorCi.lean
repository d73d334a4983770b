import Derived.Test.YtadfnlnkgnfckaaGreatDoorM
set_option maxRecDepth 1000000
namespace Sx
open Go
theorem t369 : Ck 4 k369 (.L 27129 377) := by decide +kernel
theorem t330 : Ck 37 k330 (.F 4825 (.F 116 (.L 61 44) x0) (.F 4838 (.F 116 (.L 61 44) x0) (.F 7972 (.F 116 (.L 61 44) x0) (.L 4419 149)))) := by decide +kernel
theorem t179 : Ck 37 k179 (.F 8065 (.F 116 (.L 104 34) x0) (.F 4957 (.F 116 (.L 104 34) x0) (.F 4751 (.F 116 (.L 104 34) x0) (.L 13 180)))) := by decide +kernel
theorem t79 : Ck 37 k79 (.F 44 (.F 76 (.F 195 (.L 61 13) x0) (.L 738 80)) (.F 167 (.F 221 (.L 61 13) x0) (.F 345 (.F 242 (.L 61 13) x0) (.F 241 (.F 270 (.L 61 13) x0) (.F 725 (.F 242 (.L 61 13) x0) (.F 288 (.F 275 (.L 61 13) x0) (.F 799 (.F 268 (.L 61 13) x0) (.F 301 (.F 289 (.L 61 13) x0) (.F 241 (.F 317 (.L 61 13) x0) (.F 293 (.F 344 (.L 61 13) x0) (.F 796 (.F 344 (.L 61 13) x0) (.F 1289 (.F 289 (.L 61 13) x0) (.F 241 (.F 317 (.L 61 13) x0) (.F 293 (.F 344 (.L 61 13) x0) (.F 836 (.F 344 (.L 61 13) x0) (.F 998 (.F 275 (.L 61 13) x0) (.L 588 81))))))))))))))))) := by decide +kernel
theorem t318 : Ck 37 k318 (.F 3465 (.F 65 (.L 104 16) x0) (.L 86 88)) := by decide +kernel
end Sx
