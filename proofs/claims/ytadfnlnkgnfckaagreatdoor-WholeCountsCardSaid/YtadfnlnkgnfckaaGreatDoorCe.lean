import Derived.Test.YtadfnlnkgnfckaaGreatDoorM
set_option maxRecDepth 1000000
namespace Sx
open Go
theorem t2 : Ck 37 k2 (.L 38465 3) := by decide +kernel
theorem t15 : Ck 37 k15 (.F 36 (.L 104 16) x0) := by decide +kernel
theorem t24 : Ck 37 k24 (.L 8011 126) := by decide +kernel
theorem t53 : Ck 37 k53 (.F 63 (.F 1 (.F 1 x0 x0) x0) (.F 1 x0 (.L 9 57))) := by decide +kernel
theorem t60 : Ck 37 k60 (.F 13 (.F 1 (.F 1 x0 x0) x0) (.F 1 x0 (.L 9 64))) := by decide +kernel
theorem t75 : Ck 37 k75 (.F 44 (.L 3173 76) (.L 6085 77)) := by decide +kernel
theorem t77 : Ck 37 k77 (.F 44 (.F 76 (.F 242 x0 x0) (.F 241 (.F 270 x0 x0) (.F 293 (.F 297 x0 x0) (.F 876 (.F 297 x0 x0) (.F 1059 (.F 228 x0 x0) (.L 628 79)))))) (.F 167 (.F 268 x0 x0) (.F 301 (.F 289 x0 x0) (.F 241 (.F 317 x0 x0) (.F 293 (.F 344 x0 x0) (.F 796 (.F 344 x0 x0) (.F 1289 (.F 289 x0 x0) (.F 241 (.F 317 x0 x0) (.F 293 (.F 344 x0 x0) (.F 836 (.F 344 x0 x0) (.F 998 (.F 275 x0 x0) (.L 588 77)))))))))))) := by decide +kernel
theorem t93 : Ck 37 k93 (.L 20103 94) := by decide +kernel
theorem t96 : Ck 37 k96 (.L 4083 97) := by decide +kernel
theorem t97 : Ck 37 k97 (.F 87 (.L 22467 98) (.L 1239 99)) := by decide +kernel
theorem t139 : Ck 37 k139 (.F 87 (.F 420 (.F 116 (.L 104 34) x0) (.F 4729 (.F 116 (.L 104 34) x0) (.F 7598 (.F 116 (.L 104 34) x0) (.F 4926 (.F 116 (.L 104 34) x0) (.L 13 226))))) (.F 256 (.F 116 (.L 104 34) x0) (.L 13 227))) := by decide +kernel
theorem t140 : Ck 37 k140 (.F 87 (.F 420 (.F 116 (.L 104 34) x0) (.F 4729 (.F 116 (.L 104 34) x0) (.F 4838 (.F 116 (.L 104 34) x0) (.F 4838 (.F 116 (.L 104 34) x0) (.F 7980 (.F 116 (.L 66 215) x0) (.L 13 216)))))) (.L 7 217)) := by decide +kernel
theorem t158 : Ck 37 k158 (.L 16684 159) := by decide +kernel
theorem t181 : Ck 37 k181 (.F 6298 (.F 116 (.L 104 34) x0) (.F 5699 (.F 116 (.L 104 34) x0) (.F 4994 x0 (.F 27 (.L 12 30) x0)))) := by decide +kernel
theorem t197 : Ck 37 k197 (.F 4825 (.F 116 (.L 104 34) x0) (.F 4838 (.F 116 (.L 104 34) x0) (.F 4984 (.F 116 (.L 104 34) x0) (.F 7642 (.F 116 (.L 104 34) x0) (.L 13 198))))) := by decide +kernel
theorem t217 : Ck 37 k217 (.F 249 (.F 116 (.L 104 34) x0) (.F 4838 (.F 116 (.L 104 34) x0) (.F 4838 (.F 116 (.L 104 34) x0) (.F 4838 (.F 116 (.L 104 34) x0) (.L 13 219))))) := by decide +kernel
theorem t223 : Ck 37 k223 (.F 5627 (.F 116 (.L 104 34) x0) (.F 5627 (.F 116 (.L 104 34) x0) (.F 8234 (.F 116 (.L 104 34) x0) (.L 13 224)))) := by decide +kernel
theorem t232 : Ck 37 k232 (.F 7668 (.F 116 (.L 61 44) x0) (.F 4957 (.F 116 (.L 61 44) x0) (.F 4957 (.F 116 (.L 61 44) x0) (.F 4751 (.F 116 (.L 61 44) x0) (.L 13 234))))) := by decide +kernel
theorem t255 : Ck 37 k255 (.F 8221 (.F 116 (.L 61 44) x0) (.F 8182 (.F 116 (.L 61 44) x0) (.F 4729 (.F 116 (.L 61 44) x0) (.L 13 256)))) := by decide +kernel
theorem t302 : Ck 37 k302 (.F 8169 x0 (.F 4729 x0 (.F 4838 x0 (.F 4838 x0 (.L 13 303))))) := by decide +kernel
theorem t316 : Ck 37 k316 (.F 4825 x0 (.F 4984 x0 (.F 7642 x0 (.F 4729 x0 (.L 13 317))))) := by decide +kernel
end Sx
