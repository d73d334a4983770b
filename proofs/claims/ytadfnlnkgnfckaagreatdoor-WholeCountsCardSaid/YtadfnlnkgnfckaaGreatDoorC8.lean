import Derived.Test.YtadfnlnkgnfckaaGreatDoorM
set_option maxRecDepth 1000000
noncomputable section
namespace Sx
open Go
theorem t22 : Ck 37 k22 (.F 51 (.F 101 (.X 0) (.F 27 (.L 85 23) (.X 0))) (.F 74 (.X 0) (.X 0))) := by decide +kernel
theorem t28 : Ck 37 k28 (.L 21372 135) := by decide +kernel
theorem t53 : Ck 37 k53 (.F 63 (.F 1 (.F 1 (.X 0) (.X 0)) (.X 0)) (.F 1 (.X 0) (.L 9 57))) := by decide +kernel
theorem t77 : Ck 37 k77 (.F 44 (.F 76 (.F 242 (.X 0) (.X 0)) (.F 241 (.F 270 (.X 0) (.X 0)) (.F 293 (.F 297 (.X 0) (.X 0)) (.F 876 (.F 297 (.X 0) (.X 0)) (.F 1059 (.F 228 (.X 0) (.X 0)) (.L 628 79)))))) (.F 167 (.F 268 (.X 0) (.X 0)) (.F 301 (.F 289 (.X 0) (.X 0)) (.F 241 (.F 317 (.X 0) (.X 0)) (.F 293 (.F 344 (.X 0) (.X 0)) (.F 796 (.F 344 (.X 0) (.X 0)) (.F 1289 (.F 289 (.X 0) (.X 0)) (.F 241 (.F 317 (.X 0) (.X 0)) (.F 293 (.F 344 (.X 0) (.X 0)) (.F 836 (.F 344 (.X 0) (.X 0)) (.F 998 (.F 275 (.X 0) (.X 0)) (.L 588 77)))))))))))) := by decide +kernel
theorem t97 : Ck 37 k97 (.F 87 (.L 22467 98) (.L 1239 99)) := by decide +kernel
theorem t100 : Ck 37 k100 (.F 47 (.F 456 (.X 0) (.F 27 (.L 85 18) (.X 0))) (.F 108 (.X 0) (.X 0))) := by decide +kernel
theorem t105 : Ck 37 k105 (.L 8193 106) := by decide +kernel
theorem t125 : Ck 37 k125 (.F 123 (.F 164 (.F 346 (.F 353 (.F 695 (.F 346 (.L 197 120) (.F 73 (.L 61 23) (.X 0))) (.F 73 (.L 61 23) (.X 0))) (.F 73 (.L 61 23) (.X 0))) (.F 73 (.L 61 23) (.X 0))) (.F 73 (.L 61 23) (.X 0))) (.F 158 (.F 695 (.F 695 (.L 197 121) (.F 73 (.L 61 23) (.X 0))) (.F 73 (.L 61 23) (.X 0))) (.F 73 (.L 61 23) (.X 0)))) := by decide +kernel
theorem t126 : Ck 37 k126 (.L 19 127) := by decide +kernel
theorem t129 : Ck 37 k129 (.L 16684 130) := by decide +kernel
theorem t189 : Ck 37 k189 (.F 8499 (.F 116 (.L 104 34) (.X 0)) (.F 5640 (.F 116 (.L 104 34) (.X 0)) (.F 9277 (.F 116 (.L 66 185) (.X 0)) (.L 13 191)))) := by decide +kernel
theorem t193 : Ck 37 k193 (.F 5627 (.F 116 (.L 104 34) (.X 0)) (.F 5627 (.F 116 (.L 104 34) (.X 0)) (.F 8234 (.F 116 (.L 104 34) (.X 0)) (.L 13 194)))) := by decide +kernel
theorem t218 : Ck 37 k218 (.F 7668 (.F 116 (.L 104 34) (.X 0)) (.F 4957 (.F 116 (.L 104 34) (.X 0)) (.F 4957 (.F 116 (.L 104 34) (.X 0)) (.F 4751 (.F 116 (.L 104 34) (.X 0)) (.L 13 220))))) := by decide +kernel
theorem t222 : Ck 37 k222 (.F 4825 (.F 116 (.L 104 34) (.X 0)) (.F 4838 (.F 116 (.L 104 34) (.X 0)) (.F 8377 (.F 116 (.L 104 34) (.X 0)) (.L 13 223)))) := by decide +kernel
theorem t226 : Ck 37 k226 (.F 6298 (.F 116 (.L 104 34) (.X 0)) (.F 5699 (.F 116 (.L 104 34) (.X 0)) (.F 4994 (.X 0) (.F 27 (.L 12 33) (.X 0))))) := by decide +kernel
theorem t234 : Ck 37 k234 (.F 7427 (.F 116 (.L 61 44) (.X 0)) (.L 4419 145)) := by decide +kernel
theorem t276 : Ck 37 k276 (.F 8364 (.X 0) (.F 5640 (.X 0) (.F 5627 (.X 0) (.L 13 277)))) := by decide +kernel
theorem t317 : Ck 37 k317 (.F 4825 (.X 0) (.F 4838 (.X 0) (.F 7972 (.X 0) (.L 4419 169)))) := by decide +kernel
theorem t323 : Ck 37 k323 (.F 751 (.F 65 (.L 61 18) (.X 0)) (.F 4580 (.F 65 (.L 61 18) (.X 0)) (.F 1453 (.F 65 (.L 61 18) (.X 0)) (.F 4733 (.F 65 (.L 61 18) (.X 0)) (.F 3547 (.F 65 (.L 61 18) (.X 0)) (.F 4107 (.F 65 (.L 61 18) (.X 0)) (.F 542 (.F 65 (.L 61 18) (.X 0)) (.F 794 (.F 65 (.L 61 18) (.X 0)) (.F 794 (.F 65 (.L 61 18) (.X 0)) (.L 43 324)))))))))) := by decide +kernel
theorem t332 : Ck 37 k332 (.F 38 (.F 116 (.L 61 44) (.X 0)) (.F 4838 (.F 116 (.L 61 44) (.X 0)) (.F 4984 (.F 116 (.L 61 44) (.X 0)) (.F 7642 (.F 116 (.L 61 44) (.X 0)) (.F 4729 (.F 116 (.L 61 44) (.X 0)) (.L 13 333)))))) := by decide +kernel
theorem t340 : Ck 4 k340 (.Z 37) := by decide +kernel
theorem t344 : Ck 4 k344 (.L 22826 352) := by decide +kernel
theorem t360 : Ck 4 k360 (.L 100 368) := by decide +kernel
theorem t368 : Ck 4 k368 (.L 27172 376) := by decide +kernel
theorem t372 : Ck 4 k372 (.L 27215 380) := by decide +kernel
theorem t377 : Ck 4 k377 (.L 15833 0) := by decide +kernel
end Sx
