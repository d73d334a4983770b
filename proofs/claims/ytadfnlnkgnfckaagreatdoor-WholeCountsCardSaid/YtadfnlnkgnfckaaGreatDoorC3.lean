import Derived.Test.YtadfnlnkgnfckaaGreatDoorM
set_option maxRecDepth 1000000
noncomputable section
namespace Sx
open Go
theorem t6 : Ck 37 k6 (.F 44 (.L 3173 8) (.L 6085 9)) := by decide +kernel
theorem t14 : Ck 37 k14 (.L 8007 82) := by decide +kernel
theorem t23 : Ck 37 k23 (.L 79 24) := by decide +kernel
theorem t29 : Ck 37 k29 (.L 21372 138) := by decide +kernel
theorem t33 : Ck 37 k33 (.F 36 (.L 104 34) (.X 0)) := by decide +kernel
theorem t36 : Ck 37 k36 (.L 21950 144) := by decide +kernel
theorem t60 : Ck 37 k60 (.F 13 (.F 1 (.F 1 (.X 0) (.X 0)) (.X 0)) (.F 1 (.X 0) (.L 9 64))) := by decide +kernel
theorem t66 : Ck 37 k66 (.F 13 (.F 1 (.F 1 (.L 9 70) (.X 0)) (.X 0)) (.F 1 (.X 0) (.X 0))) := by decide +kernel
theorem t70 : Ck 37 k70 (.Z 15) := by decide +kernel
theorem t91 : Ck 37 k91 (.F 87 (.F 678 (.F 65 (.L 104 16) (.X 0)) (.F 542 (.F 65 (.L 104 16) (.X 0)) (.F 794 (.F 65 (.L 104 16) (.X 0)) (.F 794 (.F 65 (.L 104 16) (.X 0)) (.F 4048 (.F 65 (.L 104 16) (.X 0)) (.F 1453 (.F 65 (.L 104 16) (.X 0)) (.F 1083 (.F 65 (.L 104 16) (.X 0)) (.F 3547 (.F 65 (.L 104 16) (.X 0)) (.F 3606 (.F 65 (.L 104 16) (.X 0)) (.F 882 (.F 65 (.L 104 16) (.X 0)) (.F 882 (.F 65 (.L 104 16) (.X 0)) (.F 564 (.F 65 (.L 104 16) (.X 0)) (.L 43 318))))))))))))) (.F 402 (.F 65 (.L 104 16) (.X 0)) (.F 794 (.F 65 (.L 104 16) (.X 0)) (.L 622 319)))) := by decide +kernel
theorem t111 : Ck 37 k111 (.F 53 (.F 1 (.F 253 (.F 818 (.F 353 (.F 695 (.F 346 (.X 0) (.F 73 (.X 0) (.X 0))) (.F 73 (.X 0) (.X 0))) (.F 73 (.X 0) (.X 0))) (.F 73 (.X 0) (.X 0))) (.F 73 (.X 0) (.X 0))) (.F 254 (.F 818 (.F 353 (.F 695 (.F 346 (.L 197 113) (.F 73 (.L 104 21) (.X 0))) (.F 73 (.L 104 21) (.X 0))) (.F 73 (.L 104 21) (.X 0))) (.F 73 (.L 104 21) (.X 0))) (.F 73 (.L 104 21) (.X 0)))) (.F 1 (.F 254 (.F 818 (.F 353 (.F 695 (.F 346 (.L 197 113) (.F 73 (.L 104 21) (.X 0))) (.F 73 (.L 104 21) (.X 0))) (.F 73 (.L 104 21) (.X 0))) (.F 73 (.L 104 21) (.X 0))) (.F 73 (.L 104 21) (.X 0))) (.F 255 (.F 818 (.F 353 (.F 695 (.F 346 (.L 197 113) (.F 73 (.L 104 21) (.X 0))) (.F 73 (.L 104 21) (.X 0))) (.F 73 (.L 104 21) (.X 0))) (.F 73 (.L 104 21) (.X 0))) (.F 73 (.L 104 21) (.X 0))))) := by decide +kernel
theorem t123 : Ck 37 k123 (.F 53 (.F 254 (.F 818 (.F 353 (.F 302 (.F 695 (.L 131 125) (.F 73 (.L 61 23) (.X 0))) (.F 73 (.L 61 23) (.X 0))) (.F 73 (.L 61 23) (.X 0))) (.F 73 (.L 61 23) (.X 0))) (.F 73 (.L 61 23) (.X 0))) (.F 255 (.F 818 (.F 353 (.F 302 (.F 695 (.L 131 125) (.F 73 (.L 61 23) (.X 0))) (.F 73 (.L 61 23) (.X 0))) (.F 73 (.L 61 23) (.X 0))) (.F 73 (.L 61 23) (.X 0))) (.F 73 (.L 61 23) (.X 0)))) := by decide +kernel
theorem t124 : Ck 37 k124 (.F 51 (.F 101 (.X 0) (.F 27 (.L 85 23) (.X 0))) (.F 74 (.X 0) (.X 0))) := by decide +kernel
theorem t130 : Ck 37 k130 (.F 87 (.F 420 (.F 116 (.L 104 34) (.X 0)) (.F 4729 (.F 116 (.L 104 34) (.X 0)) (.F 7598 (.F 116 (.L 104 34) (.X 0)) (.F 4926 (.F 116 (.L 104 34) (.X 0)) (.L 13 181))))) (.F 256 (.F 116 (.L 104 34) (.X 0)) (.L 13 182))) := by decide +kernel
theorem t144 : Ck 37 k144 (.L 16684 145) := by decide +kernel
theorem t145 : Ck 37 k145 (.F 87 (.F 420 (.F 116 (.L 61 44) (.X 0)) (.F 4729 (.F 116 (.L 61 44) (.X 0)) (.F 7598 (.F 116 (.L 61 44) (.X 0)) (.F 4926 (.F 116 (.L 61 44) (.X 0)) (.L 13 325))))) (.F 256 (.F 116 (.L 61 44) (.X 0)) (.L 4800 326))) := by decide +kernel
theorem t156 : Ck 37 k156 (.L 38465 157) := by decide +kernel
theorem t169 : Ck 37 k169 (.F 87 (.F 420 (.X 0) (.F 4729 (.X 0) (.F 4838 (.X 0) (.F 4838 (.X 0) (.F 7980 (.X 0) (.L 13 297)))))) (.F 256 (.X 0) (.L 13 298))) := by decide +kernel
theorem t170 : Ck 37 k170 (.L 38 34) := by decide +kernel
theorem t174 : Ck 37 k174 (.F 8499 (.F 116 (.L 104 34) (.X 0)) (.F 5640 (.F 116 (.L 104 34) (.X 0)) (.F 9277 (.F 116 (.L 66 170) (.X 0)) (.L 13 176)))) := by decide +kernel
theorem t198 : Ck 37 k198 (.F 4716 (.F 116 (.L 104 34) (.X 0)) (.F 4838 (.F 116 (.L 104 34) (.X 0)) (.F 4838 (.F 116 (.L 104 34) (.X 0)) (.F 7972 (.F 116 (.L 104 34) (.X 0)) (.L 13 199))))) := by decide +kernel
theorem t201 : Ck 37 k201 (.F 5627 (.F 116 (.L 104 34) (.X 0)) (.F 5627 (.F 116 (.L 104 34) (.X 0)) (.F 8234 (.F 116 (.L 104 34) (.X 0)) (.L 13 203)))) := by decide +kernel
theorem t204 : Ck 37 k204 (.F 8499 (.F 116 (.L 104 34) (.X 0)) (.F 5640 (.F 116 (.L 104 34) (.X 0)) (.F 9277 (.F 116 (.L 66 200) (.X 0)) (.L 13 206)))) := by decide +kernel
theorem t205 : Ck 37 k205 (.F 7427 (.F 116 (.L 104 34) (.X 0)) (.L 4419 136)) := by decide +kernel
theorem t229 : Ck 37 k229 (.L 4406 140) := by decide +kernel
theorem t231 : Ck 37 k231 (.F 249 (.F 116 (.L 61 44) (.X 0)) (.F 4838 (.F 116 (.L 61 44) (.X 0)) (.F 4838 (.F 116 (.L 61 44) (.X 0)) (.F 4838 (.F 116 (.L 61 44) (.X 0)) (.L 13 233))))) := by decide +kernel
theorem t235 : Ck 37 k235 (.F 8221 (.F 116 (.L 61 44) (.X 0)) (.F 8182 (.F 116 (.L 61 44) (.X 0)) (.F 4729 (.F 116 (.L 61 44) (.X 0)) (.L 13 236)))) := by decide +kernel
theorem t236 : Ck 37 k236 (.F 4825 (.F 116 (.L 61 44) (.X 0)) (.F 4838 (.F 116 (.L 61 44) (.X 0)) (.F 8377 (.F 116 (.L 61 44) (.X 0)) (.L 13 237)))) := by decide +kernel
theorem t237 : Ck 37 k237 (.F 5627 (.F 116 (.L 61 44) (.X 0)) (.F 5627 (.F 116 (.L 61 44) (.X 0)) (.F 8234 (.F 116 (.L 61 44) (.X 0)) (.L 13 238)))) := by decide +kernel
theorem t238 : Ck 37 k238 (.F 8065 (.F 116 (.L 61 44) (.X 0)) (.F 4957 (.F 116 (.L 61 44) (.X 0)) (.F 4751 (.F 116 (.L 61 44) (.X 0)) (.L 13 239)))) := by decide +kernel
theorem t253 : Ck 37 k253 (.F 8499 (.F 116 (.L 61 44) (.X 0)) (.F 5640 (.F 116 (.L 61 44) (.X 0)) (.F 9277 (.F 116 (.L 61 44) (.X 0)) (.L 13 255)))) := by decide +kernel
theorem t284 : Ck 37 k284 (.F 8169 (.X 0) (.F 4729 (.X 0) (.F 4838 (.X 0) (.F 4838 (.X 0) (.L 13 285))))) := by decide +kernel
theorem t285 : Ck 37 k285 (.F 8364 (.X 0) (.F 5640 (.X 0) (.F 5627 (.X 0) (.L 13 286)))) := by decide +kernel
theorem t292 : Ck 37 k292 (.F 7427 (.X 0) (.L 4419 165)) := by decide +kernel
theorem t298 : Ck 37 k298 (.F 4825 (.X 0) (.F 4838 (.X 0) (.F 4838 (.X 0) (.F 8512 (.X 0) (.L 13 300))))) := by decide +kernel
theorem t304 : Ck 37 k304 (.F 8221 (.X 0) (.F 8078 (.X 0) (.F 4957 (.X 0) (.L 13 305)))) := by decide +kernel
theorem t305 : Ck 37 k305 (.F 4738 (.X 0) (.F 7972 (.X 0) (.L 4419 169))) := by decide +kernel
theorem t313 : Ck 37 k313 (.F 4825 (.X 0) (.F 4984 (.X 0) (.F 7642 (.X 0) (.F 4729 (.X 0) (.L 13 314))))) := by decide +kernel
theorem t315 : Ck 37 k315 (.F 6298 (.X 0) (.F 5699 (.X 0) (.L 4949 54))) := by decide +kernel
theorem t322 : Ck 37 k322 (.F 3465 (.F 65 (.L 61 18) (.X 0)) (.L 86 98)) := by decide +kernel
theorem t335 : Ck 37 k335 (.F 38 (.F 116 (.L 61 44) (.X 0)) (.F 4838 (.F 116 (.L 61 44) (.X 0)) (.F 4984 (.F 116 (.L 61 44) (.X 0)) (.F 7642 (.F 116 (.L 61 44) (.X 0)) (.F 4729 (.F 116 (.L 61 44) (.X 0)) (.L 13 336)))))) := by decide +kernel
theorem t337 : Ck 4 k337 (.F 48 (.Z 25) (.F 7 (.Z 18) (.F 29 (.Z 25) (.F 7 (.Z 18) (.F 29 (.Z 25) (.F 7 (.Z 18) (.F 29 (.Z 25) (.F 7 (.Z 18) (.F 51 (.F 25 (.F 25 (.L 48 341) (.L 94 342)) (.F 71 (.L 48 343) (.L 94 344))) (.F 71 (.F 25 (.L 48 345) (.L 94 346)) (.F 71 (.L 48 347) (.L 94 348)))))))))))) := by decide +kernel
theorem t338 : Ck 4 k338 (.Z 37) := by decide +kernel
theorem t341 : Ck 4 k341 (.L 22478 349) := by decide +kernel
theorem t346 : Ck 4 k346 (.L 22826 354) := by decide +kernel
theorem t355 : Ck 4 k355 (.L 60833 363) := by decide +kernel
theorem t358 : Ck 4 k358 (.L 100 366) := by decide +kernel
theorem t363 : Ck 4 k363 (.L 100 371) := by decide +kernel
theorem t373 : Ck 4 k373 (.L 15833 0) := by decide +kernel
theorem t378 : Ck 4 k378 (.L 15833 0) := by decide +kernel
end Sx
