import Derived.Test.YtadfnlnkgnfckaaGreatDoorM
import Derived.Test.YtadfnlnkgnfckaaGreatDoorU
set_option maxRecDepth 1000000
noncomputable section
namespace Sx
open Go
def zp (a : AObj) (l : List Nat) : List (Nat × AObj) := l.map fun n => (n,a)
def pN (a v : Nat) : List AV := [jT,.nilSl,s3 a v]
def pS (a v b w : Nat) : List AV := [jT,s1 a v,s3 b w]
def pF : List AV := [jF,.nilSl,.nilSl]
def t32d : List TX := [.ops [y,y,y,y,z,y,z,z,y,y,z,z,y,z,y,z,z,y,y,z,z,y,z] 2,.code [y,y,y,y,z,y,z,z,y,y,z,z,y,z,y,z,z,y,y,z,z,y,y],.inBlock 5,.code [y,y,y,y,z,y,z,z,y,y,z,z,y,z,y,z,z,y,y,y],.inLoop [y,y,y,y,z,y,z,z,y,y,z,z,y,z,y,z,z],.inBlock 4,.code [y,y,y,y,z,y,z,z,y,y,z,z,y,y],.inBlock 3,.code [y,y,y,y,z,y,z,z,y,y,y],.inLoop [y,y,y,y,z,y,z,z],.inBlock 2,.code [y,y,y,y,y]]
def t35d : List TX := [.ops [y,y,y,y,z,z,z,y,z,y,y,z] 2,.code [y,y,y,y,z,z,z,y,z,y,y,y],.inBlock 1,.inLoop [y,y,y,y,z,z,z],.inBlock 0,.code [y,y,y,y,y]]
def nf650 : FT := ⟨145,6,31,z,[(0,jP 16),(1,jI 0)],[.code []]⟩
def nf651 : FT := ⟨142,5,5,z,[(3,jP 16)],[.ops [y,z] 1,.code [y,y]]⟩
def nf652 : FT := ⟨141,20,131967,z,[(1,jP 225),(2,jP 226),(3,jP 227),(7,jP 16)],[.ops [y,z,z] 1,.code [y,z,y],.code [y,y]]⟩
def nf653 : FT := ⟨129,18,4159,z,[(14,jP 16)],[.ops [y,y,y,z] 1,.code [y,y,z,y,z,y]]⟩
def no874 : AObj := jA true [.sl 11 0 28 6 (.var 0 0),.sl 14 0 28 1 (.lit 28),jM 15,.sl 180 0 4 1 (.var 31 0)]
def no875 : AObj := jA true [jP 16]
def br0 : List (Nat × (Int × Int)) := [m0 1,mw 2,m0 3,mw 4,mw 5,mw 6,mw 7,mw 8,mw 9,m0 10,mw 11,mw 12,mw 13,mw 14,mw 15,mw 16,mw 17,mw 18,mw 19,mw 20,mw 21,mw 22,mw 23,mw 24,mw 25,mw 26,mw 27,(0,(28,maxCap)),(31,(4,maxCap))]
def sm16_ca1 : CT := ⟨[nf650,nf651,nf652,nf653],[(0,o0),(11,o834),(14,o15),(15,o16),(16,no874),(180,o18),(225,no875),(226,o20),(227,o20)],228,br0,32⟩
theorem a_sm16 : fstB Go.Proofs.Tryz.prog (sumL baseS [sm1]) sm16 7923 sm16_ca1 = true := by decide +kernel
theorem a_sm16_ca1 : ndD Go.Proofs.Tryz.prog (sumL baseS [sm1]) sm16 (fun _ => sm16_ca1) sm16_ca1 (.Z 45000) = true := by decide +kernel
def nf679 : FT := ⟨474,14,39,z,[(0,.str ⟨2,28526,[]⟩),(1,jV 4),(2,jP 186)],[.code []]⟩
def nf680 : FT := ⟨351,44,251,z,[(3,jP 185),(7,.func (.func 474) [] [jP 186]),(32,jT),(33,.func (.func 474) [] [jP 186]),(35,jV 4)],[.ops [y,y,y,z] 17,.code [y,y,y,y]]⟩
def nf681 : FT := ⟨218,74,4724672855710328358077,z,[(0,jP 18),(4,jI 0),(5,jP 183),(7,jP 184),(37,.sl 12 0 1 5 (.var 1 0)),(38,jI 1),(39,jI 0),(45,.sl 14 0 33 5 (.var 3 0)),(46,jI 33),(47,jI 0),(51,jP 18),(52,.agg [jB 9,jI 0,jI 0,jV 4,jI 0])],t32d⟩
def nf657 : FT := ⟨132,37,34477249119,z,[(3,jP 18),(13,jP 18)],[.ops [y,y,z,z,y,y,z] 1,.code [y,y,z,z,y,y,y],.inBlock 0,.code [y,y,y]]⟩
def no876 : AObj := .map [(jB 1,q2 3 7173486 2 28014),(jB 2,q2 2 28783 2 28015),(jB 3,q2 2 29537 1 110),(jB 4,q2 3 7368560 0 0),(jB 5,q2 2 28519 1 110),(jB 6,q2 4 1869768058 1 110),(jB 7,q2 6 111546465216611 1 110),(jB 8,q2 4 1735287144 0 0),(jB 9,q2 3 7824750 2 28275),(jB 10,q2 4 1802658157 2 28275),(jB 11,q2 4 1701736292 1 115),(jB 12,q2 5 512970877044 2 29548),(jB 13,q2 3 7102838 2 29548),(jB 14,q2 3 7628135 2 29548),(jB 15,q2 3 7628147 2 29548),(jB 16,q2 9 2148068245608269636967 1 110),(jB 17,q2 9 2148068245608269636979 1 110),(jB 18,q2 4 1836213620 1 110),(jB 19,q2 6 127970252055151 2 28014),(jB 20,q2 2 28262 1 110),(jB 21,q2 3 6710642 2 29548),(jB 22,q2 5 491328402799 1 110),(jB 23,q2 4 1835365481 1 110),(jB 24,q2 4 1819042147 1 110),(jB 25,q2 3 7041889 1 110),(jB 26,q2 3 6648693 2 29548),(jB 27,q2 4 1801675106 0 0),(jB 28,q2 6 111477645406062 4 1835955052)] true none
def no877 : AObj := jA true [.nilSl,.sl 11 0 1 5 (.var 0 0),.sl 12 0 1 5 (.var 1 0),jM 17]
def no878 : AObj := jA true [jB 1,jI (-1),jI 64,.sl 13 0 3 4 (.var 2 0),.sl 14 0 33 5 (.var 3 0)]
def no904 : AObj := jA true [jB 9,jI 0,jI 0,jV 4,jI 0]
def no880 : AObj := jA true [.str ⟨3,7824750,[]⟩,.str ⟨2,28275,[]⟩]
def br1 : List (Nat × (Int × Int)) := [m0 4,m0 5,m0 6,m1 1,(3,(33,maxCap)),m1 0,m3 2]
def sm21_cl1 : CT := ⟨[nf679,nf680,nf681,nf657],[(0,o0),(11,o854),(12,o855),(13,o856),(14,o857),(17,no876),(18,no877),(183,no878),(184,no904),(185,no904),(186,no880)],187,br1,7⟩
def nf654 : FT := ⟨474,14,39,z,[(0,.str ⟨2,28526,[]⟩),(1,jV 5),(2,jP 204)],[.code []]⟩
def nf655 : FT := ⟨351,44,251,z,[(3,jP 203),(7,.func (.func 474) [] [jP 204]),(32,jT),(33,.func (.func 474) [] [jP 204]),(35,jV 5)],[.ops [y,y,y,z] 17,.code [y,y,y,y]]⟩
def nf656 : FT := ⟨218,74,4724672855710328358077,z,[(0,jP 18),(4,jI 0),(5,jP 183),(7,jP 202),(37,.sl 12 0 1 5 (.var 1 0)),(38,jI 1),(39,jI 0),(45,.sl 14 0 33 5 (.var 3 0)),(46,jI 33),(47,jI 2),(51,jP 18),(52,.agg [jB 9,jI 0,jI 2,jV 5,jI 0])],t32d⟩
def no879 : AObj := jA true [jB 9,jI 0,jI 2,jV 5,jI 0]
def br2 : List (Nat × (Int × Int)) := [m0 5,m0 4,m0 6,m1 1,(3,(33,maxCap)),m1 0,m3 2]
def sm21_cl2 : CT := ⟨[nf654,nf655,nf656,nf657],[(0,o0),(11,o854),(12,o855),(13,o856),(14,o857),(17,no876),(18,no877),(183,no878),(202,no879),(203,no879),(204,no880)],210,br2,7⟩
def nf658 : FT := ⟨474,14,39,z,[(0,.str ⟨2,28526,[]⟩),(1,jV 6),(2,jP 232)],[.code []]⟩
def nf659 : FT := ⟨351,44,251,z,[(3,jP 231),(7,.func (.func 474) [] [jP 232]),(32,jT),(33,.func (.func 474) [] [jP 232]),(35,jV 6)],[.ops [y,y,y,z] 17,.code [y,y,y,y]]⟩
def nf660 : FT := ⟨218,74,4724672855710328358077,z,[(0,jP 18),(4,jI 0),(5,jP 183),(7,jP 230),(37,.sl 12 0 1 5 (.var 1 0)),(38,jI 1),(39,jI 0),(45,.sl 14 0 33 5 (.var 3 0)),(46,jI 33),(47,jI 5),(51,jP 18),(52,.agg [jB 1,jI 0,jI 0,jV 6,jI 64])],t32d⟩
def no881 : AObj := jA true [jB 1,jI 0,jI 0,jV 6,jI 64]
def no882 : AObj := jA true [.str ⟨3,7173486,[]⟩,.str ⟨2,28014,[]⟩]
def br3 : List (Nat × (Int × Int)) := [m0 6,m0 4,m0 5,m1 1,(3,(33,maxCap)),m1 0,m3 2]
def sm21_cl4 : CT := ⟨[nf658,nf659,nf660,nf657],[(0,o0),(11,o854),(12,o855),(13,o856),(14,o857),(17,no876),(18,no877),(183,no878),(230,no881),(231,no881),(232,no882)],236,br3,7⟩
def nf664 : FT := ⟨220,78,4726707952979149850611,z,[(0,jP 18),(1,jI 0)],[.code []]⟩
def nf665 : FT := ⟨132,37,34477249119,z,[(3,jP 18),(24,jI 1),(25,jI 0),(29,jP 18),(30,jI 0)],[.ops [y,y,y,z,y,z,z,y,y,z,z,y,z] 2,.code [y,y,y,z,y,z,z,y,y,z,z,y,y],.inBlock 2,.code [y,y,y,z,y,z,z,y,y,y],.inLoop [y,y,y,z,y,z,z],.inBlock 1,.code [y,y,y,y]]⟩
def br4 : List (Nat × (Int × Int)) := [m0 4,m0 5,m0 6,m1 0,m1 1,m3 2,(3,(33,maxCap))]
def sm21_ca6 : CT := ⟨[nf664,nf665],[(0,o0),(11,o854),(12,o855),(13,o856),(14,o857),(17,no876),(18,no877)],520,br4,7⟩
def nf669 : FT := ⟨356,73,2312747942236127347,z,[(0,jP 519),(1,jI 27)],[.code []]⟩
def nf670 : FT := ⟨220,78,4726707952979149850611,z,[(7,jP 519),(51,jP 519),(52,jI 27)],t35d⟩
def no885 : AObj := jA true (List.flatten [pN 535 10,pN 557 13,pN 579 16,pN 601 19,pS 630 24 627 23,pN 670 30,pS 728 40 725 39,pS 806 49 803 48,pN 871 58,pS 928 65 925 64,pN 968 71,pS 1026 81 1023 80,[jT],[.sl 1097 0 2 4 (.var 92 0)],[s3 1091 90],pS 1181 103 1178 102,pS 1258 115 1255 114,pN 1349 125,pS 1420 135 1417 134,pF,pF,pF,pF,pN 960 69,pS 997 76 994 75,pN 1062 85,pS 1126 97 1123 96,[jT],[.sl 1216 0 2 4 (.var 110 0)],[s3 1210 108],pS 1313 121 1310 120,pS 1391 130 1388 129,pF,pN 662 28,pS 699 35 696 34,pN 764 44,pS 835 54 832 53])
def no886 : AObj := jA true [jP 18,jI 0,.sl 518 0 33 3 (.lit 33),.sl 1422 1 1 1 (.var 136 (-1))]
def no887 : AObj := jA true [jI (-1),jI (-1),jI (-1)]
def no888 : AObj := jA true [jI 0,jI (-1),jI (-1)]
def no889 : AObj := jA true [jI 0,jI 0,jI (-1)]
def no890 : AObj := jA true [jI 0,jI 0,jI 0]
def no891 : AObj := jA true [jF,.nilSl,jF,jI 64]
def no892 : AObj := jA true [jF,.nilSl,jF,jI 1]
def no893 : AObj := jA true [jF,.nilSl,jF,jI 64,jF,.nilSl,jF,jI 64]
def no894 : AObj := jA true [jI 27,jI 16]
def br5 : List (Nat × (Int × Int)) := [(136,(2,maxCap)),(92,(2,maxCap)),(110,(2,maxCap)),(3,(33,maxCap))] ++ [4,5,6].map m0 ++ [0,1,24,40,49,65,81,103,115,135,76,97,121,130,35,54].map m1 ++ [10,13,16,19,23,30,39,48,58,64,71,80,90,102,114,125,134,69,75,85,96,108,120,129,28,34,44,53,2].map m3
def sm21_ca8 : CT := ⟨[nf669,nf670,nf665],[(0,o0),(11,o854),(12,o855),(13,o856),(14,o857),(17,no876),(18,no877),(518,no885),(519,no886),(535,no887),(557,no888),(579,no889),(1422,no894)] ++ zp no890 [601,627,662,670,696,725,764,803,832,871,925,960,968,994,1023,1062,1091,1123,1178,1210,1255,1310,1349,1388,1417] ++ zp no891 [630,728,835,928,1026,1126,1181,1313,1420] ++ zp no892 [699,806,997,1258,1391] ++ zp no893 [1097,1216],1426,br5,137⟩
def nf671 : FT := ⟨351,44,251,z,[(0,jP 18),(1,.agg [jB 4,jI 0,jI 0,jI 0,jI 0])],[.code []]⟩
def nf672 : FT := ⟨218,74,4724672855710328358077,z,[(0,jP 18),(4,jI 0),(5,jP 183),(7,jP 461),(37,.sl 12 0 1 5 (.var 1 0)),(38,jI 1),(39,jI 0),(45,.sl 14 0 33 5 (.var 3 0)),(46,jI 33),(47,jI 27),(51,jP 18),(52,.agg [jB 4,jI 0,jI 0,jI 0,jI 0])],t32d⟩
def no895 : AObj := jA true [jB 4,jI 0,jI 0,jI 0,jI 0]
def br6 : List (Nat × (Int × Int)) := [m0 4,m0 5,(6,(1,63)),m1 1,(3,(33,maxCap)),m1 0,m3 2]
def sm21_ca9 : CT := ⟨[nf671,nf672,nf657],[(0,o0),(11,o854),(12,o855),(13,o856),(14,o857),(17,no876),(18,no877),(183,no878),(461,no895)],465,br6,7⟩
def nf675 : FT := ⟨356,73,2312747942236127347,z,[(0,jP 521),(1,jI 14)],[.code []]⟩
def nf676 : FT := ⟨220,78,4726707952979149850611,z,[(7,jP 521),(51,jP 521),(52,jI 14)],t35d⟩
def no899 : AObj := jA true (List.flatten [pN 537 10,pN 559 13,pN 581 16,pN 603 19,pS 632 24 629 23,pN 672 30,pS 730 40 727 39,pS 808 49 805 48,pN 873 58,pS 930 65 927 64,pN 970 71,pS 1028 81 1025 80,[jT],[.sl 1099 0 2 4 (.var 92 0)],[s3 1093 90],pS 1183 103 1180 102,pS 1260 115 1257 114,pF,pF,pF,pF,pF,pF,pN 962 69,pS 999 76 996 75,pN 1064 85,pS 1128 97 1125 96,[jT],[.sl 1218 0 2 4 (.var 110 0)],[s3 1212 108],pS 1315 121 1312 120,pF,pF,pN 664 28,pS 701 35 698 34,pN 766 44,pS 837 54 834 53])
def no900 : AObj := jA true [jP 18,jI 0,.sl 520 0 33 3 (.lit 33),.sl 1317 1 1 1 (.var 122 (-1))]
def no901 : AObj := jA true [jI 14,jI 26]
def br7 : List (Nat × (Int × Int)) := [(6,(1,63)),(122,(2,maxCap)),(92,(2,maxCap)),(110,(2,maxCap)),(3,(33,maxCap))] ++ [4,5].map m0 ++ [0,1,24,40,49,65,81,103,115,76,97,121,35,54].map m1 ++ [10,13,16,19,23,30,39,48,58,64,71,80,90,102,114,69,75,85,96,108,120,28,34,44,53,2].map m3
def sm21_ca11 : CT := ⟨[nf675,nf676,nf665],[(0,o0),(11,o854),(12,o855),(13,o856),(14,o857),(17,no876),(18,no877),(520,no899),(521,no900),(537,no887),(559,no888),(581,no889),(1317,no901)] ++ zp no890 [603,629,664,672,698,727,766,805,834,873,927,962,970,996,1025,1064,1093,1125,1180,1212,1257,1312] ++ zp no891 [632,730,837,930,1028,1128,1183,1315] ++ zp no892 [701,808,999,1260] ++ zp no893 [1099,1218],1321,br7,123⟩
def tb21 : Nat → CT
 | 0 => sm21_cl1
 | 1 => sm21_cl2
 | 2 => sm21_cl4
 | 3 => sm21_ca6
 | 4 => sm21_ca8
 | 5 => sm21_ca9
 | _ => sm21_ca11
abbrev Q21 (D : CT) (t : Nd) : Prop := ndD Go.Proofs.Tryz.prog (sumL baseS [sm14, sm14, sm14]) sm21 tb21 D t = true
theorem a_sm21 : fstB Go.Proofs.Tryz.prog (sumL baseS [sm14, sm14, sm14]) sm21 4311 sm21_cl1 = true := by decide +kernel
theorem a_sm21_cl1 : Q21 sm21_cl1 (.F 8 (.L 902 1) (.F 330 (.L 711 1) (.L 711 1))) := by decide +kernel
theorem a_sm21_cl2 : Q21 sm21_cl2 (.F 8 (.L 1217 2) (.F 330 (.L 1026 2) (.L 1026 2))) := by decide +kernel
theorem a_sm21_cl4 : Q21 sm21_cl4 (.F 8 (.L 13745 3) (.F 366 (.L 13439 3) (.L 10450 5))) := by decide +kernel
theorem a_sm21_ca6 : Q21 sm21_ca6 (.L 23757 4) := by decide +kernel
theorem a_sm21_ca8 : Q21 sm21_ca8 (.Z 40000) := by decide +kernel
theorem a_sm21_ca9 : Q21 sm21_ca9 (.L 23988 6) := by decide +kernel
theorem a_sm21_ca11 : Q21 sm21_ca11 (.Z 40000) := by decide +kernel
end Sx
