import Derived.Test.YtadfnlnkgnfckaaGreatDoorC0
import Derived.Test.YtadfnlnkgnfckaaGreatDoorC1
import Derived.Test.YtadfnlnkgnfckaaGreatDoorC2
import Derived.Test.YtadfnlnkgnfckaaGreatDoorC3
import Derived.Test.YtadfnlnkgnfckaaGreatDoorC4
import Derived.Test.YtadfnlnkgnfckaaGreatDoorC5
import Derived.Test.YtadfnlnkgnfckaaGreatDoorC6
import Derived.Test.YtadfnlnkgnfckaaGreatDoorC7
import Derived.Test.YtadfnlnkgnfckaaGreatDoorC8
import Derived.Test.YtadfnlnkgnfckaaGreatDoorC9
import Derived.Test.YtadfnlnkgnfckaaGreatDoorCa
import Derived.Test.YtadfnlnkgnfckaaGreatDoorCb
import Derived.Test.YtadfnlnkgnfckaaGreatDoorCc
import Derived.Test.YtadfnlnkgnfckaaGreatDoorCd
import Derived.Test.YtadfnlnkgnfckaaGreatDoorCe
import Derived.Test.YtadfnlnkgnfckaaGreatDoorCf
import Derived.Test.YtadfnlnkgnfckaaGreatDoorCg
import Derived.Test.YtadfnlnkgnfckaaGreatDoorCh
import Derived.Test.YtadfnlnkgnfckaaGreatDoorCi
import Derived.Test.YtadfnlnkgnfckaaGreatDoorCj
import Derived.Test.YtadfnlnkgnfckaaGreatDoorCk
import Derived.Test.YtadfnlnkgnfckaaGreatDoorS0
import Derived.Test.YtadfnlnkgnfckaaGreatDoorS1
import Derived.Test.YtadfnlnkgnfckaaGreatDoorS2
import Derived.Test.YtadfnlnkgnfckaaGreatDoorS3
import Derived.KernelRfl
set_option maxRecDepth 100000
noncomputable section
namespace Sx
open Go Go.Proofs
theorem goodP : Good Tryz.prog := goodB_sound types_ok funcs_ok
theorem goodC : GoodC Tryz.prog := goodC_sound funcs_ok
abbrev RR (S : Summ) : Prop := SumsOk Tryz.prog (sumF S)
def Rs : List Summ → Prop
 | [] => True
 | S :: l => RR S ∧ Rs l
theorem rs {l : List Summ} (h : Rs l) : SumsOk Tryz.prog (sumL baseS l) := by
 induction l with
 | nil => exact base_ok goodP
 | cons a l ih => exact sumOr_ok h.1 (ih h.2)
theorem rk {u : Sums} {S : Summ} (hu : SumsOk Tryz.prog u) (h : S.ok Tryz.prog u = true) : RR S := sumF_ok goodP goodC ⟨u, hu, h⟩
theorem nd {u : Sums} {S : Summ} {T : Nat → CT} {D : CT} {t : Nd} (hu : SumsOk Tryz.prog u) (h : ndD Tryz.prog u S T D t = true) (k : ndMs Tryz.prog S T t) : SEnds Tryz.prog S D := ndD_ends goodP goodC hu h k
theorem nf {u : Sums} {S : Summ} {n : Nat} {D : CT} (hn : S.ents = none) (hu : SumsOk Tryz.prog u) (h : fstB Tryz.prog u S n D = true) (k : SEnds Tryz.prog S D) : RR S := sumF_okR goodP goodC hn (sumR_fst goodP goodC hu h k)
theorem uN : SumsOk Tryz.prog (sumL baseS []) := rs (l := []) trivial
theorem g_sm0 : RR sm0 := rk uN s_sm0
theorem u0 : SumsOk Tryz.prog (sumL baseS [sm0]) := rs (l := [sm0]) ⟨g_sm0, trivial⟩
theorem g_sm1 : RR sm1 := rk u0 s_sm1
theorem u1 : SumsOk Tryz.prog (sumL baseS [sm1]) := rs (l := [sm1]) ⟨g_sm1, trivial⟩
theorem g_sm2 : RR sm2 := rk uN s_sm2
theorem g_sm3 : RR sm3 := rk uN s_sm3
theorem g_sm8 : RR sm8 := rk uN s_sm8
theorem g_sm14 : RR sm14 := rk uN s_sm14
theorem g_sm17 : RR sm17 := rk u1 s_sm17
theorem g_sm18 : RR sm18 := rk u1 s_sm18
theorem g_sm19 : RR sm19 := rk u1 s_sm19
theorem g_sm20 : RR sm20 := rk u0 s_sm20
theorem uq : SumsOk Tryz.prog (sumL baseS [sm14, sm14, sm14]) := rs (l := [sm14, sm14, sm14]) ⟨g_sm14, g_sm14, g_sm14, trivial⟩
theorem g_sm4 : RR sm4 := nf rfl u1 a_sm4 (nd u1 a_sm4_ca2 trivial)
theorem g_sm5 : RR sm5 := nf rfl u1 a_sm5 (nd u1 a_sm5_ca2 trivial)
theorem g_sm6 : RR sm6 := nf rfl u1 a_sm6 (nd u1 a_sm6_ca2 trivial)
theorem g_sm7 : RR sm7 := nf rfl u1 a_sm7 (nd u1 a_sm7_ca2 trivial)
theorem g_sm16 : RR sm16 := nf rfl u1 a_sm16 (nd u1 a_sm16_ca1 trivial)
theorem b_ca11 : SEnds Tryz.prog sm21 sm21_ca11 := nd uq a_sm21_ca11 trivial
theorem b_ca9 : SEnds Tryz.prog sm21 sm21_ca9 := nd uq a_sm21_ca9 b_ca11
theorem b_ca8 : SEnds Tryz.prog sm21 sm21_ca8 := nd uq a_sm21_ca8 trivial
theorem b_ca6 : SEnds Tryz.prog sm21 sm21_ca6 := nd uq a_sm21_ca6 b_ca8
theorem b_cl4 : SEnds Tryz.prog sm21 sm21_cl4 := nd uq a_sm21_cl4 ⟨b_ca6, b_ca6, b_ca9⟩
theorem b_cl2 : SEnds Tryz.prog sm21 sm21_cl2 := nd uq a_sm21_cl2 ⟨b_cl4, b_cl4, b_cl4⟩
theorem b_cl1 : SEnds Tryz.prog sm21 sm21_cl1 := nd uq a_sm21_cl1 ⟨b_cl2, b_cl2, b_cl2⟩
theorem g_sm21 : RR sm21 := nf rfl uq a_sm21 b_cl1
theorem allS_ok : SumsOk Tryz.prog allS := rs (l := [sm0, sm1, sm2, sm3, sm4, sm5, sm6, sm7, sm8, sm14, sm16, sm17, sm18, sm19, sm20, sm21]) ⟨g_sm0, g_sm1, g_sm2, g_sm3, g_sm4, g_sm5, g_sm6, g_sm7, g_sm8, g_sm14, g_sm16, g_sm17, g_sm18, g_sm19, g_sm20, g_sm21, trivial⟩
abbrev QQ (K : Ct) : Prop := OkT Tryz.prog tab K ∨ OkS tab K
abbrev A (t : Tree Ct) : Prop := TAll QQ t
theorem o : A .leaf := trivial
theorem n {g : Nat} {K : Ct} {t : Nd} {a b : Tree Ct} (h : Ck g K t) (x : A a) (y : A b) : A (.node a (some K) b) := ⟨.inl ⟨allS, g, t, allS_ok, h⟩, x, y⟩
theorem m {K : Ct} {a b : Tree Ct} (h : OkS tab K) (x : A a) (y : A b) : A (.node a (some K) b) := ⟨.inr h, x, y⟩
theorem l {g : Nat} {K : Ct} {t : Nd} (h : Ck g K t) : A (.node .leaf (some K) .leaf) := n h o o
theorem tab_ok : A tab := n t0 (n t1 (n t3 (n t7 (n t15 (n t31 (n t63 (n t127 (l t255) o) (n t191 (l t319) o)) (n t95 (n t159 (l t287) o) (n t223 (l t351) o))) (n t47 (n t79 (n t143 (l t271) o) (n t207 (l t335) o)) (n t111 (n t175 (l t303) o) (n t239 (l t367) o)))) (n t23 (n t39 (n t71 (n t135 (l t263) o) (n t199 (l t327) o)) (n t103 (n t167 (l t295) o) (n t231 (l t359) o))) (n t55 (n t87 (n t151 (l t279) o) (n t215 (l t343) o)) (n t119 (n t183 (l t311) o) (n t247 (l t375) o))))) (n t11 (n t19 (m sp35 (n t67 (n t131 (l t259) o) (n t195 (l t323) o)) (n t99 (n t163 (l t291) o) (n t227 (l t355) o))) (n t51 (n t83 (n t147 (l t275) o) (n t211 (l t339) o)) (n t115 (n t179 (l t307) o) (n t243 (l t371) o)))) (n t27 (n t43 (n t75 (n t139 (l t267) o) (n t203 (l t331) o)) (n t107 (n t171 (l t299) o) (n t235 (l t363) o))) (n t59 (n t91 (n t155 (l t283) o) (n t219 (l t347) o)) (n t123 (n t187 (l t315) o) (n t251 (l t379) o)))))) (n t5 (n t9 (n t17 (n t33 (n t65 (n t129 (l t257) o) (n t193 (l t321) o)) (n t97 (n t161 (l t289) o) (n t225 (l t353) o))) (n t49 (n t81 (n t145 (l t273) o) (n t209 (l t337) o)) (n t113 (n t177 (l t305) o) (n t241 (l t369) o)))) (m sp25 (n t41 (n t73 (n t137 (l t265) o) (n t201 (l t329) o)) (n t105 (n t169 (l t297) o) (n t233 (l t361) o))) (n t57 (n t89 (n t153 (l t281) o) (n t217 (l t345) o)) (n t121 (n t185 (l t313) o) (n t249 (l t377) o))))) (n t13 (n t21 (n t37 (n t69 (n t133 (l t261) o) (n t197 (l t325) o)) (n t101 (n t165 (l t293) o) (n t229 (l t357) o))) (n t53 (n t85 (n t149 (l t277) o) (n t213 (l t341) o)) (n t117 (n t181 (l t309) o) (n t245 (l t373) o)))) (n t29 (n t45 (n t77 (n t141 (l t269) o) (n t205 (l t333) o)) (n t109 (n t173 (l t301) o) (n t237 (l t365) o))) (n t61 (n t93 (n t157 (l t285) o) (n t221 (l t349) o)) (n t125 (n t189 (l t317) o) (l t253))))))) (n t2 (n t4 (n t8 (n t16 (n t32 (n t64 (n t128 (l t256) o) (n t192 (l t320) o)) (n t96 (n t160 (l t288) o) (n t224 (l t352) o))) (n t48 (n t80 (n t144 (l t272) o) (n t208 (l t336) o)) (n t112 (n t176 (l t304) o) (n t240 (l t368) o)))) (n t24 (n t40 (n t72 (n t136 (l t264) o) (n t200 (l t328) o)) (n t104 (n t168 (l t296) o) (n t232 (l t360) o))) (n t56 (n t88 (n t152 (l t280) o) (n t216 (l t344) o)) (n t120 (n t184 (l t312) o) (n t248 (l t376) o))))) (n t12 (n t20 (n t36 (n t68 (n t132 (l t260) o) (n t196 (l t324) o)) (n t100 (n t164 (l t292) o) (n t228 (l t356) o))) (n t52 (n t84 (n t148 (l t276) o) (n t212 (l t340) o)) (n t116 (n t180 (l t308) o) (n t244 (l t372) o)))) (n t28 (n t44 (n t76 (n t140 (l t268) o) (n t204 (l t332) o)) (n t108 (n t172 (l t300) o) (n t236 (l t364) o))) (n t60 (n t92 (n t156 (l t284) o) (n t220 (l t348) o)) (n t124 (n t188 (l t316) o) (n t252 (l t380) o)))))) (n t6 (n t10 (n t18 (n t34 (n t66 (n t130 (l t258) o) (n t194 (l t322) o)) (n t98 (n t162 (l t290) o) (n t226 (l t354) o))) (n t50 (n t82 (n t146 (l t274) o) (n t210 (l t338) o)) (n t114 (n t178 (l t306) o) (n t242 (l t370) o)))) (n t26 (n t42 (n t74 (n t138 (l t266) o) (n t202 (l t330) o)) (n t106 (n t170 (l t298) o) (n t234 (l t362) o))) (n t58 (n t90 (n t154 (l t282) o) (n t218 (l t346) o)) (n t122 (n t186 (l t314) o) (n t250 (l t378) o))))) (n t14 (n t22 (n t38 (n t70 (n t134 (l t262) o) (n t198 (l t326) o)) (n t102 (n t166 (l t294) o) (n t230 (l t358) o))) (n t54 (n t86 (n t150 (l t278) o) (n t214 (l t342) o)) (n t118 (n t182 (l t310) o) (n t246 (l t374) o)))) (n t30 (m sp46 (n t78 (n t142 (l t270) o) (n t206 (l t334) o)) (n t110 (n t174 (l t302) o) (n t238 (l t366) o))) (n t62 (n t94 (n t158 (l t286) o) (n t222 (l t350) o)) (n t126 (n t190 (l t318) o) (l t254)))))))
theorem wins_of (k n : Nat) : WinsB Tryz.prog (tabO tab k) n := all_wins goodP goodC tab_ok _ n _ k rfl rfl
theorem w_S0 : Wins Tryz.prog S0 (JI fun y => k337.I.holds y ∧ evP y k337.M ≤ ((0 : Nat) : Int)) := wins_of 337 0
theorem w_S1 : Wins Tryz.prog S1 (JI fun y => k338.I.holds y ∧ evP y k338.M ≤ ((0 : Nat) : Int)) := wins_of 338 0
theorem w_S2 : Wins Tryz.prog S2 (JI fun y => k339.I.holds y ∧ evP y k339.M ≤ ((0 : Nat) : Int)) := wins_of 339 0
theorem w_S3 : Wins Tryz.prog S3 (JI fun y => k340.I.holds y ∧ evP y k340.M ≤ ((0 : Nat) : Int)) := wins_of 340 0
def ascZ : List Int := [0, 0, 0, 0, 0, 0, 0, 0, 0, 1, 1, 1, 1, 1, 0, 0, 0, 0, 0, 0, 0, 0, 0, 0, 0, 0, 0, 0, 0, 0, 0, 0, 1] ++ List.replicate 223 0
def s0O : List (Nat × AObj) := [(0, .cells (Tree.ofList ((ascZ.map SI.lit).map fun x => AV.int .u8 x)) (lenL ((ascZ.map SI.lit).map fun x => AV.int .u8 x)) false),
 (11, .cells (Tree.ofList (([.var 0 0, .var 1 0, .var 2 0, .var 3 0] : List SI).map fun x => AV.int .i64 x)) (lenL (([.var 0 0, .var 1 0, .var 2 0, .var 3 0] : List SI).map fun x => AV.int .i64 x)) false)]
def s0B : List (Nat × (Int × Int)) := [(0, -9223372036854775808, 9223372036854775807), (1, -9223372036854775808, 9223372036854775807), (2, -9223372036854775808, 9223372036854775807), (3, -9223372036854775808, 9223372036854775807), (4, 4, 9223372036854775807)]
theorem S0_s : S0.s = ⟨assocT s0O, 12, ⟨assocT s0B, 5, []⟩⟩ := by kernel_rfl
theorem S1_s : S1.s = ⟨assocT [], 12, ⟨assocT [(0, 0, 3), (1, 0, 9223372036854775807)], 2, []⟩⟩ := by kernel_rfl
theorem S2_s : S2.s = ⟨assocT [], 12, ⟨assocT [(0, 5, 9223372036854775807), (1, 5, 9223372036854775807)], 2, []⟩⟩ := by kernel_rfl
theorem S3_s : S3.s = ⟨assocT [], 12, ⟨assocT [], 0, []⟩⟩ := by kernel_rfl
theorem st0 : startB Tryz.prog 3 (.sl 11 0 4 1 (.var 4 0)) S0 [(0, 0), (11, 11)] [(0, .var 0 0), (1, .var 1 0), (2, .var 2 0), (3, .var 3 0), (4, .var 4 0)] = true := by decide +kernel
theorem st1 : startB Tryz.prog 3 (.bsl 11 1 (.var 0 0) (.var 1 0)) S1 [(0, 0), (11, 11)] [(0, .var 0 0), (1, .var 1 0)] = true := by decide +kernel
theorem st2 : startB Tryz.prog 3 (.bsl 11 1 (.var 0 0) (.var 1 0)) S2 [(0, 0), (11, 11)] [(0, .var 0 0), (1, .var 1 0)] = true := by decide +kernel
theorem st3 : startB Tryz.prog 3 .nilSl S3 [(0, 0)] [] = true := by decide +kernel
abbrev Law (W : World) (x : Value) : Prop := Calls Tryz.prog 3 #[x] W fun e W' => e = .returned (.bool true) ∧ Go.RowKit.Below W.heap.size W W'
theorem noObj {b base own : Nat} {ρ : Nat → Option Int} {w : World} : ∀ i ob, (assocT ([] : List (Nat × AObj))).get i = some ob → wr ob = false ∧ (∀ b pos sz cap, ob ≠ .tailOf b pos sz cap) ∧ ((i = 0 ∧ ∃ co, w.heap[0]? = some co ∧ RO (czOf b base own ρ) ob co 0 256) ∨ (i = 11 ∧ ∃ co, w.heap[b]? = some co ∧ RO (czOf b base own ρ) ob co base own)) := by
 intro i ob h
 have := assocT_get h
 cases this
theorem e0 {y : Nat → Int} {I : Inv} {M : Po} (h : I = ⟨[], [], [], []⟩) (k : M = []) : I.holds y ∧ evP y M ≤ ((0 : Nat) : Int) := by
 subst h; subst k
 exact ⟨⟨fun _ h => (by cases h), fun _ h => (by cases h), fun _ h => (by cases h), fun _ h => (by cases h)⟩, Int.le_refl _⟩
theorem law_nil {W : World} (h0 : 0 < W.heap.size) : Law W (.slice none 0 0) := by
 refine start_calls goodP goodC w_S3 st3 (c := czOf 0 0 0 fun _ => none) ?_ .nilSl (fun _ _ _ => e0 rfl rfl)
 rw [S3_s]
 exact heap_of h0 h0 noObj (fun v lo hi h => by have := assocT_get h; cases this) (fun _ _ => rfl)
theorem law_other {W : World} {b off len cap : Nat} (h0 : 0 < W.heap.size) (hb : b < W.heap.size) (hl : len ≤ cap) (hcap : (cap : Int) ≤ 9223372036854775807) (hne : len ≠ 4) : Law W (.slice (some ⟨b, off, none⟩) len cap) := by
 have hρ : ∀ v, 2 ≤ v → (fun v : Nat => if v = 0 then some (len : Int) else if v = 1 then some (cap : Int) else none) v = none := by
  intro v hv
  show (if v = 0 then _ else _) = none
  rw [if_neg (by omega), if_neg (by omega)]
 have hx : RV (czOf b off cap fun v => if v = 0 then some (len : Int) else if v = 1 then some (cap : Int) else none) (.bsl 11 1 (.var 0 0) (.var 1 0)) (.slice (some ⟨b, off, none⟩) len cap) :=
  .bsl 11 1 _ _ b off cap len cap rfl (by simp [SI.val, czOf]) (by simp [SI.val, czOf]) hl (by omega)
 by_cases h : len ≤ 3
 rotate_left
 refine start_calls goodP goodC w_S2 st2 ?_ hx fun _ _ _ => e0 rfl rfl
 rw [S2_s]
 rotate_left
 refine start_calls goodP goodC w_S1 st1 ?_ hx fun _ _ _ => e0 rfl rfl
 rw [S1_s]
 all_goals
  refine heap_of h0 hb noObj (fun v lo hi hv => ?_) hρ
  have := assocT_get hv
  simp only [List.mem_cons, List.mem_nil_iff, or_false, Prod.mk.injEq] at this
  rcases this with ⟨rfl, rfl, rfl⟩ | ⟨rfl, rfl, rfl⟩
  ·exact ⟨len, rfl, by omega, by omega⟩
  ·exact ⟨cap, rfl, by omega, by omega⟩
theorem law_four {W : World} {b off cap : Nat} {zs : List Int} (hA : ∀ i, i < 256 → W.cell? ⟨0, i, none⟩ = some (.int .u8 (ascZ.getD i 0))) (hl : 4 ≤ cap) (hcap : (cap : Int) ≤ 9223372036854775807)
  (hz : ∀ i, i < cap → W.cell? ⟨b, off + i, none⟩ = some (.int .i64 (zs.getD i 0))) (hw : ∀ i, i < 4 → -9223372036854775808 ≤ zs.getD i 0 ∧ zs.getD i 0 ≤ 9223372036854775807) : Law W (.slice (some ⟨b, off, none⟩) 4 cap) := by
 obtain ⟨cs0, el0, fr0, a1, a2, a3⟩ := cells_at (w := W) (b := 0) (off := 0) (n := 256) (f := fun i => .int .u8 (ascZ.getD i 0)) (by omega) (fun i hi => by rw [Nat.zero_add]; exact hA i hi)
 obtain ⟨cs1, el1, fr1, b1, b2, b3⟩ := cells_at (w := W) (b := b) (off := off) (n := cap) (f := fun i => .int .i64 (zs.getD i 0)) (by omega) hz
 have lt_of : ∀ {b : Nat} {o : Obj}, W.heap[b]? = some o → b < W.heap.size := fun h => (Array.getElem?_eq_some_iff.1 h).1
 let ρ : Nat → Option Int := fun v => if v < 4 then some (zs.getD v 0) else if v = 4 then some (cap : Int) else none
 have hx : RV (czOf b off cap ρ) (.sl 11 0 4 1 (.var 4 0)) (.slice (some ⟨b, off, none⟩) 4 cap) := by
  have := RV.sl (c := czOf b off cap ρ) 11 0 4 1 (.var 4 0) b off cap cap rfl (by simp [SI.val, czOf, ρ]) hl (by omega)
  simpa using this
 refine start_calls goodP goodC w_S0 st0 ?_ hx (fun _ _ _ => e0 rfl rfl)
 rw [S0_s]
 refine heap_of (lt_of a1) (lt_of b1) (fun i ob hi => ?_) (fun v lo hi hv => ?_) (fun v hv => ?_)
 ·have := assocT_get hi
  simp only [s0O, List.mem_cons, List.mem_nil_iff, or_false, Prod.mk.injEq] at this
  rcases this with ⟨rfl, rfl⟩ | ⟨rfl, rfl⟩
  ·refine ⟨rfl, by intros; simp, .inl ⟨rfl, _, a1, ro_ints (f := fun i => ascZ.getD i 0) (by decide) (by omega) fun i x hx => ?_⟩⟩
   rw [List.getElem?_map] at hx
   cases hi2 : ascZ[i]? with
   | none => rw [hi2] at hx; cases hx
   | some z =>
    rw [hi2] at hx
    cases hx
    have hlt : i < 256 := by
     have := (List.getElem?_eq_some_iff.1 hi2).1
     have h256 : ascZ.length = 256 := by decide
     omega
    exact ⟨by rw [getD_some hi2]; rfl, a3 i hlt⟩
  ·refine ⟨rfl, by intros; simp, .inr ⟨rfl, _, b1, ro_ints (f := fun i => zs.getD i 0) (by simpa using hl) (by omega) fun i x hx => ?_⟩⟩
   match i, hx with
   | 0, hx => cases hx; exact ⟨by simp [SI.val, czOf, ρ], b3 0 (by omega)⟩
   | 1, hx => cases hx; exact ⟨by simp [SI.val, czOf, ρ], b3 1 (by omega)⟩
   | 2, hx => cases hx; exact ⟨by simp [SI.val, czOf, ρ], b3 2 (by omega)⟩
   | 3, hx => cases hx; exact ⟨by simp [SI.val, czOf, ρ], b3 3 (by omega)⟩
   | n + 4, hx => simp at hx
 ·have := assocT_get hv
  simp only [s0B, List.mem_cons, List.mem_nil_iff, or_false, Prod.mk.injEq] at this
  rcases this with ⟨rfl, rfl, rfl⟩ | ⟨rfl, rfl, rfl⟩ | ⟨rfl, rfl, rfl⟩ | ⟨rfl, rfl, rfl⟩ | ⟨rfl, rfl, rfl⟩
  ·exact ⟨_, rfl, hw 0 (by omega)⟩
  ·exact ⟨_, rfl, hw 1 (by omega)⟩
  ·exact ⟨_, rfl, hw 2 (by omega)⟩
  ·exact ⟨_, rfl, hw 3 (by omega)⟩
  ·exact ⟨cap, rfl, by omega, by omega⟩
 ·show (if v < 4 then _ else _) = none
  rw [if_neg (by omega), if_neg (by omega)]
end Sx
