import Derived.Test.YtadfnlnkgnfckaaGreatDoorEA2
import Derived.Below
import Derived.Laws.Externs
import Derived.Laws.IdiomRangeMap
import Derived.LoopN
import Derived.LoopTactic
import Derived.Scope
import Derived.Tactics
import Derived.Tactics2
import Derived.Test.YtadfnlnkgnfckaaGreatDoorProg
import Derived.WalkKit
set_option linter.unusedVariables false
set_option linter.unusedSimpArgs false
noncomputable section
namespace Sx
open Go
variable {K : Kp} {c d : Cz} {s : AS} {w w' : World}
theorem idxArgs_eq {l : List AV} {p : Str × Int} (h : idxArgs l = some p) : l = [.str p.1, .int .u8 (.lit p.2)] := by
 cases l with
 | nil => cases h
 | cons a l =>
  cases a <;> try (cases h; done)
  rename_i t
  cases l with
  | nil => cases h
  | cons b m =>
   cases b <;> try (cases h; done)
   rename_i k x
   cases x <;> try (cases h; done)
   rename_i q
   obtain ⟨h1, h2⟩ := oif_eq (show oif (kEq k .u8 && isNil m) (some (t, q)) = some p from h)
   cases h2
   rw [Bool.and_eq_true] at h1
   have := (isNil_iff _).1 h1.2
   subst this
   rw [(kEq_iff _ _).1 h1.1]
theorem idxGo_sound {vs : VS} (hv : RVars c vs) {t : Str} {b : ByteArray} (hb : RStr c.ρ t b.data.toList) {q : Int} (h0 : 0 <= q) (h1 : q <= 255) : ∀ (n i : Nat) {r : Int}, i + n = t.len -> idxGo vs t q n i = some r ->
  r = (match (List.range' i n).find? fun i => b[i]! == q.toNat.toUInt8 with | some i => (i : Int) | none => -1) := by
 intro n
 induction n with
 | zero => intro i r _ h; cases h; rfl
 | succ n ih =>
  intro i r hi h
  have hlt : i < b.data.toList.length := by rw [hb.len]; omega
  have hget := List.getElem?_eq_getElem hlt
  have hbyte := hb.byte _ _ hget
  have hbang : b[i]! = b.data.toList[i] := by
   have hsz : i < b.size := by simpa using hlt
   rw [getElem!_pos b i hsz]; rfl
  have hle := (b.data.toList[i]).toNat_lt
  have hq : q.toNat.toUInt8.toNat = q.toNat := by
   rw [Nat.toUInt8, UInt8.toNat_ofNat']; omega
  change (match eqC vs (t.at i) (.lit q) with | some b => cnd b (some (.ofNat i)) (idxGo vs t q n (Nat.succ i)) | none => none) = some r at h
  cases he : eqC vs (t.at i) (.lit q) with
  | none => rw [he] at h; cases h
  | some y =>
   rw [he] at h
   have hy := eqC_sound hv hbyte (show (SI.lit q).val c.ρ = some q from rfl) he
   rw [List.range'_succ, List.find?_cons, hbang]
   cases y with
   | true =>
    have : (b.data.toList[i] == q.toNat.toUInt8) = true := by
     have h2 : ((b.data.toList[i]).toNat : Int) = q := by simpa using hy.symm
     rw [beq_iff_eq]
     apply UInt8.toNat_inj.1
     rw [hq]; omega
    rw [this]
    cases h; rfl
   | false =>
    have : (b.data.toList[i] == q.toNat.toUInt8) = false := by
     have h2 : ¬ ((b.data.toList[i]).toNat : Int) = q := by simpa using hy.symm
     rw [beq_eq_false_iff_ne]
     intro e
     apply h2
     rw [e, hq]; omega
    rw [this]
    exact ih (Nat.succ i) (by omega) h
theorem idx_ok : SumsOk Go.Proofs.Tryz.prog (fun f args s => cnd (Nat.beq f 283) (idxSum f args s) none) := by
 intro f args s v s' h K c w xs hr ha
 simp only [cnd_eq] at h
 by_cases e : Nat.beq f 283 = true
 case neg => rw [if_neg e] at h; cases h
 rw [if_pos e] at h
 have e := Nat.eq_of_beq_eq_true e
 subst e
 obtain ⟨p, h1, h⟩ := oo_eq (show oo (idxArgs args) (fun p => oif (ile 0 p.2 && ile p.2 255) (oo (idxGo s.vs p.1 p.2 p.1.len 0) fun i => some (AV.int .i64 (.lit i), s))) = some (v, s') from h)
 obtain ⟨h2, h⟩ := oif_eq h
 obtain ⟨i, h3, h⟩ := oo_eq h
 cases h
 simp only [Bool.and_eq_true, ile_eq, decide_eq_true_eq] at h2
 have := idxArgs_eq h1
 subst this
 left
 have hx : ∃ b, xs = #[.string b, .int .u8 p.2] /\ RStr c.ρ p.1 b.data.toList := by
  obtain ⟨l⟩ := xs
  simp only at ha
  cases ha with
  | cons _ _ x m k1 k2 =>
   cases k2 with
   | cons _ _ y n k3 k4 =>
    cases k4
    cases k1 with
    | str _ b hb =>
     cases k3 with
     | int _ _ q hq => cases hq; exact ⟨b, rfl, hb⟩
 obtain ⟨b, rfl, hb⟩ := hx
 refine ⟨.int .i64 i, c, w, ?_, .refl c, .int _ _ _ rfl, hr, .refl w⟩
 rw [run_callFunc_extern Go.Proofs.Tryz.func283 rfl rfl (by rfl) (e := Extern.BytealgIndexByte.indexByte) (by rfl), run_indexByte_string]
 have := idxGo_sound hr.vars hb h2.1 h2.2 p.1.len 0 (by omega) h3
 rw [this]
 show Result.ok (Next.value (.int .i64 (firstIdx b p.2.toNat.toUInt8))) w = _
 unfold firstIdx
 rw [show b.size = p.1.len from by rw [<- hb.len]; simp, List.range_eq_range']
 rfl
theorem ovArgs_eq {l : List AV} {p : AV × AV} (h : ovArgs l = some p) : l = [p.1, p.2] := by
 cases l with
 | nil => cases h
 | cons a l =>
  cases l with
  | nil => cases h
  | cons b m =>
   obtain ⟨h1, h2⟩ := oif_eq (show oif (isNil m) (some (a, b)) = some p from h)
   cases h2
   rw [(isNil_iff _).1 h1]
theorem ovOne_val {a : AV} {p : Nat × Nat} {x : Value} (h : ovOne a = some p) (k : RV c a x) :
  ∃ ad n, x = .slice ad p.2 n /\ (ad = none \/ ∃ blk off, ad = some ⟨blk, off, none⟩ /\ (p.2 ≠ 0 -> ∃ base own, c.φ p.1 = some (blk, base, own) /\ base <= off /\ off + p.2 * 4 <= base + own)) := by
 cases k with
 | sl b o len sz cap blk base own n e1 e2 e3 e4 =>
  obtain ⟨hz, h⟩ := oif_eq (show oif (Nat.beq sz 4) (some (b, len)) = some p from h)
  cases h
  have hz := Nat.eq_of_beq_eq_true hz
  subst hz
  refine ⟨_, n, rfl, .inr ⟨blk, base + o, rfl, fun _ => ⟨base, own, e1, by omega, ?_⟩⟩⟩
  show base + o + len * 4 <= base + own
  omega
 | osl b pos sz cap blk base own n po e1 e2 e3 e4 e5 =>
  cases h
  exact ⟨_, n, rfl, .inr ⟨blk, po, rfl, fun e => absurd rfl e⟩⟩
 | nilSl => cases h; exact ⟨none, 0, rfl, .inl rfl⟩
 | _ => cases h
theorem ov_writes {b : Nat} (hr : RHeap K c s w) (h : isWrite s b = true) {blk base own : Nat} (hp : c.φ b = some (blk, base, own)) : ∃ t n, s.heap.get b = some (.cells t n true) /\ ∃ cs el fr, w.heap[blk]? = some (.cells cs el fr) /\ fr.2 <= fr.1 /\ base + own <= cs.size := by
 unfold isWrite at h
 cases hc : cellsAt s b with
 | none => rw [hc] at h; cases h
 | some p =>
  rw [hc] at h
  have hci := cellsAt_eq hc
  obtain ⟨cs, el, fr, g1, g2, g3⟩ := hr.cells hc hp
  have h : p.2.2 = true := h
  rw [h] at hci
  exact ⟨_, _, hci, cs, el, fr, g1, g3 h, g2.size⟩
theorem ov_ok : SumsOk Go.Proofs.Tryz.prog (fun f args s => cnd (Nat.beq f 442) (ovSum f args s) none) := by
 intro f args s v s' h K c w xs hr ha
 simp only [cnd_eq] at h
 by_cases e : Nat.beq f 442 = true
 case neg => rw [if_neg e] at h; cases h
 rw [if_pos e] at h
 have e := Nat.eq_of_beq_eq_true e
 subst e
 obtain ⟨a, h1, h⟩ := oo_eq (show oo (ovArgs args) (fun a => oo (ovOne a.1) fun p => oo (ovOne a.2) fun q => oif (Nat.beq p.2 0 || Nat.beq q.2 0 || !Nat.beq p.1 q.1 && isWrite s p.1 && isWrite s q.1) (some (AV.bool false, s))) = some (v, s') from h)
 obtain ⟨p, h2, h⟩ := oo_eq h
 obtain ⟨q, h3, h⟩ := oo_eq h
 obtain ⟨h4, h⟩ := oif_eq h
 cases h
 have := ovArgs_eq h1
 subst this
 left
 have hx : ∃ x y, xs = #[x, y] /\ RV c a.1 x /\ RV c a.2 y := by
  obtain ⟨l⟩ := xs
  simp only at ha
  cases ha with
  | cons _ _ x m k1 k2 =>
   cases k2 with
   | cons _ _ y n k3 k4 => cases k4; exact ⟨x, y, rfl, k1, k3⟩
 obtain ⟨x, y, rfl, hx, hy⟩ := hx
 refine ⟨.bool false, c, w, ?_, .refl c, .bool _, hr, .refl w⟩
 rw [run_callFunc_extern Go.Proofs.Tryz.func442 (by kernel_rfl) (by kernel_rfl) (by kernel_rfl) (e := Extern.SlicesOverlaps.overlaps #[221, 221] #[4]) (by kernel_rfl)]
 suffices hs : (Extern.SlicesOverlaps.overlaps #[221, 221] #[4] #[x, y]).run Go.Proofs.Tryz.prog w = .ok (.bool false) w by rw [hs]; rfl
 obtain ⟨ad, n, rfl, hA⟩ := ovOne_val h2 hx
 obtain ⟨bd, m, rfl, hB⟩ := ovOne_val h3 hy
 delta Extern.SlicesOverlaps.overlaps
 refine (bind_ok (s := underlying 221) (Go.Proofs.Tryz.runUnderlying221 w)).trans ?_
 refine (bind_ok (s := Go.sizeOf 84) (Go.Proofs.Tryz.sizeOf84 w)).trans ?_
 cases ad with
 | none => rfl
 | some ad =>
  cases bd with
  | none => rfl
  | some bd =>
   dsimp only
   by_cases h0 : p.2 = 0 \/ q.2 = 0
   ·rw [if_pos (by rcases h0 with h0 | h0 <;> simp [h0])]; rfl
   ·have hp0 : p.2 ≠ 0 := fun e => h0 (.inl e)
    have hq0 : q.2 ≠ 0 := fun e => h0 (.inr e)
    simp only [Bool.or_eq_true, Bool.and_eq_true, natBeq_eq, decide_eq_true_eq, hp0, hq0, false_or, Bool.not_eq_true', decide_eq_false_iff_not] at h4
    obtain ⟨⟨h5, h6⟩, h7⟩ := h4
    rcases hA with hA | ⟨blk, off, eA, hA⟩
    ·cases hA
    rcases hB with hB | ⟨blk', off', eB, hB⟩
    ·cases hB
    cases eA
    cases eB
    obtain ⟨base, own, a1, a2, a3⟩ := hA hp0
    obtain ⟨base', own', b1, b2, b3⟩ := hB hq0
    obtain ⟨t, nn, c1, cs, el, fr, c2, c3, c4⟩ := ov_writes hr h6 a1
    obtain ⟨t', nn', d1, cs', el', fr', d2, d3, d4⟩ := ov_writes hr h7 b1
    have hf : ∀ o, w.frozen? ⟨blk, o, none⟩ = false := fun o => by simp [World.frozen?, c2]; omega
    have hf' : ∀ o, w.frozen? ⟨blk', o, none⟩ = false := fun o => by simp [World.frozen?, d2]; omega
    have hs : w.shape? blk = some (el, cs.size) := by simp [World.shape?, c2]
    have hs' : w.shape? blk' = some (el', cs'.size) := by simp [World.shape?, d2]
    rw [if_neg (by simp [hp0, hq0])]
    by_cases hb : blk = blk'
    ·subst hb
     have hsep := hr.sep p.1 q.1 _ _ _ _ h5 c1 d1 a1 b1 rfl
     unfold apart at hsep
     simp only [ext, if_true] at hsep
     have : (decide (off < off' + q.2 * 4) && decide (off' < off + p.2 * 4)) = false := by
      rw [Bool.and_eq_false_iff, decide_eq_false_iff_not, decide_eq_false_iff_not]
      clear hA hB hx hy c2 d2 c1 d1
      omega
     simp [frozen, Sem.run, hf, this]
    ·have hb1 : (blk == blk') = false := by simpa using hb
     have hb2 : (blk != blk') = true := by simpa using hb
     simp [frozen, noView, viewAt, mayBeOne, stringish, shape, Sem.run, hs, hs', hf, hf', hb1, hb2]
end Sx
end
noncomputable section
namespace Sx
open Go
variable {P : Program}
end Sx
end
noncomputable section
namespace Sx
open Go
abbrev Po := List (Int × List Nat)
def evM (y : Nat -> Int) : List Nat -> Int
 | [] => 1
 | v :: l => y v * evM y l
def evP (y : Nat -> Int) : Po -> Int
 | [] => 0
 | t :: p => t.1 * evM y t.2 + evP y p
def mIns (v : Nat) : List Nat -> List Nat
 | [] => [v]
 | u :: l => cnd (Nat.ble v u) (v :: u :: l) (u :: mIns v l)
def mMul : List Nat -> List Nat -> List Nat
 | [], m => m
 | v :: l, m => mIns v (mMul l m)
def pIns (c : Int) (m : List Nat) : Po -> Po
 | [] => cnd (ieq c 0) [] [(c, m)]
 | t :: p => cnd (natsEq t.2 m) (cnd (ieq (Int.add t.1 c) 0) p ((Int.add t.1 c, m) :: p)) (t :: pIns c m p)
def pAdd : Po -> Po -> Po
 | [], q => q
 | t :: p, q => pIns t.1 t.2 (pAdd p q)
def pMulT (c : Int) (m : List Nat) : Po -> Po
 | [] => []
 | t :: p => pIns (Int.mul c t.1) (mMul m t.2) (pMulT c m p)
def pMul : Po -> Po -> Po
 | [], _ => []
 | t :: p, q => pAdd (pMulT t.1 t.2 q) (pMul p q)
def pC (n : Int) : Po := pIns n [] []
def pVar (v : Nat) : Po := [(1, [v])]
def pSub (p q : Po) : Po := pAdd p (pMulT (-1) [] q)
def siP : SI -> Po
 | .lit n => pC n
 | .var v o => pIns o [] (pVar v)
theorem cnd_ite {α : Type} (b : Bool) (x y : α) : cnd b x y = if b = true then x else y := by cases b <;> rfl
theorem evM_ins (y : Nat -> Int) (v : Nat) : ∀ l, evM y (mIns v l) = y v * evM y l := by
 intro l
 induction l with
 | nil => rfl
 | cons u l ih =>
  simp only [mIns, cnd_ite]
  split
  ·rfl
  ·simp only [evM, ih]; grind
theorem evM_mul (y : Nat -> Int) : ∀ l m, evM y (mMul l m) = evM y l * evM y m := by
 intro l
 induction l with
 | nil => intro m; simp [mMul, evM]
 | cons v l ih => intro m; simp only [mMul, evM_ins, ih, evM]; grind
theorem evP_ins (y : Nat -> Int) (c : Int) (m : List Nat) : ∀ p, evP y (pIns c m p) = c * evM y m + evP y p := by
 intro p
 induction p with
 | nil =>
  simp only [pIns, cnd_ite]
  split
  ·rename_i h
   rw [ieq_eq, decide_eq_true_eq] at h
   subst h; simp [evP]
  ·simp [evP]
 | cons t p ih =>
  simp only [pIns, cnd_ite]
  split
  ·rename_i h
   have h := natsEq_eq h
   split
   ·rename_i h2
    rw [ieq_eq, decide_eq_true_eq] at h2
    have h2 : t.1 + c = 0 := h2
    simp only [evP, h]
    have : t.1 * evM y m + c * evM y m = 0 := by rw [<- Int.add_mul, h2, Int.zero_mul]
    omega
   ·show (t.1 + c) * evM y m + evP y p = c * evM y m + (t.1 * evM y t.2 + evP y p)
    rw [h, Int.add_mul]; omega
  ·simp only [evP, ih]; omega
theorem evP_add (y : Nat -> Int) : ∀ p q, evP y (pAdd p q) = evP y p + evP y q := by
 intro p
 induction p with
 | nil => intro q; simp [pAdd, evP]
 | cons t p ih => intro q; simp only [pAdd, evP_ins, ih, evP]; omega
theorem evP_mulT (y : Nat -> Int) (c : Int) (m : List Nat) : ∀ p, evP y (pMulT c m p) = c * evM y m * evP y p := by
 intro p
 induction p with
 | nil => simp [pMulT, evP]
 | cons t p ih =>
  simp only [pMulT, evP_ins, ih, evP, evM_mul]
  show c * t.1 * (evM y m * evM y t.2) + _ = _
  grind
theorem evP_mul (y : Nat -> Int) : ∀ p q, evP y (pMul p q) = evP y p * evP y q := by
 intro p
 induction p with
 | nil => intro q; simp [pMul, evP]
 | cons t p ih => intro q; simp only [pMul, evP_add, evP_mulT, ih, evP]; grind
theorem evP_C (y : Nat -> Int) (n : Int) : evP y (pC n) = n := by simp [pC, evP_ins, evP, evM]
theorem evP_var (y : Nat -> Int) (v : Nat) : evP y (pVar v) = y v := by simp [pVar, evP, evM]
theorem evP_sub (y : Nat -> Int) (p q : Po) : evP y (pSub p q) = evP y p - evP y q := by
 simp only [pSub, evP_add, evP_mulT, evM]; grind
theorem evP_si (y : Nat -> Int) (x : SI) : evP y (siP x) = x.ev y := by
 cases x with
 | lit n => exact evP_C y n
 | var v o => simp only [siP, evP_ins, evP_var, evM, SI.ev]; omega
def sbM (σ : Nat -> Option Po) : List Nat -> Po
 | [] => [(1, [])]
 | v :: l => match σ v with
  | some q => pMul q (sbM σ l)
  | none => pMulT 1 [v] (sbM σ l)
def sbP (σ : Nat -> Option Po) : Po -> Po
 | [] => []
 | t :: p => pAdd (pMulT t.1 [] (sbM σ t.2)) (sbP σ p)
def varM (p : Nat -> Bool) : List Nat -> Bool
 | [] => true
 | v :: l => cnd (p v) (varM p l) false
def varP (f : Nat -> Bool) : Po -> Bool
 | [] => true
 | t :: p => cnd (varM f t.2) (varP f p) false
def Sb (σ : Nat -> Option Po) (y y' : Nat -> Int) (v : Nat) : Prop := y' v = match σ v with | some q => evP y q | none => y v
theorem sbM_ev {σ : Nat -> Option Po} {y y' : Nat -> Int} {f : Nat -> Bool} (h : ∀ v, f v = true -> Sb σ y y' v) : ∀ m, varM f m = true -> evP y (sbM σ m) = evM y' m := by
 intro m
 induction m with
 | nil => intro _; simp [sbM, evP, evM]
 | cons v l ih =>
  intro hv
  simp only [varM, cnd_ite] at hv
  split at hv
  ·rename_i hf
   have h1 := h v hf
   unfold Sb at h1
   have h2 := ih hv
   simp only [sbM, evM]
   cases hs : σ v with
   | none => rw [hs] at h1; simp only at h1 ⊢; rw [evP_mulT, h2, h1]; simp [evM]
   | some q => rw [hs] at h1; simp only at h1 ⊢; rw [evP_mul, h2, h1]
  ·cases hv
theorem sbP_ev {σ : Nat -> Option Po} {y y' : Nat -> Int} {f : Nat -> Bool} (h : ∀ v, f v = true -> Sb σ y y' v) : ∀ p, varP f p = true -> evP y (sbP σ p) = evP y' p := by
 intro p
 induction p with
 | nil => intro _; rfl
 | cons t p ih =>
  intro hv
  simp only [varP, cnd_ite] at hv
  split at hv
  ·rename_i hf
   simp only [sbP, evP_add, evP_mulT, evP, sbM_ev h _ hf, ih hv]
   simp [evM]
  ·cases hv
theorem varM_true (m : List Nat) : varM (fun _ => true) m = true := by
 induction m with
 | nil => rfl
 | cons v l ih => exact ih
theorem varP_true (p : Po) : varP (fun _ => true) p = true := by
 induction p with
 | nil => rfl
 | cons t p ih => simp only [varP, cnd_ite, varM_true, ih]; rfl
def nrm (σ : Nat -> Option Po) : Nat -> Po -> Po
 | 0, p => p
 | n + 1, p => cnd (varP (fun v => isNone (σ v)) p) p (nrm σ n (sbP σ p))
def Su (σ : Nat -> Option Po) (y : Nat -> Int) : Prop := ∀ v q, σ v = some q -> y v = evP y q
theorem Su.sb {σ : Nat -> Option Po} {y : Nat -> Int} (h : Su σ y) (v : Nat) : Sb σ y y v := by
 unfold Sb
 cases hs : σ v with
 | none => rfl
 | some q => exact h v q hs
theorem nrm_ev {σ : Nat -> Option Po} {y : Nat -> Int} (h : Su σ y) : ∀ n p, evP y (nrm σ n p) = evP y p := by
 intro n
 induction n with
 | zero => intro p; rfl
 | succ n ih =>
  intro p
  simp only [nrm, cnd_ite]
  split
  ·rfl
  ·rw [ih, sbP_ev (f := fun _ => true) (fun v _ => h.sb v) _ (varP_true p)]
def shf (b : Tree (Int × Int)) (v : Nat) : Option Po :=
 match b.get v with
 | some q => some (pIns q.1 [] (pVar v))
 | none => none
def wdM (b : Tree (Int × Int)) : List Nat -> Option Int
 | [] => some 1
 | v :: l => match b.get v with
  | some q => oo (wdM b l) fun r => some (Int.mul (Int.sub q.2 q.1) r)
  | none => none
def lbP (b : Tree (Int × Int)) : Po -> Option Int
 | [] => some 0
 | t :: p => oo (wdM b t.2) fun w => oo (lbP b p) fun r => some (cnd (ile 0 t.1) (cnd (isNil t.2) (Int.add t.1 r) r) (Int.add (Int.mul t.1 w) r))
def nnB (b : Tree (Int × Int)) (p : Po) : Bool :=
 match lbP b (sbP (shf b) p) with
 | some n => ile 0 n
 | none => false
def lowT (b : Tree (Int × Int)) (y : Nat -> Int) (v : Nat) : Int :=
 match b.get v with
 | some q => y v - q.1
 | none => y v
def InT (b : Tree (Int × Int)) (y : Nat -> Int) : Prop := ∀ v lo hi, b.get v = some (lo, hi) -> lo <= y v /\ y v <= hi
theorem wdM_ev {b : Tree (Int × Int)} {y : Nat -> Int} (h : InT b y) : ∀ m w, wdM b m = some w -> 0 <= evM (lowT b y) m /\ evM (lowT b y) m <= w := by
 intro m
 induction m with
 | nil => intro w e; cases e; simp [evM]
 | cons v l ih =>
  intro w e
  simp only [wdM] at e
  cases hb : b.get v with
  | none => rw [hb] at e; cases e
  | some q =>
   rw [hb] at e
   obtain ⟨r, h1, h2⟩ := oo_eq e
   cases h2
   obtain ⟨k1, k2⟩ := ih r h1
   have hv := h v q.1 q.2 hb
   have e1 : lowT b y v = y v - q.1 := by unfold lowT; rw [hb]
   simp only [evM, e1]
   have a1 : 0 <= y v - q.1 := by omega
   have a2 : y v - q.1 <= q.2 - q.1 := by omega
   refine ⟨Int.mul_nonneg a1 k1, ?_⟩
   exact Int.le_trans (Int.mul_le_mul_of_nonneg_left k2 a1) (Int.mul_le_mul_of_nonneg_right a2 (by omega))
theorem lbP_ev {b : Tree (Int × Int)} {y : Nat -> Int} (h : InT b y) : ∀ p n, lbP b p = some n -> n <= evP (lowT b y) p := by
 intro p
 induction p with
 | nil => intro n e; cases e; simp [evP]
 | cons t p ih =>
  intro n e
  obtain ⟨w, h1, e⟩ := oo_eq (show oo (wdM b t.2) (fun w => oo (lbP b p) fun r => some (cnd (ile 0 t.1) (cnd (isNil t.2) (Int.add t.1 r) r) (Int.add (Int.mul t.1 w) r))) = some n from e)
  obtain ⟨r, h2, e⟩ := oo_eq e
  cases e
  have k1 := wdM_ev h t.2 w h1
  have k2 := ih r h2
  simp only [cnd_ite, evP]
  split
  ·rename_i ht
   rw [ile_eq, decide_eq_true_eq] at ht
   split
   ·rename_i hn
    have : t.2 = [] := by revert hn; cases t.2 <;> simp [isNil]
    rw [this]
    show t.1 + r <= _
    simp [evM]; omega
   ·have := Int.mul_nonneg ht k1.1
    omega
  ·rename_i ht
   rw [ile_eq, decide_eq_true_eq] at ht
   show t.1 * w + r <= _
   have : 0 <= (-t.1) * (w - evM (lowT b y) t.2) := Int.mul_nonneg (by omega) (by omega)
   have e : (-t.1) * (w - evM (lowT b y) t.2) = t.1 * evM (lowT b y) t.2 - t.1 * w := by grind
   omega
theorem nnB_sound {b : Tree (Int × Int)} {y : Nat -> Int} (h : InT b y) {p : Po} (k : nnB b p = true) : 0 <= evP y p := by
 unfold nnB at k
 cases hl : lbP b (sbP (shf b) p) with
 | none => rw [hl] at k; cases k
 | some n =>
  rw [hl] at k
  simp only [ile_eq, decide_eq_true_eq] at k
  have h1 := lbP_ev h _ _ hl
  rw [sbP_ev (y' := y) (f := fun _ => true) (fun v _ => ?_) p (varP_true p)] at h1
  ·omega
  ·unfold Sb shf lowT
   cases hb : b.get v with
   | none => rfl
   | some q => simp only [evP_ins, evP_var, evM, hb]; omega
end Sx
end
noncomputable section
namespace Sx
open Go
variable {P : Program}
structure Inv where
 eqs : List (Nat × Po)
 mods : List (Nat × Po)
 les : List Po
 dfs : List (Nat × Def)
structure Inv.holds (I : Inv) (y : Nat -> Int) : Prop where
 eqs : ∀ e, e ∈ I.eqs -> y e.1 = evP y e.2
 mods : ∀ e, e ∈ I.mods -> (128 : Int) ∣ 2 * y e.1 - evP y e.2
 les : ∀ p, p ∈ I.les -> 0 <= evP y p
 dfs : ∀ e, e ∈ I.dfs -> DefT y (y e.1) e.2
def Rg (vs : VS) (y : Nat -> Int) : Prop := ∀ x q, rng vs x = some q -> q.1 <= x.ev y /\ x.ev y <= q.2
def remP (vs : VS) (a : SI) (n : Int) : Option Po := oif (ieq n 64) (oo (rng vs a) fun q => cnd (ile 0 q.1 && ile q.2 63) (some (siP a)) (cnd (ile 64 q.1 && ile q.2 127) (some (pSub (siP a) (pC 64))) none))
def dfP (vs : VS) : Def -> Option Po
 | .add a b => some (pAdd (siP a) (siP b))
 | .sub a b => some (pSub (siP a) (siP b))
 | .mul a b => some (pMul (siP a) (siP b))
 | .rem a b => (match b with | .lit n => remP vs a n | .var _ _ => none)
 | .quo _ _ => none
theorem oif_some {α : Type} {b : Bool} {x : Option α} {a : α} (h : oif b x = some a) : b = true /\ x = some a := by
 cases b with
 | true => exact ⟨rfl, h⟩
 | false => cases h
theorem dfP_sound {vs : VS} {y : Nat -> Int} (hr : Rg vs y) {d : Def} {p : Po} {n : Int} (h : dfP vs d = some p) (k : DefT y n d) : n = evP y p := by
 cases d with
 | add a b => cases h; rw [evP_add, evP_si, evP_si]; exact k
 | sub a b => cases h; rw [evP_sub, evP_si, evP_si]; exact k
 | mul a b => cases h; rw [evP_mul, evP_si, evP_si]; exact k
 | quo a b => cases h
 | rem a b =>
  cases b with
  | var _ _ => cases h
  | lit m =>
   obtain ⟨h1, h⟩ := oif_some (show remP vs a m = some p from h)
   rw [ieq_eq, decide_eq_true_eq] at h1
   subst h1
   obtain ⟨q, h2, h⟩ := oo_eq h
   have hq := hr a q h2
   have k : n = a.ev y % 64 := k
   simp only [cnd_ite] at h
   split at h
   ·rename_i hc
    simp only [Bool.and_eq_true, ile_eq, decide_eq_true_eq] at hc
    cases h
    rw [evP_si]; omega
   ·split at h
    ·rename_i hc
     simp only [Bool.and_eq_true, ile_eq, decide_eq_true_eq] at hc
     cases h
     rw [evP_sub, evP_si, evP_C]; omega
    ·cases h
def sameD (d : Def) : List (Nat × Def) -> Option Nat
 | [] => none
 | e :: l => cnd (defEq e.2 d) (some e.1) (sameD d l)
def quo1 (a : SI) (n : Int) (v : Nat) (d : Def) : Option Nat :=
 match d with
 | .quo b c => (match c with | .lit m => cnd (siEq b a && ieq m n) (some v) none | .var _ _ => none)
 | _ => none
def orN (a b : Option Nat) : Option Nat :=
 match a with
 | some x => some x
 | none => b
def quoF (a : SI) (n : Int) : List Fact -> Option Nat
 | [] => none
 | f :: l => match f with
  | .df v d => orN (quo1 a n v d) (quoF a n l)
  | .cd _ _ => quoF a n l
def dfR (L : List Fact) : Def -> Option Po
 | .rem a b => (match b with | .lit n => oo (quoF a n L) fun q => some (pSub (siP a) (pMulT n [] (pVar q))) | .var _ _ => none)
 | _ => none
def dfP2 (L : List Fact) (dfs : List (Nat × Def)) (d : Def) : Option Po :=
 match sameD d dfs with
 | some u => some (pVar u)
 | none => dfR L d
def dfP3 (vs : VS) (L : List Fact) (dfs : List (Nat × Def)) (d : Def) : Option Po :=
 match dfP vs d with
 | some p => some p
 | none => dfP2 L dfs d
theorem DefT.fn {y : Nat -> Int} {m n : Int} {d : Def} (h : DefT y m d) (k : DefT y n d) : m = n := by
 cases d <;> (have h1 : m = _ := h; have h2 : n = _ := k; rw [h1, h2])
theorem sameD_eq {d : Def} {u : Nat} : ∀ {l : List (Nat × Def)}, sameD d l = some u -> (u, d) ∈ l := by
 intro l
 induction l with
 | nil => intro h; cases h
 | cons e l ih =>
  intro h
  simp only [sameD, cnd_ite] at h
  split at h
  ·rename_i he
   cases h
   rw [<- defEq_eq he]; exact List.mem_cons_self ..
  ·exact List.mem_cons_of_mem _ (ih h)
theorem quoF_eq {a : SI} {n : Int} {q : Nat} : ∀ {l : List Fact}, quoF a n l = some q -> .df q (.quo a (.lit n)) ∈ l := by
 intro l
 induction l with
 | nil => intro h; cases h
 | cons f l ih =>
  intro h
  cases f with
  | cd c b => exact List.mem_cons_of_mem _ (ih h)
  | df v d =>
   change orN (quo1 a n v d) (quoF a n l) = some q at h
   cases hq : quo1 a n v d with
   | none => rw [hq] at h; exact List.mem_cons_of_mem _ (ih h)
   | some x =>
    rw [hq] at h
    cases h
    cases d <;> try (cases hq; done)
    rename_i b c
    cases c with
    | var _ _ => cases hq
    | lit m =>
     simp only [quo1, cnd_ite] at hq
     split at hq
     ·rename_i he
      rw [Bool.and_eq_true, ieq_eq, decide_eq_true_eq] at he
      cases hq
      rw [siEq_eq he.1, he.2]; exact List.mem_cons_self ..
     ·cases hq
theorem dfP3_sound {vs : VS} {y : Nat -> Int} (hr : Rg vs y) {L : List Fact} (hL : ∀ q, q ∈ L -> FactT y q) {dfs : List (Nat × Def)} (hd : ∀ e, e ∈ dfs -> DefT y (y e.1) e.2) {d : Def} {p : Po} {n : Int} (h : dfP3 vs L dfs d = some p) (k : DefT y n d) : n = evP y p := by
 unfold dfP3 at h
 cases h1 : dfP vs d with
 | some q => rw [h1] at h; cases h; exact dfP_sound hr h1 k
 | none =>
  rw [h1] at h
  simp only [dfP2] at h
  cases h2 : sameD d dfs with
  | some u =>
   rw [h2] at h; cases h
   rw [evP_var]
   exact DefT.fn k (hd _ (sameD_eq h2))
  | none =>
   rw [h2] at h
   simp only at h
   cases d <;> try (cases h; done)
   rename_i a b
   cases b with
   | var _ _ => cases h
   | lit m =>
    obtain ⟨q, h3, h⟩ := oo_eq (show oo (quoF a m L) (fun q => some (pSub (siP a) (pMulT m [] (pVar q)))) = some p from h)
    cases h
    have hq : y q = a.ev y / m := hL _ (quoF_eq h3)
    have k : n = a.ev y % m := k
    rw [evP_sub, evP_mulT, evP_si, evP_var, hq, k]
    simp only [evM, Int.mul_one]
    have := Int.emod_def (a.ev y) m
    exact this
def sg1 (vs : VS) (L : List Fact) (dfs : List (Nat × Def)) (f : Fact) (r : Tree Po) : Tree Po :=
 match f with
 | .df v d => (match dfP3 vs L dfs d with | some p => r.set v p | none => r)
 | .cd _ _ => r
def sgF (vs : VS) (L : List Fact) (dfs : List (Nat × Def)) (T : Tree Po) (l : List Fact) : Tree Po := List.rec (motive := fun _ => Tree Po) T (fun f _ r => sg1 vs L dfs f r) l
def nextS (a b : SI) : Bool :=
 match a with
 | .var v o => (match b with | .var w p => Nat.beq v w && ieq p (Int.add o 1) | .lit _ => false)
 | .lit _ => false
def mul1 (u v : Nat) (d : Def) : Option (SI × SI) :=
 match d with
 | .mul a b => cnd (Nat.beq v u && nextS a b) (some (a, b)) none
 | _ => none
def orS (a b : Option (SI × SI)) : Option (SI × SI) :=
 match a with
 | some x => some x
 | none => b
def mulF (u : Nat) : List Fact -> Option (SI × SI)
 | [] => none
 | f :: l => match f with
  | .df v d => orS (mul1 u v d) (mulF u l)
  | .cd _ _ => mulF u l
def hv2 (L : List Fact) (v u : Nat) (o m : Int) (r : Tree Po) : Tree Po :=
 cnd (ieq o 0 && ieq m 2) (match mulF u L with | some p => r.set v (pMul (siP p.1) (siP p.2)) | none => r) r
def hv1 (L : List Fact) (f : Fact) (r : Tree Po) : Tree Po :=
 match f with
 | .df v d => (match d with | .quo a b => (match a with | .var u o => (match b with | .lit m => hv2 L v u o m r | .var _ _ => r) | .lit _ => r) | _ => r)
 | .cd _ _ => r
def hvF (L : List Fact) (l : List Fact) : Tree Po := List.rec (motive := fun _ => Tree Po) .leaf (fun f _ r => hv1 L f r) l
def HvT (T : Tree Po) (y : Nat -> Int) : Prop := ∀ v p, T.get v = some p -> 2 * y v = evP y p
theorem nextS_even {a b : SI} {y : Nat -> Int} (h : nextS a b = true) : (a.ev y * b.ev y) % 2 = 0 := by
 cases a with
 | lit _ => cases h
 | var v o =>
  cases b with
  | lit _ => cases h
  | var w p =>
   simp only [nextS, Bool.and_eq_true, ieq_eq, decide_eq_true_eq] at h
   have := Nat.eq_of_beq_eq_true h.1
   subst this
   have hp : p = o + 1 := h.2
   subst hp
   show ((y v + o) * (y v + (o + 1))) % 2 = 0
   generalize hx : y v + o = x
   rw [show y v + (o + 1) = x + 1 by omega, Int.mul_emod]
   rcases Int.emod_two_eq x with e | e
   ·rw [e]; simp
   ·have : (x + 1) % 2 = 0 := by omega
    rw [this]; simp
theorem mulF_eq {u : Nat} {p : SI × SI} : ∀ {l : List Fact}, mulF u l = some p -> .df u (.mul p.1 p.2) ∈ l /\ nextS p.1 p.2 = true := by
 intro l
 induction l with
 | nil => intro h; cases h
 | cons f l ih =>
  intro h
  cases f with
  | cd c b => exact ⟨List.mem_cons_of_mem _ (ih h).1, (ih h).2⟩
  | df v d =>
   change orS (mul1 u v d) (mulF u l) = some p at h
   cases hq : mul1 u v d with
   | none => rw [hq] at h; exact ⟨List.mem_cons_of_mem _ (ih h).1, (ih h).2⟩
   | some x =>
    rw [hq] at h
    cases h
    cases d <;> try (cases hq; done)
    simp only [mul1, cnd_ite] at hq
    split at hq
    ·rename_i he
     rw [Bool.and_eq_true] at he
     cases hq
     have := Nat.eq_of_beq_eq_true he.1
     subst this
     exact ⟨List.mem_cons_self .., he.2⟩
    ·cases hq
theorem hvF_sound {y : Nat -> Int} {L : List Fact} (hL : ∀ q, q ∈ L -> FactT y q) : ∀ l : List Fact, (∀ q, q ∈ l -> FactT y q) -> HvT (hvF L l) y := by
 intro l
 induction l with
 | nil => intro _ v p h; change Tree.get Tree.leaf v = some p at h; rw [Tree.get_leaf] at h; cases h
 | cons f l ih =>
  intro hf v p h
  have ih := ih fun q hq => hf q (List.mem_cons_of_mem _ hq)
  have hf := hf f (List.mem_cons_self ..)
  change (hv1 L f (hvF L l)).get v = some p at h
  cases f with
  | cd q b => exact ih v p h
  | df w d =>
   cases d with
   | quo a b =>
    cases a with
    | lit _ => exact ih v p h
    | var u o =>
     cases b with
     | var _ _ => exact ih v p h
     | lit m =>
      simp only [hv1, hv2, cnd_ite] at h
      split at h
      ·rename_i he
       rw [Bool.and_eq_true, ieq_eq, ieq_eq, decide_eq_true_eq, decide_eq_true_eq] at he
       obtain ⟨rfl, rfl⟩ := he
       cases hm : mulF u L with
       | none => rw [hm] at h; exact ih v p h
       | some q =>
        rw [hm] at h
        simp only [Tree.get_set] at h
        by_cases e : v = w
        ·rw [if_pos e] at h; cases h; subst e
         obtain ⟨h1, h2⟩ := mulF_eq hm
         have h3 : y u = q.1.ev y * q.2.ev y := hL _ h1
         have h4 := nextS_even (y := y) h2
         have h5 : y v = (y u + 0) / 2 := hf
         rw [evP_mul, evP_si, evP_si]
         omega
        ·rw [if_neg e] at h; exact ih v p h
      ·exact ih v p h
   | _ => exact ih v p h
def hvM (T : Tree Po) : List Nat -> Option (List Nat × Po)
 | [] => none
 | v :: l => match T.get v with
  | some p => some (l, p)
  | none => oo (hvM T l) fun q => some (v :: q.1, q.2)
def hvT1 (T : Tree Po) (t : Int × List Nat) : Po :=
 match hvM T t.2 with
 | some q => cnd (ieq (Int.emod t.1 2) 0) (pMulT (Int.ediv t.1 2) q.1 q.2) [t]
 | none => [t]
def hvP (T : Tree Po) : Po -> Po
 | [] => []
 | t :: p => pAdd (hvT1 T t) (hvP T p)
theorem hvM_ev {T : Tree Po} {y : Nat -> Int} (h : HvT T y) : ∀ m q, hvM T m = some q -> 2 * evM y m = evM y q.1 * evP y q.2 := by
 intro m
 induction m with
 | nil => intro q e; cases e
 | cons v l ih =>
  intro q e
  simp only [hvM] at e
  cases hv : T.get v with
  | some p =>
   rw [hv] at e; cases e
   have := h v p hv
   simp only [evM]
   rw [<- this]; grind
  | none =>
   rw [hv] at e
   obtain ⟨r, h1, e⟩ := oo_eq (show oo (hvM T l) (fun q => some (v :: q.1, q.2)) = some q from e)
   cases e
   have := ih r h1
   simp only [evM]
   grind
theorem hvT1_ev {T : Tree Po} {y : Nat -> Int} (h : HvT T y) (t : Int × List Nat) : evP y (hvT1 T t) = t.1 * evM y t.2 := by
 unfold hvT1
 cases hm : hvM T t.2 with
 | none => simp [evP]
 | some q =>
  simp only [cnd_ite]
  split
  ·rename_i he
   rw [ieq_eq, decide_eq_true_eq] at he
   have he : t.1 % 2 = 0 := he
   have h1 := hvM_ev h _ _ hm
   rw [evP_mulT]
   show (t.1 / 2) * evM y q.1 * evP y q.2 = t.1 * evM y t.2
   have h2 : t.1 = 2 * (t.1 / 2) := by omega
   generalize t.1 / 2 = x at h2
   rw [h2, Int.mul_assoc, <- h1]; grind
  ·simp [evP]
theorem hvP_ev {T : Tree Po} {y : Nat -> Int} (h : HvT T y) : ∀ p, evP y (hvP T p) = evP y p := by
 intro p
 induction p with
 | nil => rfl
 | cons t p ih => simp only [hvP, evP_add, ih, hvT1_ev h, evP]
def md1 (f : Fact) (r : Tree Po) : Tree Po :=
 match f with
 | .df v d => (match d with | .rem a b => (match b with | .lit n => cnd (ieq n 64) (r.set v (pMulT 2 [] (siP a))) r | .var _ _ => r) | _ => r)
 | .cd _ _ => r
def mdF (T : Tree Po) (l : List Fact) : Tree Po := List.rec (motive := fun _ => Tree Po) T (fun f _ r => md1 f r) l
def sgO (b : Tree (Int × Int)) (T : Tree Po) (v : Nat) : Option Po :=
 match T.get v with
 | some p => some p
 | none => match b.get v with
  | some q => cnd (ieq q.1 q.2) (some (pC q.1)) none
  | none => none
theorem sgF_sound {vs : VS} {y : Nat -> Int} (hr : Rg vs y) {L : List Fact} (hL : ∀ q, q ∈ L -> FactT y q) {dfs : List (Nat × Def)} (hd : ∀ e, e ∈ dfs -> DefT y (y e.1) e.2) {T : Tree Po} (hT : ∀ v p, T.get v = some p -> y v = evP y p) : ∀ l : List Fact, (∀ q, q ∈ l -> FactT y q) -> ∀ v p, (sgF vs L dfs T l).get v = some p -> y v = evP y p := by
 intro l
 induction l with
 | nil => intro _ v p h; exact hT v p h
 | cons f l ih =>
  intro hf v p h
  have ih := ih fun q hq => hf q (List.mem_cons_of_mem _ hq)
  have hf := hf f (List.mem_cons_self ..)
  change (sg1 vs L dfs f (sgF vs L dfs T l)).get v = some p at h
  cases f with
  | cd q b => exact ih v p h
  | df u d =>
   simp only [sg1] at h
   cases hd' : dfP3 vs L dfs d with
   | none => rw [hd'] at h; exact ih v p h
   | some q =>
    rw [hd'] at h
    simp only [Tree.get_set] at h
    by_cases e : v = u
    ·rw [if_pos e] at h; cases h; subst e; exact dfP3_sound hr hL hd hd' hf
    ·rw [if_neg e] at h; exact ih v p h
def ModT (M : Tree Po) (y : Nat -> Int) : Prop := ∀ v p, M.get v = some p -> (128 : Int) ∣ 2 * y v - evP y p
theorem mdF_sound {y : Nat -> Int} {T : Tree Po} (hT : ModT T y) : ∀ l : List Fact, (∀ q, q ∈ l -> FactT y q) -> ModT (mdF T l) y := by
 intro l
 induction l with
 | nil => intro _; exact hT
 | cons f l ih =>
  intro hf v p h
  have ih := ih fun q hq => hf q (List.mem_cons_of_mem _ hq)
  have hf := hf f (List.mem_cons_self ..)
  change (md1 f (mdF T l)).get v = some p at h
  cases f with
  | cd q b => exact ih v p h
  | df u d =>
   cases d with
   | rem a b =>
    cases b with
    | var _ _ => exact ih v p h
    | lit n =>
     simp only [md1, cnd_ite] at h
     split at h
     ·rename_i hn
      rw [ieq_eq, decide_eq_true_eq] at hn
      subst hn
      rw [Tree.get_set] at h
      by_cases e : v = u
      ·rw [if_pos e] at h; cases h; subst e
       have hf : y v = a.ev y % 64 := hf
       rw [evP_mulT, evP_si]; simp only [evM]
       omega
      ·rw [if_neg e] at h; exact ih v p h
     ·exact ih v p h
   | _ => exact ih v p h
theorem sgO_sound {b : Tree (Int × Int)} {T : Tree Po} {y : Nat -> Int} (hb : InT b y) (hT : ∀ v p, T.get v = some p -> y v = evP y p) : Su (sgO b T) y := by
 intro v q h
 unfold sgO at h
 cases ht : T.get v with
 | some p => rw [ht] at h; cases h; exact hT v _ ht
 | none =>
  rw [ht] at h
  cases hv : b.get v with
  | none => rw [hv] at h; cases h
  | some p =>
   rw [hv] at h
   simp only [cnd_ite] at h
   split at h
   ·rename_i he
    rw [ieq_eq, decide_eq_true_eq] at he
    cases h
    have := hb v p.1 p.2 hv
    rw [evP_C]; omega
   ·cases h
def mdT (M : Tree Po) (t : Int × List Nat) : Po :=
 match t.2 with
 | [] => [t]
 | v :: l => (match M.get v with
  | some q => cnd (isNil l && ieq (Int.emod t.1 2) 0) (pMulT (Int.ediv t.1 2) [] q) [t]
  | none => [t])
def mdP (M : Tree Po) : Po -> Po
 | [] => []
 | t :: p => pAdd (mdT M t) (mdP M p)
theorem mdT_ev {M : Tree Po} {y : Nat -> Int} (h : ModT M y) (t : Int × List Nat) : (128 : Int) ∣ t.1 * evM y t.2 - evP y (mdT M t) := by
 have h0 : (128 : Int) ∣ t.1 * evM y t.2 - evP y [t] := by simp [evP]
 obtain ⟨c, m⟩ := t
 cases m with
 | nil => exact h0
 | cons v l =>
  simp only [mdT]
  cases hm : M.get v with
  | none => exact h0
  | some q =>
   simp only [cnd_ite]
   split
   ·rename_i hc
    simp only [Bool.and_eq_true, ieq_eq, decide_eq_true_eq] at hc
    obtain ⟨h1, h2⟩ := hc
    have : l = [] := by revert h1; cases l <;> simp [isNil]
    subst this
    obtain ⟨k, hk⟩ := h v q hm
    have h2 : c % 2 = 0 := h2
    have h3 : c = 2 * (c / 2) := by omega
    rw [evP_mulT]
    simp only [evM]
    show (128 : Int) ∣ c * (y v * 1) - (c / 2) * 1 * evP y q
    generalize c / 2 = e at h3
    subst h3
    exact ⟨e * k, by grind⟩
   ·exact h0
theorem mdP_ev {M : Tree Po} {y : Nat -> Int} (h : ModT M y) : ∀ p, (128 : Int) ∣ evP y p - evP y (mdP M p) := by
 intro p
 induction p with
 | nil => exact ⟨0, by simp [mdP, evP]⟩
 | cons t p ih =>
  simp only [mdP, evP_add, evP]
  have := mdT_ev h t
  omega
structure Cx where
 b : Tree (Int × Int)
 σ : Nat -> Option Po
 M : Tree Po
 hv : Tree Po
 H : List Po
structure Cx.ok (C : Cx) (y : Nat -> Int) : Prop where
 b : InT C.b y
 σ : Su C.σ y
 M : ModT C.M y
 hv : HvT C.hv y
 H : ∀ p, p ∈ C.H -> 0 <= evP y p
def Cx.n (C : Cx) (p : Po) : Po := nrm C.σ 12 p
theorem Cx.ok.n {C : Cx} {y : Nat -> Int} (h : C.ok y) (p : Po) : evP y (C.n p) = evP y p := nrm_ev h.σ 12 p
def Cx.eqB (C : Cx) (p : Po) : Bool := isNil (C.n p)
theorem Cx.ok.eqB {C : Cx} {y : Nat -> Int} (h : C.ok y) {p : Po} (k : C.eqB p = true) : evP y p = 0 := by
 unfold Cx.eqB at k
 rw [<- h.n p]
 revert k
 cases C.n p with
 | nil => intro _; rfl
 | cons _ _ => intro k; cases k
def Cx.md (C : Cx) (p : Po) : Po := C.n (mdP C.M (hvP C.hv p))
def Cx.modB (C : Cx) (p : Po) : Bool := allL (fun t => ieq (Int.emod t.1 128) 0) (C.md (C.md (C.md (C.md (C.n p)))))
theorem all128 {y : Nat -> Int} : ∀ p : Po, allL (fun t => ieq (Int.emod t.1 128) 0) p = true -> (128 : Int) ∣ evP y p := by
 intro p
 induction p with
 | nil => intro _; exact ⟨0, rfl⟩
 | cons t p ih =>
  intro h
  have h1 := allL_eq h t (List.mem_cons_self ..)
  rw [ieq_eq, decide_eq_true_eq] at h1
  have h1 : t.1 % 128 = 0 := h1
  have h2 := ih (by
   change cnd _ _ _ = true at h
   rw [cnd_ite] at h
   split at h
   ·exact h
   ·cases h)
  simp only [evP]
  exact Int.dvd_add (Int.dvd_trans (Int.dvd_of_emod_eq_zero h1) ⟨evM y t.2, rfl⟩) h2
theorem Cx.ok.md {C : Cx} {y : Nat -> Int} (h : C.ok y) (p : Po) : (128 : Int) ∣ evP y p - evP y (C.md p) := by
 unfold Cx.md
 rw [h.n]
 have := mdP_ev h.M (hvP C.hv p)
 rwa [hvP_ev h.hv] at this
theorem Cx.ok.modB {C : Cx} {y : Nat -> Int} (h : C.ok y) {p : Po} (k : C.modB p = true) : (128 : Int) ∣ evP y p := by
 have h1 := all128 (y := y) _ k
 have h2 := h.md (C.md (C.md (C.md (C.n p))))
 have h3 := h.md (C.md (C.md (C.n p)))
 have h4 := h.md (C.md (C.n p))
 have h5 := h.md (C.n p)
 rw [h.n] at h5
 omega
def Cx.leB (C : Cx) (p : Po) : Bool := nnB C.b (C.n p) || anyL (fun h => nnB C.b (pSub (C.n p) h)) C.H
theorem Cx.ok.leB {C : Cx} {y : Nat -> Int} (h : C.ok y) {p : Po} (k : C.leB p = true) : 0 <= evP y p := by
 unfold Cx.leB at k
 rw [Bool.or_eq_true] at k
 rw [<- h.n p]
 rcases k with k | k
 ·exact nnB_sound h.b k
 ·obtain ⟨q, h1, h2⟩ := anyL_eq k
  have h3 := nnB_sound h.b h2
  have h4 := h.H q h1
  rw [evP_sub] at h3
  omega
def hy1 (f : Fact) (r : List Po) : List Po :=
 match f with
 | .df _ _ => r
 | .cd q x => (match q with
  | .lt a b => cnd x (pSub (pSub (siP b) (siP a)) (pC 1)) (pSub (siP a) (siP b)) :: r
  | .eq _ _ => r)
def hyF (r : List Po) (l : List Fact) : List Po := List.rec (motive := fun _ => List Po) r (fun f _ r => hy1 f r) l
theorem lt_fact {y : Nat -> Int} {a b : SI} {x : Bool} (h : FactT y (.cd (.lt a b) x)) : 0 <= evP y (cnd x (pSub (pSub (siP b) (siP a)) (pC 1)) (pSub (siP a) (siP b))) := by
 cases x with
 | true =>
  have h : a.ev y < b.ev y := h
  show 0 <= evP y (pSub (pSub (siP b) (siP a)) (pC 1))
  rw [evP_sub, evP_sub, evP_si, evP_si, evP_C]; omega
 | false =>
  have h : ¬ a.ev y < b.ev y := h
  show 0 <= evP y (pSub (siP a) (siP b))
  rw [evP_sub, evP_si, evP_si]; omega
theorem hyF_sound {y : Nat -> Int} {r : List Po} (hr : ∀ p, p ∈ r -> 0 <= evP y p) : ∀ l : List Fact, (∀ q, q ∈ l -> FactT y q) -> ∀ p, p ∈ hyF r l -> 0 <= evP y p := by
 intro l
 induction l with
 | nil => intro _ p h; exact hr p h
 | cons f l ih =>
  intro hf p h
  have ih := ih fun q hq => hf q (List.mem_cons_of_mem _ hq)
  have hf := hf f (List.mem_cons_self ..)
  change p ∈ hy1 f (hyF r l) at h
  cases f with
  | df u d => exact ih p h
  | cd q x =>
   cases q with
   | eq a b => exact ih p h
   | lt a b =>
    rcases List.mem_cons.1 h with e | e
    ·rw [e]; exact lt_fact hf
    ·exact ih p e
def one1 (p : Po) : Bool :=
 match p with
 | [] => false
 | t :: l => isNil l && ieq t.1 1
def eqH1 (b : Tree (Int × Int)) (e : Nat × Po) (r : List Po) : List Po :=
 match b.get e.1 with
 | some q => cnd (one1 e.2) r (pSub e.2 (pC q.1) :: pSub (pC q.2) e.2 :: r)
 | none => r
def eqH (b : Tree (Int × Int)) (r : List Po) (l : List (Nat × Po)) : List Po := List.rec (motive := fun _ => List Po) r (fun e _ r => eqH1 b e r) l
theorem eqH_sound {b : Tree (Int × Int)} {y : Nat -> Int} (hb : InT b y) {r : List Po} (hr : ∀ p, p ∈ r -> 0 <= evP y p) : ∀ l : List (Nat × Po), (∀ e, e ∈ l -> y e.1 = evP y e.2) -> ∀ p, p ∈ eqH b r l -> 0 <= evP y p := by
 intro l
 induction l with
 | nil => intro _ p h; exact hr p h
 | cons e l ih =>
  intro he p h
  have ih := ih fun q hq => he q (List.mem_cons_of_mem _ hq)
  have he := he e (List.mem_cons_self ..)
  change p ∈ eqH1 b e (eqH b r l) at h
  unfold eqH1 at h
  cases hv : b.get e.1 with
  | none => rw [hv] at h; exact ih p h
  | some q =>
   rw [hv] at h
   have hq := hb e.1 q.1 q.2 hv
   simp only [cnd_ite] at h
   split at h
   ·exact ih p h
   ·rcases List.mem_cons.1 h with e1 | h
    ·rw [e1, evP_sub, evP_C]; omega
    ·rcases List.mem_cons.1 h with e1 | h
     ·rw [e1, evP_sub, evP_C]; omega
     ·exact ih p h
def dfH2 (v1 v2 : Int) (o : Option Po) (r : List Po) : List Po :=
 match o with
 | some p => pSub p (pC v1) :: pSub (pC v2) p :: r
 | none => r
def dfH1 (vs : VS) (L : List Fact) (dfs : List (Nat × Def)) (f : Fact) (r : List Po) : List Po :=
 match f with
 | .df v d => (match vs.bnds.get v with | some q => cnd (ieq q.1 q.2) (dfH2 q.1 q.2 (dfP3 vs L dfs d) r) r | none => r)
 | .cd _ _ => r
def dfH (vs : VS) (L : List Fact) (dfs : List (Nat × Def)) (r : List Po) (l : List Fact) : List Po := List.rec (motive := fun _ => List Po) r (fun f _ r => dfH1 vs L dfs f r) l
theorem dfH_sound {vs : VS} {y : Nat -> Int} (hb : InT vs.bnds y) (hr : Rg vs y) {L : List Fact} (hL : ∀ q, q ∈ L -> FactT y q) {dfs : List (Nat × Def)} (hd : ∀ e, e ∈ dfs -> DefT y (y e.1) e.2) {r : List Po} (h0 : ∀ p, p ∈ r -> 0 <= evP y p) : ∀ l : List Fact, (∀ q, q ∈ l -> FactT y q) -> ∀ p, p ∈ dfH vs L dfs r l -> 0 <= evP y p := by
 intro l
 induction l with
 | nil => intro _ p h; exact h0 p h
 | cons f l ih =>
  intro hf p h
  have ih := ih fun q hq => hf q (List.mem_cons_of_mem _ hq)
  have hf := hf f (List.mem_cons_self ..)
  change p ∈ dfH1 vs L dfs f (dfH vs L dfs r l) at h
  cases f with
  | cd q b => exact ih p h
  | df v d =>
   simp only [dfH1] at h
   cases hv : vs.bnds.get v with
   | none => rw [hv] at h; exact ih p h
   | some q =>
    rw [hv] at h
    simp only [cnd_ite] at h
    split at h
    ·cases hp : dfP3 vs L dfs d with
     | none => rw [hp] at h; exact ih p h
     | some p' =>
      rw [hp] at h
      have h1 := hb v q.1 q.2 hv
      have h2 := dfP3_sound hr hL hd hp hf
      rcases List.mem_cons.1 h with e1 | h
      ·rw [e1, evP_sub, evP_C]; omega
      ·rcases List.mem_cons.1 h with e1 | h
       ·rw [e1, evP_sub, evP_C]; omega
       ·exact ih p h
    ·exact ih p h
def cxS (I : Inv) (vs : VS) : Nat -> Option Po := sgO vs.bnds (sgF vs vs.facts I.dfs (assocT I.eqs) vs.facts)
def nrmL (σ : Nat -> Option Po) (l : List Po) : List Po := List.rec (motive := fun _ => List Po) [] (fun p _ r => nrm σ 12 p :: r) l
def cxOf (I : Inv) (vs : VS) : Cx :=
 ⟨vs.bnds, cxS I vs, mdF (assocT I.mods) vs.facts, hvF vs.facts vs.facts, nrmL (cxS I vs) (hyF (dfH vs vs.facts I.dfs (eqH vs.bnds I.les I.eqs) vs.facts) vs.facts)⟩
theorem nrmL_sound {σ : Nat -> Option Po} {y : Nat -> Int} (hs : Su σ y) : ∀ l : List Po, (∀ p, p ∈ l -> 0 <= evP y p) -> ∀ p, p ∈ nrmL σ l -> 0 <= evP y p := by
 intro l
 induction l with
 | nil => intro _ p hp; cases hp
 | cons q l ih =>
  intro h3 p hp
  rcases List.mem_cons.1 (show p ∈ nrm σ 12 q :: nrmL σ l from hp) with e | e
  ·rw [e, nrm_ev hs]; exact h3 q (List.mem_cons_self ..)
  ·exact ih (fun p hp => h3 p (List.mem_cons_of_mem _ hp)) p e
theorem cxOf_ok {I : Inv} {vs : VS} {y : Nat -> Int} (hb : InT vs.bnds y) (hr : Rg vs y) (hf : ∀ q, q ∈ vs.facts -> FactT y q) (hI : I.holds y) : (cxOf I vs).ok y := by
 have h1 : ∀ v p, (assocT I.eqs).get v = some p -> y v = evP y p := fun v p h => hI.eqs _ (assocT_get h)
 have h2 : ModT (assocT I.mods) y := fun v p h => hI.mods _ (assocT_get h)
 have hs := sgO_sound hb (sgF_sound hr hf hI.dfs h1 vs.facts hf)
 exact ⟨hb, hs, mdF_sound h2 vs.facts hf, hvF_sound hf vs.facts hf, nrmL_sound hs _ (hyF_sound (dfH_sound hb hr hf hI.dfs (eqH_sound hb hI.les I.eqs hI.eqs) vs.facts hf) vs.facts hf)⟩
def dead1 (C : Cx) (f : Fact) : Bool :=
 match f with
 | .df _ _ => false
 | .cd q x => (match q with
  | .lt a b => C.leB (pSub (pC (-1)) (cnd x (pSub (pSub (siP b) (siP a)) (pC 1)) (pSub (siP a) (siP b))))
  | .eq a b => cnd x (C.leB (pSub (pSub (siP a) (siP b)) (pC 1)) || C.leB (pSub (pSub (siP b) (siP a)) (pC 1)))
    (C.eqB (pSub (siP a) (siP b)) || (C.leB (siP a) && C.leB (pSub (pC 63) (siP a)) && C.leB (siP b) && C.leB (pSub (pC 63) (siP b)) && C.modB (pMulT 2 [] (pSub (siP a) (siP b))))))
def deadB (C : Cx) (l : List Fact) : Bool := anyL (dead1 C) l
theorem deadB_sound {C : Cx} {y : Nat -> Int} (h : C.ok y) {l : List Fact} (hf : ∀ q, q ∈ l -> FactT y q) (k : deadB C l = true) : False := by
 obtain ⟨f, h1, h2⟩ := anyL_eq k
 have hf := hf f h1
 cases f with
 | df u d => cases h2
 | cd q x =>
  cases q with
  | lt a b =>
   have h3 := lt_fact hf
   have h4 := h.leB h2
   rw [evP_sub, evP_C] at h4
   omega
  | eq a b =>
   cases x with
   | true =>
    have hf : a.ev y = b.ev y := hf
    have h2 : (C.leB (pSub (pSub (siP a) (siP b)) (pC 1)) || C.leB (pSub (pSub (siP b) (siP a)) (pC 1))) = true := h2
    rw [Bool.or_eq_true] at h2
    rcases h2 with h2 | h2
    ·have := h.leB h2
     rw [evP_sub, evP_sub, evP_si, evP_si, evP_C] at this; omega
    ·have := h.leB h2
     rw [evP_sub, evP_sub, evP_si, evP_si, evP_C] at this; omega
   | false =>
    have hf : ¬ a.ev y = b.ev y := hf
    have h2 : (C.eqB (pSub (siP a) (siP b)) || (C.leB (siP a) && C.leB (pSub (pC 63) (siP a)) && C.leB (siP b) && C.leB (pSub (pC 63) (siP b)) && C.modB (pMulT 2 [] (pSub (siP a) (siP b))))) = true := h2
    simp only [Bool.or_eq_true, Bool.and_eq_true] at h2
    rcases h2 with h2 | ⟨⟨⟨⟨h3, h4⟩, h5⟩, h6⟩, h7⟩
    ·have := h.eqB h2
     rw [evP_sub, evP_si, evP_si] at this; omega
    ·have h3 := h.leB h3
     have h4 := h.leB h4
     have h5 := h.leB h5
     have h6 := h.leB h6
     have h7 := h.modB h7
     rw [evP_mulT, evP_sub, evP_si, evP_si] at h7
     rw [evP_sub, evP_si, evP_C] at h4 h6
     rw [evP_si] at h3 h5
     simp only [evM] at h7
     omega
end Sx
end
noncomputable section
namespace Sx
open Go
variable {P : Program}
structure MS where
 im : Tree Nat
 vm : Tree SI
 IM : List (Nat × Nat)
 VM : List (Nat × SI)
 td : List (Nat × Nat)
def bI (i j : Nat) (s : MS) : MS :=
 match s.im.get i with
 | some _ => s
 | none => ⟨s.im.set i j, s.vm, (i, j) :: s.IM, s.VM, (i, j) :: s.td⟩
def bS (a x : SI) (s : MS) : MS :=
 match a with
 | .lit _ => s
 | .var v o => (match s.vm.get v with
  | some _ => s
  | none => ⟨s.im, s.vm.set v (addS x (Int.neg o)), s.IM, (v, addS x (Int.neg o)) :: s.VM, s.td⟩)
def bSy : List (Nat × SI) -> List (Nat × SI) -> MS -> MS
 | [], _, s => s
 | p :: l, m, s => (match m with | [] => s | q :: m => bSy l m (bS p.2 q.2 s))
def bL (f : AV -> AV -> MS -> MS) : List AV -> List AV -> MS -> MS
 | [], _, s => s
 | a :: l, m, s => (match m with | [] => s | b :: m => bL f l m (f a b s))
def bF (f g : Fn) (s : MS) : MS :=
 match f with
 | .yield i => (match g with | .yield j => bI i j s | _ => s)
 | _ => s
def bV : Nat -> AV -> AV -> MS -> MS
 | 0, _, _, s => s
 | n + 1, a, w, s => match a with
  | .int _ x => (match w with | .int _ y => bS x y s | _ => s)
  | .str x => (match w with | .str y => bSy x.syms y.syms s | _ => s)
  | .ptr b _ => (match w with | .ptr c _ => bI b c s | _ => s)
  | .sl b _ _ _ p => (match w with | .sl c _ _ _ q => bI b c (bS p q s) | _ => s)
  | .osl b _ _ p => (match w with | .osl c _ _ q => bI b c (bS p q s) | _ => s)
  | .bsl b _ l p => (match w with
   | .bsl c _ k q => bI b c (bS l k (bS p q s))
   | .sl c _ k _ q => bI b c (bS l (.lit (.ofNat k)) (bS p q s))
   | _ => s)
  | .map r => (match r with | none => s | some b => (match w with | .map r => (match r with | none => s | some c => bI b c s) | _ => s))
  | .func f x y => (match w with | .func g u v => bL (bV n) x u (bL (bV n) y v (bF f g s)) | _ => s)
  | .iface _ v => (match w with | .iface _ x => bV n v x s | _ => s)
  | .agg x => (match w with | .agg y => bL (bV n) x y s | _ => s)
  | .tuple x => (match w with | .tuple y => bL (bV n) x y s | _ => s)
  | _ => s
def bOp (a b : Option AV) (s : MS) : MS :=
 match a with
 | none => s
 | some x => (match b with | none => s | some y => bV 40 x y s)
def bT : Tree AV -> Tree AV -> MS -> MS
 | .leaf, _, s => s
 | .node l v r, t, s => (match t with | .leaf => s | .node l' v' r' => bT r r' (bT l l' (bOp v v' s)))
def bEs : List (AV × AV) -> List (AV × AV) -> MS -> MS
 | [], _, s => s
 | p :: l, m, s => (match m with | [] => s | q :: m => bEs l m (bV 40 p.1 q.1 (bV 40 p.2 q.2 s)))
def bO (a b : AObj) (s : MS) : MS :=
 match a with
 | .cells t _ _ => (match b with | .cells u _ _ => bT t u s | _ => s)
 | .tailOf x _ _ p => (match b with | .tailOf y _ _ q => bI x y (bS p q s) | _ => s)
 | .map es _ _ => (match b with | .map fs _ _ => bEs es fs s | _ => s)
 | .strIter x _ => (match b with | .strIter y _ => bSy x.syms y.syms s | _ => s)
 | _ => s
def bGo (h h' : Tree AObj) : Nat -> MS -> MS
 | 0, s => s
 | n + 1, s => match s.td with
  | [] => s
  | p :: l => (match h.get p.1 with
   | none => bGo h h' n ⟨s.im, s.vm, s.IM, s.VM, l⟩
   | some a => (match h'.get p.2 with
    | none => bGo h h' n ⟨s.im, s.vm, s.IM, s.VM, l⟩
    | some b => bGo h h' n (bO a b ⟨s.im, s.vm, s.IM, s.VM, l⟩)))
def bEnv (e : Env) : List (Nat × AV) -> MS -> MS
 | [], s => s
 | p :: l, s => (match e.get p.1 with
  | none => bEnv e l s
  | some w => bEnv e l (bV 40 p.2 w s))
def bFr : List AFrame -> List FT -> MS -> MS
 | [], _, s => s
 | a :: l, m, s => (match m with | [] => s | t :: m => bFr l m (bEnv a.env t.env s))
def ms0 (g : Nat) : MS := ⟨assocT (jR 0 nGlob), assocT (jN g []), jR 0 nGlob, jN g [], jR 0 nGlob⟩
def findM (g : Nat) (m : AM) (D : CT) : MS := bGo (assocT D.objs) m.s.heap 5000 (bFr (m.fr :: m.st) D.frames (ms0 g))
structure Ct where
 D : CT
 I : Inv
 st : Nat
 M : Po
 pos : Nat
def WinsB (P : Program) (K : Ct) (b : Nat) : Prop := Wins P K.D (JI fun y => K.I.holds y /\ evP y K.M <= (b : Int))
def Lower (K : Ct) (b : Nat) (S : Ct) (c : Nat) : Prop := K.st < S.st \/ K.st = S.st /\ (b < c \/ b = c /\ K.pos < S.pos)
def tauO (VM : Tree SI) (v : Nat) : Option Po :=
 match VM.get v with
 | some x => some (siP x)
 | none => none
def defV (b : Tree (Int × Int)) (dv : List Nat) (VM : Tree SI) (v : Nat) : Bool :=
 match VM.get v with
 | some x => defB b dv x
 | none => false
def varsI (f : Nat -> Bool) (I : Inv) : Bool :=
 allL (fun e => f e.1 && varP f e.2) I.eqs && allL (fun e => f e.1 && varP f e.2) I.mods && allL (varP f) I.les
def invB (C : Cx) (τ : Nat -> Option Po) (I : Inv) : Bool :=
 allL (fun e => C.eqB (pSub (sbP τ (pVar e.1)) (sbP τ e.2))) I.eqs && allL (fun e => C.modB (pSub (pMulT 2 [] (sbP τ (pVar e.1))) (sbP τ e.2))) I.mods && allL (fun p => C.leB (sbP τ p)) I.les
def stepB (C : Cx) (src K : Ct) (τ : Nat -> Option Po) : Bool :=
 cnd (Nat.ble (Nat.succ K.st) src.st) (C.leB (pSub (pC 1048576) (sbP τ K.M)))
  (Nat.beq K.st src.st && cnd (Nat.ble (Nat.succ K.pos) src.pos) (C.leB (pSub src.M (sbP τ K.M))) (C.leB (sbP τ K.M) && C.leB (pSub (pSub src.M (sbP τ K.M)) (pC 1))))
def sbS (VM : Tree SI) : SI -> Option SI
 | .lit n => some (.lit n)
 | .var v o => oo (VM.get v) fun x => some (addS x o)
def sbD (VM : Tree SI) : Def -> Option Def
 | .add a b => oo (sbS VM a) fun x => oo (sbS VM b) fun z => some (.add x z)
 | .sub a b => oo (sbS VM a) fun x => oo (sbS VM b) fun z => some (.sub x z)
 | .mul a b => oo (sbS VM a) fun x => oo (sbS VM b) fun z => some (.mul x z)
 | .rem a b => oo (sbS VM a) fun x => oo (sbS VM b) fun z => some (.rem x z)
 | .quo a b => oo (sbS VM a) fun x => oo (sbS VM b) fun z => some (.quo x z)
def kn1 (v : Nat) (d : Def) (dfs : List (Nat × Def)) (L : List Fact) : Bool := anyL (fun e => Nat.beq e.1 v && defEq e.2 d) dfs || anyL (factEq (.df v d)) L
def atV (o : Option SI) : Option Nat :=
 match o with
 | some x => (match x with | .var v p => cnd (ieq p 0) (some v) none | .lit _ => none)
 | none => none
def fD (f : Nat -> Bool) : Def -> Bool
 | .add a b => fS a && fS b
 | .sub a b => fS a && fS b
 | .mul a b => fS a && fS b
 | .rem a b => fS a && fS b
 | .quo a b => fS a && fS b
where
 fS : SI -> Bool
  | .lit _ => true
  | .var v _ => f v
def df1 (f : Nat -> Bool) (VM : Tree SI) (dfs : List (Nat × Def)) (L : List Fact) (e : Nat × Def) : Bool :=
 match atV (VM.get e.1) with
 | some v => (match sbD VM e.2 with | some d => f e.1 && fD f e.2 && kn1 v d dfs L | none => false)
 | none => false
def dfsB (f : Nat -> Bool) (VM : Tree SI) (dfs : List (Nat × Def)) (L : List Fact) (l : List (Nat × Def)) : Bool := allL (df1 f VM dfs L) l
theorem addS_ev {y : Nat -> Int} (x : SI) (o : Int) : (addS x o).ev y = x.ev y + o := by
 cases x with
 | lit n => rfl
 | var v p => show y v + (p + o) = y v + p + o; omega
theorem sbS_ev {y y' : Nat -> Int} {VM : Tree SI} {f : Nat -> Bool} (hs : ∀ v, f v = true -> ∀ x, VM.get v = some x -> y' v = x.ev y) {x z : SI} (h : sbS VM x = some z) (k : fD.fS f x = true) : z.ev y = x.ev y' := by
 cases x with
 | lit n => cases h; rfl
 | var v o =>
  obtain ⟨w, h1, h⟩ := oo_eq (show oo (VM.get v) (fun x => some (addS x o)) = some z from h)
  cases h
  rw [addS_ev, <- hs v k w h1]; rfl
theorem sbD_ev {y y' : Nat -> Int} {VM : Tree SI} {f : Nat -> Bool} (hs : ∀ v, f v = true -> ∀ x, VM.get v = some x -> y' v = x.ev y) {d e : Def} (h : sbD VM d = some e) (k : fD f d = true) {n : Int} (hn : DefT y n e) : DefT y' n d := by
 cases d <;>
 ·simp only [fD, Bool.and_eq_true] at k
  obtain ⟨x, h1, h⟩ := oo_eq h
  obtain ⟨z, h2, h⟩ := oo_eq h
  cases h
  have e1 := sbS_ev hs h1 k.1
  have e2 := sbS_ev hs h2 k.2
  simp only [DefT] at hn ⊢
  rw [<- e1, <- e2]; exact hn
theorem kn1_sound {v : Nat} {d : Def} {dfs : List (Nat × Def)} {L : List Fact} {y : Nat -> Int} (hd : ∀ e, e ∈ dfs -> DefT y (y e.1) e.2) (hL : ∀ q, q ∈ L -> FactT y q) (h : kn1 v d dfs L = true) : DefT y (y v) d := by
 unfold kn1 at h
 rw [Bool.or_eq_true] at h
 rcases h with h | h
 ·obtain ⟨e, h1, h2⟩ := anyL_eq h
  rw [Bool.and_eq_true] at h2
  have e1 := Nat.eq_of_beq_eq_true h2.1
  have e2 := defEq_eq h2.2
  have := hd e h1
  rw [e1, e2] at this; exact this
 ·obtain ⟨q, h1, h2⟩ := anyL_eq h
  have e := factEq_eq h2
  have h3 := hL q h1
  rw [<- e] at h3; exact h3
theorem dfsB_sound {y y' : Nat -> Int} {VM : Tree SI} {f : Nat -> Bool} (hs : ∀ v, f v = true -> ∀ x, VM.get v = some x -> y' v = x.ev y) {dfs : List (Nat × Def)} {L : List Fact} (hd : ∀ e, e ∈ dfs -> DefT y (y e.1) e.2) (hL : ∀ q, q ∈ L -> FactT y q) {l : List (Nat × Def)} (h : dfsB f VM dfs L l = true) : ∀ e, e ∈ l -> DefT y' (y' e.1) e.2 := by
 intro e he
 have h := allL_eq h e he
 unfold df1 at h
 cases hv : VM.get e.1 with
 | none => rw [hv] at h; cases h
 | some x =>
  rw [hv] at h
  cases x with
  | lit _ => cases h
  | var v p =>
   simp only [atV, cnd_ite] at h
   split at h
   ·rename_i v' hv'
    split at hv'
    ·rename_i hp
     cases hv'
     rw [ieq_eq, decide_eq_true_eq] at hp
     subst hp
     cases hd' : sbD VM e.2 with
     | none => rw [hd'] at h; cases h
     | some d =>
      rw [hd'] at h
      simp only [Bool.and_eq_true] at h
      have h1 := kn1_sound hd hL h.2
      have h2 := hs _ h.1.1 _ hv
      have h3 : y' e.1 = y v := by rw [h2]; show y v + 0 = y v; omega
      rw [h3]
      exact sbD_ev hs hd' h.1.2 h1
    ·cases hv'
   ·cases h
def arB (src K : Ct) (VM : List (Nat × SI)) (vs : VS) : Bool :=
 varsI (defV vs.bnds (dvF vs.facts) (assocT VM)) K.I && varP (defV vs.bnds (dvF vs.facts) (assocT VM)) K.M && invB (cxOf src.I vs) (tauO (assocT VM)) K.I && dfsB (defV vs.bnds (dvF vs.facts) (assocT VM)) (assocT VM) src.I.dfs vs.facts K.I.dfs && stepB (cxOf src.I vs) src K (tauO (assocT VM))
def bndA (C : Cx) (b : Tree (Int × Int)) (dv : List Nat) (VM : Tree SI) (p : Nat × (Int × Int)) : Bool :=
 match VM.get p.1 with
 | none => false
 | some x => defB b dv x && C.leB (pSub (siP x) (pC p.2.1)) && C.leB (pSub (pC p.2.2) (siP x))
def lfN2 (P : Program) (K src : Ct) (m : AM) (IM : List (Nat × Nat)) (VM : List (Nat × SI)) : Bool :=
 !isNone (K.D.am P) && cutB P IM VM m K.D.bare && allL (fun p => bndB (mpOf IM VM) m.s.vs p || bndA (cxOf src.I m.s.vs) m.s.vs.bnds (dvF m.s.vs.facts) (assocT VM) p) K.D.bnds && arB src K VM m.s.vs
def lfN (P : Program) (K src : Ct) (g : Nat) (m : AM) : Bool :=
 match findM g m K.D with
 | ⟨_, _, IM, VM, _⟩ => lfN2 P K src m IM VM
inductive Nd where
 | L (n k : Nat)
 | F (n : Nat) (a b : Nd)
 | X (n : Nat)
 | Z (n : Nat)
def ndB (P : Program) (sums : Sums) (tab : Nat -> Ct) (g : Nat) (src : Ct) : Nd -> AM -> Bool :=
 Nd.rec (motive := fun _ => AM -> Bool) (fun n k m => match runN P sums n m with | .next m => lfN P (tab k) src g m | _ => false)
  (fun n _ _ ka kb m => match runN P sums n m with | .fork _ a b => ka a && kb b | _ => false)
  (fun n m => match runN P sums n m with | .next m => deadB (cxOf src.I m.s.vs) m.s.vs.facts | _ => false)
  (fun n m => match runN P sums n m with | .done v _ => avEq 40 v (.bool true) | _ => false)
def ndC (P : Program) (sums : Sums) (tab : Nat -> Ct) (g : Nat) (src : Ct) (t : Nd) : Bool :=
 match src.D.am P with
 | none => false
 | some m => ndB P sums tab g src t m
theorem rg_of {c : Cz} {vs : VS} (h : RVars c vs) {y : Nat -> Int} (hy : Ext y c.ρ) : Rg vs y := by
 intro x q hx
 obtain ⟨n, e1, e2, e3⟩ := rng_sound h hx
 rw [ev_val hy e1]; exact ⟨e2, e3⟩
theorem inT_of {c : Cz} {vs : VS} (h : RVars c vs) {y : Nat -> Int} (hy : Ext y c.ρ) : InT vs.bnds y := by
 intro v lo hi hv
 obtain ⟨n, e1, e2, e3⟩ := h.bnds v lo hi hv
 rw [hy v n e1]; exact ⟨e2, e3⟩
theorem cx_of {c : Cz} {vs : VS} (h : RVars c vs) {y : Nat -> Int} (hy : Ext y c.ρ) {I : Inv} (hI : I.holds y) : (cxOf I vs).ok y := cxOf_ok (inT_of h hy) (rg_of h hy) (fun q hq => factT_of hy (h.facts q hq)) hI
theorem defB_val2 {c : Cz} {vs : VS} (h : RVars c vs) {x : SI} (hx : defB vs.bnds (dvF vs.facts) x = true) : ∃ n, x.val c.ρ = some n := by
 have hdv : ∀ (fs : List Fact), (∀ q, q ∈ fs -> q.holds c.ρ) -> ∀ v, v ∈ dvF fs -> ∃ n, c.ρ v = some n := by
  intro fs
  induction fs with
  | nil => intro _ v hv; cases hv
  | cons f l ih =>
   intro hf v hv
   cases f with
   | df u d =>
    rcases List.mem_cons.1 hv with e | e
    ·subst e
     obtain ⟨n, e, _⟩ := hf (.df v d) (List.mem_cons_self ..)
     exact ⟨n, e⟩
    ·exact ih (fun q hq => hf q (List.mem_cons_of_mem _ hq)) v e
   | cd q b => exact ih (fun q hq => hf q (List.mem_cons_of_mem _ hq)) v hv
 cases x with
 | lit n => exact ⟨n, rfl⟩
 | var v o =>
  simp only [defB, Bool.or_eq_true] at hx
  have : ∃ n, c.ρ v = some n := by
   rcases hx with hx | hx
   ·cases hg : vs.bnds.get v with
    | none => rw [hg] at hx; cases hx
    | some q => obtain ⟨n, e, _⟩ := h.bnds v q.1 q.2 hg; exact ⟨n, e⟩
   ·obtain ⟨u, h1, h2⟩ := anyL_eq hx
    have := Nat.eq_of_beq_eq_true h2
    subst this
    exact hdv _ h.facts _ h1
  obtain ⟨n, e⟩ := this
  exact ⟨n + o, by simp [SI.val, e]⟩
theorem defV_sb {c : Cz} {vs : VS} (h : RVars c vs) {VM : List (Nat × SI)} {y y' : Nat -> Int} (hy : Ext y c.ρ) (hy' : Ext y' (viaρ VM c.ρ)) {v : Nat} (k : defV vs.bnds (dvF vs.facts) (assocT VM) v = true) : Sb (tauO (assocT VM)) y y' v := by
 unfold defV at k
 unfold Sb tauO
 cases hv : (assocT VM).get v with
 | none => rw [hv] at k; cases k
 | some x =>
  rw [hv] at k
  obtain ⟨n, e⟩ := defB_val2 h k
  have e2 : viaρ VM c.ρ v = some n := by
   show ((assocT VM).get v).bind _ = _
   rw [hv]; exact e
  simp only [evP_si]
  rw [hy' _ _ e2, ev_val hy e]
theorem defV_ev {c : Cz} {vs : VS} (h : RVars c vs) {VM : List (Nat × SI)} {y y' : Nat -> Int} (hy : Ext y c.ρ) (hy' : Ext y' (viaρ VM c.ρ)) {v : Nat} (k : defV vs.bnds (dvF vs.facts) (assocT VM) v = true) (x : SI) (hx : (assocT VM).get v = some x) : y' v = x.ev y := by
 have h1 := defV_sb h hy hy' k
 unfold Sb tauO at h1
 rw [hx] at h1
 rw [h1]; exact evP_si y x
theorem invB_sound {C : Cx} {y y' : Nat -> Int} (h : C.ok y) {τ : Nat -> Option Po} {f : Nat -> Bool} (hs : ∀ v, f v = true -> Sb τ y y' v) {I : Inv} (hd : ∀ e, e ∈ I.dfs -> DefT y' (y' e.1) e.2) (hv : varsI f I = true) (k : invB C τ I = true) : I.holds y' := by
 unfold varsI at hv
 unfold invB at k
 simp only [Bool.and_eq_true] at hv k
 obtain ⟨⟨v1, v2⟩, v3⟩ := hv
 obtain ⟨⟨k1, k2⟩, k3⟩ := k
 have h1 : ∀ (v : Nat), f v = true -> evP y (sbP τ (pVar v)) = y' v := fun v h => by
  rw [sbP_ev hs (pVar v) (by simp [pVar, varP, varM, cnd_ite, h]), evP_var]
 refine ⟨fun e he => ?_, fun e he => ?_, fun p hp => ?_, hd⟩
 ·have hv := allL_eq v1 e he
  rw [Bool.and_eq_true] at hv
  have := h.eqB (allL_eq k1 e he)
  rw [evP_sub, h1 _ hv.1, sbP_ev hs _ hv.2] at this
  omega
 ·have hv := allL_eq v2 e he
  rw [Bool.and_eq_true] at hv
  have := h.modB (allL_eq k2 e he)
  rw [evP_sub, evP_mulT, h1 _ hv.1, sbP_ev hs _ hv.2] at this
  simpa [evM] using this
 ·have := h.leB (allL_eq k3 p hp)
  rwa [sbP_ev hs _ (allL_eq v3 p hp)] at this
theorem stepB_sound {C : Cx} {y y' : Nat -> Int} (h : C.ok y) {τ : Nat -> Option Po} {f : Nat -> Bool} (hs : ∀ v, f v = true -> Sb τ y y' v) {src K : Ct} (hv : varP f K.M = true) (k : stepB C src K τ = true) {c : Nat} (hc : evP y src.M <= (c : Int)) :
  (K.st < src.st /\ evP y' K.M <= 1048576) \/ (K.st = src.st /\ K.pos < src.pos /\ evP y' K.M <= (c : Int)) \/ (K.st = src.st /\ 1 <= c /\ evP y' K.M <= ((c - 1 : Nat) : Int)) := by
 unfold stepB at k
 have hM := sbP_ev hs K.M hv
 rw [cnd_ite] at k
 split at k
 ·rename_i hb
  have := h.leB k
  rw [evP_sub, hM, evP_C] at this
  exact .inl ⟨Nat.le_of_ble_eq_true hb, by omega⟩
 ·rw [Bool.and_eq_true] at k
  have he := Nat.eq_of_beq_eq_true k.1
  have k := k.2
  rw [cnd_ite] at k
  split at k
  ·rename_i hb
   have := h.leB k
   rw [evP_sub, hM] at this
   exact .inr (.inl ⟨he, Nat.le_of_ble_eq_true hb, by omega⟩)
  ·rw [Bool.and_eq_true] at k
   have h1 := h.leB k.1
   have h2 := h.leB k.2
   rw [evP_sub, evP_sub, evP_C, hM] at h2
   rw [hM] at h1
   exact .inr (.inr ⟨he, by omega, by omega⟩)
theorem lf_sound (hc : GoodC P) {Kb : Kp} (hb : ∀ i, ¬ Kb.un i) {cs0 cs : List Frame} {f : Nat} {F : Frame} {w : World} {c : Cz} {K src : Ct} {g : Nat} {m : AM} {n : Nat} (hin : MIn P m.fr m.st) (h : lfN P K src g m = true) (hm : RM P Kb cs0 f c m.fr m.st m.s F cs w)
  (hJ : JI (fun y => src.I.holds y /\ evP y src.M <= (n : Int)) c.ρ) (hw : ∀ b, Lower K b src n -> WinsB P K b) : Ends P Kb cs0 f F cs w := by
 unfold lfN at h
 generalize findM g m K.D = r at h
 obtain ⟨_, _, IM, VM, _⟩ := r
 change lfN2 P K src m IM VM = true at h
 unfold lfN2 at h
 simp only [Bool.and_eq_true] at h
 obtain ⟨⟨⟨h2, h3⟩, h4⟩, h5⟩ := h
 have hv : RVars c m.s.vs := by
  obtain ⟨⟨K1, A1, y1, y2, y3⟩, y4⟩ := hm
  exact y3.vars
 have hy := ext_tot c.ρ
 have hI := hJ _ hy
 have hcx := cx_of hv hy hI.1
 cases hD : K.D.am P with
 | none => rw [hD] at h2; cases h2
 | some mL =>
  obtain ⟨e1, e2⟩ := CT.am_bare hD
  have k := RM.via (mL := ⟨mL.fr, mL.st, K.D.bare.s⟩) hb (cut_via hc hin e1 h3) hm
  unfold arB at h5
  simp only [Bool.and_eq_true] at h5
  obtain ⟨⟨⟨⟨a1, a2⟩, a3⟩, a5⟩, a4⟩ := h5
  have hsb : ∀ y', Ext y' (viaρ VM c.ρ) -> ∀ v, defV m.s.vs.bnds (dvF m.s.vs.facts) (assocT VM) v = true -> Sb (tauO (assocT VM)) (tot c.ρ) y' v := fun y' hy' v hv' => defV_sb hv hy hy' hv'
  have hmain : ∃ b, Lower K b src n /\ JI (fun y => K.I.holds y /\ evP y K.M <= (b : Int)) (viaρ VM c.ρ) := by
   have hIn : ∀ y', Ext y' (viaρ VM c.ρ) -> K.I.holds y' := fun y' hy' => invB_sound hcx (hsb y' hy') (dfsB_sound (fun v hv' x hx => defV_ev hv hy hy' hv' x hx) hI.1.dfs (fun q hq => factT_of hy (hv.facts q hq)) a5) a1 a3
   have hMe : ∀ y', Ext y' (viaρ VM c.ρ) -> evP y' K.M = evP (tot c.ρ) (sbP (tauO (assocT VM)) K.M) := fun y' hy' => (sbP_ev (hsb y' hy') K.M a2).symm
   have hst := stepB_sound hcx (hsb _ (ext_tot _)) a2 a4 hI.2
   rcases hst with ⟨s1, s2⟩ | ⟨s1, s2, s3⟩ | ⟨s1, s2, s3⟩
   ·refine ⟨1048576, .inl s1, fun y' hy' => ⟨hIn y' hy', ?_⟩⟩
    rw [hMe y' hy', <- hMe _ (ext_tot _)]; exact s2
   ·refine ⟨n, .inr ⟨s1, .inr ⟨rfl, s2⟩⟩, fun y' hy' => ⟨hIn y' hy', ?_⟩⟩
    rw [hMe y' hy', <- hMe _ (ext_tot _)]; exact s3
   ·refine ⟨n - 1, .inr ⟨s1, .inl (by omega)⟩, fun y' hy' => ⟨hIn y' hy', ?_⟩⟩
    rw [hMe y' hy', <- hMe _ (ext_tot _)]; exact s3
  obtain ⟨b, hl, hj⟩ := hmain
  refine hw b hl Kb cs0 f ((mpOf IM VM).via c) F cs w mL hb hD ?_ hj
  obtain ⟨⟨K1, A1, y1, y2, y3⟩, y4⟩ := k
  refine ⟨⟨K1, A1, y1, y2, ?_⟩, y4⟩
  rw [e2]
  refine y3.rebound (b := assocT K.D.bnds) fun v lo hi hv' => ?_
  have := allL_eq h4 _ (assocT_get hv')
  rw [Bool.or_eq_true] at this
  rcases this with hx | hx
  ·unfold bndB at hx
   simp only at hx
   cases hq : (mpOf IM VM).vm.get v with
   | none => rw [hq] at hx; cases hx
   | some x =>
    rw [hq] at hx
    simp only at hx
    cases hr : rng m.s.vs x with
    | none => rw [hr] at hx; cases hx
    | some q =>
     rw [hr] at hx
     simp only [Bool.and_eq_true, ile_eq, decide_eq_true_eq] at hx
     obtain ⟨j, z1, z2, z3⟩ := rng_sound hv hr
     refine ⟨j, ?_, by omega, by omega⟩
     show ((mpOf IM VM).vm.get v).bind _ = _
     rw [hq]; exact z1
  ·unfold bndA at hx
   simp only at hx
   cases hq : (assocT VM).get v with
   | none => rw [hq] at hx; cases hx
   | some x =>
    rw [hq] at hx
    simp only [Bool.and_eq_true] at hx
    obtain ⟨⟨x1, x2⟩, x3⟩ := hx
    obtain ⟨j, e⟩ := defB_val2 hv x1
    have x2 := hcx.leB x2
    have x3 := hcx.leB x3
    rw [evP_sub, evP_si, evP_C, ev_val hy e] at x2 x3
    refine ⟨j, ?_, by omega, by omega⟩
    show ((assocT VM).get v).bind _ = _
    rw [hq]; exact e
theorem nd_sound (hg : Good P) (hc : GoodC P) {sums : Sums} (hs : SumsOk P sums) {Kb : Kp} (hb : ∀ i, ¬ Kb.un i) {cs0 : List Frame} {f : Nat} {tab : Nat -> Ct} {g : Nat} {src : Ct} {n : Nat} (hw : ∀ k b, Lower (tab k) b src n -> WinsB P (tab k) b) :
  ∀ (t : Nd) (m : AM) (c : Cz) (F : Frame) (cs : List Frame) (w : World), MIn P m.fr m.st -> ndB P sums tab g src t m = true -> RM P Kb cs0 f c m.fr m.st m.s F cs w -> JI (fun y => src.I.holds y /\ evP y src.M <= (n : Int)) c.ρ -> Ends P Kb cs0 f F cs w := by
 intro t
 induction t with
 | L j k =>
  intro m c F cs w hin h hm hJ
  have h1 := runN_sound hg hc hs j m c F cs w hm
  have h2 := runN_in (sums := sums) j m hin
  change (match runN P sums j m with | .next m => lfN P (tab k) src g m | _ => false) = true at h
  generalize runN P sums j m = r at h h1 h2
  cases r with
  | next m' =>
   obtain ⟨d, F', cs', w', g1, g2, g3, g4⟩ := h1
   exact Ends.before g2 g4 (lf_sound hc hb h2 h g3 (JI.mono _ _ hJ g1.ρ) (hw k))
  | _ => cases h
 | F j a b iha ihb =>
  intro m c F cs w hin h hm hJ
  have h1 := runN_sound hg hc hs j m c F cs w hm
  have h2 := runN_in (sums := sums) j m hin
  change (match runN P sums j m with | .fork _ ma mb => ndB P sums tab g src a ma && ndB P sums tab g src b mb | _ => false) = true at h
  generalize runN P sums j m = r at h h1 h2
  cases r with
  | fork q ma mb =>
   rw [Bool.and_eq_true] at h
   obtain ⟨d, F', cs', w', g1, g2, g3, g4⟩ := h1
   have hJ' := JI.mono _ _ hJ g1.ρ
   rcases g4 with ⟨_, g6⟩ | ⟨_, g6⟩
   ·exact Ends.before g2 g3 (iha ma d F' cs' w' h2.1 h.1 g6 hJ')
   ·exact Ends.before g2 g3 (ihb mb d F' cs' w' h2.2 h.2 g6 hJ')
  | _ => cases h
 | X j =>
  intro m c F cs w hin h hm hJ
  have h1 := runN_sound hg hc hs j m c F cs w hm
  change (match runN P sums j m with | .next m => deadB (cxOf src.I m.s.vs) m.s.vs.facts | _ => false) = true at h
  generalize runN P sums j m = r at h h1
  cases r with
  | next m' =>
   obtain ⟨d, F', cs', w', g1, g2, g3, g4⟩ := h1
   have hv : RVars d m'.s.vs := by
    obtain ⟨⟨K1, A1, y1, y2, y3⟩, y4⟩ := g3
    exact y3.vars
   have hy := ext_tot d.ρ
   have hI := JI.mono _ _ hJ g1.ρ _ hy
   exact (deadB_sound (cx_of hv hy hI.1) (fun q hq => factT_of hy (hv.facts q hq)) h).elim
  | _ => cases h
 | Z j =>
  intro m c F cs w hin h hm hJ
  have h1 := runN_sound hg hc hs j m c F cs w hm
  change (match runN P sums j m with | .done v _ => avEq 40 v (.bool true) | _ => false) = true at h
  generalize runN P sums j m = r at h h1
  cases r with
  | done v s1 =>
   obtain ⟨d, F', w', x, g1, g2, g3, g4, g5, g6, g7⟩ := h1
   have := avEq_eq 40 _ _ h
   subst this
   cases g5
   exact ⟨F', w', d, s1, g2, g3, g4, g7, g6⟩
  | _ => cases h
theorem nd_wins (hg : Good P) (hc : GoodC P) {sums : Sums} (hs : SumsOk P sums) {tab : Nat -> Ct} {g : Nat} {src : Ct} {t : Nd} (h : ndC P sums tab g src t = true) {n : Nat} (hw : ∀ k b, Lower (tab k) b src n -> WinsB P (tab k) b) : WinsB P src n := by
 intro Kb cs0 f c F cs w m hb hD hm hJ
 unfold ndC at h
 rw [hD] at h
 exact nd_sound hg hc hs hb hw t m c F cs w (am_in hD) h hm hJ
end Sx
end
noncomputable section
namespace Sx
open Go
variable {P : Program}
def CT.fix (D : CT) (u : Nat) (r : Int) : CT := ⟨D.frames, D.objs, D.nx, (u, (r, r)) :: D.bnds, D.nv⟩
def spB (src K : Ct) (l : List (Nat × (Int × Int))) : Bool :=
 Nat.ble (Nat.succ K.st) src.st && invB (cxOf src.I ⟨assocT l, 0, []⟩) (fun _ => none) K.I && (cxOf src.I ⟨assocT l, 0, []⟩).leB (pSub (pC 1048576) K.M) && allL (fun e => kn1 e.1 e.2 src.I.dfs []) K.I.dfs
theorem rng_in {vs : VS} {y : Nat -> Int} (h : InT vs.bnds y) : Rg vs y := by
 intro x q hx
 cases x with
 | lit m =>
  have h' : some (m, m) = some q := hx
  cases h'
  exact ⟨Int.le_refl _, Int.le_refl _⟩
 | var v o =>
  have e : rng vs (.var v 0) = rng vs (.var v 0) := rfl
  let c : Cz := ⟨fun _ => none, fun v => match vs.bnds.get v with | some _ => some (y v) | none => none⟩
  have hb : RVars c ⟨vs.bnds, vs.nv, []⟩ \/ True := .inr trivial
  have hx' : rng vs (.var v o) = some q := hx
  unfold rng at hx'
  simp only at hx'
  cases hv : vs.bnds.get v with
  | none => simp [hv, oo] at hx'
  | some p =>
   have := h v p.1 p.2 hv
   simp [hv, oo] at hx'
   subst hx'
   show _ <= y v + o /\ y v + o <= _
   first
    | omega
    | (show p.1 + o <= y v + o /\ y v + o <= p.2 + o; omega)
theorem spl_wins {src K : Ct} {u : Nat} {r : Int} {n : Nat} (hD : K.D = src.D.fix u r) (h : spB src K K.D.bnds = true) (hw : ∀ b, Lower K b src n -> WinsB P K b) : Wins P (src.D.fix u r) (JI fun y => (src.I.holds y /\ evP y src.M <= (n : Int)) /\ y u = r) := by
 unfold spB at h
 simp only [Bool.and_eq_true] at h
 obtain ⟨⟨⟨h1, h2⟩, h3⟩, h4⟩ := h
 have hwb := hw 1048576 (.inl (Nat.le_of_ble_eq_true h1))
 unfold WinsB at hwb
 rw [hD] at hwb h2 h3
 intro Kb cs0 f c F cs w m hb hm0 hm hJ
 refine hwb Kb cs0 f c F cs w m hb hm0 hm fun y hy => ?_
 obtain ⟨hI, hu⟩ := hJ y hy
 have hbd : InT (assocT (src.D.fix u r).bnds) y := by
  obtain ⟨⟨K1, A1, y1, y2, y3⟩, y4⟩ := hm
  have := y3.vars
  rw [CT.am_s hm0] at this
  exact inT_of this hy
 have hcx : (cxOf src.I ⟨assocT (src.D.fix u r).bnds, 0, []⟩).ok y := cxOf_ok (vs := ⟨assocT (src.D.fix u r).bnds, 0, []⟩) hbd (rng_in hbd) (fun q hq => by cases hq) hI.1
 have hvt : ∀ I : Inv, varsI (fun _ => true) I = true := by
  intro I
  have hall : ∀ {α : Type} (p : α -> Bool) (l : List α), (∀ a, p a = true) -> allL p l = true := by
   intro α p l hp
   induction l with
   | nil => rfl
   | cons a l ih => show cnd (p a) (allL p l) false = true; rw [hp]; exact ih
  unfold varsI
  rw [hall, hall, hall] <;> intros <;> simp [varP_true]
 refine ⟨invB_sound (f := fun _ => true) hcx (fun v _ => rfl) (fun e he => kn1_sound hI.1.dfs (fun q hq => by cases hq) (allL_eq h4 e he)) (hvt _) h2, ?_⟩
 have := hcx.leB h3
 rw [evP_sub, evP_C] at this
 omega
def tabO (T : Tree Ct) (k : Nat) : Ct :=
 match T.get k with
 | some K => K
 | none => ⟨⟨[], [], 0, [], 0⟩, ⟨[], [], [], []⟩, 0, [], 0⟩
def TAll {α : Type} (p : α -> Prop) : Tree α -> Prop
 | .leaf => True
 | .node l v r => (match v with | some x => p x | none => True) /\ TAll p l /\ TAll p r
theorem TAll.getP {α : Type} {p : α -> Prop} : ∀ {t : Tree α}, TAll p t -> ∀ n x, t.getP n = some x -> p x := by
 intro t
 induction t with
 | leaf => intro _ n x h; cases h
 | node l v r ihl ihr =>
  intro h n x hx
  rw [Tree.getP_node] at hx
  obtain ⟨h1, h2, h3⟩ := h
  split at hx
  ·subst hx; exact h1
  ·split at hx
   ·exact ihl h2 _ _ hx
   ·exact ihr h3 _ _ hx
def OkT (P : Program) (T : Tree Ct) (K : Ct) : Prop := ∃ sums g t, SumsOk P sums /\ ndC P sums (tabO T) g K t = true
def OkS (T : Tree Ct) (K : Ct) : Prop := ∃ u j, (assocT K.D.bnds).get u = some (0, 3) /\ ∀ r : Nat, r < 4 -> (tabO T (j + r)).D = K.D.fix u r /\ spB K (tabO T (j + r)) (tabO T (j + r)).D.bnds = true
theorem all_wins (hg : Good P) (hc : GoodC P) {T : Tree Ct} (h : TAll (fun K => OkT P T K \/ OkS T K) T) : ∀ (a b c k : Nat), (tabO T k).st = a -> (tabO T k).pos = c -> WinsB P (tabO T k) b := by
 intro a b c
 induction hx : (a, b, c) using (Prod.lex ⟨_, Nat.lt_wfRel.wf⟩ (Prod.lex ⟨_, Nat.lt_wfRel.wf⟩ ⟨_, Nat.lt_wfRel.wf⟩)).wf.induction generalizing a b c with
 | _ x ih =>
 subst hx
 intro k h1 h2
 have hw : ∀ k' b', Lower (tabO T k') b' (tabO T k) b -> WinsB P (tabO T k') b' := by
  intro k' b' hl
  refine ih ((tabO T k').st, b', (tabO T k').pos) ?_ _ _ _ rfl k' rfl rfl
  rcases hl with hl | ⟨e, hl | ⟨e2, hl⟩⟩
  ·exact Prod.Lex.left _ _ (h1 ▸ hl)
  ·rw [e, h1]; exact Prod.Lex.right _ (Prod.Lex.left _ _ hl)
  ·rw [e, h1, e2]; exact Prod.Lex.right _ (Prod.Lex.right _ (h2 ▸ hl))
 cases hk : T.get k with
 | none =>
  intro Kb cs0 f c F cs w m _ hD
  have : tabO T k = ⟨⟨[], [], 0, [], 0⟩, ⟨[], [], [], []⟩, 0, [], 0⟩ := by unfold tabO; rw [hk]
  rw [this] at hD
  cases hD
 | some K =>
  have e : tabO T k = K := by unfold tabO; rw [hk]
  have hK := TAll.getP h _ _ hk
  rw [e] at hw ⊢
  rcases hK with ⟨sums, g, t, q1, q2⟩ | ⟨u, j, q1, q2⟩
  ·exact nd_wins hg hc q1 q2 hw
  ·refine split_win (u := u) (lo := 0) (hi := 3) (b := fun r => (u, (r, r)) :: K.D.bnds) q1 ?_ ?_
   ·intro r v p q hv
    change ((assocT K.D.bnds).set u (r, r)).get v = some (p, q) at hv
    rw [Tree.get_set] at hv
    by_cases ev : v = u
    ·rw [if_pos ev] at hv; cases hv; exact .inl ⟨ev, rfl, rfl⟩
    ·rw [if_neg ev] at hv; exact .inr hv
   ·intro r r1 r2
    obtain ⟨r', rfl⟩ := Int.eq_ofNat_of_zero_le r1
    obtain ⟨g1, g2⟩ := q2 r' (by omega)
    exact spl_wins g1 g2 fun b' hl => hw _ _ hl
end Sx
end
noncomputable section
namespace Sx
open Go
variable {P : Program}
def findS (S : Summ) (args : List AV) (s : AS) : MS := bGo (assocT S.objs) s.heap 5000 (bL (bV 40) S.args args ⟨assocT (jR 0 nGlob), .leaf, jR 0 nGlob, [], jR 0 nGlob⟩)
def sumF2 (S : Summ) (f : Nat) (args : List AV) (s : AS) (m : MS) : Option (AV × AS) :=
 match m with
 | ⟨_, _, IM, VM, _⟩ => sumOne S IM VM f args s
def sumF (S : Summ) : Sums := fun f args s => cnd (Nat.beq f S.f) (sumF2 S f args s (findS S args s)) none
def sumL (b : Sums) (l : List Summ) : Sums := List.rec (motive := fun _ => Sums) b (fun S _ r => sumOr (sumF S) r) l
def SumG (P : Program) (S : Summ) : Prop := ∃ sums, SumsOk P sums /\ S.ok P sums = true
theorem sumF_ok (hg : Good P) (hc : GoodC P) {S : Summ} (h : SumG P S) : SumsOk P (sumF S) := by
 obtain ⟨sums, h1, h2⟩ := h
 intro f args s v s' hs
 unfold sumF at hs
 rw [cnd_eq] at hs
 split at hs
 ·unfold sumF2 at hs
  generalize findS S args s = m at hs
  obtain ⟨_, _, IM, VM, _⟩ := m
  exact Summ.sound hg hc h1 h2 f args s v s' hs
 ·cases hs
theorem sumL_ok (hg : Good P) (hc : GoodC P) {b : Sums} (hb : SumsOk P b) : ∀ {l : List Summ}, (∀ S, S ∈ l -> SumG P S) -> SumsOk P (sumL b l) := by
 intro l
 induction l with
 | nil => intro _; exact hb
 | cons S l ih => intro h; exact sumOr_ok (sumF_ok hg hc (h S (List.mem_cons_self ..))) (ih fun T hT => h T (List.mem_cons_of_mem _ hT))
end Sx
end
noncomputable section
namespace Sx
open Go
def jW2 (n : Nat) (r : Nat -> List Bool) : List Bool := cnd (Nat.ble n 1) [] (Nat.beq (Nat.mod n 2) 1 :: r (Nat.div n 2))
def jW (n : Nat) : List Bool := Nat.rec (motive := fun _ => Nat -> List Bool) (fun _ => []) (fun _ r n => jW2 n r) 60 n
def tC (n : Nat) : TX := .code (jW n)
def tL (n : Nat) : TX := .inLoop (jW n)
def tS (n : Nat) : TX := .inScope (jW n)
def tB (n : Nat) : TX := .inBlock n
def tO (n k : Nat) : TX := .ops (jW n) k
def tE (n : Nat) (l : List Nat) (d k : Nat) : TX := .drawE (jW n) l d k
def jFr (u : Nat × Nat × Nat) (env : List (Nat × AV)) (td : List TX) : FT := ⟨u.1, u.2.1, u.2.2, false, env, td⟩
def bE : List (Nat × Po) := [(0, [(1, [7])]), (1, [(1, [16])]), (2, [(1, [9])]), (5, [(7, []), (10, [7]), (10, [7, 16])]), (34, [(13, []), (22, [7]), (20, [7, 16])]), (35, [(9, []), (15, [7]), (13, [7, 16])]), (36, [(13, []), (22, [7]), (20, [7, 16])])]
def bM : List (Nat × Po) := [(4, [(2, [9]), (1, [7, 7, 16]), (1, [7, 16])])]
def bD : List (Nat × Def) := [(6, .rem (.var 3 0) (.lit 4))]
def jK (D : CT) (e m : List (Nat × Po)) (l : List Po) (st : Nat) (M : Po) (pos : Nat) : Ct := ⟨D, ⟨bE ++ e, bM ++ m, l, bD⟩, st, M, pos⟩
end Sx
end
noncomputable section
namespace Sx
open Go
variable {P : Program}
def startB (P : Program) (f : Nat) (a : AV) (D : CT) (IM : List (Nat × Nat)) (VM : List (Nat × SI)) : Bool :=
 match enterF P f [a] false with
 | some fr => !isNone (D.am P) && cutB P IM VM ⟨fr, [], D.s⟩ D
 | none => false
theorem start_calls (hg : Good P) (hc : GoodC P) {D : CT} {J : (Nat -> Option Int) -> Prop} (hw : Wins P D J) {f : Nat} {a : AV} {IM : List (Nat × Nat)} {VM : List (Nat × SI)} (hb : startB P f a D IM VM = true) {c : Cz} {w : World} {x : Value}
  (hh : RHeap (Kall w) c D.s w) (hx : RV c a x) (hJ : ∀ ρ, J ρ) : Calls P f #[x] w fun e w' => e = .returned (.bool true) /\ Go.RowKit.Below w.heap.size w w' := by
 unfold startB at hb
 cases hfr : enterF P f [a] false with
 | none => rw [hfr] at hb; cases hb
 | some fr =>
  rw [hfr] at hb
  simp only [Bool.and_eq_true] at hb
  cases hD : D.am P with
  | none => rw [hD] at hb; cases hb.1
  | some mL =>
   intro cs
   have hA : RVs c [a] (#[x] : Array Value).toList := .cons _ _ _ _ hx .nil
   obtain ⟨g1, g2, g3, g4, fn, q, g5, g6⟩ := enter_frame hc hA hfr (Kall w)
   have hrm : RM P (Kall w) cs f c fr [] D.s (Frame.enter P f #[x] .normal) cs w := ⟨⟨Kall w, Kall w, .nil, g1, hh⟩, ⟨g2, g3, g4⟩⟩
   have hin : MIn P fr [] := ⟨enterF_in hfr, fun _ h => by cases h⟩
   have k := RM.via (mL := mL) (fun _ h => h) (cut_via hc (m := ⟨fr, [], D.s⟩) hin hD hb.2) hrm
   obtain ⟨F', w', d, s, h1, h2, h3, h4, h5⟩ := hw (Kall w) cs f _ _ cs w mL (fun _ h => h) hD k (hJ _)
   refine ⟨.returned (.bool true), w', F', ⟨rfl, ⟨h4.os, h4.tape, h4.output, h4.size, fun i hi => ?_⟩⟩, h1, h3, h2⟩
   have := (h5.kept i _ (Array.getElem?_eq_getElem hi)).1
   rw [this, Array.getElem?_eq_getElem hi]
def czOf (b : Nat) (base own : Nat) (ρ : Nat -> Option Int) : Cz := ⟨fun i => if i = 0 then some (0, 0, 256) else if i = 11 then some (b, base, own) else none, ρ⟩
theorem heap_of {w : World} {b base own : Nat} {ρ : Nat -> Option Int} {o : List (Nat × AObj)} {bn : List (Nat × (Int × Int))} {nv : Nat} (h0 : 0 < w.heap.size) (hb : b < w.heap.size)
  (ho : ∀ i ob, (assocT o).get i = some ob -> wr ob = false /\ (∀ b pos sz cap, ob ≠ .tailOf b pos sz cap) /\ ((i = 0 /\ ∃ co, w.heap[0]? = some co /\ RO (czOf b base own ρ) ob co 0 256) \/ (i = 11 /\ ∃ co, w.heap[b]? = some co /\ RO (czOf b base own ρ) ob co base own)))
  (hv : ∀ v lo hi, (assocT bn).get v = some (lo, hi) -> ∃ n, ρ v = some n /\ lo <= n /\ n <= hi) (hn : ∀ v, nv <= v -> ρ v = none) :
  RHeap (Kall w) (czOf b base own ρ) ⟨assocT o, 12, ⟨assocT bn, nv, []⟩⟩ w := by
 have hφ : ∀ i p, (czOf b base own ρ).φ i = some p -> (i = 0 /\ p = (0, 0, 256)) \/ (i = 11 /\ p = (b, base, own)) := by
  intro i p h
  simp only [czOf] at h
  split at h
  ·rename_i e; cases h; exact .inl ⟨e, rfl⟩
  ·split at h
   ·rename_i e; cases h; exact .inr ⟨e, rfl⟩
   ·cases h
 refine ⟨?_, ?_, ?_, ?_, ?_, ?_, ?_, ?_, ⟨hv, hn, fun f hf => by cases hf⟩, ?_⟩
 ·intro i ob hi
  obtain ⟨h1, h2, h3⟩ := ho i ob hi
  refine ⟨?_, fun blk bs ow hp => ⟨fun b pos sz cap e => absurd e (h2 b pos sz cap), fun _ => ?_⟩⟩
  ·show i < 12
   rcases h3 with ⟨e, _⟩ | ⟨e, _⟩ <;> omega
  ·rcases h3 with ⟨e, co, h4, h5⟩ | ⟨e, co, h4, h5⟩ <;> subst e <;> rcases hφ _ _ hp with ⟨e, e2⟩ | ⟨e, e2⟩
   ·cases e2; exact ⟨co, h4, h5⟩
   ·cases e
   ·cases e
   ·cases e2; exact ⟨co, h4, h5⟩
 ·intro i hi
  have hi : 12 <= i := hi
  show (if i = 0 then _ else _) = none
  rw [if_neg (by omega), if_neg (by omega)]
 ·intro i j oi oj pi pj _ hi _ _ _ hwr
  rw [(ho i oi hi).1] at hwr; cases hwr
 ·intro i p hp
  rcases hφ _ _ hp with ⟨_, e⟩ | ⟨_, e⟩ <;> subst e <;> assumption
 ·intro bl ob hk
  exact ⟨hk, fun i oi p hi _ hwr => by rw [(ho i oi hi).1] at hwr; cases hwr⟩
 ·intro _ h; cases h
 ·intro _ h; cases h
 ·intro _ _ h; cases h
 ·intro g hg
  have : g = 0 := by unfold nGlob at hg; omega
  subst this
  exact ⟨256, rfl⟩
end Sx
end
noncomputable section
namespace Sx
open Go
variable {P : Program}
theorem getD_some {α : Type} {l : List α} {i : Nat} {d x : α} (h : l[i]? = some x) : l.getD i d = x := by simp [List.getD, h]
theorem ro_ints {c : Cz} {k : IntKind} {l : List SI} {cs : Array Value} {el : TypeId} {fr : Nat × Nat} {base own : Nat} {f : Nat -> Int} (hl : l.length <= own) (hs : base + own <= cs.size)
  (h : ∀ i x, l[i]? = some x -> x.val c.ρ = some (f i) /\ cs[base + i]? = some (.int k (f i))) : RO c (.cells (Tree.ofList (l.map fun x => AV.int k x)) (lenL (l.map fun x => AV.int k x)) false) (.cells cs el fr) base own := by
 have hlen : ∀ {α : Type} (m : List α), lenL m = m.length := by
  intro α m
  induction m with
  | nil => rfl
  | cons a m ih => show Nat.succ (lenL m) = _; rw [ih]; rfl
 refine .cells _ _ _ _ _ _ _ _ ⟨fun i v hi => ?_, ?_, hs⟩ (fun e => by cases e)
 ·rw [Tree.get_ofList] at hi
  rw [List.getElem?_map] at hi
  cases hx : l[i]? with
  | none => rw [hx] at hi; cases hi
  | some x =>
   rw [hx] at hi
   cases hi
   obtain ⟨h1, h2⟩ := h i x hx
   refine ⟨?_, rfl, _, h2, .int _ _ _ h1⟩
   rw [hlen, List.length_map]
   exact (List.getElem?_eq_some_iff.1 hx).1
 ·rw [hlen, List.length_map]; exact hl
theorem cells_at {w : World} {b off n : Nat} {f : Nat -> Value} (hn : 0 < n) (h : ∀ i, i < n -> w.cell? ⟨b, off + i, none⟩ = some (f i)) : ∃ cs el fr, w.heap[b]? = some (.cells cs el fr) /\ off + n <= cs.size /\ ∀ i, i < n -> cs[off + i]? = some (f i) := by
 have h0 := h 0 hn
 unfold World.cell? at h0
 simp only at h0
 split at h0
 ·rename_i cs el fr hb
  have hall : ∀ i, i < n -> cs[off + i]? = some (f i) := by
   intro i hi
   have := h i hi
   unfold World.cell? at this
   simp only [hb] at this
   simpa using this
  refine ⟨cs, el, fr, hb, ?_, hall⟩
  have := hall (n - 1) (by omega)
  have := (Array.getElem?_eq_some_iff.1 this).1
  omega
 ·cases h0
end Sx
end
noncomputable section
namespace Sx
open Go
theorem lt_of_heap {w : World} {b : Nat} {o : Obj} (h : w.heap[b]? = some o) : b < w.heap.size := by
 rcases Nat.lt_or_ge b w.heap.size with h1 | h1
 ·exact h1
 ·simp [Array.getElem?_eq_none h1] at h
theorem eq_u8 {P : Program} (hk : P.underlying 5 = some (.int .u8)) (a b : Int) (w : World) : (Op.equal 5 (.int .u8 a) (.int .u8 b)).run P w = .ok (a == b) w := by
 show (Op.equalIn (9999 + 1) 5 _ _).run P w = _
 unfold Op.equalIn
 rw [bind_ok (underlying_run hk w)]
 simp only [if_true]; rfl
theorem put_new {P : Program} {t te : TypeId} {w : World} {b : Nat} {es : Array MapEntry} {n : Nat} {k : Int} {v : Value} (ht : P.underlying t = some (.map 5 te)) (hk : P.underlying 5 = some (.int .u8)) (hb : w.heap[b]? = some (.map es n)) (hn : ∀ e, e ∈ es.toList -> ∃ j : Int, e.key = .int .u8 j /\ j ≠ k) :
  (Instr.mapUpdate t (.map (some b)) (.int .u8 k) v).run P w = .ok () (upd w b (.map (es.push ⟨.int .u8 k, v, n⟩) (n + 1))) := by
 unfold Instr.mapUpdate
 rw [bind_ok (underlying_run ht w)]
 have hg : (getObj b).run P w = .ok (.map es n) w := by simp [getObj, Sem.run, hb]
 simp only
 rw [bind_ok hg]
 simp only
 have h3 : (Instr.checkKey false 10000 5 (Value.int IntKind.u8 k)).run P w = .ok () w := by
  unfold Instr.checkKey
  rw [bind_ok (underlying_run hk w)]
  rfl
 rw [bind_ok h3]
 have h4 : (Instr.findKey 5 (Value.int IntKind.u8 k) es.toList).run P w = .ok none w := by
  rw [findKey_run hk es.toList fun e he => by
   obtain ⟨j, e1, _⟩ := hn e he
   rw [e1]; exact ⟨_, eq_u8 hk k j w⟩]
  have : ∀ (l : List MapEntry) (i : Nat), (∀ e, e ∈ l -> ∃ j : Int, e.key = .int .u8 j /\ j ≠ k) -> firstE (eqv P w 5 (.int .u8 k)) l i = none := by
   intro l
   induction l with
   | nil => intro i _; rfl
   | cons e l ih =>
    intro i h
    obtain ⟨j, e1, e2⟩ := h e (List.mem_cons_self ..)
    have : eqv P w 5 (.int .u8 k) e = false := by
     unfold eqv
     rw [e1, eq_u8 hk]
     simp; exact fun h => e2 h.symm
    simp only [firstE, this]
    exact ih (i + 1) fun e' he' => h e' (List.mem_cons_of_mem _ he')
  rw [this es.toList 0 hn]
 rw [bind_ok h4]
 simp only
 exact setObj_run _ hb (by intros; simp)
theorem next_one {P : Program} {w : World} {ty ib bm : Nat} {seen : Array Nat} {es : Array MapEntry} {n : Nat} (hi : w.heap[ib]? = some (.mapIter (some bm) n seen n)) (hb : w.heap[bm]? = some (.map es n)) (hs : ∀ e, e ∈ es.toList -> e.born < n) :
  ((∀ e, e ∈ es.toList -> e.born ∈ seen) /\ (Instr.next (.pointer (some ⟨ib, 0, none⟩)) false ty).run P w = .ok (.tuple #[.bool false]) w) \/
  ∃ e w1, e ∈ es.toList /\ e.born ∉ seen /\ w1.heap = w.heap /\ w1.os = w.os /\ w1.tape = w.tape /\ w1.output = w.output /\ (Instr.next (.pointer (some ⟨ib, 0, none⟩)) false ty).run P w = .ok (.tuple #[.bool true, e.key, e.val]) (upd w1 ib (.mapIter (some bm) n (seen.push e.born) n)) := by
 have hgi : (getObj ib).run P w = .ok (.mapIter (some bm) n seen n) w := by simp [getObj, Sem.run, hi]
 have hgb : (getObj bm).run P w = .ok (.map es n) w := by simp [getObj, Sem.run, hb]
 have htest : (!seen.isEmpty && !es.isEmpty && es.all (fun x => decide (x.born ≥ n))) = false := by
  cases he : es.isEmpty with
  | true => simp
  | false =>
   have hall : es.all (fun x => decide (x.born ≥ n)) = false := by
    rw [Bool.eq_false_iff]
    intro h
    rw [Array.all_eq_true_iff_forall_mem] at h
    have h0 : 0 < es.size := by
     rcases Nat.eq_zero_or_pos es.size with h0 | h0
     ·simp [Array.isEmpty, h0] at he
     ·exact h0
    have h1 := h _ (Array.getElem_mem h0)
    have h2 := hs es[0] (by simp)
    simp at h1; omega
   simp [hall]
 have hfil : ∀ e, e ∈ (es.filter fun e => !seen.contains e.born).toList -> e ∈ es.toList /\ e.born ∉ seen := by
  intro e he
  simp at he
  exact ⟨by simpa using he.1, by simpa using he.2⟩
 have hfil2 : ∀ e, e ∈ es.toList -> e.born ∉ seen -> e ∈ (es.filter fun e => !seen.contains e.born).toList := by
  intro e he hn
  simp
  exact ⟨by simpa using he, by simpa using hn⟩
 have key : ∀ (Q : Sem Value), Q = Instr.next (.pointer (some ⟨ib, 0, none⟩)) false ty -> True := fun _ _ => trivial
 unfold Instr.next
 simp only
 rw [bind_ok hgi]
 simp only
 rw [bind_ok hgb]
 simp only [htest, Bool.false_eq_true, if_false]
 generalize hL : es.filter (fun e => !seen.contains e.born) = L at hfil hfil2
 have e1 : L.filter (fun x => decide (x.born < n)) = L := Array.filter_eq_self.2 (fun x hx => by
  have := hs x (hfil x (by simpa using hx)).1
  simpa using this)
 have e2 : L.filter (fun x => decide (x.born ≥ n)) = #[] := by
  rw [Array.filter_eq_empty_iff]
  intro x hx
  have := hs x (hfil x (by simpa using hx)).1
  simp; omega
 simp only [e1, e2, Array.append_empty]
 by_cases h0 : L.size = 0
 ·left
  have : L = #[] := Array.eq_empty_of_size_eq_zero h0
  subst this
  refine ⟨fun e he => ?_, ?_⟩
  ·rcases Classical.em (e.born ∈ seen) with h | h
   ·exact h
   ·have := hfil2 e he h; simp at this
  ·simp [choose, Sem.run, Question.forced]
 ·right
  have hne : L.isEmpty = false := by simp [Array.isEmpty, h0]
  simp only [hne, Bool.false_eq_true, if_false, Array.empty_append, Array.size_map]
  have hch : ∃ (j : Nat) (w1 : World), j < L.size /\ w1.heap = w.heap /\ w1.os = w.os /\ w1.tape = w.tape /\ w1.output = w.output /\ (choose (Question.mapNext L.size)).run P w = .ok j w1 := by
   by_cases hf : L.size <= 1
   ·exact ⟨0, w, by omega, rfl, rfl, rfl, rfl, by simp [choose, Sem.run, Question.forced, hf]⟩
   ·obtain ⟨j, w1, g1, g2, g3, g4, g5, g6⟩ := choose_run (P := P) (Question.mapNext L.size) w
    obtain ⟨t, ht⟩ := g6 (by simp [Question.forced, hf])
    exact ⟨j, w1, by rw [ht]; exact Nat.mod_lt _ (by omega), g2, g3, g4, g5, g1⟩
  obtain ⟨j, w1, hj, g2, g3, g4, g5, hrun⟩ := hch
  refine ⟨L[j], w1, (hfil _ (by simp)).1, (hfil _ (by simp)).2, g2, g3, g4, g5, ?_⟩
  rw [bind_ok hrun]
  simp only [Array.getElem?_map, Array.getElem?_eq_getElem hj, Option.map_some]
  rw [bind_ok (setObj_run (P := P) (.mapIter (some bm) n (seen.push L[j].born) n) (o := .mapIter (some bm) n seen n) (by rw [g2]; exact hi) (by intros; simp))]
  rfl
theorem entry_one {P : Program} {w : World} {ib bm n : Nat} {seen : Array Nat} {es : Array MapEntry} {e : MapEntry} (hi : w.heap[ib]? = some (.mapIter (some bm) n (seen.push e.born) n)) (hb : w.heap[bm]? = some (.map es n)) (he : es.find? (·.born == e.born) = some e) :
  (Instr.entry (.pointer (some ⟨ib, 0, none⟩))).run P w = .ok (.tuple #[e.key, e.val]) w := by
 have hgi : (getObj ib).run P w = .ok (.mapIter (some bm) n (seen.push e.born) n) w := by simp [getObj, Sem.run, hi]
 have hgb : (getObj bm).run P w = .ok (.map es n) w := by simp [getObj, Sem.run, hb]
 unfold Instr.entry
 simp only
 rw [bind_ok hgi]
 simp only [Array.back?_push]
 rw [bind_ok hgb]
 simp only [bne_self_eq_false, Bool.false_eq_true, if_false, he]
 rfl
end Sx
end
noncomputable section
namespace Sx
open Go
abbrev mE (k : Int) (f n : Nat) : MapEntry := ⟨.int .u8 k, .func (.func f) #[] #[], n⟩
def opE : Array MapEntry := #[⟨.int .u8 20, .int .i64 4, 0⟩, ⟨.int .u8 21, .int .i64 5, 1⟩, ⟨.int .u8 22, .int .i64 1, 2⟩, ⟨.int .u8 23, .int .i64 2, 3⟩, ⟨.int .u8 24, .int .i64 3, 4⟩]
theorem upd_alloc (w : World) (o o' : Obj) : upd (w.alloc o) w.heap.size o' = w.alloc o' := by
 unfold upd World.alloc
 simp only
 congr 1
 apply Array.toList_inj.1
 simp
theorem put_made {te : TypeId} {t : TypeId} (ht : Go.Proofs.Tryz.prog.underlying t = some (.map 5 te)) (w : World) (es : Array MapEntry) (n : Nat) (k : Int) (v : Value) (hn : ∀ e, e ∈ es.toList -> ∃ j : Int, e.key = .int .u8 j /\ j ≠ k) :
  (Instr.mapUpdate t (.map (some w.heap.size)) (.int .u8 k) v).run Go.Proofs.Tryz.prog (w.alloc (.map es n)) = .ok () (w.alloc (.map (es.push ⟨.int .u8 k, v, n⟩) (n + 1))) := by
 have := put_new (P := Go.Proofs.Tryz.prog) (w := w.alloc (.map es n)) (b := w.heap.size) (es := es) (n := n) (k := k) (v := v) ht Go.Proofs.Tryz.underlying5 (by show (w.heap.push _)[w.heap.size]? = _; simp) hn
 rw [this, upd_alloc]
set_option maxRecDepth 1000000 in
theorem ops_walk (w : World) : Calls Go.Proofs.Tryz.prog 461 #[] w fun e w' => e = .returned (.map (some w.heap.size)) /\ w' = w.alloc (.map opE 5) := by
 have hmm := @Go.RowKit.run_makeMap Go.Proofs.Tryz.prog
 have h1 := put_made Go.Proofs.Tryz.underlying501 w #[] 0 20 (.int .i64 4) (by simp)
 have h2 := put_made Go.Proofs.Tryz.underlying501 w #[⟨.int .u8 20, .int .i64 4, 0⟩] 1 21 (.int .i64 5) (by simp)
 have h3 := put_made Go.Proofs.Tryz.underlying501 w #[⟨.int .u8 20, .int .i64 4, 0⟩, ⟨.int .u8 21, .int .i64 5, 1⟩] 2 22 (.int .i64 1) (by simp)
 have h4 := put_made Go.Proofs.Tryz.underlying501 w #[⟨.int .u8 20, .int .i64 4, 0⟩, ⟨.int .u8 21, .int .i64 5, 1⟩, ⟨.int .u8 22, .int .i64 1, 2⟩] 3 23 (.int .i64 2) (by simp)
 have h5 := put_made Go.Proofs.Tryz.underlying501 w #[⟨.int .u8 20, .int .i64 4, 0⟩, ⟨.int .u8 21, .int .i64 5, 1⟩, ⟨.int .u8 22, .int .i64 1, 2⟩, ⟨.int .u8 23, .int .i64 2, 3⟩] 4 24 (.int .i64 3) (by simp)
 simp only [List.push_toArray, List.cons_append, List.nil_append, Nat.zero_add, Nat.reduceAdd] at h1 h2 h3 h4 h5
 go_enter Go.Proofs.Tryz.func461, Go.Proofs.Tryz.ntmps461
 go_wp2
 go_ret
 exact ⟨rfl, rfl⟩
end Sx
end
noncomputable section
namespace Sx
open Go
def bsE : List MapEntry := [mE 9 450 0, mE 10 451 1, mE 11 452 2, mE 12 453 3, mE 13 454 4, mE 14 455 5, mE 15 456 6, mE 17 457 7, mE 18 458 8, mE 19 459 9, mE 25 460 10]
def exE : List Nat -> Nat -> List MapEntry
 | [], _ => []
 | j :: l, n => mE (20 + (j : Int)) 462 n :: exE l (n + 1)
def tmE (S : List Nat) : Array MapEntry := (bsE ++ exE S 11).toArray
structure TermI (w w' : World) (S : List Nat) : Prop where
 nod : S.Nodup
 lt : ∀ j, j ∈ S -> j < 5
 m : w'.heap[w.heap.size]? = some (.map (tmE S) (11 + S.length))
 o : w'.heap[w.heap.size + 1]? = some (.map opE 5)
 i : w'.heap[w.heap.size + 1 + 1]? = some (.mapIter (some (w.heap.size + 1)) 5 S.toArray 5)
 old : ∀ b, b < w.heap.size -> w'.heap[b]? = w.heap[b]?
 size : w'.heap.size = w.heap.size + 3
 os : w'.os = w.os
 tape : w'.tape = w.tape
 output : w'.output = w.output
theorem exE_snoc (S : List Nat) (j n : Nat) : exE (S ++ [j]) n = exE S n ++ [mE (20 + (j : Int)) 462 (n + S.length)] := by
 induction S generalizing n with
 | nil => rfl
 | cons a l ih =>
  simp only [List.cons_append, exE, ih, List.length_cons]
  rw [show n + 1 + l.length = n + (l.length + 1) by omega]
theorem exE_mem {S : List Nat} {n : Nat} {e : MapEntry} (h : e ∈ exE S n) : ∃ j, j ∈ S /\ e.key = .int .u8 (20 + (j : Int)) := by
 induction S generalizing n with
 | nil => cases h
 | cons a l ih =>
  rcases List.mem_cons.1 h with e1 | h
  ·exact ⟨a, List.mem_cons_self .., by rw [e1]⟩
  ·obtain ⟨j, h1, h2⟩ := ih h
   exact ⟨j, List.mem_cons_of_mem _ h1, h2⟩
theorem tmE_new {S : List Nat} {j : Nat} (hj : j < 5) (h : j ∉ S) : ∀ e, e ∈ (tmE S).toList -> ∃ i : Int, e.key = .int .u8 i /\ i ≠ 20 + (j : Int) := by
 intro e he
 have he : e ∈ bsE ++ exE S 11 := by simpa [tmE] using he
 rcases List.mem_append.1 he with he | he
 ·simp only [bsE, mE, List.mem_cons, List.mem_nil_iff, or_false] at he
  rcases he with rfl | rfl | rfl | rfl | rfl | rfl | rfl | rfl | rfl | rfl | rfl <;> exact ⟨_, rfl, by omega⟩
 ·obtain ⟨i, h1, h2⟩ := exE_mem he
  refine ⟨_, h2, fun e => h ?_⟩
  have : i = j := by omega
  rw [<- this]; exact h1
theorem opE_at {e : MapEntry} (he : e ∈ opE.toList) : ∃ j : Nat, j < 5 /\ e.born = j /\ e.key = .int .u8 (20 + (j : Int)) /\ opE.find? (·.born == e.born) = some e := by
 simp only [opE, List.mem_cons, List.mem_nil_iff, or_false] at he
 rcases he with rfl | rfl | rfl | rfl | rfl
 ·exact ⟨0, by omega, rfl, rfl, rfl⟩
 ·exact ⟨1, by omega, rfl, rfl, rfl⟩
 ·exact ⟨2, by omega, rfl, rfl, rfl⟩
 ·exact ⟨3, by omega, rfl, rfl, rfl⟩
 ·exact ⟨4, by omega, rfl, rfl, rfl⟩
theorem opE_born : ∀ e, e ∈ opE.toList -> e.born < 5 := fun e he => by obtain ⟨j, h1, h2, _⟩ := opE_at he; omega
theorem opE_all {S : List Nat} (h : ∀ e, e ∈ opE.toList -> e.born ∈ S.toArray) (j : Nat) (hj : j < 5) : j ∈ S := by
 have h0 := h ⟨.int .u8 20, .int .i64 4, 0⟩ (by simp [opE])
 have h1 := h ⟨.int .u8 21, .int .i64 5, 1⟩ (by simp [opE])
 have h2 := h ⟨.int .u8 22, .int .i64 1, 2⟩ (by simp [opE])
 have h3 := h ⟨.int .u8 23, .int .i64 2, 3⟩ (by simp [opE])
 have h4 := h ⟨.int .u8 24, .int .i64 3, 4⟩ (by simp [opE])
 simp at h0 h1 h2 h3 h4
 match j, hj with
 | 0, _ => exact h0
 | 1, _ => exact h1
 | 2, _ => exact h2
 | 3, _ => exact h3
 | 4, _ => exact h4
theorem TermI.round {w W : World} {S : List Nat} (h : TermI w W S) :
  ((∀ j, j < 5 -> j ∈ S) /\ ∀ ty, (Instr.next (.pointer (some ⟨w.heap.size + 1 + 1, 0, none⟩)) false ty).run Go.Proofs.Tryz.prog W = .ok (.tuple #[.bool false]) W) \/
  ∃ (j : Nat) (v : Value) (W1 W2 : World), j < 5 /\ j ∉ S /\ (∀ ty, (Instr.next (.pointer (some ⟨w.heap.size + 1 + 1, 0, none⟩)) false ty).run Go.Proofs.Tryz.prog W = .ok (.tuple #[.bool true, .int .u8 (20 + (j : Int)), v]) W1) /\
   (Instr.entry (.pointer (some ⟨w.heap.size + 1 + 1, 0, none⟩))).run Go.Proofs.Tryz.prog W1 = .ok (.tuple #[.int .u8 (20 + (j : Int)), v]) W1 /\
   (Instr.mapUpdate 503 (.map (some w.heap.size)) (.int .u8 (20 + (j : Int))) (.func (.func 462) #[] #[])).run Go.Proofs.Tryz.prog W1 = .ok () W2 /\ TermI w W2 (S ++ [j]) := by
 have hx := fun ty => next_one (P := Go.Proofs.Tryz.prog) (ty := ty) h.i h.o opE_born
 have h0 := hx 0
 have hty : ∀ ty, Instr.next (.pointer (some ⟨w.heap.size + 1 + 1, 0, none⟩)) false ty = Instr.next (.pointer (some ⟨w.heap.size + 1 + 1, 0, none⟩)) false 0 := fun _ => rfl
 rcases h0 with ⟨h1, h2⟩ | ⟨e, w1, he, hn, g1, g2, g3, g4, g5⟩
 ·exact .inl ⟨opE_all h1, fun ty => by rw [hty]; exact h2⟩
 ·right
  obtain ⟨j, k1, k2, k3, k4⟩ := opE_at he
  have hnS : j ∉ S := by rw [<- k2]; simpa using hn
  have hi1 : w1.heap[w.heap.size + 1 + 1]? = some (.mapIter (some (w.heap.size + 1)) 5 S.toArray 5) := by rw [g1]; exact h.i
  have hlt := lt_of_heap hi1
  have a1 : (upd w1 (w.heap.size + 1 + 1) (.mapIter (some (w.heap.size + 1)) 5 (S.toArray.push e.born) 5)).heap[w.heap.size + 1 + 1]? = some (.mapIter (some (w.heap.size + 1)) 5 (S.toArray.push e.born) 5) := by
   rw [upd_get _ _ _ hlt, if_pos rfl]
  have a2 : (upd w1 (w.heap.size + 1 + 1) (.mapIter (some (w.heap.size + 1)) 5 (S.toArray.push e.born) 5)).heap[w.heap.size + 1]? = some (.map opE 5) := by
   rw [upd_get _ _ _ hlt, if_neg (by omega), g1]; exact h.o
  have a3 : (upd w1 (w.heap.size + 1 + 1) (.mapIter (some (w.heap.size + 1)) 5 (S.toArray.push e.born) 5)).heap[w.heap.size]? = some (.map (tmE S) (11 + S.length)) := by
   rw [upd_get _ _ _ hlt, if_neg (by omega), g1]; exact h.m
  have b1 := entry_one (P := Go.Proofs.Tryz.prog) a1 a2 k4
  have b2 := put_new (P := Go.Proofs.Tryz.prog) (t := 503) (v := .func (.func 462) #[] #[]) Go.Proofs.Tryz.underlying503 Go.Proofs.Tryz.underlying5 a3 (tmE_new k1 hnS)
  rw [k3] at g5 b1
  refine ⟨j, e.val, _, _, k1, hnS, fun ty => by rw [hty]; exact g5, b1, b2, ?_⟩
  have hlt2 := lt_of_heap a3
  have hm : (tmE S).push ⟨.int .u8 (20 + (j : Int)), .func (.func 462) #[] #[], 11 + S.length⟩ = tmE (S ++ [j]) := by
   unfold tmE
   rw [exE_snoc]
   simp [mE, <- List.append_assoc]
  refine ⟨?_, ?_, ?_, ?_, ?_, ?_, ?_, g2.trans h.os, g3.trans h.tape, g4.trans h.output⟩
  ·rw [List.nodup_append]
   exact ⟨h.nod, by simp, fun a ha b hb => by simp at hb; rintro rfl; exact hnS (hb ▸ ha)⟩
  ·intro i hi
   rcases List.mem_append.1 hi with hi | hi
   ·exact h.lt i hi
   ·simp at hi; omega
  ·rw [upd_get _ _ _ hlt2, if_pos rfl, hm]; simp; omega
  ·rw [upd_get _ _ _ hlt2, if_neg (by omega)]; exact a2
  ·rw [upd_get _ _ _ hlt2, if_neg (by omega), a1, k2]; simp
  ·intro b hb
   rw [upd_get _ _ _ hlt2, if_neg (by omega), upd_get _ _ _ hlt, if_neg (by omega), g1]
   exact h.old b hb
  ·rw [upd_size, upd_size, g1]; exact h.size
end Sx
end
noncomputable section
namespace Sx
open Go
theorem push_at {α : Type} (h : Array α) (x : α) (i : Nat) : (h.push x)[i]? = if i = h.size then some x else h[i]? := by
 rw [Array.getElem?_push]
theorem alloc2_at (w : World) (a b : Obj) : ((w.alloc a).alloc b).heap[w.heap.size + 1]? = some b := by
 show ((w.heap.push a).push b)[w.heap.size + 1]? = _
 rw [push_at, if_pos (by simp)]
theorem alloc3_at (w : World) (a b c : Obj) : (((w.alloc a).alloc b).alloc c).heap[w.heap.size]? = some a /\ (((w.alloc a).alloc b).alloc c).heap[w.heap.size + 1]? = some b /\ (((w.alloc a).alloc b).alloc c).heap[w.heap.size + 1 + 1]? = some c /\
  (∀ i, i < w.heap.size -> (((w.alloc a).alloc b).alloc c).heap[i]? = w.heap[i]?) /\ (((w.alloc a).alloc b).alloc c).heap.size = w.heap.size + 3 := by
 show (((w.heap.push a).push b).push c)[w.heap.size]? = _ /\ (((w.heap.push a).push b).push c)[w.heap.size + 1]? = _ /\ (((w.heap.push a).push b).push c)[w.heap.size + 1 + 1]? = _ /\ (∀ i, i < w.heap.size -> (((w.heap.push a).push b).push c)[i]? = _) /\ (((w.heap.push a).push b).push c).size = _
 generalize w.heap = h
 have s1 : (h.push a).size = h.size + 1 := by simp
 have s2 : ((h.push a).push b).size = h.size + 1 + 1 := by simp
 refine ⟨?_, ?_, ?_, fun i hi => ?_, by simp⟩
 ·rw [push_at, if_neg (by omega), push_at, if_neg (by omega), push_at, if_pos rfl]
 ·rw [push_at, if_neg (by omega), push_at, if_pos (by omega)]
 ·rw [push_at, if_pos (by omega)]
 ·rw [push_at, if_neg (by omega), push_at, if_neg (by omega), push_at, if_neg (by omega)]
def one (S : List Nat) (j : Nat) : Nat := if j ∈ S then 0 else 1
def cntS (S : List Nat) : Nat := one S 0 + one S 1 + one S 2 + one S 3 + one S 4
theorem one_le (S : List Nat) (j i : Nat) : one (S ++ [j]) i <= one S i := by
 unfold one
 by_cases h : i ∈ S
 ·simp [h]
 ·simp only [h, if_false]; split <;> omega
theorem one_at (S : List Nat) (j : Nat) (h : j ∉ S) : one (S ++ [j]) j + 1 = one S j := by
 unfold one
 simp [h]
theorem cntS_lt {S : List Nat} {j : Nat} (hj : j < 5) (h : j ∉ S) : cntS (S ++ [j]) < cntS S := by
 have h0 := one_le S j 0
 have h1 := one_le S j 1
 have h2 := one_le S j 2
 have h3 := one_le S j 3
 have h4 := one_le S j 4
 have h5 := one_at S j h
 unfold cntS
 match j, hj with
 | 0, _ => omega
 | 1, _ => omega
 | 2, _ => omega
 | 3, _ => omega
 | 4, _ => omega
def cntW (w : World) (b : Nat) : Nat :=
 match w.heap[b]? with
 | some (.mapIter _ _ s _) => cntS s.toList
 | _ => 0
theorem TermI.cnt {w w' : World} {S : List Nat} (h : TermI w w' S) : cntW w' (w.heap.size + 1 + 1) = cntS S := by
 unfold cntW
 rw [h.i]
set_option maxRecDepth 1000000 in
theorem terms_walk (w : World) : Calls Go.Proofs.Tryz.prog 342 #[] w fun e w' => e = .returned (.map (some w.heap.size)) /\ ∃ S, TermI w w' S /\ ∀ j, j < 5 -> j ∈ S := by
 have hmm := @Go.RowKit.run_makeMap Go.Proofs.Tryz.prog
 have q := fun es n k v => put_made (te := 502) Go.Proofs.Tryz.underlying503 w es n k v
 have h1 := q #[] 0 9 (.func (.func 450) #[] #[]) (by simp)
 have h2 := q #[mE 9 450 0] 1 10 (.func (.func 451) #[] #[]) (by simp)
 have h3 := q #[mE 9 450 0, mE 10 451 1] 2 11 (.func (.func 452) #[] #[]) (by simp)
 have h4 := q #[mE 9 450 0, mE 10 451 1, mE 11 452 2] 3 12 (.func (.func 453) #[] #[]) (by simp)
 have h5 := q #[mE 9 450 0, mE 10 451 1, mE 11 452 2, mE 12 453 3] 4 13 (.func (.func 454) #[] #[]) (by simp)
 have h6 := q #[mE 9 450 0, mE 10 451 1, mE 11 452 2, mE 12 453 3, mE 13 454 4] 5 14 (.func (.func 455) #[] #[]) (by simp)
 have h7 := q #[mE 9 450 0, mE 10 451 1, mE 11 452 2, mE 12 453 3, mE 13 454 4, mE 14 455 5] 6 15 (.func (.func 456) #[] #[]) (by simp)
 have h8 := q #[mE 9 450 0, mE 10 451 1, mE 11 452 2, mE 12 453 3, mE 13 454 4, mE 14 455 5, mE 15 456 6] 7 17 (.func (.func 457) #[] #[]) (by simp)
 have h9 := q #[mE 9 450 0, mE 10 451 1, mE 11 452 2, mE 12 453 3, mE 13 454 4, mE 14 455 5, mE 15 456 6, mE 17 457 7] 8 18 (.func (.func 458) #[] #[]) (by simp)
 have h10 := q #[mE 9 450 0, mE 10 451 1, mE 11 452 2, mE 12 453 3, mE 13 454 4, mE 14 455 5, mE 15 456 6, mE 17 457 7, mE 18 458 8] 9 19 (.func (.func 459) #[] #[]) (by simp)
 have h11 := q #[mE 9 450 0, mE 10 451 1, mE 11 452 2, mE 12 453 3, mE 13 454 4, mE 14 455 5, mE 15 456 6, mE 17 457 7, mE 18 458 8, mE 19 459 9] 10 25 (.func (.func 460) #[] #[]) (by simp)
 clear q
 simp only [List.push_toArray, List.cons_append, List.nil_append, Nat.zero_add, Nat.reduceAdd] at h1 h2 h3 h4 h5 h6 h7 h8 h9 h10 h11
 have hrg := run_range_map (P := Go.Proofs.Tryz.prog) ((w.alloc (.map #[mE 9 450 0, mE 10 451 1, mE 11 452 2, mE 12 453 3, mE 13 454 4, mE 14 455 5, mE 15 456 6, mE 17 457 7, mE 18 458 8, mE 19 459 9, ⟨.int .u8 25, .func (.func 460) #[] #[], 10⟩] 11)).alloc (.map opE 5)) 501 5 3 (w.heap.size + 1) opE 5 Go.Proofs.Tryz.underlying501 (alloc2_at _ _ _)
 go_enter Go.Proofs.Tryz.func342, Go.Proofs.Tryz.ntmps342
 go_wp2_with (go_at_call 461; refine (ops_walk _).mono ?_; rintro e w' ⟨rfl, rfl⟩)
 go_loopw [] (fun w' => ∃ S, TermI w w' S) (fun w' => cntW w' (w.heap.size + 1 + 1))
 case atStart =>
  obtain ⟨a1, a2, a3, a4, a5⟩ := alloc3_at w (.map (tmE []) 11) (.map opE 5) (.mapIter (some (w.heap.size + 1)) 5 #[] 5)
  exact ⟨[], List.nodup_nil, (fun j hj => by cases hj), a1, a2, a3, a4, a5, rfl, rfl, rfl⟩
 case round =>
  obtain ⟨S, hI⟩ := hrel
  rcases hI.round with ⟨hall, hnx⟩ | ⟨j, v, W1, W2, hj, hnS, hnx, hen, hmu, hI2⟩
  ·go_wp2
   go_ret
   exact ⟨rfl, S, hI, hall⟩
  ·go_wp2
   go_roundw
   case rel => exact ⟨S ++ [j], hI2⟩
   case measure =>
    rw [hI2.cnt, hI.cnt]
    exact cntS_lt hj hnS
end Sx
end
noncomputable section
namespace Sx
open Go
def soE (S : List Nat) : List MapEntry := bsE ++ [0, 1, 2, 3, 4].map fun (j : Nat) => mE (20 + (j : Int)) 462 (11 + S.idxOf j)
theorem exE_map : ∀ (S : List Nat) (n : Nat), S.Nodup -> exE S n = S.map fun (j : Nat) => mE (20 + (j : Int)) 462 (n + S.idxOf j) := by
 intro S
 induction S with
 | nil => intro n _; rfl
 | cons a l ih =>
  intro n h
  obtain ⟨h1, h2⟩ := List.nodup_cons.1 h
  simp only [exE, ih (n + 1) h2, List.map_cons, List.idxOf_cons_self, Nat.add_zero]
  congr 1
  apply List.map_congr_left
  intro j hj
  have hne : a ≠ j := fun e => h1 (e ▸ hj)
  rw [List.idxOf_cons, show (a == j) = false by simpa using hne]
  simp only [cond_false]
  show mE _ _ _ = mE _ _ _
  rw [show n + 1 + List.idxOf j l = n + (List.idxOf j l + 1) by omega]
theorem perm5 {S : List Nat} (hn : S.Nodup) (hlt : ∀ j, j ∈ S -> j < 5) (hall : ∀ j, j < 5 -> j ∈ S) : [0, 1, 2, 3, 4].Perm S := by
 have h0 := hall 0 (by omega)
 have h1 : 1 ∈ S.erase 0 := (hn.mem_erase_iff).2 ⟨by omega, hall 1 (by omega)⟩
 have n1 := hn.erase 0
 have h2 : 2 ∈ (S.erase 0).erase 1 := (n1.mem_erase_iff).2 ⟨by omega, (hn.mem_erase_iff).2 ⟨by omega, hall 2 (by omega)⟩⟩
 have n2 := n1.erase 1
 have h3 : 3 ∈ ((S.erase 0).erase 1).erase 2 := (n2.mem_erase_iff).2 ⟨by omega, (n1.mem_erase_iff).2 ⟨by omega, (hn.mem_erase_iff).2 ⟨by omega, hall 3 (by omega)⟩⟩⟩
 have n3 := n2.erase 2
 have h4 : 4 ∈ (((S.erase 0).erase 1).erase 2).erase 3 := (n3.mem_erase_iff).2 ⟨by omega, (n2.mem_erase_iff).2 ⟨by omega, (n1.mem_erase_iff).2 ⟨by omega, (hn.mem_erase_iff).2 ⟨by omega, hall 4 (by omega)⟩⟩⟩⟩
 have n4 := n3.erase 3
 have hr : ((((S.erase 0).erase 1).erase 2).erase 3).erase 4 = [] := by
  cases hx : ((((S.erase 0).erase 1).erase 2).erase 3).erase 4 with
  | nil => rfl
  | cons x l =>
   have hm : x ∈ ((((S.erase 0).erase 1).erase 2).erase 3).erase 4 := by rw [hx]; exact List.mem_cons_self ..
   obtain ⟨g4, hm⟩ := (n4.mem_erase_iff).1 hm
   obtain ⟨g3, hm⟩ := (n3.mem_erase_iff).1 hm
   obtain ⟨g2, hm⟩ := (n2.mem_erase_iff).1 hm
   obtain ⟨g1, hm⟩ := (n1.mem_erase_iff).1 hm
   obtain ⟨g0, hm⟩ := (hn.mem_erase_iff).1 hm
   have := hlt x hm
   omega
 have p4 := List.perm_cons_erase h4
 rw [hr] at p4
 exact ((List.perm_cons_erase h0).trans (((List.perm_cons_erase h1).trans (((List.perm_cons_erase h2).trans (((List.perm_cons_erase h3).trans (p4.cons 3)).cons 2)).cons 1)).cons 0)).symm
theorem exE_born : ∀ (S : List Nat) (n : Nat), (∀ e, e ∈ exE S n -> n <= e.born /\ e.born < n + S.length) /\ (exE S n).Pairwise fun a b => a.born ≠ b.born := by
 intro S
 induction S with
 | nil => intro n; exact ⟨fun e he => (nomatch he), .nil⟩
 | cons a l ih =>
  intro n
  obtain ⟨h1, h2⟩ := ih (n + 1)
  refine ⟨fun e he => ?_, .cons (fun b hb => ?_) h2⟩
  ·simp only [List.length_cons]
   rcases List.mem_cons.1 he with rfl | he
   ·show n <= n /\ n < _; omega
   ·have := h1 e he; omega
  ·have := h1 b hb
   show n ≠ b.born
   omega
theorem bsE_born : (∀ e, e ∈ bsE -> e.born < 11) /\ bsE.Pairwise fun a b => a.born ≠ b.born := by
 refine ⟨?_, ?_⟩
 ·intro e he
  simp only [bsE, mE, List.mem_cons, List.mem_nil_iff, or_false] at he
  rcases he with rfl | rfl | rfl | rfl | rfl | rfl | rfl | rfl | rfl | rfl | rfl <;> (show _ < 11; decide)
 ·simp [bsE, mE]
theorem terms_ents (c : Cz) (S : List Nat) : REntries c termsE (soE S) := by
 unfold termsE soE bsE
 simp only [List.map_cons, List.map_nil, List.cons_append, List.nil_append]
 repeat' first
  | exact .nil
  | refine .cons _ _ _ _ ⟨.int _ _ _ rfl, .func _ _ _ _ _ .nil .nil⟩ ?_
theorem terms_ok (hg : Good Go.Proofs.Tryz.prog) : SumsOk Go.Proofs.Tryz.prog (fun f args s => cnd (Nat.beq f 342) (termsSum f args s) none) := by
 intro f args s v s' h K c w xs hr ha
 simp only [cnd_eq] at h
 by_cases e : Nat.beq f 342 = true
 case neg => rw [if_neg e] at h; cases h
 rw [if_pos e] at h
 have e := Nat.eq_of_beq_eq_true e
 subst e
 obtain ⟨h1, h⟩ := oif_eq h
 cases h
 have := (isNil_iff _).1 h1
 subst this
 right
 have hx : xs = #[] := by
  obtain ⟨l⟩ := xs
  cases ha; rfl
 subst hx
 refine ⟨callFunc_enter hg Go.Proofs.Tryz.func342 rfl #[] w, ?_⟩
 refine (terms_walk w).mono ?_
 rintro e w' ⟨rfl, S, hI, hall⟩
 have hst := hr.stay (w' := w') fun b o hb => by rw [hI.old b (lt_of_heap hb)]; exact hb
 have hp : (soE S).Perm (tmE S).toList := by
  show (bsE ++ [0, 1, 2, 3, 4].map _).Perm (bsE ++ exE S 11)
  rw [exE_map S 11 hI.nod]
  exact ((perm5 hI.nod hI.lt hall).map _).append_left _
 have b1 : ∀ e, e ∈ (tmE S).toList -> e.born < 11 + S.length := by
  intro e he
  have he : e ∈ bsE ++ exE S 11 := by simpa [tmE] using he
  rcases List.mem_append.1 he with he | he
  ·have := bsE_born.1 e he; omega
  ·have := (exE_born S 11).1 e he; omega
 have b2 : (tmE S).toList.Pairwise fun a b => a.born ≠ b.born := by
  show (bsE ++ exE S 11).Pairwise _
  rw [List.pairwise_append]
  exact ⟨bsE_born.2, (exE_born S 11).2, fun a ha b hb => by
   have h1 := bsE_born.1 a ha
   have h2 := (exE_born S 11).1 b hb
   omega⟩
 obtain ⟨f1, f2⟩ := hst.fresh (o := .map termsE true none) (own := 1) hI.m (.map termsE true none _ _ ⟨⟨_, hp, terms_ents c S⟩, b1, b2, fun _ _ e => by cases e⟩)
  (fun i p hp => by have := hr.blk i p hp; omega) (fun ob hb => by have := lt_of_heap (hr.kept _ ob hb).1; omega) (fun hb => by have := (hr.hid _ hb).1; omega)
 exact ⟨_, _, rfl, f1, .map _ _ _ _ (Cz.bind_self _ _ _), f2, hI.os, hI.tape, hI.output, by rw [hI.size]; omega⟩
theorem base_ok (hg : Good Go.Proofs.Tryz.prog) : SumsOk Go.Proofs.Tryz.prog baseS := by
 intro f args s v s' h
 unfold baseS at h
 simp only [cnd_eq] at h
 by_cases e1 : Nat.beq f 283 = true
 ·rw [if_pos e1] at h
  exact idx_ok f args s v s' (by simp only [cnd_eq]; rw [if_pos e1]; exact h)
 ·rw [if_neg e1] at h
  by_cases e2 : Nat.beq f 442 = true
  ·rw [if_pos e2] at h
   exact ov_ok f args s v s' (by simp only [cnd_eq]; rw [if_pos e2]; exact h)
  ·rw [if_neg e2] at h
   by_cases e3 : Nat.beq f 342 = true
   ·rw [if_pos e3] at h
    exact terms_ok hg f args s v s' (by simp only [cnd_eq]; rw [if_pos e3]; exact h)
   ·rw [if_neg e3] at h; cases h
end Sx
end
