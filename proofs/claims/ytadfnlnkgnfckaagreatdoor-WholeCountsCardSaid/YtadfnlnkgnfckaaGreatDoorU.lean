import Derived.Test.YtadfnlnkgnfckaaGreatDoorEB0
noncomputable section
namespace Sx
open Go
variable {P : Program}
abbrev y := true
abbrev z := false
def m1 (k : Nat) : Nat × (Int × Int) := (k,(1,maxCap))
def m3 (k : Nat) : Nat × (Int × Int) := (k,(3,maxCap))
def m0 (k : Nat) : Nat × (Int × Int) := (k,(0,63))
def mw (k : Nat) : Nat × (Int × Int) := (k,(0,19999))
def s1 (a v : Nat) : AV := .sl a 0 1 4 (.var v 0)
def s3 (a v : Nat) : AV := .sl a 0 3 1 (.var v 0)
def q2 (a b c d : Nat) : AV := .agg [.str ⟨a,b,[]⟩,.str ⟨c,d,[]⟩]
def midB (P : Program) (sums : Sums) (n : Nat) (D : CT) (m : AM) : Bool :=
 match runN P sums n m with
 | .next m' => !isNone (D.am P) && (match findM 0 m' D with | ⟨_, _, IM, VM, _⟩ => cutB P IM VM m' D)
 | _ => false
def fstB (P : Program) (sums : Sums) (S : Summ) (n : Nat) (D : CT) : Bool :=
 allL roB S.objs && (match enterF P S.f S.args false with
  | none => false
  | some fr => midB P sums n D ⟨fr, [], S.st⟩)
def SEnd (P : Program) (S : Summ) (Kb : Kp) (cs0 : List Frame) (f : Nat) (F : Frame) (cs : List Frame) (w : World) : Prop :=
 ∃ d F' w2 x v s, Steps P (lone F cs w) (lone F' cs0 w2) ∧ F'.leaving P w2 (.returned x) ∧ F'.fn = f ∧ RV d v x ∧ RHeap Kb d s w2 ∧ Keeps w w2 ∧ S.endB v s = true
def SRun (P : Program) (S : Summ) (m : AM) : Prop :=
 ∀ (Kb : Kp) (cs0 : List Frame) (f : Nat) (c : Cz) (F : Frame) (cs : List Frame) (w : World), (∀ i, ¬ Kb.un i) → RM P Kb cs0 f c m.fr m.st m.s F cs w → SEnd P S Kb cs0 f F cs w
def SEnds (P : Program) (S : Summ) (D : CT) : Prop := ∃ m, D.am P = some m ∧ SRun P S m
theorem mid_run (hg : Good P) (hc : GoodC P) {sums : Sums} (hs : SumsOk P sums) {S : Summ} {n : Nat} {D : CT} {m : AM} (hin : MIn P m.fr m.st) (h : midB P sums n D m = true) (hD : SEnds P S D) : SRun P S m := by
 intro Kb cs0 f c F cs w hu hm
 have h1 := runN_sound hg hc hs n m c F cs w hm
 have h2 := runN_in (sums := sums) n m hin
 unfold midB at h
 generalize runN P sums n m = r at h h1 h2
 cases r with
 | next m' =>
  obtain ⟨d, F', cs', w', g1, g2, g3, g4⟩ := h1
  simp only at h
  generalize findM 0 m' D = r at h
  obtain ⟨_, _, IM, VM, _⟩ := r
  simp only [Bool.and_eq_true] at h
  obtain ⟨mD, hD, hrun⟩ := hD
  have k := RM.via (mL := mD) hu (cut_via hc h2 hD h.2) g3
  obtain ⟨d2, F2, w2, x, v, s, e1, e2, e3, e4, e5, e6, e7⟩ := hrun Kb cs0 f _ F' cs' w' hu k
  exact ⟨d2, F2, w2, x, v, s, g2.trans e1, e2, e3, e4, e5, g4.trans e6, e7⟩
 | _ => cases h
def ndM (P : Program) (sums : Sums) (S : Summ) (tab : Nat → CT) : Nd → AM → Bool :=
 Nd.rec (motive := fun _ => AM → Bool) (fun n k m => midB P sums n (tab k) m)
  (fun n _ _ ka kb m => match runN P sums n m with | .fork _ a b => ka a && kb b | _ => false)
  (fun _ _ => false)
  (fun n m => match runN P sums n m with | .done v s => S.endB v s | _ => false)
def ndMs (P : Program) (S : Summ) (tab : Nat → CT) : Nd → Prop
 | .L _ k => SEnds P S (tab k)
 | .F _ a b => ndMs P S tab a ∧ ndMs P S tab b
 | _ => True
def ndD (P : Program) (sums : Sums) (S : Summ) (tab : Nat → CT) (D : CT) (t : Nd) : Bool :=
 match D.am P with
 | none => false
 | some m => ndM P sums S tab t m
theorem ndM_run (hg : Good P) (hc : GoodC P) {sums : Sums} (hs : SumsOk P sums) {S : Summ} {tab : Nat → CT} :
  ∀ (t : Nd) (m : AM), MIn P m.fr m.st → ndM P sums S tab t m = true → ndMs P S tab t → SRun P S m := by
 intro t
 induction t with
 | L j k => intro m hin h hk; exact mid_run hg hc hs hin h hk
 | F j a b iha ihb =>
  intro m hin h hk Kb cs0 f c F cs w hu hm
  have h1 := runN_sound hg hc hs j m c F cs w hm
  have h2 := runN_in (sums := sums) j m hin
  change (match runN P sums j m with | .fork _ ma mb => ndM P sums S tab a ma && ndM P sums S tab b mb | _ => false) = true at h
  generalize runN P sums j m = r at h h1 h2
  cases r with
  | fork q ma mb =>
   rw [Bool.and_eq_true] at h
   obtain ⟨d, F', cs', w', g1, g2, g3, g4⟩ := h1
   rcases g4 with ⟨_, g6⟩ | ⟨_, g6⟩
   ·obtain ⟨d2, F2, w2, x, v, s, e1, e2, e3, e4, e5, e6, e7⟩ := iha ma h2.1 h.1 hk.1 Kb cs0 f d F' cs' w' hu g6
    exact ⟨d2, F2, w2, x, v, s, g2.trans e1, e2, e3, e4, e5, g3.trans e6, e7⟩
   ·obtain ⟨d2, F2, w2, x, v, s, e1, e2, e3, e4, e5, e6, e7⟩ := ihb mb h2.2 h.2 hk.2 Kb cs0 f d F' cs' w' hu g6
    exact ⟨d2, F2, w2, x, v, s, g2.trans e1, e2, e3, e4, e5, g3.trans e6, e7⟩
  | _ => cases h
 | X j => intro m hin h hk; cases h
 | Z j =>
  intro m hin h hk Kb cs0 f c F cs w hu hm
  have h1 := runN_sound hg hc hs j m c F cs w hm
  change (match runN P sums j m with | .done v s => S.endB v s | _ => false) = true at h
  generalize runN P sums j m = r at h h1
  cases r with
  | done v s =>
   obtain ⟨d, F', w2, x, e1, e2, e3, e4, e5, e6, e7⟩ := h1
   exact ⟨d, F', w2, x, v, s, e2, e3, e4, e5, e6, e7, h⟩
  | _ => cases h
theorem ndD_ends (hg : Good P) (hc : GoodC P) {sums : Sums} (hs : SumsOk P sums) {S : Summ} {tab : Nat → CT} {D : CT} {t : Nd} (h : ndD P sums S tab D t = true) (hk : ndMs P S tab t) : SEnds P S D := by
 unfold ndD at h
 cases hD : D.am P with
 | none => rw [hD] at h; cases h
 | some m => rw [hD] at h; exact ⟨m, hD, ndM_run hg hc hs t m (am_in hD) h hk⟩
def SumR (P : Program) (S : Summ) : Prop := allL roB S.objs = true ∧ ∃ fr, enterF P S.f S.args false = some fr ∧ SRun P S ⟨fr, [], S.st⟩
theorem sumR_fst (hg : Good P) (hc : GoodC P) {sums : Sums} (hs : SumsOk P sums) {S : Summ} {n : Nat} {D : CT} (h : fstB P sums S n D = true) (k : SEnds P S D) : SumR P S := by
 unfold fstB at h
 rw [Bool.and_eq_true] at h
 refine ⟨h.1, ?_⟩
 have h2 := h.2
 cases hfr : enterF P S.f S.args false with
 | none => rw [hfr] at h2; cases h2
 | some fr => rw [hfr] at h2; exact ⟨fr, rfl, mid_run hg hc hs ⟨enterF_in hfr, fun _ h => by cases h⟩ h2 k⟩
theorem sumR_sound (hg : Good P) (hc : GoodC P) {S : Summ} (hn : S.ents = none) {IM : List (Nat × Nat)} {VM : List (Nat × SI)} (hok : SumR P S) : SumsOk P (sumOne S IM VM) := by
 intro f args s v s' hsum K c w xs h ha
 unfold sumOne at hsum
 rw [cnd_eq] at hsum
 by_cases ef : Nat.beq f S.f = true
 case neg => rw [if_neg ef] at hsum; cases hsum
 rw [if_pos ef, cnd_eq] at hsum
 have ef := Nat.eq_of_beq_eq_true ef
 subst ef
 by_cases hf : S.fits IM VM args s = true
 case neg => rw [if_neg hf] at hsum; cases hsum
 rw [if_pos hf] at hsum
 obtain ⟨hro, fr, hfr, hok⟩ := hok
 have hargs : argsB (mpOf IM VM) S.args args = true := by
  have hf2 := hf
  unfold Summ.fits at hf2
  simp only [Bool.and_eq_true] at hf2
  exact hf2.1.1.1.1.1.1
 have hH := Summ.heap hro hf h
 have hA := argsB_sound hargs ha
 obtain ⟨g1, g2, g3, g4, fn, q, g5, g6⟩ := enter_frame hc hA hfr (Kall w)
 right
 refine ⟨callFunc_enter hg g5 g6 xs w, fun cs => ?_⟩
 have hrm : RM P (Kall w) cs S.f ((mpOf IM VM).via c) fr [] S.st (Frame.enter P S.f xs .normal) cs w := ⟨⟨Kall w, Kall w, .nil, g1, hH⟩, ⟨g2, g3, g4⟩⟩
 obtain ⟨d, F', w2, x, v1, s1, e2, e3, e4, e5, e6, e7, hok⟩ := hok (Kall w) cs S.f _ _ cs w (fun _ h => h) hrm
 have hst := h.stay fun b o hb => (e6.kept b o hb).1
 unfold Summ.endB at hok
 unfold Summ.out at hsum
 rw [hn] at hok hsum
 simp only [Bool.and_eq_true] at hok
 cases hsum
 have hv := avEq_eq 40 _ _ hok.2
 rw [hv] at e5
 exact ⟨_, w2, F', ⟨x, c, rfl, .refl c, plain3_any hok.1 e5, hst, e7⟩, e2, e4, e3⟩
theorem sumF_okR (hg : Good P) (hc : GoodC P) {S : Summ} (hn : S.ents = none) (h : SumR P S) : SumsOk P (sumF S) := by
 intro f args s v s' hs
 unfold sumF at hs
 rw [cnd_eq] at hs
 split at hs
 ·unfold sumF2 at hs
  generalize findS S args s = m at hs
  obtain ⟨_, _, IM, VM, _⟩ := m
  exact sumR_sound hg hc hn h f args s v s' hs
 ·cases hs
end Sx
