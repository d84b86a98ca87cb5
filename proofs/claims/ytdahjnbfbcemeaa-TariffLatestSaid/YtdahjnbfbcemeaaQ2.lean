/- By hand, plain: few, and the reference's Right beside the program's: both end, with the same error. -/
import Derived.Test.YtdahjnbfbcemeaaQ
import Derived.Test.YtdahjnbfbcemeaaF16
namespace Go.Proofs.Ytdahjnbfbcemeaa.Q
open Go.RowKit Go.Proofs.YtdahjnbfbcemeaaW.PrintWords Go.Proofs.YtdahjnbfbcemeaaW.PrintLast Go.Proofs.Ytdahjnbfbcemeaa.P Go.Proofs.Ytdahjnbfbcemeaa.O Go.Proofs.Ytdahjnbfbcemeaa.R
set_option linter.unusedVariables false
/-! ### few -/
theorem few_l1 (l : List S30) (i : Int) (h0 : 0 ≤ i) (h1 : i < (l.length : Int)) (hr : (rd_T30 l i).f1.length ≤ 50) (R : Prop) (b0 : Bool) (hb : Ev (fun k => skiarealaw33_few.l0 k l (wrap64 (i + 1))) b0) (hR : b0 = true → R) :
    ∀ (d : Nat) (j : Int), 0 ≤ j → j ≤ ((rd_T30 l i).f1.length : Int) → ((rd_T30 l i).f1.length : Int) - j = d →
      ∃ b, Ev (fun k => skiarealaw33_few.l1 k l i j) b ∧ (b = true → R ∧ ∀ q : Int, j ≤ q → q < ((rd_T30 l i).f1.length : Int) → (rd_T35 (rd_T30 l i).f1 q).f3.length ≤ 30) := by
  intro d
  induction d with
  | zero =>
    intro j j0 j1 hd
    refine ⟨b0, Ev.step (fun k => ?_) hb, fun e => ⟨hR e, fun q q0 q1 => by omega⟩⟩
    simp only [skiarealaw33_few.l1]
    rw [if_pos h0, if_pos h1, if_neg (by omega)]
  | succ d ih =>
    intro j j0 j1 hd
    have hlt : j < ((rd_T30 l i).f1.length : Int) := by omega
    by_cases c : ((rd_T35 (rd_T30 l i).f1 j).f3.length : Int) > 30
    · refine ⟨false, Ev.step (f := fun _ => some false) (fun k => ?_) (Ev.now _), fun e => by simp at e⟩
      simp only [skiarealaw33_few.l1]
      rw [if_pos h0, if_pos h1, if_pos hlt, if_pos j0, if_pos c]
    · obtain ⟨b, hb', hq⟩ := ih (j + 1) (by omega) (by omega) (by omega)
      refine ⟨b, Ev.step (fun k => ?_) hb', fun e => ⟨(hq e).1, fun q q0 q1 => ?_⟩⟩
      · simp only [skiarealaw33_few.l1]
        rw [if_pos h0, if_pos h1, if_pos hlt, if_pos j0, if_neg c, wrap_id (i := j + 1) (by omega) (by omega)]
      · by_cases e2 : q = j
        · rw [e2]; omega
        · exact (hq e).2 q (by omega) q1
theorem few_l0 (l : List S30) (hl : l.length ≤ 30) : ∀ (d : Nat) (i : Int), 0 ≤ i → i ≤ (l.length : Int) → (l.length : Int) - i = d →
      ∃ b, Ev (fun k => skiarealaw33_few.l0 k l i) b ∧ (b = true → ∀ p : Int, i ≤ p → p < (l.length : Int) → (rd_T30 l p).f1.length ≤ 50 ∧ ∀ q : Int, 0 ≤ q → q < ((rd_T30 l p).f1.length : Int) → (rd_T35 (rd_T30 l p).f1 q).f3.length ≤ 30) := by
  intro d
  induction d with
  | zero =>
    intro i i0 i1 hd
    exact ⟨true, Ev.step (f := fun _ => some true) (fun k => by simp only [skiarealaw33_few.l0]; rw [if_neg (by omega)]) (Ev.now _), fun _ p p0 p1 => by omega⟩
  | succ d ih =>
    intro i i0 i1 hd
    have hlt : i < (l.length : Int) := by omega
    by_cases c : ((rd_T30 l i).f1.length : Int) > 50
    · exact ⟨false, Ev.step (f := fun _ => some false) (fun k => by simp only [skiarealaw33_few.l0]; rw [if_pos hlt, if_pos i0, if_pos c]) (Ev.now _), fun e => by simp at e⟩
    · obtain ⟨b0, hb0, hq0⟩ := ih (i + 1) (by omega) (by omega) (by omega)
      rw [← wrap_id (i := i + 1) (by omega) (by omega)] at hb0
      obtain ⟨b, hb, hq⟩ := few_l1 l i i0 hlt (by omega) _ b0 hb0 hq0 _ 0 (Int.le_refl _) (Int.natCast_nonneg _) (by omega : ((rd_T30 l i).f1.length : Int) - 0 = ((rd_T30 l i).f1.length : Nat))
      refine ⟨b, Ev.step (fun k => by simp only [skiarealaw33_few.l0]; rw [if_pos hlt, if_pos i0, if_neg c]) hb, fun e p p0 p1 => ?_⟩
      by_cases e2 : p = i
      · rw [e2]; exact ⟨by omega, (hq e).2⟩
      · exact (hq e).1 p (by omega) p1
/-- What few says of tariffs. -/
structure Few (l : List S30) : Prop where
  len : l.length ≤ 30
  rates : ∀ p : Int, 0 ≤ p → p < (l.length : Int) → (rd_T30 l p).f1.length ≤ 50
  peaks : ∀ p : Int, 0 ≤ p → p < (l.length : Int) → ∀ q : Int, 0 ≤ q → q < ((rd_T30 l p).f1.length : Int) → (rd_T35 (rd_T30 l p).f1 q).f3.length ≤ 30
theorem few_ev (l : List S30) : ∃ b, Ev (fun k => skiarealaw33_few.f k l) b ∧ (b = true → Few l) := by
  unfold skiarealaw33_few.f
  by_cases c : (l.length : Int) > 30
  · exact ⟨false, Ev.congr (fun k => if_pos c) (Ev.now _), fun e => by simp at e⟩
  · obtain ⟨b, hb, hq⟩ := few_l0 l (by omega) l.length 0 (Int.le_refl _) (Int.natCast_nonneg _) (by omega)
    exact ⟨b, Ev.congr (fun k => if_neg c) hb, fun e => ⟨by omega, fun p p0 p1 => (hq e p p0 p1).1, fun p p0 p1 => (hq e p p0 p1).2⟩⟩

/-! ### a rate -/
/-- The bounds of a rate. -/
def RateOk (y : S35) : Prop := 1 ≤ y.f1 ∧ y.f1 ≤ 10000 ∧ 0 ≤ y.f2 ∧ y.f2 ≤ 1000
theorem rate_loop (m : List S35) (hm : m.length ≤ 1000000) (x : Int) (hx0 : 0 ≤ x) (hx : x < (m.length : Int)) (f0 f1 f2 : Int) (f3 : List S54) (h3 : f3.length ≤ 9223372036854775807) : ∀ (d : Nat) (j : Int), 0 ≤ j → j ≤ x → x - j = d →
    ∃ e, Ev (fun k => skiarearef33_rate.l0 k m x j f0 f1 f2 f3) e ∧ ∀ e', Ev (fun k => tariff_rates.l0 k m (wrap64 (x + 1))) e' → Ev (fun k => tariff_rates.l1 k m x j f0 f1 f2 f3) (if e = 0 then e' else e) := by
  intro d
  induction d with
  | zero =>
    intro j j0 j1 hd
    obtain ⟨b, hb⟩ := hright_ev f3 h3
    cases b with
    | true =>
      refine ⟨0, Ev.step (fun k => by simp only [skiarearef33_rate.l0]; rw [if_neg (by omega)]) (Ev.bind (show Ev (fun k => skiarearef02_Right.f k f3) _ from Ev.congr (fun k => (hright_eq k f3).symm) hb) (Ev.congr (fun k => if_pos rfl) (Ev.now _))), fun e' he' => ?_⟩
      rw [if_pos rfl]
      exact Ev.step (fun k => by simp only [tariff_rates.l1]; rw [if_neg (by omega)]) (Ev.bind hb (Ev.congr (fun k => if_pos rfl) he'))
    | false =>
      refine ⟨1, Ev.step (fun k => by simp only [skiarearef33_rate.l0]; rw [if_neg (by omega)]) (Ev.bind (show Ev (fun k => skiarearef02_Right.f k f3) _ from Ev.congr (fun k => (hright_eq k f3).symm) hb) (Ev.congr (fun k => if_neg Bool.false_ne_true) (Ev.now _))), fun e' he' => ?_⟩
      rw [if_neg (by decide)]
      exact Ev.step (fun k => by simp only [tariff_rates.l1]; rw [if_neg (by omega)]) (Ev.bind hb (Ev.congr (fun k => if_neg Bool.false_ne_true) (Ev.now _)))
  | succ d ih =>
    intro j j0 j1 hd
    by_cases c : (rd_T35 m j).f0 = f0
    · refine ⟨7, Ev.step (f := fun _ => some 7) (fun k => by simp only [skiarearef33_rate.l0]; rw [if_pos (by omega), if_pos j0, if_pos (by omega), if_pos c]) (Ev.now _), fun e' he' => ?_⟩
      rw [if_neg (by decide)]
      exact Ev.step (f := fun _ => some 7) (fun k => by simp only [tariff_rates.l1]; rw [if_pos (by omega), if_pos j0, if_pos (by omega), if_pos c]) (Ev.now _)
    · obtain ⟨e, he, hq⟩ := ih (j + 1) (by omega) (by omega) (by omega)
      refine ⟨e, Ev.step (fun k => by simp only [skiarearef33_rate.l0]; rw [if_pos (by omega), if_pos j0, if_pos (by omega), if_neg c, wrap_id (i := j + 1) (by omega) (by omega)]) he, fun e' he' => ?_⟩
      exact Ev.step (fun k => by simp only [tariff_rates.l1]; rw [if_pos (by omega), if_pos j0, if_pos (by omega), if_neg c, wrap_id (i := j + 1) (by omega) (by omega)]) (hq e' he')
theorem rate_both (m : List S35) (hm : m.length ≤ 1000000) (x : Int) (hx0 : 0 ≤ x) (hx : x < (m.length : Int)) (h3 : (rd_T35 m x).f3.length ≤ 9223372036854775807) :
    ∃ e, Ev (fun k => skiarearef33_rate.f k m x) e ∧ (e = 0 → RateOk (rd_T35 m x)) ∧ ∀ e', Ev (fun k => tariff_rates.l0 k m (wrap64 (x + 1))) e' → Ev (fun k => tariff_rates.l0 k m x) (if e = 0 then e' else e) := by
  have bad1 : ∀ f0 f1 f2 f3, Ev (fun k => skiarearef33_rate.j0 k m x true f0 f1 f2 f3) 2 := fun f0 f1 f2 f3 => Ev.step (f := fun _ => some 2) (fun k => by simp [skiarearef33_rate.j0]) (Ev.now _)
  have bad2 : ∀ f0 f1 f2 f3, Ev (fun k => tariff_rates.j1 k m x true f0 f1 f2 f3) 2 := fun f0 f1 f2 f3 => Ev.step (f := fun _ => some 2) (fun k => by simp [tariff_rates.j1]) (Ev.now _)
  have step2 : ∀ (b : Bool) (e : Int), (∀ k, tariff_rates.l0 (k + 1) m x = tariff_rates.j1 k m x b (rd_T35 m x).f0 (rd_T35 m x).f1 (rd_T35 m x).f2 (rd_T35 m x).f3) → Ev (fun k => tariff_rates.j1 k m x b (rd_T35 m x).f0 (rd_T35 m x).f1 (rd_T35 m x).f2 (rd_T35 m x).f3) e → Ev (fun k => tariff_rates.l0 k m x) e := fun b e h1 h2 => Ev.step h1 h2
  by_cases q1 : (rd_T35 m x).f0 < 1
  · refine ⟨2, Ev.congr (fun k => by unfold skiarearef33_rate.f; rw [if_pos hx0, if_pos hx, if_pos q1]) (bad1 _ _ _ _), fun h => absurd h (by decide), fun e' _ => ?_⟩
    rw [if_neg (by decide)]
    exact step2 true _ (fun k => by simp only [tariff_rates.l0]; rw [if_pos hx, if_pos hx0, if_pos q1]) (bad2 _ _ _ _)
  by_cases q2 : (rd_T35 m x).f0 > 9999
  · refine ⟨2, Ev.congr (fun k => by unfold skiarearef33_rate.f; rw [if_pos hx0, if_pos hx, if_neg q1, if_pos q2]) (bad1 _ _ _ _), fun h => absurd h (by decide), fun e' _ => ?_⟩
    rw [if_neg (by decide)]
    exact step2 true _ (fun k => by simp only [tariff_rates.l0]; rw [if_pos hx, if_pos hx0, if_neg q1, if_pos q2]) (bad2 _ _ _ _)
  by_cases q3 : (rd_T35 m x).f1 < 1
  · refine ⟨2, Ev.congr (fun k => by unfold skiarearef33_rate.f; rw [if_pos hx0, if_pos hx, if_neg q1, if_neg q2, if_pos q3]) (bad1 _ _ _ _), fun h => absurd h (by decide), fun e' _ => ?_⟩
    rw [if_neg (by decide)]
    exact step2 true _ (fun k => by simp only [tariff_rates.l0]; rw [if_pos hx, if_pos hx0, if_neg q1, if_neg q2, if_pos q3]) (bad2 _ _ _ _)
  by_cases q4 : (rd_T35 m x).f1 > 10000
  · refine ⟨2, Ev.congr (fun k => by unfold skiarearef33_rate.f; rw [if_pos hx0, if_pos hx, if_neg q1, if_neg q2, if_neg q3, if_pos q4]) (bad1 _ _ _ _), fun h => absurd h (by decide), fun e' _ => ?_⟩
    rw [if_neg (by decide)]
    exact step2 true _ (fun k => by simp only [tariff_rates.l0]; rw [if_pos hx, if_pos hx0, if_neg q1, if_neg q2, if_neg q3, if_pos q4]) (bad2 _ _ _ _)
  by_cases q5 : (rd_T35 m x).f2 < 0
  · refine ⟨2, Ev.congr (fun k => by unfold skiarearef33_rate.f; rw [if_pos hx0, if_pos hx, if_neg q1, if_neg q2, if_neg q3, if_neg q4, if_pos q5]) (bad1 _ _ _ _), fun h => absurd h (by decide), fun e' _ => ?_⟩
    rw [if_neg (by decide)]
    exact step2 true _ (fun k => by simp only [tariff_rates.l0]; rw [if_pos hx, if_pos hx0, if_neg q1, if_neg q2, if_neg q3, if_neg q4, if_pos q5]) (bad2 _ _ _ _)
  by_cases q6 : (rd_T35 m x).f2 > 1000
  · refine ⟨2, Ev.congr (fun k => by unfold skiarearef33_rate.f; rw [if_pos hx0, if_pos hx, if_neg q1, if_neg q2, if_neg q3, if_neg q4, if_neg q5, decide_eq_true q6]) (bad1 _ _ _ _), fun h => absurd h (by decide), fun e' _ => ?_⟩
    rw [if_neg (by decide)]
    exact step2 true _ (fun k => by simp only [tariff_rates.l0]; rw [if_pos hx, if_pos hx0, if_neg q1, if_neg q2, if_neg q3, if_neg q4, if_neg q5, decide_eq_true q6]) (bad2 _ _ _ _)
  obtain ⟨e, he, hq⟩ := rate_loop m hm x hx0 hx (rd_T35 m x).f0 (rd_T35 m x).f1 (rd_T35 m x).f2 (rd_T35 m x).f3 h3 x.toNat 0 (Int.le_refl _) hx0 (by omega)
  refine ⟨e, ?_, fun _ => ⟨by omega, by omega, by omega, by omega⟩, fun e' he' => ?_⟩
  · refine Ev.congr (fun k => by unfold skiarearef33_rate.f; rw [if_pos hx0, if_pos hx, if_neg q1, if_neg q2, if_neg q3, if_neg q4, if_neg q5, decide_eq_false q6]) ?_
    exact Ev.step (fun k => by simp only [skiarearef33_rate.j0]; rw [if_neg (by simp)]) he
  · refine step2 false _ (fun k => by simp only [tariff_rates.l0]; rw [if_pos hx, if_pos hx0, if_neg q1, if_neg q2, if_neg q3, if_neg q4, if_neg q5, decide_eq_false q6]) ?_
    exact Ev.step (fun k => by simp only [tariff_rates.j1]; rw [if_neg (by simp)]) (hq e' he')

/-! ### the rates of a tariff -/
theorem rates_both (L : List S30) (i : Int) (i0 : 0 ≤ i) (i1 : i < (L.length : Int)) (hm : (rd_T30 L i).f1.length ≤ 1000000) (h3 : ∀ q : Int, 0 ≤ q → q < ((rd_T30 L i).f1.length : Int) → (rd_T35 (rd_T30 L i).f1 q).f3.length ≤ 9223372036854775807) (er : Int) (hr : Ev (fun k => skiarearef33_Right.l0 k L (wrap64 (i + 1))) er) :
    ∀ (d : Nat) (x : Int), 0 ≤ x → x ≤ ((rd_T30 L i).f1.length : Int) → ((rd_T30 L i).f1.length : Int) - x = d →
      ∃ e, Ev (fun k => tariff_rates.l0 k (rd_T30 L i).f1 x) e ∧ Ev (fun k => skiarearef33_Right.l1 k L i x) (if e = 0 then er else e) ∧ (e = 0 → ∀ q : Int, x ≤ q → q < ((rd_T30 L i).f1.length : Int) → RateOk (rd_T35 (rd_T30 L i).f1 q)) := by
  intro d
  induction d with
  | zero =>
    intro x x0 x1 hd
    refine ⟨0, Ev.step (f := fun _ => some 0) (fun k => by simp only [tariff_rates.l0]; rw [if_neg (by omega)]) (Ev.now _), ?_, fun _ q q0 q1 => by omega⟩
    rw [if_pos rfl]
    exact Ev.step (fun k => by simp only [skiarearef33_Right.l1]; rw [if_pos i0, if_pos i1, if_neg (by omega)]) hr
  | succ d ih =>
    intro x x0 x1 hd
    have hlt : x < ((rd_T30 L i).f1.length : Int) := by omega
    obtain ⟨e', h1, h2, h4⟩ := ih (x + 1) (by omega) (by omega) (by omega)
    obtain ⟨e, he, hok, hq⟩ := rate_both (rd_T30 L i).f1 hm x x0 hlt (h3 x x0 hlt)
    have h5 := hq e' (by rw [wrap_id (by omega) (by omega)]; exact h1)
    refine ⟨_, h5, ?_, fun hz q q0 q1 => ?_⟩
    · refine Ev.step (fun k => by simp only [skiarearef33_Right.l1]; rw [if_pos i0, if_pos i1, if_pos hlt]) (Ev.bind he ?_)
      by_cases c : e = 0
      · rw [if_pos c]
        exact Ev.congr (fun k => by rw [if_pos c, wrap_id (i := x + 1) (by omega) (by omega)]) h2
      · rw [if_neg c, if_neg c]
        exact Ev.congr (fun k => if_neg c) (Ev.now _)
    · by_cases c : e = 0
      · rw [if_pos c] at hz
        by_cases e2 : q = x
        · rw [e2]; exact hok c
        · exact h4 hz q (by omega) q1
      · rw [if_neg c] at hz
        exact absurd hz c
/-! ### Right -/
theorem right_l0 (L : List S30) (hL : L.length ≤ 1000000) (hm : ∀ p : Int, 0 ≤ p → p < (L.length : Int) → (rd_T30 L p).f1.length ≤ 1000000) (h3 : ∀ p : Int, 0 ≤ p → p < (L.length : Int) → ∀ q : Int, 0 ≤ q → q < ((rd_T30 L p).f1.length : Int) → (rd_T35 (rd_T30 L p).f1 q).f3.length ≤ 9223372036854775807) :
    ∀ (d : Nat) (i : Int), 0 ≤ i → i ≤ (L.length : Int) → (L.length : Int) - i = d →
      ∃ e, Ev (fun k => tariff_Right.l0 k L L (L.length : Int) i) e ∧ Ev (fun k => skiarearef33_Right.l0 k L i) e ∧ (e = 0 → ∀ p : Int, i ≤ p → p < (L.length : Int) → ∀ q : Int, 0 ≤ q → q < ((rd_T30 L p).f1.length : Int) → RateOk (rd_T35 (rd_T30 L p).f1 q)) := by
  intro d
  induction d with
  | zero =>
    intro i i0 i1 hd
    exact ⟨0, Ev.step (f := fun _ => some 0) (fun k => by simp only [tariff_Right.l0]; rw [if_neg (by omega)]) (Ev.now _), Ev.step (f := fun _ => some 0) (fun k => by simp only [skiarearef33_Right.l0]; rw [if_neg (by omega)]) (Ev.now _), fun _ p p0 p1 => by omega⟩
  | succ d ih =>
    intro i i0 i1 hd
    have hlt : i < (L.length : Int) := by omega
    obtain ⟨er, r1, r2, r3⟩ := ih (i + 1) (by omega) (by omega) (by omega)
    have hrr : Ev (fun k => skiarearef33_Right.l0 k L (wrap64 (i + 1))) er := by rw [wrap_id (by omega) (by omega)]; exact r2
    -- behind the order
    have J2 : ∀ b : Bool, ∃ e, Ev (fun k => tariff_Right.j2 k L L (L.length : Int) i b (rd_T30 L i).f0 (rd_T30 L i).f1) e ∧ Ev (fun k => skiarearef33_Right.j2 k L i b) e ∧ (e = 0 → ∀ p : Int, i ≤ p → p < (L.length : Int) → ∀ q : Int, 0 ≤ q → q < ((rd_T30 L p).f1.length : Int) → RateOk (rd_T35 (rd_T30 L p).f1 q)) := by
      intro b
      cases b with
      | true => exact ⟨11, Ev.step (f := fun _ => some 11) (fun k => by simp [tariff_Right.j2]) (Ev.now _), Ev.step (f := fun _ => some 11) (fun k => by simp [skiarearef33_Right.j2]) (Ev.now _), fun h => absurd h (by decide)⟩
      | false =>
        by_cases c : ((rd_T30 L i).f1.length : Int) > 32
        · refine ⟨4, ?_, ?_, fun h => absurd h (by decide)⟩
          · refine Ev.step (fun k => by simp only [tariff_Right.j2]; rw [if_neg (by simp)]) (Ev.bind (show Ev (fun k => tariff_rates.f k (rd_T30 L i).f1) 4 from Ev.congr (fun k => by unfold tariff_rates.f; rw [if_pos c]) (Ev.now _)) ?_)
            exact Ev.congr (fun k => if_neg (by decide)) (Ev.now _)
          · exact Ev.step (f := fun _ => some 4) (fun k => by simp only [skiarearef33_Right.j2]; rw [if_neg (by simp), if_pos i0, if_pos hlt, if_pos c]) (Ev.now _)
        · obtain ⟨e, h1, h2, h4⟩ := rates_both L i i0 hlt (hm i i0 hlt) (h3 i i0 hlt) er hrr (rd_T30 L i).f1.length 0 (Int.le_refl _) (Int.natCast_nonneg _) (by omega)
          refine ⟨if e = 0 then er else e, ?_, ?_, fun hz p p0 p1 => ?_⟩
          · refine Ev.step (fun k => by simp only [tariff_Right.j2]; rw [if_neg (by simp)]) (Ev.bind (show Ev (fun k => tariff_rates.f k (rd_T30 L i).f1) e from Ev.congr (fun k => by unfold tariff_rates.f; rw [if_neg c]) h1) ?_)
            by_cases c2 : e = 0
            · rw [if_pos c2]
              exact Ev.congr (fun k => by rw [if_pos c2, wrap_id (i := i + 1) (by omega) (by omega)]) r1
            · rw [if_neg c2]
              exact Ev.congr (fun k => if_neg c2) (Ev.now _)
          · exact Ev.step (fun k => by simp only [skiarearef33_Right.j2]; rw [if_neg (by simp), if_pos i0, if_pos hlt, if_neg c]) h2
          · by_cases c2 : e = 0
            · rw [if_pos c2] at hz
              by_cases e2 : p = i
              · rw [e2]; exact fun q q0 q1 => h4 c2 q q0 q1
              · exact r3 hz p (by omega) p1
            · rw [if_neg c2] at hz
              exact absurd hz c2
    -- behind the range
    have J1 : ∀ b : Bool, ∃ e, Ev (fun k => tariff_Right.j1 k L i L (L.length : Int) i b (rd_T30 L i).f0 (rd_T30 L i).f1) e ∧ Ev (fun k => skiarearef33_Right.j1 k L i b) e ∧ (e = 0 → ∀ p : Int, i ≤ p → p < (L.length : Int) → ∀ q : Int, 0 ≤ q → q < ((rd_T30 L p).f1.length : Int) → RateOk (rd_T35 (rd_T30 L p).f1 q)) := by
      intro b
      cases b with
      | true => exact ⟨2, Ev.step (f := fun _ => some 2) (fun k => by simp [tariff_Right.j1]) (Ev.now _), Ev.step (f := fun _ => some 2) (fun k => by simp [skiarearef33_Right.j1]) (Ev.now _), fun h => absurd h (by decide)⟩
      | false =>
        by_cases c : i > 0
        · have w1 : wrap64 (i - 1) = i - 1 := wrap_id (by omega) (by omega)
          obtain ⟨e, h1, h2, h4⟩ := J2 (decide ((rd_T30 L i).f0 ≤ (rd_T30 L (wrap64 (i - 1))).f0))
          refine ⟨e, Ev.step (fun k => ?_) h1, Ev.step (fun k => ?_) h2, h4⟩
          · simp only [tariff_Right.j1]
            rw [if_neg (by simp), if_pos c, if_pos (by omega), if_pos (by omega)]
          · simp only [skiarearef33_Right.j1]
            rw [if_neg (by simp), if_pos c, if_pos i0, if_pos hlt, if_pos (by omega), if_pos (by omega)]
        · obtain ⟨e, h1, h2, h4⟩ := J2 false
          refine ⟨e, Ev.step (fun k => ?_) h1, Ev.step (fun k => ?_) h2, h4⟩
          · simp only [tariff_Right.j1]
            rw [if_neg (by simp), if_neg c]
          · simp only [skiarearef33_Right.j1]
            rw [if_neg (by simp), if_neg c]
    by_cases c1 : (rd_T30 L i).f0 < 0
    · obtain ⟨e, h1, h2, h4⟩ := J1 true
      exact ⟨e, Ev.step (fun k => by simp only [tariff_Right.l0]; rw [if_pos hlt, if_pos i0, if_pos hlt, if_pos c1]) h1, Ev.step (fun k => by simp only [skiarearef33_Right.l0]; rw [if_pos hlt, if_pos i0, if_pos c1]) h2, h4⟩
    by_cases c2 : (rd_T30 L i).f0 > 20000000
    · obtain ⟨e, h1, h2, h4⟩ := J1 true
      exact ⟨e, Ev.step (fun k => by simp only [tariff_Right.l0]; rw [if_pos hlt, if_pos i0, if_pos hlt, if_neg c1, if_pos c2]) h1, Ev.step (fun k => by simp only [skiarearef33_Right.l0]; rw [if_pos hlt, if_pos i0, if_neg c1, if_pos c2]) h2, h4⟩
    by_cases c3 : i = 0
    · obtain ⟨e, h1, h2, h4⟩ := J1 ((rd_T30 L i).f0 != 0)
      exact ⟨e, Ev.step (fun k => by simp only [tariff_Right.l0]; rw [if_pos hlt, if_pos i0, if_pos hlt, if_neg c1, if_neg c2, if_pos c3]) h1, Ev.step (fun k => by simp only [skiarearef33_Right.l0]; rw [if_pos hlt, if_pos i0, if_neg c1, if_neg c2, if_pos c3]) h2, h4⟩
    · obtain ⟨e, h1, h2, h4⟩ := J1 false
      exact ⟨e, Ev.step (fun k => by simp only [tariff_Right.l0]; rw [if_pos hlt, if_pos i0, if_pos hlt, if_neg c1, if_neg c2, if_neg c3]) h1, Ev.step (fun k => by simp only [skiarearef33_Right.l0]; rw [if_pos hlt, if_pos i0, if_neg c1, if_neg c2, if_neg c3]) h2, h4⟩
theorem right_both (L : List S30) (hF : Few L) : ∃ e, Ev (fun k => tariff_Right.f k L) e ∧ Ev (fun k => skiarearef33_Right.f k L) e ∧ (e = 0 → ∀ p : Int, 0 ≤ p → p < (L.length : Int) → ∀ q : Int, 0 ≤ q → q < ((rd_T30 L p).f1.length : Int) → RateOk (rd_T35 (rd_T30 L p).f1 q)) := by
  unfold tariff_Right.f skiarearef33_Right.f
  by_cases c1 : (L.length : Int) = 0
  · exact ⟨8, Ev.congr (fun k => if_pos c1) (Ev.now _), Ev.congr (fun k => if_pos c1) (Ev.now _), fun h => absurd h (by decide)⟩
  by_cases c2 : (L.length : Int) > 16
  · exact ⟨4, Ev.congr (fun k => by rw [if_neg c1, if_pos c2]) (Ev.now _), Ev.congr (fun k => by rw [if_neg c1, if_pos c2]) (Ev.now _), fun h => absurd h (by decide)⟩
  obtain ⟨e, h1, h2, h3⟩ := right_l0 L (by have := hF.len; omega) (fun p p0 p1 => by have := hF.rates p p0 p1; omega) (fun p p0 p1 q q0 q1 => by have := hF.peaks p p0 p1 q q0 q1; omega) L.length 0 (Int.le_refl _) (Int.natCast_nonneg _) (by omega)
  exact ⟨e, Ev.congr (fun k => by rw [if_neg c1, if_neg c2]) h1, Ev.congr (fun k => by rw [if_neg c1, if_neg c2]) h2, h3⟩
/-- What the law's right says. -/
structure Good (L : List S30) : Prop where
  few : Few L
  ok : ∀ p : Int, 0 ≤ p → p < (L.length : Int) → ∀ q : Int, 0 ≤ q → q < ((rd_T30 L p).f1.length : Int) → RateOk (rd_T35 (rd_T30 L p).f1 q)
theorem lright_ev (L : List S30) : ∃ b, Ev (fun k => skiarealaw33_right.f k L) b ∧ (b = true → Good L) := by
  obtain ⟨b, hb, hF⟩ := few_ev L
  unfold skiarealaw33_right.f
  cases b with
  | false => exact ⟨false, Ev.bind hb (Ev.congr (fun k => if_neg (by simp)) (Ev.now _)), fun h => by simp at h⟩
  | true =>
    obtain ⟨e, h1, h2, h3⟩ := right_both L (hF rfl)
    refine ⟨e == 0, Ev.bind hb (Ev.congr (fun k => if_pos rfl) (Ev.bind h2 (Ev.now _))), fun h => ⟨hF rfl, h3 (by simpa using h)⟩⟩
end Go.Proofs.Ytdahjnbfbcemeaa.Q
