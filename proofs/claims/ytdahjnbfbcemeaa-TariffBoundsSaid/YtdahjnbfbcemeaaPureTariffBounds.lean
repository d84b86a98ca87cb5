/- By hand, plain: the law TariffBounds answers true. -/
import Derived.Test.YtdahjnbfbcemeaaQ2
import Derived.Test.YtdahjnbfbcemeaaF3
set_option linter.unusedVariables false
namespace Go.Proofs.Ytdahjnbfbcemeaa.Pure
open Go.RowKit Go.Proofs.YtdahjnbfbcemeaaW.PrintWords Go.Proofs.Ytdahjnbfbcemeaa.P Go.Proofs.Ytdahjnbfbcemeaa.O Go.Proofs.Ytdahjnbfbcemeaa.R Go.Proofs.Ytdahjnbfbcemeaa.Q
theorem own_val (k : Nat) {a : Int} {m : List S35} (h1 : m.length ≤ 50) (h2 : ∀ q : Int, 0 ≤ q → q < (m.length : Int) → (rd_T35 m q).f3.length ≤ 30) : tariff_own.f k a m = some (a, m) := by
  unfold tariff_own.f
  rw [if_pos]
  refine ⟨by omega, List.all_eq_true.2 fun y hy => ?_⟩
  obtain ⟨j, hj, rfl⟩ := List.getElem_of_mem hy
  have := h2 j (Int.natCast_nonneg _) (by omega)
  rw [show rd_T35 m (j : Int) = m[j] by simp [rd_T35, hj]] at this
  simp only [decide_eq_true_eq]
  omega
theorem at_ev (l : List S30) (G : Q.Good l) (t i : Int) (hi : Ev (fun k => tariff_index.f k l t) i) (h2 : i < (l.length : Int)) : Ev (fun k => tariff_At.f k l t) (atV l i) := by
  unfold tariff_At.f
  refine Ev.bind hi ?_
  unfold atV
  by_cases c : i < 0
  · rw [if_pos c]
    exact Ev.congr (fun k => if_pos c) (Ev.now _)
  · rw [if_neg c]
    exact Ev.congr (fun k => by rw [if_neg c, if_pos (by omega), if_pos h2, own_val k (G.few.rates i (by omega) h2) (G.few.peaks i (by omega) h2)]; rfl) (Ev.now _)
theorem Ev.uniq {α : Type} {g : Nat → Option α} {a b : α} (h1 : Ev g a) (h2 : Ev g b) : a = b := by
  obtain ⟨K1, h1⟩ := h1
  obtain ⟨K2, h2⟩ := h2
  have e1 := h1 (K1 + K2) (by omega)
  have e2 := h2 (K1 + K2) (by omega)
  exact Option.some.inj (e1.symm.trans e2)
theorem in_nil (t : Int) : Ev (fun k => clock_In.f k [] t) false := by
  unfold clock_In.f
  cases e : skiarearef02_time.f t with
  | none =>
    unfold skiarearef02_time.f at e
    split at e <;> cases e
  | some b =>
    simp only [Option.bind_some]
    cases b with
    | true =>
      refine Ev.congr (fun k => if_pos rfl) ?_
      exact Ev.step (f := fun _ => some false) (fun k => by simp [clock_In.l0]) (Ev.now _)
    | false => exact Ev.congr (fun k => if_neg Bool.false_ne_true) (Ev.now _)
theorem bounds_hit (m : List S35) (hm : m.length ≤ 1000000) (v g0 : Int) (x : S24) (i : Int) (i0 : 0 ≤ i) (i1 : i < (m.length : Int)) (hh : (rd_T35 m i).f0 = x.f5) (hn : ∀ j, 0 ≤ j → j < i → (rd_T35 m j).f0 ≠ x.f5)
    (h1 : v ≥ (rd_T35 m i).f1) (h2 : v ≤ wrap64 (2 * (rd_T35 m i).f1)) (h3 : v = (rd_T35 m i).f1 ∨ ((rd_T35 m i).f3.length : Int) > 0 ∧ (rd_T35 m i).f2 > 0) :
    ∀ (d : Nat) (j : Int), 0 ≤ j → j ≤ i → i - j = d → Ev (fun k => skiarealaw33_TariffBounds.l0 k v j x.f0 x.f1 x.f2 x.f3 x.f4 x.f5 x.f6 g0 m) true := by
  intro d
  induction d with
  | zero =>
    intro j j0 j1 hd
    obtain rfl : j = i := by omega
    refine Ev.step (f := fun _ => some true) (fun k => ?_) (Ev.now _)
    simp only [skiarealaw33_TariffBounds.l0]
    rw [if_pos i1, if_pos j0, if_pos hh, if_pos h1, if_pos h2]
    rcases h3 with h3 | ⟨h3, h4⟩
    · rw [if_pos h3]
    · by_cases c : v = (rd_T35 m j).f1
      · rw [if_pos c]
      · rw [if_neg c, if_pos h3, decide_eq_true h4]
  | succ d ih =>
    intro j j0 j1 hd
    refine Ev.step (fun k => ?_) (ih (j + 1) (by omega) (by omega) (by omega))
    simp only [skiarealaw33_TariffBounds.l0]
    rw [if_pos (by omega), if_pos j0, if_neg (hn j j0 (by omega)), wrap_id (i := j + 1) (by omega) (by omega)]
theorem bounds_miss (m : List S35) (hm : m.length ≤ 1000000) (g0 : Int) (x : S24) (hn : ∀ j, 0 ≤ j → j < (m.length : Int) → (rd_T35 m j).f0 ≠ x.f5) :
    ∀ (d : Nat) (j : Int), 0 ≤ j → j ≤ (m.length : Int) → (m.length : Int) - j = d → Ev (fun k => skiarealaw33_TariffBounds.l0 k 0 j x.f0 x.f1 x.f2 x.f3 x.f4 x.f5 x.f6 g0 m) true := by
  intro d
  induction d with
  | zero =>
    intro j j0 j1 hd
    exact Ev.step (f := fun _ => some true) (fun k => by simp only [skiarealaw33_TariffBounds.l0]; rw [if_neg (by omega)]; rfl) (Ev.now _)
  | succ d ih =>
    intro j j0 j1 hd
    refine Ev.step (fun k => ?_) (ih (j + 1) (by omega) (by omega) (by omega))
    simp only [skiarealaw33_TariffBounds.l0]
    rw [if_pos (by omega), if_pos j0, if_neg (hn j j0 (by omega)), wrap_id (i := j + 1) (by omega) (by omega)]
theorem TariffBounds (l : List S30) (hl : l.length ≤ 9223372036854775807) (hp : ∀ y ∈ l, p30 y) (x : S24) (hx : p24 x) : ∃ k, skiarealaw33_TariffBounds.f k l x.f0 x.f1 x.f2 x.f3 x.f4 x.f5 x.f6 = some true := by
  have main : Ev (fun k => skiarealaw33_TariffBounds.f k l x.f0 x.f1 x.f2 x.f3 x.f4 x.f5 x.f6) true := by
    unfold skiarealaw33_TariffBounds.f
    rw [alive_val]
    simp only [Option.bind_some, if_true]
    obtain ⟨b, hb, hG⟩ := lright_ev l
    refine Ev.bind hb ?_
    cases b with
    | false => exact Ev.congr (fun k => if_neg Bool.false_ne_true) (Ev.now _)
    | true =>
      refine Ev.congr (fun k => if_pos rfl) ?_
      have G := hG rfl
      obtain ⟨i, hi, h1, h2, _, _⟩ := index_ev l x.f6 hl
      have hA := at_ev l G x.f6 i hi h2
      by_cases c : i < 0
      · have hv : Ev (fun k => tariff_Points.f k l x.f0 x.f1 x.f2 x.f3 x.f4 x.f5 x.f6) 0 := Ev.bind hi (Ev.congr (fun k => if_pos c) (Ev.now _))
        refine Ev.bind hv (Ev.bind hA ?_)
        unfold atV
        rw [if_pos c]
        exact bounds_miss [] (by decide) 0 x (fun j j0 j1 => by simp at j1; omega) 0 0 (Int.le_refl _) (Int.le_refl _) rfl
      · have hm := hp _ (rd30_mem (show 0 ≤ i by omega) h2)
        have hml := G.few.rates i (by omega) h2
        obtain ⟨v, hv0, hcase⟩ := pts_l0_ev x.f0 x.f1 x.f2 x.f3 x.f4 x.f5 x.f6 (rd_T30 l i).f1 hm.2.1 (fun y hy => (hm.2.2 y hy).2.2.2.1)
        have hv : Ev (fun k => tariff_Points.f k l x.f0 x.f1 x.f2 x.f3 x.f4 x.f5 x.f6) v := Ev.bind hi (Ev.congr (fun k => by rw [if_neg c, if_pos (by omega), if_pos h2]) hv0)
        refine Ev.bind hv (Ev.bind hA ?_)
        unfold atV
        rw [if_neg c]
        rcases hcase with ⟨rfl, hn⟩ | ⟨q, b, q0, q1, hh, hn, hb, hvv⟩
        · exact bounds_miss _ (by omega) _ x hn (rd_T30 l i).f1.length 0 (Int.le_refl _) (Int.natCast_nonneg _) (by omega)
        · obtain ⟨g1, g2, g3, g4⟩ := G.ok i (by omega) h2 q q0 q1
          have hnn : 0 ≤ (rd_T35 (rd_T30 l i).f1 q).f1 * (rd_T35 (rd_T30 l i).f1 q).f2 := Int.mul_nonneg (by omega) g3
          have hle : (rd_T35 (rd_T30 l i).f1 q).f1 * (rd_T35 (rd_T30 l i).f1 q).f2 ≤ (rd_T35 (rd_T30 l i).f1 q).f1 * 1000 := Int.mul_le_mul_of_nonneg_left g4 (by omega)
          have hz : (rd_T35 (rd_T30 l i).f1 q).f2 = 0 → (rd_T35 (rd_T30 l i).f1 q).f1 * (rd_T35 (rd_T30 l i).f1 q).f2 = 0 := fun h => by rw [h, Int.mul_zero]
          generalize hpr : (rd_T35 (rd_T30 l i).f1 q).f1 * (rd_T35 (rd_T30 l i).f1 q).f2 = pr at *
          have hvb : b = true → v = (rd_T35 (rd_T30 l i).f1 q).f1 + pr / 1000 := fun hbt => by
            rw [hvv, if_pos hbt, wrap_id (i := pr) (by omega) (by omega), Int.tdiv_eq_ediv_of_nonneg hnn, wrap_id (i := pr / 1000) (by omega) (by omega), wrap_id (by omega) (by omega)]
          have hvf : b = false → v = (rd_T35 (rd_T30 l i).f1 q).f1 := fun hbf => by rw [hvv, hbf]; rfl
          have w2 : wrap64 (2 * (rd_T35 (rd_T30 l i).f1 q).f1) = 2 * (rd_T35 (rd_T30 l i).f1 q).f1 := wrap_id (by omega) (by omega)
          have hpk : b = true → ((rd_T35 (rd_T30 l i).f1 q).f3.length : Int) > 0 := fun hbt => by
            rcases Nat.eq_zero_or_pos (rd_T35 (rd_T30 l i).f1 q).f3.length with h0 | h0
            · have hnil := List.eq_nil_of_length_eq_zero h0
              rw [hnil] at hb
              have := Ev.uniq hb (in_nil x.f6)
              rw [hbt] at this
              cases this
            · omega
          refine bounds_hit _ (by omega) v _ x q q0 q1 hh hn ?_ ?_ ?_ q.toNat 0 (Int.le_refl _) q0 (by omega)
          · cases b with
            | true => rw [hvb rfl]; omega
            | false => rw [hvf rfl]; omega
          · rw [w2]
            cases b with
            | true => rw [hvb rfl]; omega
            | false => rw [hvf rfl]; omega
          · cases b with
            | true =>
              have := hvb rfl
              by_cases hz2 : (rd_T35 (rd_T30 l i).f1 q).f2 = 0
              · exact .inl (by have := hz hz2; omega)
              · exact .inr ⟨hpk rfl, by omega⟩
            | false => exact .inl (hvf rfl)
  exact main.rounds
end Go.Proofs.Ytdahjnbfbcemeaa.Pure
