/- By hand, plain: the law TariffAts answers true. -/
import Derived.Test.YtdahjnbfbcemeaaQ2
import Derived.Test.YtdahjnbfbcemeaaF6
set_option linter.unusedVariables false
namespace Go.Proofs.Ytdahjnbfbcemeaa.Pure
open Go.RowKit Go.Proofs.YtdahjnbfbcemeaaW.PrintWords Go.Proofs.Ytdahjnbfbcemeaa.P Go.Proofs.Ytdahjnbfbcemeaa.O Go.Proofs.Ytdahjnbfbcemeaa.R Go.Proofs.Ytdahjnbfbcemeaa.Q
theorem own_val (k : Nat) {a : Int} {m : List S35} (h1 : m.length ≤ 50) (h2 : ∀ q : Int, 0 ≤ q → q < (m.length : Int) → (rd_T35 m q).f3.length ≤ 30) : tariff_own.f k a m = some (a, m) := by
  unfold tariff_own.f
  rw [if_pos]
  refine ⟨by omega, List.all_eq_true.2 fun y hy => ?_⟩
  obtain ⟨j, hj, rfl⟩ := List.getElem_of_mem hy
  have := h2 j (Int.natCast_nonneg _) (by omega)
  rw [show rd_T35 m (j : Int) = m[j] by simp [rd_T35, hj]] at this
  simp only [decide_eq_true_eq]
  omega
theorem at_ev (l : List S30) (G : Q.Good l) (t i : Int) (hi : Ev (fun k => tariff_index.f k l t) i) (h2 : i < (l.length : Int)) : Ev (fun k => tariff_At.f k l t) (atV l i) := by
  unfold tariff_At.f
  refine Ev.bind hi ?_
  unfold atV
  by_cases c : i < 0
  · rw [if_pos c]
    exact Ev.congr (fun k => if_pos c) (Ev.now _)
  · rw [if_neg c]
    exact Ev.congr (fun k => by rw [if_neg c, if_pos (by omega), if_pos h2, own_val k (G.few.rates i (by omega) h2) (G.few.peaks i (by omega) h2)]; rfl) (Ev.now _)
theorem sameRate_ev (y : S35) (hy : y.f3.length ≤ 30) : Ev (fun k => skiarearef33_sameRate.f k y.f0 y.f1 y.f2 y.f3 y.f0 y.f1 y.f2 y.f3) true := by
  unfold skiarearef33_sameRate.f
  refine Ev.congr (fun k => by rw [if_pos rfl, if_pos rfl, if_pos rfl, bne_self_eq_false]) ?_
  refine Ev.step (fun k => by simp only [skiarearef33_sameRate.j0]; rw [if_neg Bool.false_ne_true]) ?_
  have main : ∀ (d : Nat) (x : Int), 0 ≤ x → x ≤ (y.f3.length : Int) → (y.f3.length : Int) - x = d → Ev (fun k => skiarearef33_sameRate.l0 k x y.f0 y.f1 y.f2 y.f3 y.f0 y.f1 y.f2 y.f3) true := by
    intro d
    induction d with
    | zero =>
      intro x x0 x1 hd
      exact Ev.step (f := fun _ => some true) (fun k => by simp only [skiarearef33_sameRate.l0]; rw [if_neg (by omega)]) (Ev.now _)
    | succ d ih =>
      intro x x0 x1 hd
      have hlt : x < (y.f3.length : Int) := by omega
      refine Ev.step (fun k => ?_) (ih (x + 1) (by omega) (by omega) (by omega))
      simp only [skiarearef33_sameRate.l0]
      rw [if_pos hlt, if_pos x0, if_pos hlt, if_neg (by simp), wrap_id (by omega) (by omega)]
  exact main y.f3.length 0 (Int.le_refl _) (Int.natCast_nonneg _) (by omega)
theorem same_ev (a : Int) (m : List S35) (h1 : m.length ≤ 50) (h2 : ∀ q : Int, 0 ≤ q → q < (m.length : Int) → (rd_T35 m q).f3.length ≤ 30) : Ev (fun k => skiarearef33_Same.f k a m a m) true := by
  unfold skiarearef33_Same.f
  refine Ev.congr (fun k => by rw [if_pos rfl, bne_self_eq_false]) ?_
  refine Ev.step (fun k => by simp only [skiarearef33_Same.j0]; rw [if_neg Bool.false_ne_true]) ?_
  have main : ∀ (d : Nat) (x : Int), 0 ≤ x → x ≤ (m.length : Int) → (m.length : Int) - x = d → Ev (fun k => skiarearef33_Same.l0 k x a m a m) true := by
    intro d
    induction d with
    | zero =>
      intro x x0 x1 hd
      exact Ev.step (f := fun _ => some true) (fun k => by simp only [skiarearef33_Same.l0]; rw [if_neg (by omega)]) (Ev.now _)
    | succ d ih =>
      intro x x0 x1 hd
      have hlt : x < (m.length : Int) := by omega
      refine Ev.step (fun k => by simp only [skiarearef33_Same.l0]; rw [if_pos hlt, if_pos x0, if_pos hlt]) (Ev.bind (sameRate_ev _ (h2 x x0 hlt)) ?_)
      refine Ev.congr (fun k => ?_) (ih (x + 1) (by omega) (by omega) (by omega))
      rw [if_pos rfl, wrap_id (by omega) (by omega)]
  exact main m.length 0 (Int.le_refl _) (Int.natCast_nonneg _) (by omega)
theorem TariffAts (l : List S30) (hl : l.length ≤ 9223372036854775807) (hp : ∀ y ∈ l, p30 y) (t : Int) (ht : I64 t) : ∃ k, skiarealaw33_TariffAts.f k l t = some true := by
  have main : Ev (fun k => skiarealaw33_TariffAts.f k l t) true := by
    unfold skiarealaw33_TariffAts.f
    rw [alive_val]
    simp only [Option.bind_some, if_true]
    obtain ⟨b, hb, hG⟩ := lright_ev l
    refine Ev.bind hb ?_
    cases b with
    | false => exact Ev.congr (fun k => if_neg Bool.false_ne_true) (Ev.now _)
    | true =>
      refine Ev.congr (fun k => if_pos rfl) ?_
      have G := hG rfl
      obtain ⟨i, hi, h1, h2, _, _⟩ := index_ev l t hl
      have hA := at_ev l G t i hi h2
      have hB : Ev (fun k => skiarearef33_At.f k l t) (atV l i) := Ev.congr (fun k => at_ref_eq k l t) (Ev.bind hi (Ev.now _))
      refine Ev.bind hA (Ev.bind hB ?_)
      have hS : Ev (fun k => skiarearef33_Same.f k (atV l i).1 (atV l i).2.1 (atV l i).1 (atV l i).2.1) true := by
        unfold atV
        by_cases c : i < 0
        · rw [if_pos c]
          exact same_ev 0 [] (by decide) (fun q q0 q1 => by simp at q1; omega)
        · rw [if_neg c]
          exact same_ev _ _ (G.few.rates i (by omega) h2) (G.few.peaks i (by omega) h2)
      exact Ev.bind hS (Ev.congr (fun k => by simp) (Ev.now true))
  exact main.rounds
end Go.Proofs.Ytdahjnbfbcemeaa.Pure
