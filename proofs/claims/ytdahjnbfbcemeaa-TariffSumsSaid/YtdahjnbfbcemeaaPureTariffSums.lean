/- By hand, plain: the law TariffSums answers true. -/
import Derived.Test.YtdahjnbfbcemeaaQ2
import Derived.Test.YtdahjnbfbcemeaaF8
set_option linter.unusedVariables false
namespace Go.Proofs.Ytdahjnbfbcemeaa.Pure
open Go.RowKit Go.Proofs.YtdahjnbfbcemeaaW.PrintWords Go.Proofs.Ytdahjnbfbcemeaa.P Go.Proofs.Ytdahjnbfbcemeaa.O Go.Proofs.Ytdahjnbfbcemeaa.R Go.Proofs.Ytdahjnbfbcemeaa.Q
theorem sum_l0_ev (l : List S30) (hl : Ps p30 l) (a : Int) (rs : List S24) (hr : rs.length ≤ 1000000) : ∀ (d : Nat) (x : Int), 0 ≤ x → x ≤ (rs.length : Int) → (rs.length : Int) - x = d → ∀ n : Int, ∃ v, Ev (fun k => tariff_Sum.l0 k l a n rs (rs.length : Int) x) v := by
  intro d
  induction d with
  | zero =>
    intro x x0 x1 hd n
    exact ⟨n, Ev.step (f := fun _ => some n) (fun k => by simp only [tariff_Sum.l0]; rw [if_neg (by omega)]) (Ev.now _)⟩
  | succ d ih =>
    intro x x0 x1 hd n
    have hlt : x < (rs.length : Int) := by omega
    have w1 : wrap64 (x + 1) = x + 1 := wrap_id (by omega) (by omega)
    by_cases c : (rd_T24 rs x).f5 = a
    · obtain ⟨p, hp⟩ := pts_ev l hl (rd_T24 rs x).f0 (rd_T24 rs x).f1 (rd_T24 rs x).f2 (rd_T24 rs x).f3 (rd_T24 rs x).f4 (rd_T24 rs x).f5 (rd_T24 rs x).f6
      obtain ⟨v, hv⟩ := ih (x + 1) (by omega) (by omega) (by omega) (wrap64 (n + p))
      exact ⟨v, Ev.step (fun k => by simp only [tariff_Sum.l0]; rw [if_pos hlt, if_pos x0, if_pos hlt, if_pos c, w1]) (Ev.bind hp hv)⟩
    · obtain ⟨v, hv⟩ := ih (x + 1) (by omega) (by omega) (by omega) n
      exact ⟨v, Ev.step (fun k => by simp only [tariff_Sum.l0]; rw [if_pos hlt, if_pos x0, if_pos hlt, if_neg c, w1]) hv⟩
theorem TariffSums (l : List S30) (hl : l.length ≤ 9223372036854775807) (hp : ∀ y ∈ l, p30 y) (rs : List S24) (hl2 : rs.length ≤ 9223372036854775807) (hp2 : ∀ y ∈ rs, p24 y) (a : Int) (ha : I64 a) : ∃ k, skiarealaw33_TariffSums.f k l rs a = some true := by
  have main : Ev (fun k => skiarealaw33_TariffSums.f k l rs a) true := by
    unfold skiarealaw33_TariffSums.f
    rw [alive_val]
    simp only [Option.bind_some, if_true]
    obtain ⟨b, hb, hG⟩ := lright_ev l
    refine Ev.bind hb ?_
    cases b with
    | false => exact Ev.congr (fun k => if_neg Bool.false_ne_true) (Ev.now _)
    | true =>
      refine Ev.congr (fun k => if_pos rfl) ?_
      have G := hG rfl
      by_cases c : (rs.length : Int) > 200
      · exact Ev.congr (fun k => if_pos c) (Ev.now _)
      · refine Ev.congr (fun k => if_neg c) ?_
        obtain ⟨v, hv⟩ := sum_l0_ev l ⟨hl, hp⟩ a rs (by omega) rs.length 0 (Int.le_refl _) (Int.natCast_nonneg _) (by omega) 0
        exact Ev.bind (show Ev (fun k => tariff_Sum.f k l rs a) v from hv) (Ev.bind (show Ev (fun k => skiarearef33_Sum.f k l rs a) v from Ev.congr (fun k => (sum_eq k l hl rs a).symm) hv) (Ev.congr (fun k => by simp) (Ev.now true)))
  exact main.rounds
end Go.Proofs.Ytdahjnbfbcemeaa.Pure
