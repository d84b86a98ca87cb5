/- By hand, plain: the law TariffPoints answers true. -/
import Derived.Test.YtdahjnbfbcemeaaQ2
import Derived.Test.YtdahjnbfbcemeaaF7
set_option linter.unusedVariables false
namespace Go.Proofs.Ytdahjnbfbcemeaa.Pure
open Go.RowKit Go.Proofs.YtdahjnbfbcemeaaW.PrintWords Go.Proofs.Ytdahjnbfbcemeaa.P Go.Proofs.Ytdahjnbfbcemeaa.O Go.Proofs.Ytdahjnbfbcemeaa.R Go.Proofs.Ytdahjnbfbcemeaa.Q
theorem TariffPoints (l : List S30) (hl : l.length ≤ 9223372036854775807) (hp : ∀ y ∈ l, p30 y) (x : S24) (hx : p24 x) : ∃ k, skiarealaw33_TariffPoints.f k l x.f0 x.f1 x.f2 x.f3 x.f4 x.f5 x.f6 = some true := by
  have main : Ev (fun k => skiarealaw33_TariffPoints.f k l x.f0 x.f1 x.f2 x.f3 x.f4 x.f5 x.f6) true := by
    unfold skiarealaw33_TariffPoints.f
    rw [alive_val]
    simp only [Option.bind_some, if_true]
    obtain ⟨b, hb, hG⟩ := lright_ev l
    refine Ev.bind hb ?_
    cases b with
    | false => exact Ev.congr (fun k => if_neg Bool.false_ne_true) (Ev.now _)
    | true =>
      refine Ev.congr (fun k => if_pos rfl) ?_
      have G := hG rfl
      obtain ⟨v, hv⟩ := pts_ev l ⟨hl, hp⟩ x.f0 x.f1 x.f2 x.f3 x.f4 x.f5 x.f6
      exact Ev.bind hv (Ev.bind (show Ev (fun k => skiarearef33_Points.f k l x.f0 x.f1 x.f2 x.f3 x.f4 x.f5 x.f6) v from Ev.congr (fun k => (pts_eq k l _ _ _ _ _ _ _ hl).symm) hv) (Ev.congr (fun k => by simp) (Ev.now true)))
  exact main.rounds
end Go.Proofs.Ytdahjnbfbcemeaa.Pure
