/- By hand, plain: the law TariffRights answers true. -/
import Derived.Test.YtdahjnbfbcemeaaQ2
import Derived.Test.YtdahjnbfbcemeaaF5
set_option linter.unusedVariables false
namespace Go.Proofs.Ytdahjnbfbcemeaa.Pure
open Go.RowKit Go.Proofs.YtdahjnbfbcemeaaW.PrintWords Go.Proofs.Ytdahjnbfbcemeaa.P Go.Proofs.Ytdahjnbfbcemeaa.O Go.Proofs.Ytdahjnbfbcemeaa.R Go.Proofs.Ytdahjnbfbcemeaa.Q
theorem TariffRights (l : List S30) (hl : l.length ≤ 9223372036854775807) (hp : ∀ y ∈ l, p30 y) : ∃ k, skiarealaw33_TariffRights.f k l = some true := by
  have main : Ev (fun k => skiarealaw33_TariffRights.f k l) true := by
    unfold skiarealaw33_TariffRights.f
    rw [alive_val]
    simp only [Option.bind_some, if_true]
    obtain ⟨b, hb, hF⟩ := few_ev l
    refine Ev.bind hb ?_
    cases b with
    | false => exact Ev.congr (fun k => if_neg Bool.false_ne_true) (Ev.now _)
    | true =>
      refine Ev.congr (fun k => if_pos rfl) ?_
      obtain ⟨e, h1, h2, _⟩ := right_both l (hF rfl)
      exact Ev.bind h1 (Ev.bind h2 (Ev.congr (fun k => by simp) (Ev.now true)))
  exact main.rounds
end Go.Proofs.Ytdahjnbfbcemeaa.Pure
