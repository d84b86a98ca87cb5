/- By hand, plain: the law ProductRight answers true. -/
import Derived.Test.YtpojelbablofpaaQ5
import Derived.Test.YtpojelbablofpaaF3
set_option linter.unusedVariables false
namespace Go.Proofs.Ytpojelbablofpaa.Pure
open Go.RowKit Go.Proofs.YtpojelbablofpaaW.PrintWords Go.Proofs.Ytpojelbablofpaa.P Go.Proofs.Ytpojelbablofpaa.O Go.Proofs.Ytpojelbablofpaa.R Go.Proofs.Ytpojelbablofpaa.Q
theorem ProductRight (l : List S32) (hl : l.length ≤ 9223372036854775807) (hp : ∀ y ∈ l, p32 y) : ∃ k, skiarealaw22_ProductRight.f k l = some true := by
  have main : Ev (fun k => skiarealaw22_ProductRight.f k l) true := by
    unfold skiarealaw22_ProductRight.f
    rw [alive_val]
    simp only [Option.bind_some, if_true]
    obtain ⟨b, hb, hF⟩ := small_ev l hl
    refine Ev.bind hb ?_
    cases b with
    | false => exact Ev.congr (fun k => if_neg Bool.false_ne_true) (Ev.now _)
    | true =>
      refine Ev.congr (fun k => if_pos rfl) ?_
      obtain ⟨e, h1, h2, _⟩ := right_both l (hF rfl)
      exact Ev.bind h1 (Ev.bind h2 (Ev.congr (fun k => by simp) (Ev.now true)))
  exact main.rounds
end Go.Proofs.Ytpojelbablofpaa.Pure
