/- By hand, plain: the law ProductFinds answers true. -/
import Derived.Test.YtpojelbablofpaaQ
import Derived.Test.YtpojelbablofpaaF4
set_option linter.unusedVariables false
namespace Go.Proofs.Ytpojelbablofpaa.Pure
open Go.RowKit Go.Proofs.YtpojelbablofpaaW.PrintWords Go.Proofs.Ytpojelbablofpaa.P Go.Proofs.Ytpojelbablofpaa.O Go.Proofs.Ytpojelbablofpaa.R Go.Proofs.Ytpojelbablofpaa.Q
theorem ProductFinds (l : List S32) (hl : l.length ≤ 9223372036854775807) (hp : ∀ y ∈ l, p32 y) (a : Int) (ha : I64 a) : ∃ k, skiarealaw22_ProductFinds.f k l a = some true := by
  have main : Ev (fun k => skiarealaw22_ProductFinds.f k l a) true := by
    unfold skiarealaw22_ProductFinds.f
    rw [alive_val]
    simp only [Option.bind_some, if_true]
    obtain ⟨b, hb, hF⟩ := small_ev l hl
    refine Ev.bind hb ?_
    cases b with
    | false => exact Ev.congr (fun k => if_neg Bool.false_ne_true) (Ev.now _)
    | true =>
      refine Ev.congr (fun k => if_pos rfl) ?_
      have hs := hF rfl
      obtain ⟨r, hr, hc⟩ := find_ev l a hl hs.2
      have hr2 : Ev (fun k => skiarearef22_Find.f k l a) r := Ev.congr (fun k => (find_eq k l a).symm) hr
      have hq : ∃ x b, r = tupF x b ∧ x.f5.length ≤ 40 ∧ x.f6.length ≤ 40 := by
        rcases hc with ⟨i, i0, i1, _, _, e⟩ | ⟨_, e⟩
        · exact ⟨_, _, e, hs.2 _ (rd32_mem i0 i1)⟩
        · exact ⟨_, _, e, by decide, by decide⟩
      obtain ⟨x, b, rfl, h5, h6⟩ := hq
      refine Ev.bind hr (Ev.bind hr2 ?_)
      refine Ev.congr (fun k => if_pos (by simp)) ?_
      exact Ev.bind (same_refl_ev x (by omega) (by omega)) (Ev.now true)
  exact main.rounds
end Go.Proofs.Ytpojelbablofpaa.Pure
