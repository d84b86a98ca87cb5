/- By hand, plain: the law ProductFits answers true. -/
import Derived.Test.YtpojelbablofpaaQ
import Derived.Test.YtpojelbablofpaaF5
set_option linter.unusedVariables false
namespace Go.Proofs.Ytpojelbablofpaa.Pure
open Go.RowKit Go.Proofs.YtpojelbablofpaaW.PrintWords Go.Proofs.Ytpojelbablofpaa.P Go.Proofs.Ytpojelbablofpaa.O Go.Proofs.Ytpojelbablofpaa.R Go.Proofs.Ytpojelbablofpaa.Q
theorem ProductFits (x : S32) (hx : p32 x) (a : Int) (ha : I64 a) : ∃ k, skiarealaw22_ProductFits.f k x.f0 x.f1 x.f2 x.f3 x.f4 x.f5 x.f6 x.f7.f0 x.f7.f1 x.f8 a = some true := by
  have h5 := hx.2.2.2.2.2.1.1
  have h6 := hx.2.2.2.2.2.2.1.1
  have hj : ∀ b, Ev (fun k => skiarealaw22_ProductFits.j0 k a b x.f0 x.f1 x.f2 x.f3 x.f4 x.f5 x.f6 x.f7.f0 x.f7.f1 x.f8) true := by
    intro b
    cases b with
    | true => exact Ev.step (f := fun _ => some true) (fun k => by simp [skiarealaw22_ProductFits.j0]) (Ev.now _)
    | false =>
      refine Ev.step (fun k => by simp only [skiarealaw22_ProductFits.j0]; rw [if_neg Bool.false_ne_true]) ?_
      rw [age_val, age_ref_val]
      simp only [Option.bind_some]
      refine Ev.congr (fun k => if_pos (by simp)) ?_
      refine Ev.bind (area_ev x a h5) (Ev.bind (area_ref_ev x a h5) ?_)
      refine Ev.congr (fun k => if_pos (by simp)) ?_
      have ho := open_ev x a h6
      refine Ev.bind ho (Ev.bind (Ev.congr (fun k => open_eq k x a) ho) ?_)
      exact Ev.congr (fun k => by simp) (Ev.now true)
  have main : Ev (fun k => skiarealaw22_ProductFits.f k x.f0 x.f1 x.f2 x.f3 x.f4 x.f5 x.f6 x.f7.f0 x.f7.f1 x.f8 a) true := by
    unfold skiarealaw22_ProductFits.f
    rw [alive_val]
    simp only [Option.bind_some, if_true]
    by_cases c : (x.f5.length : Int) > 40
    · exact Ev.congr (fun k => if_pos c) (hj true)
    · exact Ev.congr (fun k => if_neg c) (hj _)
  exact main.rounds
end Go.Proofs.Ytpojelbablofpaa.Pure
