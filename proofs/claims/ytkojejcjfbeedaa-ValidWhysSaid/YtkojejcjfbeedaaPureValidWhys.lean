/- By hand, plain: the law ValidWhys answers true. -/
import Derived.Test.YtkojejcjfbeedaaQ
import Derived.Test.YtkojejcjfbeedaaF3
set_option linter.unusedVariables false
namespace Go.Proofs.Ytkojejcjfbeedaa.Pure
open Go.RowKit Go.Proofs.YtkojejcjfbeedaaW.PrintWords Go.Proofs.Ytkojejcjfbeedaa.P Go.Proofs.Ytkojejcjfbeedaa.O Go.Proofs.Ytkojejcjfbeedaa.R Go.Proofs.Ytkojejcjfbeedaa.Q
theorem ValidWhys (x : S27) (hx : p27 x) (m : S30) (hm : p30 m) (o : Int) (ho : I64 o) (l : Int) (hl : I64 l) (t : Int) (ht : I64 t) :
    ∃ k, skiarealaw26_ValidWhys.f k x.f0 x.f1 x.f2 x.f3 x.f4 x.f5 x.f6 x.f7.f0 x.f7.f1 x.f8 m.f0 m.f1 m.f2 m.f3 m.f4 m.f5 m.f6 m.f7 m.f8 o l t = some true := by
  obtain ⟨b, hb, _⟩ := defined_ev x m hx
  have h5 := hx.2.2.2.2.2.1.1
  have h6 := hx.2.2.2.2.2.2.1.1
  have main : Ev (fun k => skiarealaw26_ValidWhys.f k x.f0 x.f1 x.f2 x.f3 x.f4 x.f5 x.f6 x.f7.f0 x.f7.f1 x.f8 m.f0 m.f1 m.f2 m.f3 m.f4 m.f5 m.f6 m.f7 m.f8 o l t) true := by
    unfold skiarealaw26_ValidWhys.f
    rw [alive_val]
    simp only [Option.bind_some, if_true]
    refine Ev.bind hb ?_
    cases b with
    | false => exact Ev.congr (fun k => if_neg (by simp)) (Ev.now _)
    | true =>
      refine Ev.congr (fun k => if_pos rfl) ?_
      refine Ev.bind (why_ev x m o l t h5 h6) (Ev.bind (why_ref_ev x m o l t h5 h6) ?_)
      exact Ev.congr (fun k => by simp) (Ev.now true)
  exact main.rounds
end Go.Proofs.Ytkojejcjfbeedaa.Pure
