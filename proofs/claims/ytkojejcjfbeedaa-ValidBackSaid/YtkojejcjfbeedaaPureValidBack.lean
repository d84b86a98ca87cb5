/- By hand, plain: the law ValidBack answers true. -/
import Derived.Test.YtkojejcjfbeedaaQ
import Derived.Test.YtkojejcjfbeedaaU
import Derived.Test.YtkojejcjfbeedaaF8
set_option linter.unusedVariables false
namespace Go.Proofs.Ytkojejcjfbeedaa.Pure
open Go.RowKit Go.Proofs.YtkojejcjfbeedaaW.PrintWords Go.Proofs.Ytkojejcjfbeedaa.P Go.Proofs.Ytkojejcjfbeedaa.O Go.Proofs.Ytkojejcjfbeedaa.R Go.Proofs.Ytkojejcjfbeedaa.Q

theorem back_j0 (x : S27) (m : S30) (o l t : Int) (h5 : x.f5.length ≤ 9223372036854775807) (h6 : x.f6.length ≤ 9223372036854775807) (c : Bool) (hc : c = false → whyS x m o l t ≠ 0) :
    Ev (fun k => skiarealaw26_ValidBack.j0 k c x.f0 x.f1 x.f2 x.f3 x.f4 x.f5 x.f6 x.f7.f0 x.f7.f1 x.f8 o l t m.f0 m.f1 m.f2 m.f3 m.f4 m.f5 m.f6 m.f7 m.f8) true := by
  cases c with
  | true => exact Ev.step (f := fun _ => some true) (fun k => by simp [skiarealaw26_ValidBack.j0]) (Ev.now _)
  | false =>
    have hn := hc rfl
    refine Ev.step (fun k => by simp only [skiarealaw26_ValidBack.j0]; rw [if_neg (by simp)]) ?_
    refine Ev.bind (use_ev x m o l t h5 h6) ?_
    rcases use_cases x m o l t with ⟨e, he, _, h13⟩ | ⟨_, h0, _⟩
    · have e13 : e = 13 := h13.2 hn
      subst e13
      rw [he]
      refine Ev.congr (fun k => if_pos rfl) (Ev.bind (why_ev x m o l t h5 h6) ?_)
      exact Ev.congr (fun k => by simp [hn]) (Ev.now true)
    · exact absurd h0 hn
theorem ValidBack (x : S27) (hx : p27 x) (m : S30) (hm : p30 m) (a : S46) (ha : p46 a) (b' : S46) (hb' : p46 b') :
    ∃ k, skiarealaw26_ValidBack.f k x.f0 x.f1 x.f2 x.f3 x.f4 x.f5 x.f6 x.f7.f0 x.f7.f1 x.f8 m.f0 m.f1 m.f2 m.f3 m.f4 m.f5 m.f6 m.f7 m.f8 a.f0 a.f1 a.f2 b'.f0 b'.f1 b'.f2 = some true := by
  obtain ⟨b, hb, hd⟩ := defined_ev x m hx
  have h5 := hx.2.2.2.2.2.1.1
  have h6 := hx.2.2.2.2.2.2.1.1
  have main : Ev (fun k => skiarealaw26_ValidBack.f k x.f0 x.f1 x.f2 x.f3 x.f4 x.f5 x.f6 x.f7.f0 x.f7.f1 x.f8 m.f0 m.f1 m.f2 m.f3 m.f4 m.f5 m.f6 m.f7 m.f8 a.f0 a.f1 a.f2 b'.f0 b'.f1 b'.f2) true := by
    unfold skiarealaw26_ValidBack.f
    rw [alive_val]
    simp only [Option.bind_some, if_true]
    refine Ev.bind hb ?_
    cases b with
    | false => exact Ev.congr (fun k => if_neg (by simp)) (Ev.now _)
    | true =>
      refine Ev.congr (fun k => if_pos rfl) ?_
      obtain ⟨pf, mf⟩ := hd rfl
      refine Ev.bind (use_ev x m a.f0 a.f1 a.f2 h5 h6) ?_
      rcases use_cases x m a.f0 a.f1 a.f2 with ⟨e, he, hne, _⟩ | ⟨he, h0, _, _, _⟩
      · rw [he]
        exact Ev.congr (fun k => if_neg hne) (Ev.now _)
      · rw [he]
        refine Ev.congr (fun k => if_pos rfl) ?_
        obtain ⟨z1, z2, _, _, _⟩ := why_zero h0
        have s1 := pf.season
        have back : ∀ c : Bool, (c = false → b'.f2 < a.f2 ∨ (b'.f1 = a.f1 ∧ b'.f2 < a.f2 + 300)) → Ev (fun k => skiarealaw26_ValidBack.j0 k c x.f0 x.f1 x.f2 x.f3 x.f4 x.f5 x.f6 x.f7.f0 x.f7.f1 x.f8 b'.f0 b'.f1 b'.f2 (rode x m a.f1 a.f2).f0 (rode x m a.f1 a.f2).f1 (rode x m a.f1 a.f2).f2 (rode x m a.f1 a.f2).f3 (rode x m a.f1 a.f2).f4 (rode x m a.f1 a.f2).f5 (rode x m a.f1 a.f2).f6 (rode x m a.f1 a.f2).f7 (rode x m a.f1 a.f2).f8) true := by
          intro c hc
          refine back_j0 x (rode x m a.f1 a.f2) b'.f0 b'.f1 b'.f2 h5 h6 c (fun h h0' => ?_)
          obtain ⟨_, _, _, w1, w2⟩ := why_zero h0'
          have e7 : (rode x m a.f1 a.f2).f7 = a.f2 := rfl
          have e6 : (rode x m a.f1 a.f2).f6 = a.f1 := rfl
          rw [e7] at w1 w2
          rw [e6, wrap_id (by omega) (by omega)] at w2
          rcases hc h with h | ⟨h, h'⟩
          · omega
          · have := w2 h; omega
        have hb2 := hb'.2.2
        unfold I64 at hb2
        by_cases c1 : b'.f2 ≥ a.f2
        · refine Ev.congr (fun k => if_pos c1) ?_
          by_cases c2 : b'.f1 = a.f1
          · refine Ev.congr (fun k => if_pos c2) (back _ (fun h => ?_))
            have h := of_decide_eq_false h
            rw [wrap_id (by omega) (by omega)] at h
            exact .inr ⟨c2, by omega⟩
          · exact Ev.congr (fun k => if_neg c2) (back true (by simp))
        · exact Ev.congr (fun k => if_neg c1) (back false (fun _ => .inl (by omega)))
  exact main.rounds
end Go.Proofs.Ytkojejcjfbeedaa.Pure
