/- By hand, plain: the law ValidUsed answers true. -/
import Derived.Test.YtkojejcjfbeedaaQ
import Derived.Test.YtkojejcjfbeedaaU
import Derived.Test.YtkojejcjfbeedaaF15
import Derived.Test.YtkojejcjfbeedaaF4
set_option linter.unusedVariables false
namespace Go.Proofs.Ytkojejcjfbeedaa.Pure
open Go.RowKit Go.Proofs.YtkojejcjfbeedaaW.PrintWords Go.Proofs.Ytkojejcjfbeedaa.P Go.Proofs.Ytkojejcjfbeedaa.O Go.Proofs.Ytkojejcjfbeedaa.R Go.Proofs.Ytkojejcjfbeedaa.Q

theorem use_ref_j1 (x : S27) (m : S30) (l t : Int) (m1 : Int) (f : Int) (hf : f = if m.f3 = -1 then t else m.f3) (hm1 : m1 = wrap64 (m.f1 + 1)) :
    Ev (fun k => skiarearef26_Use.j1 k l t x.f0 x.f1 x.f2 x.f3 x.f4 x.f5 x.f6 x.f7.f0 x.f7.f1 x.f8 m.f0 m.f1 m.f2 m.f3 m.f4 m.f5 m.f6 m.f7 m.f8 m.f0 m1 m.f2 f m.f4 m.f5 m.f6 m.f7 m.f8) (tup (rode x m l t) 0) := by
  refine Ev.step (f := fun _ => some (tup (rode x m l t) 0)) (fun k => ?_) (Ev.now _)
  subst hf hm1
  simp only [skiarearef26_Use.j1, day_ref_val, Option.bind_some]
  by_cases k2 : x.f1 = 2
  · rw [if_pos k2]; simp only [tup, rode, if_pos (Or.inl k2 : x.f1 = 2 ∨ (x.f1 = 1 ∧ dayS t ≠ m.f5))]
  · rw [if_neg k2]
    by_cases k1 : x.f1 = 1
    · rw [if_pos k1]
      by_cases d : dayS t = m.f5
      · rw [if_pos d]; simp only [tup, rode, if_neg (show ¬ (x.f1 = 2 ∨ (x.f1 = 1 ∧ dayS t ≠ m.f5)) from fun h => h.elim k2 (fun h => h.2 d))]
      · rw [if_neg d]; simp only [tup, rode, if_pos (Or.inr ⟨k1, d⟩ : x.f1 = 2 ∨ (x.f1 = 1 ∧ dayS t ≠ m.f5))]
    · rw [if_neg k1]; simp only [tup, rode, if_neg (show ¬ (x.f1 = 2 ∨ (x.f1 = 1 ∧ dayS t ≠ m.f5)) from fun h => h.elim k2 (fun h => k1 h.1))]
theorem use_ref_j0 (x : S27) (m : S30) (l t : Int) (b : Bool) :
    Ev (fun k => skiarearef26_Use.j0 k l t b x.f0 x.f1 x.f2 x.f3 x.f4 x.f5 x.f6 x.f7.f0 x.f7.f1 x.f8 m.f0 m.f1 m.f2 m.f3 m.f4 m.f5 m.f6 m.f7 m.f8) (if b = true then tup z30 2 else tup (rode x m l t) 0) := by
  refine Ev.step (fun k => by simp only [skiarearef26_Use.j0]; rfl) ?_
  cases b with
  | true => exact Ev.congr (fun k => if_pos rfl) (Ev.now _)
  | false =>
    refine Ev.congr (fun k => if_neg (by simp)) ?_
    rw [if_neg (by simp)]
    by_cases f : m.f3 = -1
    · exact Ev.congr (fun k => if_pos f) (use_ref_j1 x m l t _ t (by rw [if_pos f]) rfl)
    · exact Ev.congr (fun k => if_neg f) (use_ref_j1 x m l t _ m.f3 (by rw [if_neg f]) rfl)
theorem use_ref_ev (x : S27) (m : S30) (o l t : Int) (h5 : x.f5.length ≤ 9223372036854775807) (h6 : x.f6.length ≤ 9223372036854775807) (mf : MF m) :
    Ev (fun k => skiarearef26_Use.f k x.f0 x.f1 x.f2 x.f3 x.f4 x.f5 x.f6 x.f7.f0 x.f7.f1 x.f8 m.f0 m.f1 m.f2 m.f3 m.f4 m.f5 m.f6 m.f7 m.f8 o l t) (useS x m o l t) := by
  unfold skiarearef26_Use.f
  refine Ev.bind (why_ref_ev x m o l t h5 h6) ?_
  have mc := mf.counter
  unfold useS
  by_cases h0 : whyS x m o l t = 0
  · refine Ev.congr (fun k => if_pos h0) ?_
    rw [if_neg (fun h => h h0)]
    by_cases h1 : m.f1 = 1000000
    · rw [if_pos (by omega)]
      exact Ev.congr (fun k => if_pos h1) (Ev.now _)
    · refine Ev.congr (fun k => if_neg h1) ?_
      rw [if_neg (by omega)]
      by_cases h2 : l < 1
      · rw [if_pos (.inl h2)]
        exact Ev.congr (fun k => if_pos h2) (use_ref_j0 x m l t true)
      · refine Ev.congr (fun k => if_neg h2) ?_
        have h := use_ref_j0 x m l t (decide (l > 9999))
        by_cases h3 : l > 9999
        · rw [if_pos (.inr h3)]
          rw [if_pos (decide_eq_true h3)] at h
          exact h
        · rw [if_neg (by omega)]
          rw [if_neg (by simp only [decide_eq_true_eq]; exact h3)] at h
          exact h
  · rw [if_pos h0]
    exact Ev.congr (fun k => if_neg h0) (Ev.now _)
theorem ValidUsed (x : S27) (hx : p27 x) (m : S30) (hm : p30 m) (o : Int) (ho : I64 o) (l : Int) (hl : I64 l) (t : Int) (ht : I64 t) :
    ∃ k, skiarealaw26_ValidUsed.f k x.f0 x.f1 x.f2 x.f3 x.f4 x.f5 x.f6 x.f7.f0 x.f7.f1 x.f8 m.f0 m.f1 m.f2 m.f3 m.f4 m.f5 m.f6 m.f7 m.f8 o l t = some true := by
  obtain ⟨b, hb, hd⟩ := defined_ev x m hx
  have h5 := hx.2.2.2.2.2.1.1
  have h6 := hx.2.2.2.2.2.2.1.1
  have main : Ev (fun k => skiarealaw26_ValidUsed.f k x.f0 x.f1 x.f2 x.f3 x.f4 x.f5 x.f6 x.f7.f0 x.f7.f1 x.f8 m.f0 m.f1 m.f2 m.f3 m.f4 m.f5 m.f6 m.f7 m.f8 o l t) true := by
    unfold skiarealaw26_ValidUsed.f
    rw [alive_val]
    simp only [Option.bind_some, if_true]
    refine Ev.bind hb ?_
    cases b with
    | false => exact Ev.congr (fun k => if_neg (by simp)) (Ev.now _)
    | true =>
      refine Ev.congr (fun k => if_pos rfl) ?_
      obtain ⟨pf, mf⟩ := hd rfl
      refine Ev.bind (use_ev x m o l t h5 h6) (Ev.bind (use_ref_ev x m o l t h5 h6 mf) ?_)
      exact Ev.congr (fun k => by simp) (Ev.now true)
  exact main.rounds
end Go.Proofs.Ytkojejcjfbeedaa.Pure
