/- By hand, plain: the law ValidStays answers true. -/
import Derived.Test.YtkojejcjfbeedaaQ
import Derived.Test.YtkojejcjfbeedaaU
import Derived.Test.YtkojejcjfbeedaaF22
import Derived.Test.YtkojejcjfbeedaaF9
set_option linter.unusedVariables false
namespace Go.Proofs.Ytkojejcjfbeedaa.Pure
open Go.RowKit Go.Proofs.YtkojejcjfbeedaaW.PrintWords Go.Proofs.Ytkojejcjfbeedaa.P Go.Proofs.Ytkojejcjfbeedaa.O Go.Proofs.Ytkojejcjfbeedaa.R Go.Proofs.Ytkojejcjfbeedaa.Q

theorem media_right_zero (m : S30) (mf : MF m) : Ev (fun k => media_Right.f k m.f0 m.f1 m.f2 m.f3 m.f4 m.f5 m.f6 m.f7 m.f8) 0 := by
  have w : ∀ a lo hi : Int, lo ≤ a → a ≤ hi → media_within.f a lo hi = some true := by
    intro a lo hi h1 h2
    unfold media_within.f
    rw [if_pos h1, decide_eq_true h2]
  obtain ⟨⟨a1, a2⟩, ⟨b1, b2⟩, ⟨c1, c2⟩, ⟨d1, d2⟩, ⟨e1, e2⟩, ⟨f1, f2⟩, ⟨g1, g2⟩, ⟨i1, i2⟩, s1, s2, s3⟩ := mf
  unfold media_Right.f
  simp only [w _ _ _ a1 a2, w _ _ _ b1 b2, w _ _ _ c1 c2, w _ _ _ d1 d2, w _ _ _ e1 e2, w _ _ _ f1 f2, w _ _ _ g1 g2, w _ _ _ i1 i2, Option.bind_some, if_true, Bool.not_true]
  refine Ev.step (f := fun _ => some 0) (fun k => ?_) (Ev.now _)
  simp only [media_Right.j0]
  rw [if_neg (by simp)]
  by_cases q1 : m.f3 = -1
  · have q2 := s1 q1
    have q3 := s2 q2
    rw [if_pos q1, if_pos q2, if_pos q3.1, if_pos q3.2, if_neg (by omega)]
  · rw [if_neg q1]
    by_cases q2 : m.f7 = -1
    · have q3 := s2 q2
      rw [if_pos q2, if_pos q3.1, if_pos q3.2, if_neg (by omega)]
    · rw [if_neg q2, if_neg (by omega)]
theorem rode_right (x : S27) (m : S30) (o l t : Int) (pf : PF x) (mf : MF m) (h : whyS x m o l t = 0) (hc : m.f1 < 1000000) (hl1 : 1 ≤ l) (hl2 : l ≤ 9999) : MF (rode x m l t) := by
  obtain ⟨z1, z2, z3, z4, _⟩ := why_zero h
  have s1 := pf.season
  have hd : dayS t = t / 86400 := by unfold dayS; rw [if_pos (by omega)]
  obtain ⟨a, b, c, d, e, f, g, i, q1, q2, q3⟩ := mf
  have hleft : 0 ≤ (rode x m l t).f4 ∧ (rode x m l t).f4 ≤ 100 := by
    show 0 ≤ (if x.f1 = 2 ∨ (x.f1 = 1 ∧ dayS t ≠ m.f5) then wrap64 (m.f4 - 1) else m.f4) ∧ (if x.f1 = 2 ∨ (x.f1 = 1 ∧ dayS t ≠ m.f5) then wrap64 (m.f4 - 1) else m.f4) ≤ 100
    by_cases k : x.f1 = 2 ∨ (x.f1 = 1 ∧ dayS t ≠ m.f5)
    · rw [if_pos k, wrap_id (by omega) (by omega)]
      have : m.f4 ≠ 0 := by
        intro e0
        unfold usedS at z3
        rcases k with k | ⟨k, k'⟩
        · rw [if_neg (by omega), if_neg (by omega), e0] at z3; simp at z3
        · rw [if_neg (by omega), if_pos k, if_pos e0] at z3; simp at z3; exact k' z3
      omega
    · rw [if_neg k]; exact e
  refine ⟨a, ?_, c, ?_, hleft, ?_, ⟨by show 0 ≤ l; omega, hl2⟩, ⟨by show -1 ≤ t; omega, by show t ≤ 20000000; omega⟩, ?_, ?_, ?_⟩
  · show 0 ≤ wrap64 (m.f1 + 1) ∧ wrap64 (m.f1 + 1) ≤ 1000000
    rw [wrap_id (by omega) (by omega)]; omega
  · show -1 ≤ (if m.f3 = -1 then t else m.f3) ∧ (if m.f3 = -1 then t else m.f3) ≤ 20000000
    split <;> omega
  · show -1 ≤ dayS t ∧ dayS t ≤ 231
    rw [hd]; omega
  · show (if m.f3 = -1 then t else m.f3) = -1 → t = -1
    split <;> omega
  · show t = -1 → l = 0 ∧ dayS t = -1
    omega
  · show (if m.f3 = -1 then t else m.f3) ≤ t
    split <;> omega
theorem ValidStays (x : S27) (hx : p27 x) (m : S30) (hm : p30 m) (o : Int) (ho : I64 o) (l : Int) (hl : I64 l) (t : Int) (ht : I64 t) :
    ∃ k, skiarealaw26_ValidStays.f k x.f0 x.f1 x.f2 x.f3 x.f4 x.f5 x.f6 x.f7.f0 x.f7.f1 x.f8 m.f0 m.f1 m.f2 m.f3 m.f4 m.f5 m.f6 m.f7 m.f8 o l t = some true := by
  obtain ⟨b, hb, hd⟩ := defined_ev x m hx
  have h5 := hx.2.2.2.2.2.1.1
  have h6 := hx.2.2.2.2.2.2.1.1
  have main : Ev (fun k => skiarealaw26_ValidStays.f k x.f0 x.f1 x.f2 x.f3 x.f4 x.f5 x.f6 x.f7.f0 x.f7.f1 x.f8 m.f0 m.f1 m.f2 m.f3 m.f4 m.f5 m.f6 m.f7 m.f8 o l t) true := by
    unfold skiarealaw26_ValidStays.f
    rw [alive_val]
    simp only [Option.bind_some, if_true]
    refine Ev.bind hb ?_
    cases b with
    | false => exact Ev.congr (fun k => if_neg (by simp)) (Ev.now _)
    | true =>
      refine Ev.congr (fun k => if_pos rfl) ?_
      obtain ⟨pf, mf⟩ := hd rfl
      refine Ev.bind (use_ev x m o l t h5 h6) ?_
      rcases use_cases x m o l t with ⟨e, he, hne, _⟩ | ⟨he, h0, hc, hl1, hl2⟩
      · rw [he]
        refine Ev.congr (fun k => if_neg hne) ?_
        exact Ev.congr (fun k => by simp [tup, z30]) (Ev.now true)
      · rw [he]
        refine Ev.congr (fun k => if_pos rfl) ?_
        refine Ev.bind (media_right_zero (rode x m l t) (rode_right x m o l t pf mf h0 hc hl1 hl2)) ?_
        exact Ev.congr (fun k => by rw [if_pos rfl]; simp [tup, rode]) (Ev.now true)
  exact main.rounds
end Go.Proofs.Ytkojejcjfbeedaa.Pure
