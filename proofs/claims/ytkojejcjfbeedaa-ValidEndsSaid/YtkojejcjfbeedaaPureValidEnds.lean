/- By hand, plain: the law ValidEnds answers true. -/
import Derived.Test.YtkojejcjfbeedaaQ
import Derived.Test.YtkojejcjfbeedaaU
import Derived.Test.YtkojejcjfbeedaaF16
import Derived.Test.YtkojejcjfbeedaaF7
set_option linter.unusedVariables false
namespace Go.Proofs.Ytkojejcjfbeedaa.Pure
open Go.RowKit Go.Proofs.YtkojejcjfbeedaaW.PrintWords Go.Proofs.Ytkojejcjfbeedaa.P Go.Proofs.Ytkojejcjfbeedaa.O Go.Proofs.Ytkojejcjfbeedaa.R Go.Proofs.Ytkojejcjfbeedaa.Q

theorem until_ends (x : S27) (m : S30) (pf : PF x) (mf : MF m) : ∃ u, Ev (fun k => valid_Until.f k x.f0 x.f1 x.f2 x.f3 x.f4 x.f5 x.f6 x.f7.f0 x.f7.f1 x.f8 m.f0 m.f1 m.f2 m.f3 m.f4 m.f5 m.f6 m.f7 m.f8) u ∧ ∀ o l t, whyS x m o l t = 0 → t < u := by
  have u1 := pf.units
  have u2 := pf.timed
  have u3 := pf.other
  have s1 := pf.season
  have m1 := mf.first
  have m2 := mf.today
  unfold valid_Until.f
  by_cases k0 : x.f1 = 0
  · by_cases f : m.f3 = -1
    · refine ⟨x.f7.f1, Ev.congr (fun k => if_pos k0) (Ev.step (f := fun k => valid_Until.j1 k x.f7.f1 false x.f0 x.f1 x.f2 x.f3 x.f4 x.f5 x.f6 x.f7.f0 x.f7.f1 x.f8 m.f0 m.f1 m.f2 m.f3 m.f4 m.f5 m.f6 m.f7 m.f8) (fun k => ?_) (Ev.step (f := fun _ => some x.f7.f1) (fun k => ?_) (Ev.now _))), fun o l t h => (why_zero h).2.1⟩
      · simp only [valid_Until.j0]; rw [if_neg (by simp [f]), if_neg (by omega)]
      · simp only [valid_Until.j1]; rw [if_neg (by simp), if_neg (by omega)]
    · refine ⟨mn x.f7.f1 (wrap64 (m.f3 + x.f2)), Ev.congr (fun k => if_pos k0) (Ev.step (f := fun _ => some (mn x.f7.f1 (wrap64 (m.f3 + x.f2)))) (fun k => ?_) (Ev.now _)), fun o l t h => ?_⟩
      · simp only [valid_Until.j0]; rw [if_pos (by simp [f])]
      · obtain ⟨h1, h2, h3, _, _⟩ := why_zero h
        unfold usedS at h3
        rw [if_pos k0, if_neg f] at h3
        have h3 := of_decide_eq_false h3
        unfold mn
        split <;> omega
  · refine ⟨if x.f1 = 1 ∧ m.f4 = 0 then mn x.f7.f1 (wrap64 (wrap64 (m.f5 + 1) * 86400)) else if x.f1 = 2 ∧ m.f4 = 0 then 0 else x.f7.f1, Ev.congr (fun k => if_neg k0) ?_, ?_⟩
    · refine Ev.step (f := fun k => valid_Until.j1 k x.f7.f1 (decide (x.f1 = 1 ∧ m.f4 = 0)) x.f0 x.f1 x.f2 x.f3 x.f4 x.f5 x.f6 x.f7.f0 x.f7.f1 x.f8 m.f0 m.f1 m.f2 m.f3 m.f4 m.f5 m.f6 m.f7 m.f8) (fun k => ?_) (Ev.step (f := fun _ => some _) (fun k => ?_) (Ev.now _))
      · simp only [valid_Until.j0]
        rw [if_neg (by simp)]
        by_cases k1 : x.f1 = 1
        · rw [if_pos k1]; simp only [k1, true_and]; rfl
        · rw [if_neg k1]; simp only [k1, false_and, decide_false]
      · simp only [valid_Until.j1]
        by_cases c : x.f1 = 1 ∧ m.f4 = 0
        · rw [if_pos c, if_pos (decide_eq_true c)]
        · rw [if_neg c, if_neg (by simp only [decide_eq_true_eq]; exact c)]
          by_cases k2 : x.f1 = 2
          · rw [if_pos k2]
            by_cases z : m.f4 = 0
            · rw [if_pos z, if_pos ⟨k2, z⟩]
            · rw [if_neg z, if_neg (fun h => z h.2)]
          · rw [if_neg k2, if_neg (fun h => k2 h.1)]
    · intro o l t h
      obtain ⟨h1, h2, h3, _, _⟩ := why_zero h
      unfold usedS at h3
      rw [if_neg k0] at h3
      have w1 : wrap64 (m.f5 + 1) = m.f5 + 1 := wrap_id (by omega) (by omega)
      by_cases c : x.f1 = 1 ∧ m.f4 = 0
      · rw [if_pos c, w1, wrap_id (by omega) (by omega)]
        rw [if_pos c.1, if_pos c.2] at h3
        have h4 : dayS t = m.f5 := by simpa using h3
        unfold dayS at h4
        rw [if_pos (by omega)] at h4
        unfold mn
        split <;> omega
      · rw [if_neg c]
        by_cases d : x.f1 = 2 ∧ m.f4 = 0
        · rw [if_neg (by omega), d.2] at h3
          simp at h3
        · rw [if_neg d]; exact h2
theorem ValidEnds (x : S27) (hx : p27 x) (m : S30) (hm : p30 m) (o : Int) (ho : I64 o) (l : Int) (hl : I64 l) (t : Int) (ht : I64 t) :
    ∃ k, skiarealaw26_ValidEnds.f k x.f0 x.f1 x.f2 x.f3 x.f4 x.f5 x.f6 x.f7.f0 x.f7.f1 x.f8 m.f0 m.f1 m.f2 m.f3 m.f4 m.f5 m.f6 m.f7 m.f8 o l t = some true := by
  obtain ⟨b, hb, hd⟩ := defined_ev x m hx
  have h5 := hx.2.2.2.2.2.1.1
  have h6 := hx.2.2.2.2.2.2.1.1
  have main : Ev (fun k => skiarealaw26_ValidEnds.f k x.f0 x.f1 x.f2 x.f3 x.f4 x.f5 x.f6 x.f7.f0 x.f7.f1 x.f8 m.f0 m.f1 m.f2 m.f3 m.f4 m.f5 m.f6 m.f7 m.f8 o l t) true := by
    unfold skiarealaw26_ValidEnds.f
    rw [alive_val]
    simp only [Option.bind_some, if_true]
    refine Ev.bind hb ?_
    cases b with
    | false => exact Ev.congr (fun k => if_neg (by simp)) (Ev.now _)
    | true =>
      refine Ev.congr (fun k => if_pos rfl) ?_
      obtain ⟨pf, mf⟩ := hd rfl
      obtain ⟨u, hu, hw⟩ := until_ends x m pf mf
      refine Ev.bind hu ?_
      by_cases c : t < u
      · exact Ev.congr (fun k => if_pos c) (Ev.now _)
      · refine Ev.congr (fun k => if_neg c) (Ev.bind (why_ev x m o l t h5 h6) ?_)
        have hn : whyS x m o l t ≠ 0 := fun h => c (hw o l t h)
        exact Ev.congr (fun k => by simp [hn]) (Ev.now true)
  exact main.rounds
end Go.Proofs.Ytkojejcjfbeedaa.Pure
