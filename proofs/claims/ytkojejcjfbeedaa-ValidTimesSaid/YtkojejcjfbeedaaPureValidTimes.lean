/- By hand, plain: the law ValidTimes answers true. -/
import Derived.Test.YtkojejcjfbeedaaQ
import Derived.Test.YtkojejcjfbeedaaF16
import Derived.Test.YtkojejcjfbeedaaF17
import Derived.Test.YtkojejcjfbeedaaF18
import Derived.Test.YtkojejcjfbeedaaF19
import Derived.Test.YtkojejcjfbeedaaF5
set_option linter.unusedVariables false
namespace Go.Proofs.Ytkojejcjfbeedaa.Pure
open Go.RowKit Go.Proofs.YtkojejcjfbeedaaW.PrintWords Go.Proofs.Ytkojejcjfbeedaa.P Go.Proofs.Ytkojejcjfbeedaa.O Go.Proofs.Ytkojejcjfbeedaa.R Go.Proofs.Ytkojejcjfbeedaa.Q

theorem until_same (x : S27) (m : S30) : ∃ u, Ev (fun k => valid_Until.f k x.f0 x.f1 x.f2 x.f3 x.f4 x.f5 x.f6 x.f7.f0 x.f7.f1 x.f8 m.f0 m.f1 m.f2 m.f3 m.f4 m.f5 m.f6 m.f7 m.f8) u ∧ Ev (fun k => skiarearef26_Until.f k x.f0 x.f1 x.f2 x.f3 x.f4 x.f5 x.f6 x.f7.f0 x.f7.f1 x.f8 m.f0 m.f1 m.f2 m.f3 m.f4 m.f5 m.f6 m.f7 m.f8) u := by
  unfold valid_Until.f skiarearef26_Until.f
  by_cases k0 : x.f1 = 0
  · by_cases f : m.f3 = -1
    · refine ⟨x.f7.f1, Ev.congr (fun k => if_pos k0) (Ev.step (f := fun k => valid_Until.j1 k x.f7.f1 false x.f0 x.f1 x.f2 x.f3 x.f4 x.f5 x.f6 x.f7.f0 x.f7.f1 x.f8 m.f0 m.f1 m.f2 m.f3 m.f4 m.f5 m.f6 m.f7 m.f8) (fun k => ?_) (Ev.step (f := fun _ => some x.f7.f1) (fun k => ?_) (Ev.now _))),
        Ev.congr (fun k => if_pos k0) (Ev.step (f := fun k => skiarearef26_Until.j1 k x.f7.f1 x.f0 x.f1 x.f2 x.f3 x.f4 x.f5 x.f6 x.f7.f0 x.f7.f1 x.f8 m.f0 m.f1 m.f2 m.f3 m.f4 m.f5 m.f6 m.f7 m.f8) (fun k => ?_) (Ev.step (f := fun k => skiarearef26_Until.j2 k x.f7.f1 false x.f0 x.f1 x.f2 x.f3 x.f4 x.f5 x.f6 x.f7.f0 x.f7.f1 x.f8 m.f0 m.f1 m.f2 m.f3 m.f4 m.f5 m.f6 m.f7 m.f8) (fun k => ?_) (Ev.step (f := fun _ => some x.f7.f1) (fun k => ?_) (Ev.now _))))⟩
      · simp only [valid_Until.j0]; rw [if_neg (by simp [f]), if_neg (by omega)]
      · simp only [valid_Until.j1]; rw [if_neg (by simp), if_neg (by omega)]
      · simp only [skiarearef26_Until.j0]; rw [if_neg (by simp [f])]
      · simp only [skiarearef26_Until.j1]; rw [if_neg (by omega)]
      · simp only [skiarearef26_Until.j2]; rw [if_neg (by simp), if_neg (by omega)]
    · refine ⟨mn x.f7.f1 (wrap64 (m.f3 + x.f2)), Ev.congr (fun k => if_pos k0) (Ev.step (f := fun _ => some (mn x.f7.f1 (wrap64 (m.f3 + x.f2)))) (fun k => ?_) (Ev.now _)),
        Ev.congr (fun k => if_pos k0) (Ev.step (f := fun k => skiarearef26_Until.j1 k (mn x.f7.f1 (wrap64 (m.f3 + x.f2))) x.f0 x.f1 x.f2 x.f3 x.f4 x.f5 x.f6 x.f7.f0 x.f7.f1 x.f8 m.f0 m.f1 m.f2 m.f3 m.f4 m.f5 m.f6 m.f7 m.f8) (fun k => ?_) (Ev.step (f := fun k => skiarearef26_Until.j2 k (mn x.f7.f1 (wrap64 (m.f3 + x.f2))) false x.f0 x.f1 x.f2 x.f3 x.f4 x.f5 x.f6 x.f7.f0 x.f7.f1 x.f8 m.f0 m.f1 m.f2 m.f3 m.f4 m.f5 m.f6 m.f7 m.f8) (fun k => ?_) (Ev.step (f := fun _ => some (mn x.f7.f1 (wrap64 (m.f3 + x.f2)))) (fun k => ?_) (Ev.now _))))⟩
      · simp only [valid_Until.j0]; rw [if_pos (by simp [f])]
      · simp only [skiarearef26_Until.j0]; rw [if_pos (by simp [f])]
      · simp only [skiarearef26_Until.j1]; rw [if_neg (by omega)]
      · simp only [skiarearef26_Until.j2]; rw [if_neg (by simp), if_neg (by omega)]
  · refine ⟨if x.f1 = 1 ∧ m.f4 = 0 then mn x.f7.f1 (wrap64 (wrap64 (m.f5 + 1) * 86400)) else if x.f1 = 2 ∧ m.f4 = 0 then 0 else x.f7.f1, Ev.congr (fun k => if_neg k0) ?_, Ev.congr (fun k => if_neg k0) ?_⟩
    · refine Ev.step (f := fun k => valid_Until.j1 k x.f7.f1 (decide (x.f1 = 1 ∧ m.f4 = 0)) x.f0 x.f1 x.f2 x.f3 x.f4 x.f5 x.f6 x.f7.f0 x.f7.f1 x.f8 m.f0 m.f1 m.f2 m.f3 m.f4 m.f5 m.f6 m.f7 m.f8) (fun k => ?_) (Ev.step (f := fun _ => some _) (fun k => ?_) (Ev.now _))
      · simp only [valid_Until.j0]
        rw [if_neg (by simp)]
        by_cases k1 : x.f1 = 1
        · rw [if_pos k1]; simp only [k1, true_and]; rfl
        · rw [if_neg k1]; simp only [k1, false_and, decide_false]
      · simp only [valid_Until.j1]
        by_cases c : x.f1 = 1 ∧ m.f4 = 0
        · rw [if_pos c, if_pos (decide_eq_true c)]
        · rw [if_neg c, if_neg (by simp only [decide_eq_true_eq]; exact c)]
          by_cases k2 : x.f1 = 2
          · rw [if_pos k2]
            by_cases z : m.f4 = 0
            · rw [if_pos z, if_pos ⟨k2, z⟩]
            · rw [if_neg z, if_neg (fun h => z h.2)]
          · rw [if_neg k2, if_neg (fun h => k2 h.1)]
    · refine Ev.step (f := fun k => skiarearef26_Until.j1 k x.f7.f1 x.f0 x.f1 x.f2 x.f3 x.f4 x.f5 x.f6 x.f7.f0 x.f7.f1 x.f8 m.f0 m.f1 m.f2 m.f3 m.f4 m.f5 m.f6 m.f7 m.f8) (fun k => ?_) (Ev.step (f := fun k => skiarearef26_Until.j2 k x.f7.f1 (decide (x.f1 = 1 ∧ m.f4 = 0)) x.f0 x.f1 x.f2 x.f3 x.f4 x.f5 x.f6 x.f7.f0 x.f7.f1 x.f8 m.f0 m.f1 m.f2 m.f3 m.f4 m.f5 m.f6 m.f7 m.f8) (fun k => ?_) (Ev.step (f := fun _ => some _) (fun k => ?_) (Ev.now _)))
      · simp only [skiarearef26_Until.j0]; rw [if_neg (by simp)]
      · simp only [skiarearef26_Until.j1]
        by_cases k1 : x.f1 = 1
        · rw [if_pos k1]; simp only [k1, true_and]; rfl
        · rw [if_neg k1]; simp only [k1, false_and, decide_false]
      · simp only [skiarearef26_Until.j2]
        by_cases c : x.f1 = 1 ∧ m.f4 = 0
        · rw [if_pos c, if_pos (decide_eq_true c), if_neg (by omega)]
        · rw [if_neg c, if_neg (by simp only [decide_eq_true_eq]; exact c)]
          by_cases k2 : x.f1 = 2
          · rw [if_pos k2]
            by_cases z : m.f4 = 0
            · rw [if_pos z, if_pos ⟨k2, z⟩]
            · rw [if_neg z, if_neg (fun h => z h.2)]
          · rw [if_neg k2, if_neg (fun h => k2 h.1)]
theorem rest_same (x : S27) (m : S30) (pf : PF x) (mf : MF m) (t : Int) (ht : I64 t) : ∃ u, valid_Rest.f x.f0 x.f1 x.f2 x.f3 x.f4 x.f5 x.f6 x.f7.f0 x.f7.f1 x.f8 m.f0 m.f1 m.f2 m.f3 m.f4 m.f5 m.f6 m.f7 m.f8 t = some u ∧ skiarearef26_Rest.f x.f0 x.f1 x.f2 x.f3 x.f4 x.f5 x.f6 x.f7.f0 x.f7.f1 x.f8 m.f0 m.f1 m.f2 m.f3 m.f4 m.f5 m.f6 m.f7 m.f8 t = some u := by
  unfold valid_Rest.f skiarearef26_Rest.f
  by_cases k0 : x.f1 = 0
  · rw [if_pos k0, if_pos k0]
    by_cases f : m.f3 = -1
    · rw [if_pos f, if_pos f]; exact ⟨_, rfl, rfl⟩
    · rw [if_neg f, if_neg f]
      have u1 := pf.units
      have u2 := pf.timed k0
      have m1 := mf.first
      obtain ⟨t1, t2⟩ := ht
      refine ⟨_, rfl, ?_⟩
      rw [wrap_id (i := m.f3 + x.f2) (by omega) (by omega)]
      have e : mx t 0 = mx 0 t := by unfold mx; split <;> split <;> omega
      rw [e]
      have b : 0 ≤ mx 0 t ∧ mx 0 t ≤ 9223372036854775807 ∧ (t < 0 ∨ mx 0 t = t) ∧ (0 ≤ t ∨ mx 0 t = 0) := by unfold mx; split <;> omega
      generalize mx 0 t = y at b ⊢
      rw [wrap_id (i := m.f3 + x.f2 - y) (by omega) (by omega)]
      by_cases c : t ≥ m.f3 + x.f2
      · rw [if_pos c]
        have e2 : mx 0 (m.f3 + x.f2 - y) = 0 := by unfold mx; split <;> omega
        rw [e2]
      · rw [if_neg c]
        have e2 : mx 0 (m.f3 + x.f2 - y) = m.f3 + x.f2 - y := by unfold mx; split <;> omega
        rw [e2]
  · rw [if_neg k0, if_neg k0]; exact ⟨_, rfl, rfl⟩
theorem ValidTimes (x : S27) (hx : p27 x) (m : S30) (hm : p30 m) (t : Int) (ht : I64 t) :
    ∃ k, skiarealaw26_ValidTimes.f k x.f0 x.f1 x.f2 x.f3 x.f4 x.f5 x.f6 x.f7.f0 x.f7.f1 x.f8 m.f0 m.f1 m.f2 m.f3 m.f4 m.f5 m.f6 m.f7 m.f8 t = some true := by
  obtain ⟨b, hb, hd⟩ := defined_ev x m hx
  have h5 := hx.2.2.2.2.2.1.1
  have h6 := hx.2.2.2.2.2.2.1.1
  have main : Ev (fun k => skiarealaw26_ValidTimes.f k x.f0 x.f1 x.f2 x.f3 x.f4 x.f5 x.f6 x.f7.f0 x.f7.f1 x.f8 m.f0 m.f1 m.f2 m.f3 m.f4 m.f5 m.f6 m.f7 m.f8 t) true := by
    unfold skiarealaw26_ValidTimes.f
    rw [alive_val]
    simp only [Option.bind_some, if_true]
    refine Ev.bind hb ?_
    cases b with
    | false => exact Ev.congr (fun k => if_neg (by simp)) (Ev.now _)
    | true =>
      refine Ev.congr (fun k => if_pos rfl) ?_
      obtain ⟨pf, mf⟩ := hd rfl
      obtain ⟨u, hu, hv⟩ := until_same x m
      obtain ⟨q, hq, hr⟩ := rest_same x m pf mf t ht
      refine Ev.bind hu (Ev.bind hv ?_)
      exact Ev.congr (fun k => by rw [if_pos rfl, hq, hr]; simp) (Ev.now true)
  exact main.rounds
end Go.Proofs.Ytkojejcjfbeedaa.Pure
