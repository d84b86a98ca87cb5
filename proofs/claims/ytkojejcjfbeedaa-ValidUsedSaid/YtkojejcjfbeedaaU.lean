/- By hand, plain: what valid.Use computes, in closed form. -/
import Derived.Test.YtkojejcjfbeedaaQ
import Derived.Test.YtkojejcjfbeedaaF14
set_option linter.unusedVariables false
namespace Go.Proofs.Ytkojejcjfbeedaa.Q
open Go.RowKit Go.Proofs.YtkojejcjfbeedaaW.PrintWords Go.Proofs.Ytkojejcjfbeedaa.P Go.Proofs.Ytkojejcjfbeedaa.O Go.Proofs.Ytkojejcjfbeedaa.R

/-- The medium after a ride. -/
def rode (x : S27) (m : S30) (l t : Int) : S30 :=
  ⟨m.f0, wrap64 (m.f1 + 1), m.f2, if m.f3 = -1 then t else m.f3, if x.f1 = 2 ∨ (x.f1 = 1 ∧ dayS t ≠ m.f5) then wrap64 (m.f4 - 1) else m.f4, dayS t, l, t, 0⟩
def tup (m : S30) (e : Int) : Int × Int × Int × Int × Int × Int × Int × Int × Int × Int := (m.f0, m.f1, m.f2, m.f3, m.f4, m.f5, m.f6, m.f7, m.f8, e)
def z30 : S30 := ⟨0, 0, 0, 0, 0, 0, 0, 0, 0⟩
noncomputable def useS (x : S27) (m : S30) (o l t : Int) : Int × Int × Int × Int × Int × Int × Int × Int × Int × Int :=
  if whyS x m o l t ≠ 0 then tup z30 13 else if m.f1 ≥ 1000000 then tup z30 12 else if l < 1 ∨ l > 9999 then tup z30 2 else tup (rode x m l t) 0

theorem use_j0 (x : S27) (m : S30) (l t : Int) (b : Bool) (hb : b = decide (x.f1 = 2 ∨ (x.f1 = 1 ∧ dayS t ≠ m.f5))) :
    Ev (fun k => valid_Use.j0 k l t (dayS t) b m.f0 m.f1 m.f2 m.f3 m.f4 m.f5 m.f6 m.f7 m.f8) (tup (rode x m l t) 0) := by
  refine Ev.step (f := fun _ => some (tup (rode x m l t) 0)) (fun k => ?_) (Ev.now _)
  simp only [valid_Use.j0]
  cases b with
  | true =>
    have h := of_decide_eq_true hb.symm
    rw [if_pos rfl]
    by_cases e : m.f3 = -1
    · rw [if_pos e]; simp only [tup, rode, if_pos e, if_pos h]
    · rw [if_neg e]; simp only [tup, rode, if_neg e, if_pos h]
  | false =>
    have h := of_decide_eq_false hb.symm
    rw [if_neg (by simp)]
    by_cases e : m.f3 = -1
    · rw [if_pos e]; simp only [tup, rode, if_pos e, if_neg h]
    · rw [if_neg e]; simp only [tup, rode, if_neg e, if_neg h]

theorem use_ev (x : S27) (m : S30) (o l t : Int) (h5 : x.f5.length ≤ 9223372036854775807) (h6 : x.f6.length ≤ 9223372036854775807) :
    Ev (fun k => valid_Use.f k x.f0 x.f1 x.f2 x.f3 x.f4 x.f5 x.f6 x.f7.f0 x.f7.f1 x.f8 m.f0 m.f1 m.f2 m.f3 m.f4 m.f5 m.f6 m.f7 m.f8 o l t) (useS x m o l t) := by
  unfold valid_Use.f
  refine Ev.bind (why_ev x m o l t h5 h6) ?_
  by_cases h0 : whyS x m o l t = 0
  · refine Ev.congr (fun k => if_pos h0) ?_
    by_cases h1 : m.f1 ≥ 1000000
    · have e : useS x m o l t = tup z30 12 := by unfold useS; rw [if_neg (fun h => h h0), if_pos h1]
      rw [e]
      exact Ev.congr (fun k => if_pos h1) (Ev.now _)
    · refine Ev.congr (fun k => if_neg h1) ?_
      by_cases h2 : l < 1
      · have e : useS x m o l t = tup z30 2 := by unfold useS; rw [if_neg (fun h => h h0), if_neg h1, if_pos (.inl h2)]
        rw [e]
        exact Ev.congr (fun k => if_pos h2) (Ev.now _)
      · refine Ev.congr (fun k => if_neg h2) ?_
        by_cases h3 : l > 9999
        · have e : useS x m o l t = tup z30 2 := by unfold useS; rw [if_neg (fun h => h h0), if_neg h1, if_pos (.inr h3)]
          rw [e]
          exact Ev.congr (fun k => if_pos h3) (Ev.now _)
        · refine Ev.congr (fun k => if_neg h3) ?_
          have e : useS x m o l t = tup (rode x m l t) 0 := by unfold useS; rw [if_neg (fun h => h h0), if_neg h1, if_neg (by omega)]
          rw [e]
          refine Ev.congr (fun k => by rw [day_val, Option.bind_some]) ?_
          by_cases k2 : x.f1 = 2
          · exact Ev.congr (fun k => if_pos k2) (use_j0 x m l t true (by simp [k2]))
          · refine Ev.congr (fun k => if_neg k2) ?_
            by_cases k1 : x.f1 = 1
            · exact Ev.congr (fun k => if_pos k1) (use_j0 x m l t _ (by simp only [k1, bne]; by_cases e : dayS t = m.f5 <;> simp [e]))
            · exact Ev.congr (fun k => if_neg k1) (use_j0 x m l t false (by simp [k1, k2]))
  · have e : useS x m o l t = tup z30 13 := by unfold useS; rw [if_pos h0]
    rw [e]
    exact Ev.congr (fun k => if_neg h0) (Ev.now _)

/-- What holds where the gate opens. -/
theorem why_zero {x : S27} {m : S30} {o l t : Int} (h : whyS x m o l t = 0) :
    x.f7.f0 ≤ t ∧ t < x.f7.f1 ∧ usedS x m t = false ∧ m.f7 ≤ t ∧ (l = m.f6 → wrap64 (m.f7 + 300) ≤ t) := by
  unfold whyS at h
  by_cases h0 : t < x.f7.f0 ∨ t ≥ x.f7.f1
  · rw [if_pos h0] at h; omega
  rw [if_neg h0] at h
  by_cases h1 : ¬ o ∈ x.f5
  · rw [if_pos h1] at h; omega
  rw [if_neg h1] at h
  by_cases h2 : openB x t = false
  · rw [if_pos h2] at h; omega
  rw [if_neg h2] at h
  by_cases h3 : usedS x m t = true
  · rw [if_pos h3] at h; omega
  rw [if_neg h3] at h
  by_cases h4 : t < m.f7
  · rw [if_pos h4] at h; omega
  rw [if_neg h4] at h
  by_cases h5 : l = m.f6 ∧ t < wrap64 (m.f7 + 300)
  · rw [if_pos h5] at h; omega
  refine ⟨by omega, by omega, Bool.eq_false_iff.mpr h3, by omega, fun e => ?_⟩
  by_cases h6 : t < wrap64 (m.f7 + 300)
  · exact absurd ⟨e, h6⟩ h5
  · omega

/-- The three ways that Use ends. -/
theorem use_cases (x : S27) (m : S30) (o l t : Int) :
    (∃ e, useS x m o l t = tup z30 e ∧ e ≠ 0 ∧ (e = 13 ↔ whyS x m o l t ≠ 0)) ∨ (useS x m o l t = tup (rode x m l t) 0 ∧ whyS x m o l t = 0 ∧ m.f1 < 1000000 ∧ 1 ≤ l ∧ l ≤ 9999) := by
  unfold useS
  by_cases h0 : whyS x m o l t = 0
  · rw [if_neg (fun h => h h0)]
    by_cases h1 : m.f1 ≥ 1000000
    · rw [if_pos h1]; exact .inl ⟨12, rfl, by decide, by simp [h0]⟩
    rw [if_neg h1]
    by_cases h2 : l < 1 ∨ l > 9999
    · rw [if_pos h2]; exact .inl ⟨2, rfl, by decide, by simp [h0]⟩
    rw [if_neg h2]
    exact .inr ⟨rfl, h0, by omega, by omega, by omega⟩
  · rw [if_pos h0]
    exact .inl ⟨13, rfl, by decide, by simp [h0]⟩
end Go.Proofs.Ytkojejcjfbeedaa.Q
