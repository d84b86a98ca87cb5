/- By hand, plain: what the reference of Right computes. -/
import Derived.Test.YtpojelbablofpaaQ3
import Derived.Test.YtpojelbablofpaaF13
namespace Go.Proofs.Ytpojelbablofpaa.Q
open Go.RowKit Go.Proofs.YtpojelbablofpaaW.PrintWords Go.Proofs.YtpojelbablofpaaW.PrintLast Go.Proofs.Ytpojelbablofpaa.P Go.Proofs.Ytpojelbablofpaa.O Go.Proofs.Ytpojelbablofpaa.R
set_option linter.unusedVariables false

theorem hright_l0_eq : ∀ (k : Nat) (l : List S52) (x : Int), clock_Right.l0 k l x = skiarearef02_Right.l0 k l x := by
  intro k
  induction k with
  | zero => intro l x; rfl
  | succ k ih => intro l x; simp only [clock_Right.l0, skiarearef02_Right.l0, ih]
theorem hright_eq (k : Nat) (l : List S52) : clock_Right.f k l = skiarearef02_Right.f k l := by
  unfold clock_Right.f skiarearef02_Right.f
  simp only [hright_l0_eq]
theorem one_l1_ev (x : S32) (hl : x.f5.length ≤ 9223372036854775807) : ∃ r, Ev (fun k => skiarearef22_one.l1 k 0 x.f0 x.f1 x.f2 x.f3 x.f4 x.f5 x.f6 x.f7.f0 x.f7.f1 x.f8) r ∧ (AnyBad x.f5 → r = 1) ∧ (¬ AnyBad x.f5 → r = 0) := by
  obtain ⟨r, hr, h⟩ := Ev_first (fun k i => skiarearef22_one.l1 k i x.f0 x.f1 x.f2 x.f3 x.f4 x.f5 x.f6 x.f7.f0 x.f7.f1 x.f8) x.f5.length (fun i => decide (badOp x.f5 i)) (fun _ => (1 : Int)) 0
    (fun k i h0 h1 h2 => by
      have h2 := of_decide_eq_true h2
      unfold badOp at h2
      simp only [skiarearef22_one.l1]
      rw [if_pos h1, if_pos h0]
      by_cases c1 : rd x.f5 i < 1
      · rw [if_pos c1]
      rw [if_neg c1]
      by_cases c2 : rd x.f5 i > 8
      · rw [if_pos c2]
      rw [if_neg c2, if_pos (by omega), wrap_id (i := i - 1) (by omega) (by omega), if_pos (by omega), if_pos (by omega), if_pos (by omega)])
    (fun k i h0 h1 h2 => by
      have h2 := of_decide_eq_false h2
      unfold badOp at h2
      simp only [skiarearef22_one.l1]
      rw [if_pos h1, if_pos h0, if_neg (by omega), if_neg (by omega), wrap_id (i := i + 1) (by omega) (by omega)]
      by_cases c3 : i > 0
      · rw [if_pos c3, wrap_id (i := i - 1) (by omega) (by omega), if_pos (by omega), if_pos (by omega), if_neg (by omega)]
      · rw [if_neg c3])
    (fun k => by simp only [skiarearef22_one.l1]; rw [if_neg (by omega)])
  refine ⟨r, hr, ?_⟩
  rcases h with ⟨i, h0, h1, h2, _, rfl⟩ | ⟨h1, rfl⟩
  · exact ⟨fun _ => rfl, fun h => absurd ⟨i, h0, h1, of_decide_eq_true h2⟩ h⟩
  · exact ⟨fun ⟨i, i0, i1, i2⟩ => absurd i2 (of_decide_eq_false (h1 i i0 i1)), fun _ => rfl⟩

theorem j3_true (x : S32) : Ev (fun k => skiarearef22_one.j3 k true x.f0 x.f1 x.f2 x.f3 x.f4 x.f5 x.f6 x.f7.f0 x.f7.f1 x.f8) 1 := Ev.step (f := fun _ => some 1) (fun k => by simp [skiarearef22_one.j3]) (Ev.now _)
theorem j3_false (x : S32) (hl : x.f5.length ≤ 9223372036854775807) : ∃ r, Ev (fun k => skiarearef22_one.j3 k false x.f0 x.f1 x.f2 x.f3 x.f4 x.f5 x.f6 x.f7.f0 x.f7.f1 x.f8) r ∧ (AnyBad x.f5 → r = 1) ∧ (¬ AnyBad x.f5 → r = 0) := by
  obtain ⟨r, hr, h⟩ := one_l1_ev x hl
  exact ⟨r, Ev.step (fun k => by simp only [skiarearef22_one.j3]; rw [if_neg Bool.false_ne_true]) hr, h⟩
theorem one_tail (x : S32) (m : List S32) (h5 : x.f5.length ≤ 9223372036854775807) (bO hB : Bool) (hbO : bO = true ↔ 0 < x.f5.length ∧ ¬ AnyBad x.f5) (hh : Ev (fun k => clock_Right.f k x.f6) hB) :
    Ev (fun k => skiarearef22_one.l0 k m (m.length : Int) x.f0 x.f1 x.f2 x.f3 x.f4 x.f5 x.f6 x.f7.f0 x.f7.f1 x.f8) (if x.f3 > x.f4 then 11 else if (bO && hB) = true ∧ SeasonOk x then 0 else 1) := by
  refine Ev.step (fun k => by simp only [skiarearef22_one.l0]; rw [if_neg (by omega)]) ?_
  by_cases c : x.f3 > x.f4
  · rw [if_pos c]
    exact Ev.congr (fun k => if_pos c) (Ev.now _)
  rw [if_neg c]
  refine Ev.congr (fun k => if_neg c) ?_
  obtain ⟨r, hr, hr1, hr0⟩ := j3_false x h5
  have h1 := j3_true x
  by_cases c0 : (x.f5.length : Int) = 0
  · have e : bO = false := Bool.eq_false_iff.mpr (fun h => by have := (hbO.1 h).1; omega)
    rw [if_neg (by rw [e]; simp)]
    exact Ev.congr (fun k => if_pos c0) h1
  refine Ev.congr (fun k => if_neg c0) ?_
  refine Ev.bind (show Ev (fun k => skiarearef02_Right.f k x.f6) hB from Ev.congr (fun k => (hright_eq k x.f6).symm) hh) ?_
  cases hB with
  | false =>
    rw [if_neg (by simp)]
    exact Ev.congr (fun k => if_neg Bool.false_ne_true) h1
  | true =>
    refine Ev.congr (fun k => if_pos rfl) ?_
    by_cases s1 : x.f7.f0 < 0
    · rw [if_neg (fun h => by have := h.2; unfold SeasonOk at this; omega)]
      exact Ev.congr (fun k => if_pos s1) h1
    refine Ev.congr (fun k => if_neg s1) ?_
    by_cases s2 : x.f7.f0 ≥ x.f7.f1
    · rw [if_neg (fun h => by have := h.2; unfold SeasonOk at this; omega)]
      exact Ev.congr (fun k => if_pos s2) h1
    refine Ev.congr (fun k => if_neg s2) ?_
    by_cases s3 : x.f7.f1 > 20000000
    · rw [if_neg (fun h => by have := h.2; unfold SeasonOk at this; omega), decide_eq_true s3]
      exact h1
    rw [decide_eq_false s3]
    have hS : SeasonOk x := by unfold SeasonOk; omega
    by_cases a : AnyBad x.f5
    · have e : bO = false := Bool.eq_false_iff.mpr (fun h => (hbO.1 h).2 a)
      rw [if_neg (by rw [e]; simp), ← hr1 a]
      exact hr
    · have e : bO = true := hbO.2 ⟨by omega, a⟩
      rw [if_pos ⟨by rw [e]; rfl, hS⟩, ← hr0 a]
      exact hr
theorem one_ref_ev (x : S32) (m : List S32) (hm : m.length ≤ 1000000) (h5 : x.f5.length ≤ 9223372036854775807) (bO hB tw : Bool) (hbO : bO = true ↔ 0 < x.f5.length ∧ ¬ AnyBad x.f5) (hh : Ev (fun k => clock_Right.f k x.f6) hB)
    (htw : tw = true ↔ ∃ j, 0 ≤ j ∧ j < (m.length : Int) ∧ (rd_T32 m j).f0 = x.f0) :
    Ev (fun k => skiarearef22_one.f k x.f0 x.f1 x.f2 x.f3 x.f4 x.f5 x.f6 x.f7.f0 x.f7.f1 x.f8 m) (oneS x tw (bO && hB)) := by
  have htail := one_tail x m h5 bO hB hbO hh
  have hloop : Ev (fun k => skiarearef22_one.l0 k m 0 x.f0 x.f1 x.f2 x.f3 x.f4 x.f5 x.f6 x.f7.f0 x.f7.f1 x.f8) (if tw = true then 7 else if x.f3 > x.f4 then 11 else if (bO && hB) = true ∧ SeasonOk x then 0 else 1) := by
    generalize (if x.f3 > x.f4 then (11 : Int) else if (bO && hB) = true ∧ SeasonOk x then 0 else 1) = tl at htail ⊢
    have main : ∀ (d : Nat) (i : Int), 0 ≤ i → i ≤ m.length → (m.length : Int) - i = d → (∀ j, 0 ≤ j → j < i → (rd_T32 m j).f0 ≠ x.f0) → Ev (fun k => skiarearef22_one.l0 k m i x.f0 x.f1 x.f2 x.f3 x.f4 x.f5 x.f6 x.f7.f0 x.f7.f1 x.f8) (if tw = true then 7 else tl) := by
      intro d
      induction d with
      | zero =>
        intro i h0 hi hd hp
        obtain rfl : i = (m.length : Int) := by omega
        rw [if_neg (fun h => by obtain ⟨j, j0, j1, j2⟩ := htw.1 h; exact hp j j0 j1 j2)]
        exact htail
      | succ d ih =>
        intro i h0 hi hd hp
        have hlt : i < (m.length : Int) := by omega
        by_cases c : (rd_T32 m i).f0 = x.f0
        · rw [if_pos (htw.2 ⟨i, h0, hlt, c⟩)]
          exact Ev.step (f := fun _ => some 7) (fun k => by simp only [skiarearef22_one.l0]; rw [if_pos hlt, if_pos h0, if_pos c]) (Ev.now _)
        · exact Ev.step (fun k => by simp only [skiarearef22_one.l0]; rw [if_pos hlt, if_pos h0, if_neg c, wrap_id (i := i + 1) (by omega) (by omega)]) (ih (i + 1) (by omega) (by omega) (by omega) (fun j j0 j1 => by
            by_cases e : j = i
            · rw [e]; exact c
            · exact hp j j0 (by omega)))
    exact main m.length 0 (Int.le_refl _) (Int.natCast_nonneg _) (by omega) (fun j j0 j1 => by omega)
  have hbad : Ev (fun k => skiarearef22_one.j1 k m true x.f0 x.f1 x.f2 x.f3 x.f4 x.f5 x.f6 x.f7.f0 x.f7.f1 x.f8) 2 := Ev.step (f := fun _ => some 2) (fun k => by simp [skiarearef22_one.j1]) (Ev.now _)
  have hgood : Ev (fun k => skiarearef22_one.j1 k m false x.f0 x.f1 x.f2 x.f3 x.f4 x.f5 x.f6 x.f7.f0 x.f7.f1 x.f8) (if tw = true then 7 else if x.f3 > x.f4 then 11 else if (bO && hB) = true ∧ SeasonOk x then 0 else 1) := Ev.step (fun k => by simp only [skiarearef22_one.j1]; rw [if_neg Bool.false_ne_true]) hloop
  have hj0 : ∀ u : Int, (x.f1 = 0 ∧ u = 604800) ∨ (x.f1 ≠ 0 ∧ u = 100) → Ev (fun k => skiarearef22_one.j0 k m u x.f0 x.f1 x.f2 x.f3 x.f4 x.f5 x.f6 x.f7.f0 x.f7.f1 x.f8) (oneS x tw (bO && hB)) := by
    intro u hu
    unfold oneS
    generalize (if tw = true then (7 : Int) else if x.f3 > x.f4 then 11 else if (bO && hB) = true ∧ SeasonOk x then 0 else 1) = v at hgood ⊢
    refine Ev.step (fun k => by simp only [skiarearef22_one.j0]; rfl) ?_
    by_cases hR : RangeOk x
    · rw [if_neg (fun h => h hR)]
      unfold RangeOk at hR
      clear hbad htail hloop hbO htw hh
      repeat' first
        | (refine Ev.ite (fun c => ?_) (fun c => ?_))
      all_goals first
        | (exfalso; omega)
        | (rw [decide_eq_false (by omega)]; exact hgood)
    · rw [if_pos hR]
      clear htail hloop hbO htw hh hgood
      repeat' first
        | exact hbad
        | (refine Ev.ite (fun c => ?_) (fun c => ?_))
      all_goals
        rw [decide_eq_true (by
          apply Classical.byContradiction
          intro c9
          exact hR (by unfold RangeOk; omega))]
        exact hbad
  unfold skiarearef22_one.f
  exact Ev.ite (fun c => hj0 604800 (.inl ⟨c, rfl⟩)) (fun c => hj0 100 (.inr ⟨c, rfl⟩))

theorem right_both (l : List S32) (hs : Small l) : ∃ e, Ev (fun k => product_Right.f k l) e ∧ Ev (fun k => skiarearef22_Right.f k l) e ∧ (e = 0 → ∀ i, 0 ≤ i → i < (l.length : Int) → OkAt l i) := by
  have hlen := hs.1
  by_cases c : (l.length : Int) > 64
  · exact ⟨4, Ev.congr (fun k => if_pos c) (Ev.now _), Ev.congr (fun k => if_pos c) (Ev.now _), fun h => absurd h (by decide)⟩
  have main : ∀ (d : Nat) (i : Int), 0 ≤ i → i ≤ l.length → (l.length : Int) - i = d → ∃ e, Ev (fun k => product_Right.l0 k l l (l.length : Int) i) e ∧ Ev (fun k => skiarearef22_Right.l0 k l i) e ∧ (e = 0 → ∀ j, i ≤ j → j < (l.length : Int) → OkAt l j) := by
    intro d
    induction d with
    | zero =>
      intro i h0 hi hd
      exact ⟨0, Ev.step (f := fun _ => some 0) (fun k => by simp only [product_Right.l0]; rw [if_neg (by omega)]) (Ev.now _), Ev.step (f := fun _ => some 0) (fun k => by simp only [skiarearef22_Right.l0]; rw [if_neg (by omega)]) (Ev.now _), fun _ j j0 j1 => by omega⟩
    | succ d ih =>
      intro i h0 hi hd
      have hlt : i < (l.length : Int) := by omega
      obtain ⟨e', h1, h2, h3⟩ := ih (i + 1) (by omega) (by omega) (by omega)
      have hm := hs.2 _ (rd32_mem h0 hlt)
      obtain ⟨bO, hbO, hO⟩ := operators_ev (rd_T32 l i).f5 (by omega)
      obtain ⟨hB, hh⟩ := hright_ev (rd_T32 l i).f6 (by omega)
      have htl : (l.take i.toNat).length = i.toNat := by rw [List.length_take]; omega
      obtain ⟨r, hr, hc⟩ := find_ev (l.take i.toNat) (rd_T32 l i).f0 (by omega) (fun x hx => hs.2 x (List.mem_of_mem_take hx))
      have hq : ∃ y tw, r = tupF y tw ∧ (tw = true ↔ ∃ j, 0 ≤ j ∧ j < ((l.take i.toNat).length : Int) ∧ (rd_T32 (l.take i.toNat) j).f0 = (rd_T32 l i).f0) := by
        rcases hc with ⟨j, j0, j1, j2, _, rfl⟩ | ⟨hn, rfl⟩
        · exact ⟨_, true, rfl, ⟨fun _ => ⟨j, j0, j1, j2⟩, fun _ => rfl⟩⟩
        · exact ⟨_, false, rfl, ⟨fun h => (by cases h), fun ⟨j, j0, j1, j2⟩ => absurd j2 (hn j j0 j1)⟩⟩
      obtain ⟨y, tw, rfl, htw⟩ := hq
      have HT := Aside0.mk htw
      clear htw
      have hP := prod_step l (by omega) i h0 hlt (rd_T32 l i) rfl bO hB tw hbO hh y hr e' h1
      have hR := one_ref_ev (rd_T32 l i) (l.take i.toNat) (by omega) (by omega) bO hB tw hO hh HT.out
      refine ⟨_, hP, ?_, ?_⟩
      · refine Ev.step (fun k => by simp only [skiarearef22_Right.l0]; rw [if_pos hlt, if_pos h0, if_pos (by omega)]) (Ev.bind hR ?_)
        by_cases e0 : oneS (rd_T32 l i) tw (bO && hB) = 0
        · rw [if_pos e0]
          exact Ev.congr (fun k => by rw [if_pos e0, wrap_id (i := i + 1) (by omega) (by omega)]) h2
        · rw [if_neg e0]
          exact Ev.congr (fun k => if_neg e0) (Ev.now _)
      · intro he j j0 j1
        by_cases e0 : oneS (rd_T32 l i) tw (bO && hB) = 0
        · rw [if_pos e0] at he
          by_cases e : j = i
          · subst e
            unfold oneS at e0
            by_cases q1 : ¬ RangeOk (rd_T32 l j)
            · rw [if_pos q1] at e0; exact absurd e0 (by decide)
            rw [if_neg q1] at e0
            by_cases q2 : tw = true
            · rw [if_pos q2] at e0; exact absurd e0 (by decide)
            rw [if_neg q2] at e0
            by_cases q3 : (rd_T32 l j).f3 > (rd_T32 l j).f4
            · rw [if_pos q3] at e0; exact absurd e0 (by decide)
            rw [if_neg q3] at e0
            by_cases q4 : (bO && hB) = true ∧ SeasonOk (rd_T32 l j)
            · refine ⟨fun p p0 p1 hp => q2 (HT.out.2 ⟨p, p0, by omega, ?_⟩), ?_⟩
              · rw [rd32_take l p0 (by omega) (by omega)]; exact hp
              · have hb : bO = true := by have := q4.1; simp only [Bool.and_eq_true] at this; exact this.1
                exact (hO.1 hb).1
            · rw [if_neg q4] at e0; exact absurd e0 (by decide)
          · exact h3 he j (by omega) j1
        · rw [if_neg e0] at he
          exact absurd he e0
  obtain ⟨e, h1, h2, h3⟩ := main l.length 0 (Int.le_refl _) (Int.natCast_nonneg _) (by omega)
  exact ⟨e, Ev.congr (fun k => if_neg c) h1, Ev.congr (fun k => if_neg c) h2, h3⟩
end Go.Proofs.Ytpojelbablofpaa.Q
