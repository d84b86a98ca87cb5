/- By hand, plain: what the functions of this seat compute, in closed form, from some number of rounds on. -/
import Derived.Test.YtkojejcjfbeedaaR
import Derived.Test.YtkojejcjfbeedaaF12
import Derived.Test.YtkojejcjfbeedaaF13
import Derived.Test.YtkojejcjfbeedaaF11
import Derived.Test.YtkojejcjfbeedaaF10
namespace Go.Proofs.Ytkojejcjfbeedaa.Q
open Go.RowKit Go.Proofs.YtkojejcjfbeedaaW.PrintWords Go.Proofs.YtkojejcjfbeedaaW.PrintLast Go.Proofs.Ytkojejcjfbeedaa.P Go.Proofs.Ytkojejcjfbeedaa.O Go.Proofs.Ytkojejcjfbeedaa.R
set_option linter.unusedVariables false

theorem wrap_id {i : Int} (h0 : -9223372036854775808 ≤ i) (h1 : i ≤ 9223372036854775807) : wrap64 i = i := by unfold wrap64; omega

/-- A loop that goes on to the first hit. -/
theorem Ev_first {β : Type} (g : Nat → Int → Option β) (n : Nat) (p : Int → Bool) (yes : Int → β) (no : β)
    (h1 : ∀ k i, 0 ≤ i → i < (n : Int) → p i = true → g (k + 1) i = some (yes i))
    (h2 : ∀ k i, 0 ≤ i → i < (n : Int) → p i = false → g (k + 1) i = g k (i + 1))
    (h3 : ∀ k, g (k + 1) n = some no) :
    ∃ r, Ev (fun k => g k 0) r ∧ ((∃ i, 0 ≤ i ∧ i < (n : Int) ∧ p i = true ∧ r = yes i) ∨ ((∀ i, 0 ≤ i → i < (n : Int) → p i = false) ∧ r = no)) := by
  have main : ∀ (d : Nat) (i : Int), 0 ≤ i → i ≤ n → (n : Int) - i = d → (∀ j, 0 ≤ j → j < i → p j = false) →
      ∃ r, Ev (fun k => g k i) r ∧ ((∃ i, 0 ≤ i ∧ i < (n : Int) ∧ p i = true ∧ r = yes i) ∨ ((∀ i, 0 ≤ i → i < (n : Int) → p i = false) ∧ r = no)) := by
    intro d
    induction d with
    | zero =>
      intro i h0 hi hd hp
      obtain rfl : i = (n : Int) := by omega
      exact ⟨no, Ev.step (f := fun _ => some no) h3 (Ev.now _), .inr ⟨fun j hj0 hj => hp j hj0 hj, rfl⟩⟩
    | succ d ih =>
      intro i h0 hi hd hp
      have hlt : i < (n : Int) := by omega
      cases e : p i with
      | true => exact ⟨yes i, Ev.step (f := fun _ => some (yes i)) (fun k => h1 k i h0 hlt e) (Ev.now _), .inl ⟨i, h0, hlt, e, rfl⟩⟩
      | false =>
        obtain ⟨r, hr, h⟩ := ih (i + 1) (by omega) (by omega) (by omega) (fun j hj0 hj => by
          by_cases ej : j = i
          · rw [ej]; exact e
          · exact hp j hj0 (by omega))
        exact ⟨r, Ev.step (f := fun k => g k (i + 1)) (fun k => h2 k i h0 hlt e) hr, h⟩
  exact main n 0 (Int.le_refl _) (Int.natCast_nonneg _) (by omega) (fun j h0 h => by omega)

theorem rd_mem (l : List Int) (a : Int) : (∃ i, 0 ≤ i ∧ i < (l.length : Int) ∧ rd l i = a) ↔ a ∈ l := by
  constructor
  · rintro ⟨i, h0, h1, h2⟩
    have hl : i.toNat < l.length := by omega
    have e : rd l i = l[i.toNat] := by unfold rd; simp [List.getD, List.getElem?_eq_getElem hl]
    rw [← h2, e]
    exact List.getElem_mem hl
  · intro h
    obtain ⟨j, hj, e⟩ := List.getElem_of_mem h
    refine ⟨(j : Int), Int.natCast_nonneg _, by omega, ?_⟩
    unfold rd
    simp [List.getD, List.getElem?_eq_getElem hj, e]

/-! ### Area -/
theorem index_ev (l : List Int) (a : Int) (hl : l.length ≤ 9223372036854775807) : ∃ r : Int, Ev (fun k => slices_Index_int_int.f k l a) r ∧ (decide (r ≥ 0) = decide (a ∈ l)) := by
  obtain ⟨r, hr, h⟩ := Ev_first (fun k i => slices_Index_int_int.l0 k l a (l.length : Int) i) l.length (fun i => decide (rd l i = a)) (fun i => i) (-1)
    (fun k i h0 h1 h2 => by simp only [slices_Index_int_int.l0]; rw [if_pos h1, if_pos h0, if_pos h1, if_pos (of_decide_eq_true h2).symm])
    (fun k i h0 h1 h2 => by simp only [slices_Index_int_int.l0]; rw [if_pos h1, if_pos h0, if_pos h1, if_neg (fun e => of_decide_eq_false h2 e.symm), wrap_id (by omega) (by omega)])
    (fun k => by simp only [slices_Index_int_int.l0]; rw [if_neg (by omega)])
  refine ⟨r, hr, ?_⟩
  rcases h with ⟨i, h0, h1, h2, rfl⟩ | ⟨h1, rfl⟩
  · have hm := (rd_mem l a).1 ⟨r, h0, h1, of_decide_eq_true h2⟩
    rw [decide_eq_true hm, decide_eq_true h0]
  · have hm : ¬ a ∈ l := fun hm => by
      obtain ⟨i, h0, h2, h3⟩ := (rd_mem l a).2 hm
      exact absurd h3 (of_decide_eq_false (h1 i h0 h2))
    rw [decide_eq_false hm]; rfl

theorem area_ev (x : S27) (a : Int) (hl : x.f5.length ≤ 9223372036854775807) : Ev (fun k => product_Area.f k x.f0 x.f1 x.f2 x.f3 x.f4 x.f5 x.f6 x.f7.f0 x.f7.f1 x.f8 a) (decide (a ∈ x.f5)) := by
  obtain ⟨r, hr, h⟩ := index_ev x.f5 a hl
  unfold product_Area.f slices_Contains_int_int.f
  refine Ev.bind (f := fun _ t => some t) (a := decide (a ∈ x.f5)) (Ev.bind (f := fun _ t => some (decide (t ≥ 0))) hr ?_) (Ev.now _)
  rw [h]
  exact Ev.now _

theorem area_ref_ev (x : S27) (a : Int) (hl : x.f5.length ≤ 9223372036854775807) : Ev (fun k => skiarearef22_Area.f k x.f0 x.f1 x.f2 x.f3 x.f4 x.f5 x.f6 x.f7.f0 x.f7.f1 x.f8 a) (decide (a ∈ x.f5)) := by
  obtain ⟨r, hr, h⟩ := Ev_first (fun k i => skiarearef22_Area.l0 k a i x.f0 x.f1 x.f2 x.f3 x.f4 x.f5 x.f6 x.f7.f0 x.f7.f1 x.f8) x.f5.length (fun i => decide (rd x.f5 i = a)) (fun _ => true) false
    (fun k i h0 h1 h2 => by simp only [skiarearef22_Area.l0]; rw [if_pos h1, if_pos h0, if_pos (of_decide_eq_true h2)])
    (fun k i h0 h1 h2 => by simp only [skiarearef22_Area.l0]; rw [if_pos h1, if_pos h0, if_neg (of_decide_eq_false h2), wrap_id (by omega) (by omega)])
    (fun k => by simp only [skiarearef22_Area.l0]; rw [if_neg (by omega)])
  have e : r = decide (a ∈ x.f5) := by
    rcases h with ⟨i, h0, h1, h2, rfl⟩ | ⟨h1, rfl⟩
    · rw [decide_eq_true ((rd_mem x.f5 a).1 ⟨i, h0, h1, of_decide_eq_true h2⟩)]
    · have hm : ¬ a ∈ x.f5 := fun hm => by
        obtain ⟨i, h0, h2, h3⟩ := (rd_mem x.f5 a).2 hm
        exact absurd h3 (of_decide_eq_false (h1 i h0 h2))
      rw [decide_eq_false hm]
  rw [← e]
  exact hr

/-! ### In, Open -/
theorem anyL_ev (p : S62 → Bool) (l : List S62) (hl : l.length ≤ 9223372036854775807) : ∃ b, Ev (fun k => anyL p k l 0) b := by
  obtain ⟨r, hr, _⟩ := Ev_first (fun k i => anyL p k l i) l.length (fun i => p (rd_T62 l i)) (fun _ => true) false
    (fun k i h0 h1 h2 => by simp only [anyL]; rw [if_pos h1, if_pos h0, if_pos h2])
    (fun k i h0 h1 h2 => by simp only [anyL]; rw [if_pos h1, if_pos h0, if_neg (by rw [h2]; simp), wrap_id (by omega) (by omega)])
    (fun k => by simp only [anyL]; rw [if_neg (by omega)])
  exact ⟨r, hr⟩

theorem in_l0_eq (a : Int) : ∀ (k : Nat) (l : List S62) (x : Int), clock_In.l0 k l a x = skiarearef02_In.l0 k l a x := by
  intro k
  induction k with
  | zero => intro l x; rfl
  | succ k ih => intro l x; simp only [clock_In.l0, skiarearef02_In.l0, ih]
theorem in_eq (k : Nat) (l : List S62) (a : Int) : clock_In.f k l a = skiarearef02_In.f k l a := by
  unfold clock_In.f skiarearef02_In.f
  simp only [in_l0_eq]

theorem in_ev (l : List S62) (t : Int) (hl : l.length ≤ 9223372036854775807) : ∃ b, Ev (fun k => clock_In.f k l t) b := by
  by_cases h : 0 ≤ t ∧ t ≤ 20000000
  · obtain ⟨b, hb⟩ := anyL_ev (inB (Int.tmod (wrap64 (Int.tdiv t 86400)) 7) (Int.tmod t 86400)) l hl
    refine ⟨b, Ev.congr (fun k => ?_) hb⟩
    have ht : skiarearef02_time.f t = some true := by unfold skiarearef02_time.f; rw [if_pos (by omega)]; simp [h.2]
    unfold clock_In.f
    rw [ht]
    simp only [Option.bind_some, if_true]
    exact in_loop t h.1 h.2 k l 0
  · refine ⟨false, Ev.congr (fun k => ?_) (Ev.now false)⟩
    have ht : skiarearef02_time.f t = some false := by
      unfold skiarearef02_time.f
      by_cases h1 : t ≥ 0
      · rw [if_pos h1]; simp; omega
      · rw [if_neg h1]
    unfold clock_In.f
    rw [ht]
    rfl

/-- Is the product open? -/
noncomputable def openB (x : S27) (t : Int) : Bool := open Classical in if h : ∃ b, Ev (fun k => product_Open.f k x.f0 x.f1 x.f2 x.f3 x.f4 x.f5 x.f6 x.f7.f0 x.f7.f1 x.f8 t) b then Classical.choose h else false
theorem open_ev (x : S27) (t : Int) (hl : x.f6.length ≤ 9223372036854775807) : Ev (fun k => product_Open.f k x.f0 x.f1 x.f2 x.f3 x.f4 x.f5 x.f6 x.f7.f0 x.f7.f1 x.f8 t) (openB x t) := by
  have h : ∃ b, Ev (fun k => product_Open.f k x.f0 x.f1 x.f2 x.f3 x.f4 x.f5 x.f6 x.f7.f0 x.f7.f1 x.f8 t) b := by
    unfold product_Open.f
    by_cases h0 : (x.f6.length : Int) = 0
    · exact ⟨true, Ev.congr (fun k => if_pos h0) (Ev.now true)⟩
    · obtain ⟨b, hb⟩ := in_ev x.f6 t hl
      exact ⟨b, Ev.congr (fun k => if_neg h0) (Ev.bind (f := fun _ t => some t) hb (Ev.now _))⟩
  unfold openB
  rw [dif_pos h]
  exact Classical.choose_spec h
theorem open_eq (k : Nat) (x : S27) (t : Int) : skiarearef22_Open.f k x.f0 x.f1 x.f2 x.f3 x.f4 x.f5 x.f6 x.f7.f0 x.f7.f1 x.f8 t = product_Open.f k x.f0 x.f1 x.f2 x.f3 x.f4 x.f5 x.f6 x.f7.f0 x.f7.f1 x.f8 t := by
  unfold skiarearef22_Open.f product_Open.f
  simp only [in_eq]

/-! ### Day, used -/
def dayS (t : Int) : Int := if 0 ≤ t ∧ t ≤ 20000000 then t / 86400 else -1
theorem day_val (t : Int) : clock_Day.f t = some (dayS t) := by
  unfold clock_Day.f clock_isTime.f dayS
  by_cases h0 : 0 ≤ t
  · rw [if_pos (by omega)]
    by_cases h1 : t ≤ 20000000
    · rw [if_pos ⟨h0, h1⟩]
      simp only [Option.bind_some, decide_eq_true h1, if_true]
      rw [Int.tdiv_eq_ediv_of_nonneg h0, wrap_id (by omega) (by omega)]
    · rw [if_neg (by omega)]
      simp [h1]
  · rw [if_neg (by omega), if_neg (by omega)]
    rfl
theorem day_ref_val (t : Int) : skiarearef02_Day.f t = some (dayS t) := day_val t

def usedS (x : S27) (m : S30) (t : Int) : Bool :=
  if x.f1 = 0 then (if m.f3 = -1 then false else decide (t ≥ wrap64 (m.f3 + x.f2))) else if x.f1 = 1 then (if m.f4 = 0 then dayS t != m.f5 else false) else m.f4 == 0
theorem used_val (x : S27) (m : S30) (t : Int) : valid_used.f x.f0 x.f1 x.f2 x.f3 x.f4 x.f5 x.f6 x.f7.f0 x.f7.f1 x.f8 m.f0 m.f1 m.f2 m.f3 m.f4 m.f5 m.f6 m.f7 m.f8 t = some (usedS x m t) := by
  unfold valid_used.f usedS
  rw [day_val]
  simp only [Option.bind_some]
  split
  · split <;> rfl
  · split
    · split <;> rfl
    · rfl
theorem used_ref_val (x : S27) (m : S30) (t : Int) : skiarearef26_used.f x.f0 x.f1 x.f2 x.f3 x.f4 x.f5 x.f6 x.f7.f0 x.f7.f1 x.f8 m.f0 m.f1 m.f2 m.f3 m.f4 m.f5 m.f6 m.f7 m.f8 t = some (usedS x m t) := used_val x m t

/-! ### Why -/
noncomputable def whyS (x : S27) (m : S30) (o l t : Int) : Int :=
  if t < x.f7.f0 ∨ t ≥ x.f7.f1 then 4 else if ¬ o ∈ x.f5 then 5 else if openB x t = false then 6 else if usedS x m t = true then 7 else if t < m.f7 then 8 else if l = m.f6 ∧ t < wrap64 (m.f7 + 300) then 8 else 0

theorem why_j0 (x : S27) (m : S30) (o l t : Int) (b : Bool) (hb : b = decide (t < x.f7.f0 ∨ t ≥ x.f7.f1)) (h5 : x.f5.length ≤ 9223372036854775807) (h6 : x.f6.length ≤ 9223372036854775807) :
    Ev (fun k => valid_Why.j0 k o l t b x.f0 x.f1 x.f2 x.f3 x.f4 x.f5 x.f6 x.f7.f0 x.f7.f1 x.f8 m.f0 m.f1 m.f2 m.f3 m.f4 m.f5 m.f6 m.f7 m.f8) (whyS x m o l t) := by
  refine Ev.step (fun k => by simp only [valid_Why.j0]; rfl) ?_
  cases b with
  | true =>
    have h0 := of_decide_eq_true hb.symm
    have e : whyS x m o l t = 4 := by unfold whyS; rw [if_pos h0]
    rw [e]
    exact Ev.congr (fun k => if_pos rfl) (Ev.now _)
  | false =>
    have h0 := of_decide_eq_false hb.symm
    refine Ev.congr (fun k => if_neg (by simp)) ?_
    refine Ev.bind (area_ev x o h5) ?_
    by_cases ho : o ∈ x.f5
    · refine Ev.congr (fun k => if_pos (decide_eq_true ho)) ?_
      have ho2 : ¬ ¬ o ∈ x.f5 := fun h => h ho
      refine Ev.bind (open_ev x t h6) ?_
      by_cases hop : openB x t = true
      · refine Ev.congr (fun k => if_pos hop) ?_
        have hop2 : ¬ openB x t = false := by simp [hop]
        refine Ev.congr (fun k => by rw [used_val]) ?_
        by_cases hu : usedS x m t = true
        · have e : whyS x m o l t = 7 := by unfold whyS; rw [if_neg h0, if_neg ho2, if_neg hop2, if_pos hu]
          rw [e]
          exact Ev.congr (fun k => if_pos hu) (Ev.now _)
        · refine Ev.congr (fun k => if_neg hu) ?_
          by_cases h7 : t < m.f7
          · have e : whyS x m o l t = 8 := by unfold whyS; rw [if_neg h0, if_neg ho2, if_neg hop2, if_neg hu, if_pos h7]
            rw [e]
            exact Ev.congr (fun k => if_pos h7) (Ev.now _)
          · refine Ev.congr (fun k => if_neg h7) ?_
            by_cases hl : l = m.f6
            · refine Ev.congr (fun k => if_pos hl) ?_
              by_cases h8 : t < wrap64 (m.f7 + 300)
              · have e : whyS x m o l t = 8 := by unfold whyS; rw [if_neg h0, if_neg ho2, if_neg hop2, if_neg hu, if_neg h7, if_pos ⟨hl, h8⟩]
                rw [e]
                exact Ev.congr (fun k => if_pos h8) (Ev.now _)
              · have e : whyS x m o l t = 0 := by unfold whyS; rw [if_neg h0, if_neg ho2, if_neg hop2, if_neg hu, if_neg h7, if_neg (fun h => h8 h.2)]
                rw [e]
                exact Ev.congr (fun k => if_neg h8) (Ev.now _)
            · have e : whyS x m o l t = 0 := by unfold whyS; rw [if_neg h0, if_neg ho2, if_neg hop2, if_neg hu, if_neg h7, if_neg (fun h => hl h.1)]
              rw [e]
              exact Ev.congr (fun k => if_neg hl) (Ev.now _)
      · have hop2 : openB x t = false := Bool.eq_false_iff.mpr hop
        have e : whyS x m o l t = 6 := by unfold whyS; rw [if_neg h0, if_neg ho2, if_pos hop2]
        rw [e]
        exact Ev.congr (fun k => if_neg hop) (Ev.now _)
    · have e : whyS x m o l t = 5 := by unfold whyS; rw [if_neg h0, if_pos ho]
      rw [e]
      exact Ev.congr (fun k => if_neg (by simp [ho])) (Ev.now _)

theorem why_ev (x : S27) (m : S30) (o l t : Int) (h5 : x.f5.length ≤ 9223372036854775807) (h6 : x.f6.length ≤ 9223372036854775807) :
    Ev (fun k => valid_Why.f k x.f0 x.f1 x.f2 x.f3 x.f4 x.f5 x.f6 x.f7.f0 x.f7.f1 x.f8 m.f0 m.f1 m.f2 m.f3 m.f4 m.f5 m.f6 m.f7 m.f8 o l t) (whyS x m o l t) := by
  unfold valid_Why.f
  by_cases h : t < x.f7.f0
  · exact Ev.congr (fun k => if_pos h) (why_j0 x m o l t true (by simp [h]) h5 h6)
  · exact Ev.congr (fun k => if_neg h) (why_j0 x m o l t _ (by simp [h]) h5 h6)

/-- The reference's Why goes the very same ways. -/
theorem area_eq_ev (x : S27) (a : Int) (hl : x.f5.length ≤ 9223372036854775807) : ∃ K, ∀ k, K ≤ k → skiarearef22_Area.f k x.f0 x.f1 x.f2 x.f3 x.f4 x.f5 x.f6 x.f7.f0 x.f7.f1 x.f8 a = product_Area.f k x.f0 x.f1 x.f2 x.f3 x.f4 x.f5 x.f6 x.f7.f0 x.f7.f1 x.f8 a := by
  obtain ⟨K, h⟩ := area_ev x a hl
  obtain ⟨K', h'⟩ := area_ref_ev x a hl
  exact ⟨max K K', fun k hk => (h' k (by omega)).trans (h k (by omega)).symm⟩
theorem why_ref_ev (x : S27) (m : S30) (o l t : Int) (h5 : x.f5.length ≤ 9223372036854775807) (h6 : x.f6.length ≤ 9223372036854775807) :
    Ev (fun k => skiarearef26_Why.f k x.f0 x.f1 x.f2 x.f3 x.f4 x.f5 x.f6 x.f7.f0 x.f7.f1 x.f8 m.f0 m.f1 m.f2 m.f3 m.f4 m.f5 m.f6 m.f7 m.f8 o l t) (whyS x m o l t) := by
  obtain ⟨K, hK⟩ := area_eq_ev x o h5
  obtain ⟨K', hK'⟩ := why_ev x m o l t h5 h6
  refine ⟨max (K + 1) K' + 1, fun k hk => ?_⟩
  obtain ⟨j, rfl⟩ : ∃ j, k = j + 1 := ⟨k - 1, by omega⟩
  have h := hK' (j + 1) (by omega)
  simp only [valid_Why.f, skiarearef26_Why.f, valid_Why.j0, skiarearef26_Why.j0, hK j (by omega), open_eq, used_val, used_ref_val] at h ⊢
  exact h

/-! ### What is defined -/
/-- The answer comes, and it is 0 only where F holds. -/
def Good (F : Prop) (g : Nat → Option Int) : Prop := ∃ t, Ev g t ∧ (t = 0 → F)
theorem Good.ite {F : Prop} {c : Prop} [Decidable c] {g1 g2 : Nat → Option Int} (h1 : c → Good F g1) (h2 : ¬ c → Good F g2) : Good F (fun k => if c then g1 k else g2 k) := by
  by_cases h : c
  · obtain ⟨t, ht, hf⟩ := h1 h
    exact ⟨t, Ev.congr (fun k => if_pos h) ht, hf⟩
  · obtain ⟨t, ht, hf⟩ := h2 h
    exact ⟨t, Ev.congr (fun k => if_neg h) ht, hf⟩
theorem Good.step {F : Prop} {g f : Nat → Option Int} (h : ∀ k, g (k + 1) = f k) (hf : Good F f) : Good F g := by
  obtain ⟨t, ht, hh⟩ := hf
  exact ⟨t, Ev.step h ht, hh⟩
theorem Good.no {F : Prop} {n : Int} (h : n ≠ 0) : Good F (fun _ => some n) := ⟨n, Ev.now n, fun e => absurd e h⟩
theorem Good.yes {F : Prop} (h : F) : Good F (fun _ => some 0) := ⟨0, Ev.now 0, fun _ => h⟩

structure PF (x : S27) : Prop where
  id : 1 ≤ x.f0 ∧ x.f0 ≤ 9999
  kind : x.f1 = 0 ∨ x.f1 = 1 ∨ x.f1 = 2
  units : 1 ≤ x.f2
  timed : x.f1 = 0 → x.f2 ≤ 604800
  other : x.f1 ≠ 0 → x.f2 ≤ 100
  season : 0 ≤ x.f7.f0 ∧ x.f7.f0 < x.f7.f1 ∧ x.f7.f1 ≤ 20000000

theorem right02_ev (l : List S62) (hl : l.length ≤ 9223372036854775807) : ∃ b, Ev (fun k => skiarearef02_Right.f k l) b := by
  unfold skiarearef02_Right.f
  by_cases h : (l.length : Int) > 16
  · exact ⟨false, Ev.congr (fun k => if_pos h) (Ev.now _)⟩
  · obtain ⟨r, hr, _⟩ := Ev_first (fun k i => skiarearef02_Right.l0 k l i) l.length (fun i => decide ((rd_T62 l i).f0 < 1 ∨ (rd_T62 l i).f0 > 127 ∨ (rd_T62 l i).f1 < 0 ∨ (rd_T62 l i).f1 ≥ (rd_T62 l i).f2 ∨ (rd_T62 l i).f2 > 86400)) (fun _ => false) true
      (fun k i h0 h1 h2 => by
        have h2 := of_decide_eq_true h2
        simp only [skiarearef02_Right.l0]
        rw [if_pos h1, if_pos h0]
        by_cases c1 : (rd_T62 l i).f0 < 1
        · rw [if_pos c1]
        rw [if_neg c1]
        by_cases c2 : (rd_T62 l i).f0 > 127
        · rw [if_pos c2]
        rw [if_neg c2]
        by_cases c3 : (rd_T62 l i).f1 < 0
        · rw [if_pos c3]
        rw [if_neg c3]
        by_cases c4 : (rd_T62 l i).f1 ≥ (rd_T62 l i).f2
        · rw [if_pos c4]
        rw [if_neg c4, if_pos (by omega)])
      (fun k i h0 h1 h2 => by
        have h2 := of_decide_eq_false h2
        simp only [skiarearef02_Right.l0]
        rw [if_pos h1, if_pos h0, if_neg (by omega), if_neg (by omega), if_neg (by omega), if_neg (by omega), if_neg (by omega), wrap_id (by omega) (by omega)])
      (fun k => by simp only [skiarearef02_Right.l0]; rw [if_neg (by omega)])
    exact ⟨r, Ev.congr (fun k => if_neg h) hr⟩

theorem one_l1 (x : S27) (hl : x.f5.length ≤ 9223372036854775807) (hF : PF x) : Good (PF x) (fun k => skiarearef22_one.l1 k 0 x.f0 x.f1 x.f2 x.f3 x.f4 x.f5 x.f6 x.f7.f0 x.f7.f1 x.f8) := by
  obtain ⟨r, hr, h⟩ := Ev_first (fun k i => skiarearef22_one.l1 k i x.f0 x.f1 x.f2 x.f3 x.f4 x.f5 x.f6 x.f7.f0 x.f7.f1 x.f8) x.f5.length (fun i => decide (rd x.f5 i < 1 ∨ rd x.f5 i > 8 ∨ (i > 0 ∧ rd x.f5 i ≤ rd x.f5 (i - 1)))) (fun _ => (1 : Int)) 0
    (fun k i h0 h1 h2 => by
      have h2 := of_decide_eq_true h2
      simp only [skiarearef22_one.l1]
      rw [if_pos h1, if_pos h0]
      by_cases c1 : rd x.f5 i < 1
      · rw [if_pos c1]
      rw [if_neg c1]
      by_cases c2 : rd x.f5 i > 8
      · rw [if_pos c2]
      rw [if_neg c2, if_pos (by omega), wrap_id (i := i - 1) (by omega) (by omega), if_pos (by omega), if_pos (by omega), if_pos (by omega)])
    (fun k i h0 h1 h2 => by
      have h2 := of_decide_eq_false h2
      simp only [skiarearef22_one.l1]
      rw [if_pos h1, if_pos h0, if_neg (by omega), if_neg (by omega), wrap_id (i := i + 1) (by omega) (by omega)]
      by_cases c3 : i > 0
      · rw [if_pos c3, wrap_id (i := i - 1) (by omega) (by omega), if_pos (by omega), if_pos (by omega), if_neg (by omega)]
      · rw [if_neg c3])
    (fun k => by simp only [skiarearef22_one.l1]; rw [if_neg (by omega)])
  exact ⟨r, hr, fun _ => hF⟩

theorem one_j3 (x : S27) (hl : x.f5.length ≤ 9223372036854775807) (b : Bool) (hF : b = false → PF x) : Good (PF x) (fun k => skiarearef22_one.j3 k b x.f0 x.f1 x.f2 x.f3 x.f4 x.f5 x.f6 x.f7.f0 x.f7.f1 x.f8) := by
  refine Good.step (fun k => by simp only [skiarearef22_one.j3]; rfl) ?_
  refine Good.ite (fun h => Good.no (by decide)) (fun h => one_l1 x hl (hF (Bool.eq_false_iff.mpr h)))

theorem one_l0 (x : S27) (h5 : x.f5.length ≤ 9223372036854775807) (h6 : x.f6.length ≤ 9223372036854775807) (hF : (0 ≤ x.f7.f0 ∧ x.f7.f0 < x.f7.f1 ∧ x.f7.f1 ≤ 20000000) → PF x) : Good (PF x) (fun k => skiarearef22_one.l0 k [] 0 x.f0 x.f1 x.f2 x.f3 x.f4 x.f5 x.f6 x.f7.f0 x.f7.f1 x.f8) := by
  refine Good.step (fun k => by simp only [skiarearef22_one.l0]; rfl) ?_
  refine Good.ite (fun h => absurd h (by simp)) (fun _ => ?_)
  refine Good.ite (fun h => Good.no (by decide)) (fun _ => ?_)
  refine Good.ite (fun h => one_j3 x h5 true (by simp)) (fun _ => ?_)
  obtain ⟨b, hb⟩ := right02_ev x.f6 h6
  cases b with
  | false =>
    obtain ⟨t, ht, hf⟩ := one_j3 x h5 true (by simp)
    exact ⟨t, Ev.bind hb (Ev.congr (fun k => if_neg (by simp)) ht), hf⟩
  | true =>
    obtain ⟨t, ht, hf⟩ : Good (PF x) (fun k => if x.f7.f0 < 0 then skiarearef22_one.j3 k true x.f0 x.f1 x.f2 x.f3 x.f4 x.f5 x.f6 x.f7.f0 x.f7.f1 x.f8 else if x.f7.f0 ≥ x.f7.f1 then skiarearef22_one.j3 k true x.f0 x.f1 x.f2 x.f3 x.f4 x.f5 x.f6 x.f7.f0 x.f7.f1 x.f8 else skiarearef22_one.j3 k (decide (x.f7.f1 > 20000000)) x.f0 x.f1 x.f2 x.f3 x.f4 x.f5 x.f6 x.f7.f0 x.f7.f1 x.f8) :=
      Good.ite (fun h => one_j3 x h5 true (by simp)) (fun h1 => Good.ite (fun h => one_j3 x h5 true (by simp)) (fun h2 => one_j3 x h5 _ (fun h3 => hF (by have h3 := of_decide_eq_false h3; omega))))
    exact ⟨t, Ev.bind hb (Ev.congr (fun k => if_pos rfl) ht), hf⟩

theorem one_j1 (x : S27) (h5 : x.f5.length ≤ 9223372036854775807) (h6 : x.f6.length ≤ 9223372036854775807) (b : Bool) (hF : b = false → (0 ≤ x.f7.f0 ∧ x.f7.f0 < x.f7.f1 ∧ x.f7.f1 ≤ 20000000) → PF x) : Good (PF x) (fun k => skiarearef22_one.j1 k [] b x.f0 x.f1 x.f2 x.f3 x.f4 x.f5 x.f6 x.f7.f0 x.f7.f1 x.f8) := by
  refine Good.step (fun k => by simp only [skiarearef22_one.j1]; rfl) ?_
  exact Good.ite (fun h => Good.no (by decide)) (fun h => one_l0 x h5 h6 (hF (Bool.eq_false_iff.mpr h)))

theorem one_j0 (x : S27) (h5 : x.f5.length ≤ 9223372036854775807) (h6 : x.f6.length ≤ 9223372036854775807) (u : Int) (hu : (x.f1 = 0 ∧ u = 604800) ∨ (x.f1 ≠ 0 ∧ u = 100)) : Good (PF x) (fun k => skiarearef22_one.j0 k [] u x.f0 x.f1 x.f2 x.f3 x.f4 x.f5 x.f6 x.f7.f0 x.f7.f1 x.f8) := by
  refine Good.step (fun k => by simp only [skiarearef22_one.j0]; rfl) ?_
  repeat' first
    | exact one_j1 x h5 h6 true (by simp)
    | exact one_j1 x h5 h6 _ (fun h s => by have h := of_decide_eq_false h; exact ⟨by omega, by omega, by omega, by omega, by omega, s⟩)
    | refine Good.ite (fun _ => ?_) (fun _ => ?_)

theorem one_good (x : S27) (h5 : x.f5.length ≤ 9223372036854775807) (h6 : x.f6.length ≤ 9223372036854775807) : Good (PF x) (fun k => skiarearef22_one.f k x.f0 x.f1 x.f2 x.f3 x.f4 x.f5 x.f6 x.f7.f0 x.f7.f1 x.f8 []) := by
  unfold skiarearef22_one.f
  exact Good.ite (fun h => one_j0 x h5 h6 _ (.inl ⟨h, rfl⟩)) (fun h => one_j0 x h5 h6 _ (.inr ⟨h, rfl⟩))

structure MF (m : S30) : Prop where
  serial : 1 ≤ m.f0 ∧ m.f0 ≤ 9999
  counter : 0 ≤ m.f1 ∧ m.f1 ≤ 1000000
  product : 1 ≤ m.f2 ∧ m.f2 ≤ 9999
  first : -1 ≤ m.f3 ∧ m.f3 ≤ 20000000
  left : 0 ≤ m.f4 ∧ m.f4 ≤ 100
  today : -1 ≤ m.f5 ∧ m.f5 ≤ 231
  lift : 0 ≤ m.f6 ∧ m.f6 ≤ 9999
  at_ : -1 ≤ m.f7 ∧ m.f7 ≤ 20000000
  s1 : m.f3 = -1 → m.f7 = -1
  s2 : m.f7 = -1 → m.f6 = 0 ∧ m.f5 = -1
  s3 : m.f3 ≤ m.f7

theorem r25_j0 (m : S30) (b : Bool) (hF : b = false → (m.f3 = -1 → m.f7 = -1) → (m.f7 = -1 → m.f6 = 0 ∧ m.f5 = -1) → m.f3 ≤ m.f7 → MF m) : Good (MF m) (fun k => skiarearef25_Right.j0 k b m.f0 m.f1 m.f2 m.f3 m.f4 m.f5 m.f6 m.f7 m.f8) := by
  refine Good.step (fun k => by simp only [skiarearef25_Right.j0]; rfl) ?_
  refine Good.ite (fun h => Good.no (by decide)) (fun h => ?_)
  have hF := hF (Bool.eq_false_iff.mpr h)
  repeat' first
    | exact Good.no (by decide)
    | exact Good.yes (hF (by omega) (by omega) (by omega))
    | refine Good.ite (fun _ => ?_) (fun _ => ?_)

theorem r25_good (m : S30) : Good (MF m) (fun k => skiarearef25_Right.f k m.f0 m.f1 m.f2 m.f3 m.f4 m.f5 m.f6 m.f7 m.f8) := by
  unfold skiarearef25_Right.f
  repeat' first
    | exact r25_j0 m true (by simp)
    | exact r25_j0 m _ (fun h s1 s2 s3 => by have h := of_decide_eq_false h; exact ⟨by omega, by omega, by omega, by omega, by omega, by omega, by omega, by omega, s1, s2, s3⟩)
    | refine Good.ite (fun _ => ?_) (fun _ => ?_)

theorem defined_ev (x : S27) (m : S30) (hx : p27 x) : ∃ b : Bool, Ev (fun k => skiarealaw26_defined.f k x.f0 x.f1 x.f2 x.f3 x.f4 x.f5 x.f6 x.f7.f0 x.f7.f1 x.f8 m.f0 m.f1 m.f2 m.f3 m.f4 m.f5 m.f6 m.f7 m.f8) b ∧ (b = true → PF x ∧ MF m) := by
  obtain ⟨t, ht, hF⟩ := one_good x hx.2.2.2.2.2.1.1 hx.2.2.2.2.2.2.1.1
  obtain ⟨u, hu, hG⟩ := r25_good m
  unfold skiarealaw26_defined.f
  by_cases e : t = 0
  · exact ⟨u == 0, Ev.bind ht (Ev.congr (fun k => if_pos e) (Ev.bind (f := fun _ t => some (t == 0)) hu (Ev.now _))), fun h => ⟨hF e, hG (by simpa using h)⟩⟩
  · exact ⟨false, Ev.bind ht (Ev.congr (fun k => if_neg e) (Ev.now _)), fun h => by simp at h⟩

theorem alive_val : skiarealaw26_alive.f = some true := by decide +kernel
end Go.Proofs.Ytkojejcjfbeedaa.Q
