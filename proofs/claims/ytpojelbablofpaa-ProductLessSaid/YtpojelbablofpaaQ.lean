/- By hand, plain: what the functions of this seat compute, from some number of rounds on. -/
import Derived.Test.YtpojelbablofpaaR
import Derived.Test.YtpojelbablofpaaF10
import Derived.Test.YtpojelbablofpaaF11
import Derived.Test.YtpojelbablofpaaF14
import Derived.Test.YtpojelbablofpaaF15
import Derived.Test.YtpojelbablofpaaF16
import Derived.Test.YtpojelbablofpaaF17
import Derived.Test.YtpojelbablofpaaF18
import Derived.Test.YtpojelbablofpaaF19
import Derived.Test.YtpojelbablofpaaF20
import Derived.Test.YtpojelbablofpaaF21
import Derived.Test.YtpojelbablofpaaF22
import Derived.Test.YtpojelbablofpaaF23
import Derived.Test.YtpojelbablofpaaF25
namespace Go.Proofs.Ytpojelbablofpaa.Q
open Go.RowKit Go.Proofs.YtpojelbablofpaaW.PrintWords Go.Proofs.YtpojelbablofpaaW.PrintLast Go.Proofs.Ytpojelbablofpaa.P Go.Proofs.Ytpojelbablofpaa.O Go.Proofs.Ytpojelbablofpaa.R
set_option linter.unusedVariables false

theorem wrap_id {i : Int} (h0 : -9223372036854775808 ≤ i) (h1 : i ≤ 9223372036854775807) : wrap64 i = i := by unfold wrap64; omega

/-- A loop that goes on to the first hit. -/
theorem Ev_first {β : Type} (g : Nat → Int → Option β) (n : Nat) (p : Int → Bool) (yes : Int → β) (no : β)
    (h1 : ∀ k i, 0 ≤ i → i < (n : Int) → p i = true → g (k + 1) i = some (yes i))
    (h2 : ∀ k i, 0 ≤ i → i < (n : Int) → p i = false → g (k + 1) i = g k (i + 1))
    (h3 : ∀ k, g (k + 1) n = some no) :
    ∃ r, Ev (fun k => g k 0) r ∧ ((∃ i, 0 ≤ i ∧ i < (n : Int) ∧ p i = true ∧ (∀ j, 0 ≤ j → j < i → p j = false) ∧ r = yes i) ∨ ((∀ i, 0 ≤ i → i < (n : Int) → p i = false) ∧ r = no)) := by
  have main : ∀ (d : Nat) (i : Int), 0 ≤ i → i ≤ n → (n : Int) - i = d → (∀ j, 0 ≤ j → j < i → p j = false) →
      ∃ r, Ev (fun k => g k i) r ∧ ((∃ i, 0 ≤ i ∧ i < (n : Int) ∧ p i = true ∧ (∀ j, 0 ≤ j → j < i → p j = false) ∧ r = yes i) ∨ ((∀ i, 0 ≤ i → i < (n : Int) → p i = false) ∧ r = no)) := by
    intro d
    induction d with
    | zero =>
      intro i h0 hi hd hp
      obtain rfl : i = (n : Int) := by omega
      exact ⟨no, Ev.step (f := fun _ => some no) h3 (Ev.now _), .inr ⟨fun j hj0 hj => hp j hj0 hj, rfl⟩⟩
    | succ d ih =>
      intro i h0 hi hd hp
      have hlt : i < (n : Int) := by omega
      cases e : p i with
      | true => exact ⟨yes i, Ev.step (f := fun _ => some (yes i)) (fun k => h1 k i h0 hlt e) (Ev.now _), .inl ⟨i, h0, hlt, e, hp, rfl⟩⟩
      | false =>
        obtain ⟨r, hr, h⟩ := ih (i + 1) (by omega) (by omega) (by omega) (fun j hj0 hj => by
          by_cases ej : j = i
          · rw [ej]; exact e
          · exact hp j hj0 (by omega))
        exact ⟨r, Ev.step (f := fun k => g k (i + 1)) (fun k => h2 k i h0 hlt e) hr, h⟩
  exact main n 0 (Int.le_refl _) (Int.natCast_nonneg _) (by omega) (fun j h0 h => by omega)

theorem rd_mem (l : List Int) (a : Int) : (∃ i, 0 ≤ i ∧ i < (l.length : Int) ∧ rd l i = a) ↔ a ∈ l := by
  constructor
  · rintro ⟨i, h0, h1, h2⟩
    have hl : i.toNat < l.length := by omega
    have e : rd l i = l[i.toNat] := by unfold rd; simp [List.getD, List.getElem?_eq_getElem hl]
    rw [← h2, e]
    exact List.getElem_mem hl
  · intro h
    obtain ⟨j, hj, e⟩ := List.getElem_of_mem h
    refine ⟨(j : Int), Int.natCast_nonneg _, by omega, ?_⟩
    unfold rd
    simp [List.getD, List.getElem?_eq_getElem hj, e]

/-! ### Area -/
theorem index_ev (l : List Int) (a : Int) (hl : l.length ≤ 9223372036854775807) : ∃ r : Int, Ev (fun k => slices_Index_int_int.f k l a) r ∧ (decide (r ≥ 0) = decide (a ∈ l)) := by
  obtain ⟨r, hr, h⟩ := Ev_first (fun k i => slices_Index_int_int.l0 k l a (l.length : Int) i) l.length (fun i => decide (rd l i = a)) (fun i => i) (-1)
    (fun k i h0 h1 h2 => by simp only [slices_Index_int_int.l0]; rw [if_pos h1, if_pos h0, if_pos h1, if_pos (of_decide_eq_true h2).symm])
    (fun k i h0 h1 h2 => by simp only [slices_Index_int_int.l0]; rw [if_pos h1, if_pos h0, if_pos h1, if_neg (fun e => of_decide_eq_false h2 e.symm), wrap_id (by omega) (by omega)])
    (fun k => by simp only [slices_Index_int_int.l0]; rw [if_neg (by omega)])
  refine ⟨r, hr, ?_⟩
  rcases h with ⟨i, h0, h1, h2, _, rfl⟩ | ⟨h1, rfl⟩
  · have hm := (rd_mem l a).1 ⟨r, h0, h1, of_decide_eq_true h2⟩
    rw [decide_eq_true hm, decide_eq_true h0]
  · have hm : ¬ a ∈ l := fun hm => by
      obtain ⟨i, h0, h2, h3⟩ := (rd_mem l a).2 hm
      exact absurd h3 (of_decide_eq_false (h1 i h0 h2))
    rw [decide_eq_false hm]; rfl

theorem area_ev (x : S32) (a : Int) (hl : x.f5.length ≤ 9223372036854775807) : Ev (fun k => product_Area.f k x.f0 x.f1 x.f2 x.f3 x.f4 x.f5 x.f6 x.f7.f0 x.f7.f1 x.f8 a) (decide (a ∈ x.f5)) := by
  obtain ⟨r, hr, h⟩ := index_ev x.f5 a hl
  unfold product_Area.f slices_Contains_int_int.f
  refine Ev.bind (f := fun _ t => some t) (a := decide (a ∈ x.f5)) (Ev.bind (f := fun _ t => some (decide (t ≥ 0))) hr ?_) (Ev.now _)
  rw [h]
  exact Ev.now _

theorem area_ref_ev (x : S32) (a : Int) (hl : x.f5.length ≤ 9223372036854775807) : Ev (fun k => skiarearef22_Area.f k x.f0 x.f1 x.f2 x.f3 x.f4 x.f5 x.f6 x.f7.f0 x.f7.f1 x.f8 a) (decide (a ∈ x.f5)) := by
  obtain ⟨r, hr, h⟩ := Ev_first (fun k i => skiarearef22_Area.l0 k a i x.f0 x.f1 x.f2 x.f3 x.f4 x.f5 x.f6 x.f7.f0 x.f7.f1 x.f8) x.f5.length (fun i => decide (rd x.f5 i = a)) (fun _ => true) false
    (fun k i h0 h1 h2 => by simp only [skiarearef22_Area.l0]; rw [if_pos h1, if_pos h0, if_pos (of_decide_eq_true h2)])
    (fun k i h0 h1 h2 => by simp only [skiarearef22_Area.l0]; rw [if_pos h1, if_pos h0, if_neg (of_decide_eq_false h2), wrap_id (by omega) (by omega)])
    (fun k => by simp only [skiarearef22_Area.l0]; rw [if_neg (by omega)])
  have e : r = decide (a ∈ x.f5) := by
    rcases h with ⟨i, h0, h1, h2, _, rfl⟩ | ⟨h1, rfl⟩
    · rw [decide_eq_true ((rd_mem x.f5 a).1 ⟨i, h0, h1, of_decide_eq_true h2⟩)]
    · have hm : ¬ a ∈ x.f5 := fun hm => by
        obtain ⟨i, h0, h2, h3⟩ := (rd_mem x.f5 a).2 hm
        exact absurd h3 (of_decide_eq_false (h1 i h0 h2))
      rw [decide_eq_false hm]
  rw [← e]
  exact hr

/-! ### In, Open -/
theorem anyL_ev (p : S52 → Bool) (l : List S52) (hl : l.length ≤ 9223372036854775807) : ∃ b, Ev (fun k => anyL p k l 0) b := by
  obtain ⟨r, hr, _⟩ := Ev_first (fun k i => anyL p k l i) l.length (fun i => p (rd_T52 l i)) (fun _ => true) false
    (fun k i h0 h1 h2 => by simp only [anyL]; rw [if_pos h1, if_pos h0, if_pos h2])
    (fun k i h0 h1 h2 => by simp only [anyL]; rw [if_pos h1, if_pos h0, if_neg (by rw [h2]; simp), wrap_id (by omega) (by omega)])
    (fun k => by simp only [anyL]; rw [if_neg (by omega)])
  exact ⟨r, hr⟩

theorem in_l0_eq (a : Int) : ∀ (k : Nat) (l : List S52) (x : Int), clock_In.l0 k l a x = skiarearef02_In.l0 k l a x := by
  intro k
  induction k with
  | zero => intro l x; rfl
  | succ k ih => intro l x; simp only [clock_In.l0, skiarearef02_In.l0, ih]
theorem in_eq (k : Nat) (l : List S52) (a : Int) : clock_In.f k l a = skiarearef02_In.f k l a := by
  unfold clock_In.f skiarearef02_In.f
  simp only [in_l0_eq]

theorem in_ev (l : List S52) (t : Int) (hl : l.length ≤ 9223372036854775807) : ∃ b, Ev (fun k => clock_In.f k l t) b := by
  by_cases h : 0 ≤ t ∧ t ≤ 20000000
  · obtain ⟨b, hb⟩ := anyL_ev (inB (Int.tmod (wrap64 (Int.tdiv t 86400)) 7) (Int.tmod t 86400)) l hl
    refine ⟨b, Ev.congr (fun k => ?_) hb⟩
    have ht : skiarearef02_time.f t = some true := by unfold skiarearef02_time.f; rw [if_pos (by omega)]; simp [h.2]
    unfold clock_In.f
    rw [ht]
    simp only [Option.bind_some, if_true]
    exact in_loop t h.1 h.2 k l 0
  · refine ⟨false, Ev.congr (fun k => ?_) (Ev.now false)⟩
    have ht : skiarearef02_time.f t = some false := by
      unfold skiarearef02_time.f
      by_cases h1 : t ≥ 0
      · rw [if_pos h1]; simp; omega
      · rw [if_neg h1]
    unfold clock_In.f
    rw [ht]
    rfl

/-- Is the product open? -/
noncomputable def openB (x : S32) (t : Int) : Bool := open Classical in if h : ∃ b, Ev (fun k => product_Open.f k x.f0 x.f1 x.f2 x.f3 x.f4 x.f5 x.f6 x.f7.f0 x.f7.f1 x.f8 t) b then Classical.choose h else false
theorem open_ev (x : S32) (t : Int) (hl : x.f6.length ≤ 9223372036854775807) : Ev (fun k => product_Open.f k x.f0 x.f1 x.f2 x.f3 x.f4 x.f5 x.f6 x.f7.f0 x.f7.f1 x.f8 t) (openB x t) := by
  have h : ∃ b, Ev (fun k => product_Open.f k x.f0 x.f1 x.f2 x.f3 x.f4 x.f5 x.f6 x.f7.f0 x.f7.f1 x.f8 t) b := by
    unfold product_Open.f
    by_cases h0 : (x.f6.length : Int) = 0
    · exact ⟨true, Ev.congr (fun k => if_pos h0) (Ev.now true)⟩
    · obtain ⟨b, hb⟩ := in_ev x.f6 t hl
      exact ⟨b, Ev.congr (fun k => if_neg h0) (Ev.bind (f := fun _ t => some t) hb (Ev.now _))⟩
  unfold openB
  rw [dif_pos h]
  exact Classical.choose_spec h
theorem open_eq (k : Nat) (x : S32) (t : Int) : skiarearef22_Open.f k x.f0 x.f1 x.f2 x.f3 x.f4 x.f5 x.f6 x.f7.f0 x.f7.f1 x.f8 t = product_Open.f k x.f0 x.f1 x.f2 x.f3 x.f4 x.f5 x.f6 x.f7.f0 x.f7.f1 x.f8 t := by
  unfold skiarearef22_Open.f product_Open.f
  simp only [in_eq]

theorem alive_val : skiarealaw22_alive.f = some true := rfl
theorem rd32_mem {l : List S32} {i : Int} (h0 : 0 ≤ i) (h1 : i < (l.length : Int)) : rd_T32 l i ∈ l := by
  have h2 : i.toNat < l.length := by omega
  have e : rd_T32 l i = l[i.toNat] := by simp [rd_T32, h2]
  rw [e]; exact List.getElem_mem h2
theorem rd32_nat {l : List S32} {x : Nat} (h : x < l.length) : rd_T32 l (x : Int) = l[x] := by simp [rd_T32, h]

/-! ### small -/
def Small (l : List S32) : Prop := l.length ≤ 70 ∧ ∀ x ∈ l, x.f5.length ≤ 40 ∧ x.f6.length ≤ 40
theorem small_l0 (l : List S32) (hl : l.length ≤ 9223372036854775807) : ∀ (d : Nat) (i : Int), 0 ≤ i → i ≤ l.length → (l.length : Int) - i = d → i ≤ 71 → (∀ j, 0 ≤ j → j < i → (rd_T32 l j).f5.length ≤ 40 ∧ (rd_T32 l j).f6.length ≤ 40) →
    ∃ b, Ev (fun k => skiarealaw22_small.l0 k l i) b ∧ (b = true → l.length ≤ 70 ∧ ∀ j, 0 ≤ j → j < (l.length : Int) → (rd_T32 l j).f5.length ≤ 40 ∧ (rd_T32 l j).f6.length ≤ 40) := by
  intro d
  induction d with
  | zero =>
    intro i h0 hi hd h71 hp
    refine ⟨decide ((l.length : Int) ≤ 70), Ev.step (f := fun k => skiarealaw22_small.j1 k l i false) (fun k => by simp only [skiarealaw22_small.l0]; rw [if_neg (by omega)]) (Ev.step (f := fun _ => some (decide ((l.length : Int) ≤ 70))) (fun k => by simp [skiarealaw22_small.j1]) (Ev.now _)), fun h => ?_⟩
    have h := of_decide_eq_true h
    exact ⟨by omega, fun j j0 j1 => hp j j0 (by omega)⟩
  | succ d ih =>
    intro i h0 hi hd h71 hp
    have hlt : i < (l.length : Int) := by omega
    by_cases c : i < 71
    · have st : ∀ {b : Bool}, Ev (fun k => skiarealaw22_small.j1 k l i true) b → Ev (fun k => skiarealaw22_small.l0 k l i) b := fun h => Ev.step (fun k => by simp only [skiarealaw22_small.l0]; rw [if_pos hlt, decide_eq_true c]) h
      by_cases c5 : ((rd_T32 l i).f5.length : Int) > 40
      · exact ⟨false, st (Ev.step (f := fun _ => some false) (fun k => by simp only [skiarealaw22_small.j1]; rw [if_pos trivial, if_pos h0, if_pos hlt, if_pos c5]) (Ev.now _)), fun h => by cases h⟩
      by_cases c6 : ((rd_T32 l i).f6.length : Int) > 40
      · exact ⟨false, st (Ev.step (f := fun _ => some false) (fun k => by simp only [skiarealaw22_small.j1]; rw [if_pos trivial, if_pos h0, if_pos hlt, if_neg c5, if_pos c6]) (Ev.now _)), fun h => by cases h⟩
      obtain ⟨b, hb, hq⟩ := ih (i + 1) (by omega) (by omega) (by omega) (by omega) (fun j j0 j1 => by
        by_cases e : j = i
        · subst e; omega
        · exact hp j j0 (by omega))
      exact ⟨b, st (Ev.step (fun k => by simp only [skiarealaw22_small.j1]; rw [if_pos trivial, if_pos h0, if_pos hlt, if_neg c5, if_neg c6, wrap_id (i := i + 1) (by omega) (by omega)]) hb), hq⟩
    · refine ⟨decide ((l.length : Int) ≤ 70), Ev.step (f := fun k => skiarealaw22_small.j1 k l i false) (fun k => by simp only [skiarealaw22_small.l0]; rw [if_pos hlt, decide_eq_false c]) (Ev.step (f := fun _ => some (decide ((l.length : Int) ≤ 70))) (fun k => by simp [skiarealaw22_small.j1]) (Ev.now _)), fun h => ?_⟩
      have h := of_decide_eq_true h
      omega
theorem small_ev (l : List S32) (hl : l.length ≤ 9223372036854775807) : ∃ b, Ev (fun k => skiarealaw22_small.f k l) b ∧ (b = true → Small l) := by
  obtain ⟨b, hb, hq⟩ := small_l0 l hl l.length 0 (Int.le_refl _) (Int.natCast_nonneg _) (by omega) (by decide) (fun j j0 j1 => by omega)
  refine ⟨b, hb, fun e => ⟨(hq e).1, fun x hx => ?_⟩⟩
  obtain ⟨n, hn, rfl⟩ := List.getElem_of_mem hx
  have := (hq e).2 (n : Int) (Int.natCast_nonneg _) (by omega)
  rwa [rd32_nat hn] at this

/-! ### Age -/
def ageB (x : S32) (a : Int) : Bool := decide (x.f3 ≤ a) && decide (a ≤ x.f4)
theorem age_val (x : S32) (a : Int) : product_Age.f x.f0 x.f1 x.f2 x.f3 x.f4 x.f5 x.f6 x.f7.f0 x.f7.f1 x.f8 a = some (ageB x a) := by
  unfold product_Age.f product_within.f ageB
  by_cases h : a ≥ x.f3
  · rw [if_pos h, decide_eq_true h]; rfl
  · rw [if_neg h, decide_eq_false h]; rfl
theorem age_ref_val (x : S32) (a : Int) : skiarearef22_Age.f x.f0 x.f1 x.f2 x.f3 x.f4 x.f5 x.f6 x.f7.f0 x.f7.f1 x.f8 a = some (ageB x a) := by
  unfold skiarearef22_Age.f ageB
  by_cases h : a ≥ x.f3
  · rw [if_pos h, decide_eq_true h]; rfl
  · rw [if_neg h, decide_eq_false h]; rfl

/-! ### Find -/
theorem find_l0_eq (l : List S32) (a : Int) : ∀ (k : Nat) (i : Int), product_Find.l0 k a l (l.length : Int) i = skiarearef22_Find.l0 k l a i := by
  intro k
  induction k with
  | zero => intro i; rfl
  | succ k ih =>
    intro i
    simp only [product_Find.l0, skiarearef22_Find.l0, ih]
    by_cases c1 : i < (l.length : Int)
    · rw [if_pos c1, if_pos c1, if_pos c1]; rfl
    · rw [if_neg c1, if_neg c1]
theorem find_eq (k : Nat) (l : List S32) (a : Int) : product_Find.f k l a = skiarearef22_Find.f k l a := find_l0_eq l a k 0
def tupF (x : S32) (b : Bool) : Int × Int × Int × Int × Int × List Int × (List (S52)) × Int × Int × Int × Bool := (x.f0, x.f1, x.f2, x.f3, x.f4, x.f5, x.f6, x.f7.f0, x.f7.f1, x.f8, b)
theorem find_ev (l : List S32) (a : Int) (hl : l.length ≤ 9223372036854775807) (hs : ∀ x ∈ l, x.f5.length ≤ 40 ∧ x.f6.length ≤ 40) :
    ∃ r, Ev (fun k => product_Find.f k l a) r ∧ ((∃ i, 0 ≤ i ∧ i < (l.length : Int) ∧ (rd_T32 l i).f0 = a ∧ (∀ j, 0 ≤ j → j < i → (rd_T32 l j).f0 ≠ a) ∧ r = tupF (rd_T32 l i) true) ∨ ((∀ i, 0 ≤ i → i < (l.length : Int) → (rd_T32 l i).f0 ≠ a) ∧ r = tupF z32 false)) := by
  obtain ⟨r, hr, h⟩ := Ev_first (fun k i => product_Find.l0 k a l (l.length : Int) i) l.length (fun i => decide ((rd_T32 l i).f0 = a)) (fun i => tupF (rd_T32 l i) true) (tupF z32 false)
    (fun k i h0 h1 h2 => by
      have hm := hs _ (rd32_mem h0 h1)
      simp only [product_Find.l0]
      rw [if_pos h1, if_pos h0, if_pos h1, if_pos (of_decide_eq_true h2)]
      unfold product_copied.f
      rw [if_pos ⟨by omega, by omega⟩]
      rfl)
    (fun k i h0 h1 h2 => by simp only [product_Find.l0]; rw [if_pos h1, if_pos h0, if_pos h1, if_neg (of_decide_eq_false h2), wrap_id (by omega) (by omega)])
    (fun k => by simp only [product_Find.l0]; rw [if_neg (by omega)]; rfl)
  refine ⟨r, hr, ?_⟩
  rcases h with ⟨i, h0, h1, h2, h3, rfl⟩ | ⟨h1, rfl⟩
  · exact .inl ⟨i, h0, h1, of_decide_eq_true h2, fun j j0 j1 => of_decide_eq_false (h3 j j0 j1), rfl⟩
  · exact .inr ⟨fun i h0 h2 => of_decide_eq_false (h1 i h0 h2), rfl⟩

/-! ### SameInts, Same -/
theorem rd_ext {a b : List Int} (hl : a.length = b.length) (h : ∀ i, 0 ≤ i → i < (a.length : Int) → rd a i = rd b i) : a = b := by
  refine List.ext_getElem hl (fun n h1 h2 => ?_)
  have := h (n : Int) (Int.natCast_nonneg _) (by omega)
  unfold rd at this
  simpa [List.getD, List.getElem?_eq_getElem h1, List.getElem?_eq_getElem h2] using this
theorem sameInts_ev (a b : List Int) (ha : a.length ≤ 9223372036854775807) : Ev (fun k => skiarearef22_SameInts.f k a b) (decide (a = b)) := by
  unfold skiarearef22_SameInts.f
  by_cases c : (a.length : Int) = (b.length : Int)
  · refine Ev.congr (fun k => if_pos c) ?_
    obtain ⟨r, hr, h⟩ := Ev_first (fun k i => skiarearef22_SameInts.l0 k a b i) a.length (fun i => decide (rd a i ≠ rd b i)) (fun _ => false) true
      (fun k i h0 h1 h2 => by simp only [skiarearef22_SameInts.l0]; rw [if_pos h1, if_pos h0, if_pos (by omega), if_neg (of_decide_eq_true h2)])
      (fun k i h0 h1 h2 => by simp only [skiarearef22_SameInts.l0]; rw [if_pos h1, if_pos h0, if_pos (by omega), if_pos (by simpa using h2), wrap_id (by omega) (by omega)])
      (fun k => by simp only [skiarearef22_SameInts.l0]; rw [if_neg (by omega)])
    have e : r = decide (a = b) := by
      rcases h with ⟨i, h0, h1, h2, _, rfl⟩ | ⟨h1, rfl⟩
      · have h2 := of_decide_eq_true h2
        exact (decide_eq_false (fun e => h2 (by rw [e]))).symm
      · exact (decide_eq_true (rd_ext (by omega) (fun i i0 i1 => by simpa using h1 i i0 i1))).symm
    rw [← e]
    exact hr
  · rw [decide_eq_false (fun e => c (by rw [e]))]
    exact Ev.congr (fun k => if_neg c) (Ev.now _)
theorem same_refl_ev (x : S32) (h5 : x.f5.length ≤ 9223372036854775807) (h6 : x.f6.length ≤ 9223372036854775807) :
    Ev (fun k => skiarearef22_Same.f k x.f0 x.f1 x.f2 x.f3 x.f4 x.f5 x.f6 x.f7.f0 x.f7.f1 x.f8 x.f0 x.f1 x.f2 x.f3 x.f4 x.f5 x.f6 x.f7.f0 x.f7.f1 x.f8) true := by
  unfold skiarearef22_Same.f
  refine Ev.congr (fun k => by rw [if_pos rfl, if_pos rfl, if_pos rfl, if_pos rfl, if_pos rfl, if_neg (by simp), if_pos rfl]) ?_
  have hs := sameInts_ev x.f5 x.f5 h5
  rw [decide_eq_true rfl] at hs
  refine Ev.bind hs (Ev.congr (fun k => by rw [if_pos rfl]) ?_)
  refine Ev.step (f := fun k => skiarearef22_Same.l0 k 0 x.f0 x.f1 x.f2 x.f3 x.f4 x.f5 x.f6 x.f7.f0 x.f7.f1 x.f8 x.f0 x.f1 x.f2 x.f3 x.f4 x.f5 x.f6 x.f7.f0 x.f7.f1 x.f8) (fun k => by simp [skiarearef22_Same.j0]) ?_
  obtain ⟨r, hr, h⟩ := Ev_first (fun k i => skiarearef22_Same.l0 k i x.f0 x.f1 x.f2 x.f3 x.f4 x.f5 x.f6 x.f7.f0 x.f7.f1 x.f8 x.f0 x.f1 x.f2 x.f3 x.f4 x.f5 x.f6 x.f7.f0 x.f7.f1 x.f8) x.f6.length (fun _ => false) (fun _ => false) true
    (fun k i h0 h1 h2 => by cases h2)
    (fun k i h0 h1 h2 => by simp only [skiarearef22_Same.l0]; rw [if_pos h1, if_pos h0, if_pos h1, if_neg (by simp), wrap_id (by omega) (by omega)])
    (fun k => by simp only [skiarearef22_Same.l0]; rw [if_neg (by omega)])
  rcases h with ⟨i, h0, h1, h2, _, rfl⟩ | ⟨h1, rfl⟩
  · cases h2
  · exact hr

/-! ### For -/
theorem for_val (k : Nat) (l : List S32) (a : Int) (ops : List Int) (hl : l.length ≤ 70) (ho : ops.length ≤ 41) (hs : ∀ x ∈ l, x.f5.length ≤ 40 ∧ x.f6.length ≤ 40) : product_For.f k l a ops = some (forL l a ops) := by
  unfold product_For.f
  rw [if_pos ⟨by omega, by omega, List.all_eq_true.2 fun x hx => decide_eq_true (by have := hs x hx; omega)⟩]
theorem rd_take_succ (ops : List Int) {j : Int} (h0 : 0 ≤ j) (h1 : j < (ops.length : Int)) (p : Int → Bool) : (ops.take (j.toNat + 1)).all p = ((ops.take j.toNat).all p && p (rd ops j)) := by
  have h2 : j.toNat < ops.length := by omega
  have e : rd ops j = ops[j.toNat] := by unfold rd; simp [List.getD, List.getElem?_eq_getElem h2]
  rw [List.take_succ_eq_append_getElem h2, List.all_append, e]
  simp
/-- A loop that asks Area for each operator, while it is still wanted. -/
theorem all_loop {β : Type} (x : S32) (h5 : x.f5.length ≤ 9223372036854775807) (ops : List Int) (ho : ops.length ≤ 1000000) (g : Nat → Bool → Int → Option β) (area : Nat → Int → Option Bool) (harea : ∀ a, Ev (fun k => area k a) (decide (a ∈ x.f5)))
    (ht : ∀ k j, 0 ≤ j → j < (ops.length : Int) → g (k + 1) true j = (area k (rd ops j)).bind fun t => g k t (j + 1))
    (hf : ∀ k j, 0 ≤ j → j < (ops.length : Int) → g (k + 1) false j = g k false (j + 1)) :
    ∀ (d : Nat) (j : Int) (b : Bool) (r : β), 0 ≤ j → j ≤ ops.length → (ops.length : Int) - j = d → Ev (fun k => g k (b && (ops.drop j.toNat).all fun n => decide (n ∈ x.f5)) (ops.length : Int)) r → Ev (fun k => g k b j) r := by
  intro d
  induction d with
  | zero =>
    intro j b r j0 j1 hd hr
    obtain rfl : j = (ops.length : Int) := by omega
    rw [List.drop_of_length_le (by omega)] at hr
    simpa using hr
  | succ d ih =>
    intro j b r j0 j1 hd hr
    have hlt : j < (ops.length : Int) := by omega
    have h2 : j.toNat < ops.length := by omega
    have e : rd ops j = ops[j.toNat] := by unfold rd; simp [List.getD, List.getElem?_eq_getElem h2]
    have e2 : ops.drop j.toNat = rd ops j :: ops.drop (j + 1).toNat := by
      rw [e, List.drop_eq_getElem_cons h2, show (j + 1).toNat = j.toNat + 1 by omega]
    rw [e2, List.all_cons] at hr
    cases b with
    | false => exact Ev.step (fun k => hf k j j0 hlt) (ih (j + 1) false r (by omega) (by omega) (by omega) (by simpa using hr))
    | true =>
      refine Ev.step (fun k => ht k j j0 hlt) (Ev.bind (harea (rd ops j)) ?_)
      exact ih (j + 1) _ r (by omega) (by omega) (by omega) (by simpa using hr)
theorem for_ref_ev (l : List S32) (a : Int) (ops : List Int) (hl : l.length ≤ 70) (ho : ops.length ≤ 1000000) (hs : ∀ x ∈ l, x.f5.length ≤ 40 ∧ x.f6.length ≤ 40) : Ev (fun k => skiarearef22_For.f k l a ops) (forL l a ops) := by
  have main : ∀ (d x : Nat), x ≤ l.length → l.length - x = d → Ev (fun k => skiarearef22_For.l0 k l a ops (forL (l.take x) a ops) (x : Int)) (forL l a ops) := by
    intro d
    induction d with
    | zero =>
      intro x hx hd
      rw [List.take_of_length_le (by omega)]
      exact Ev.step (f := fun _ => some (forL l a ops)) (fun k => by simp only [skiarearef22_For.l0]; rw [if_neg (by omega)]) (Ev.now _)
    | succ d ih =>
      intro x hx hd
      have hlt : x < l.length := by omega
      have hm := hs _ (rd32_mem (l := l) (i := (x : Int)) (Int.natCast_nonneg _) (by omega))
      have ih := ih (x + 1) (by omega) (by omega)
      have hlen := forL_length (l.take x) a ops
      rw [List.length_take] at hlen
      rw [forL_take hlt, show ((x + 1 : Nat) : Int) = (x : Int) + 1 by omega] at ih
      refine Ev.step (fun k => by simp only [skiarearef22_For.l0]; rw [if_pos (by omega), if_pos (Int.natCast_nonneg _), age_ref_val, Option.bind_some]) ?_
      have hloop := all_loop (rd_T32 l (x : Int)) (by omega) ops ho (fun k b j => skiarearef22_For.l1 k l a ops (forL (l.take x) a ops) (x : Int) b j) (fun k n => skiarearef22_Area.f k (rd_T32 l (x : Int)).f0 (rd_T32 l (x : Int)).f1 (rd_T32 l (x : Int)).f2 (rd_T32 l (x : Int)).f3 (rd_T32 l (x : Int)).f4 (rd_T32 l (x : Int)).f5 (rd_T32 l (x : Int)).f6 (rd_T32 l (x : Int)).f7.f0 (rd_T32 l (x : Int)).f7.f1 (rd_T32 l (x : Int)).f8 n) (fun n => area_ref_ev _ n (by omega))
        (fun k j j0 j1 => by simp only [skiarearef22_For.l1]; rw [if_pos j1, if_pos trivial, if_pos (Int.natCast_nonneg _), if_pos (by omega), if_pos j0, wrap_id (i := j + 1) (by omega) (by omega)])
        (fun k j j0 j1 => by simp only [skiarearef22_For.l1]; rw [if_pos j1, if_neg Bool.false_ne_true, wrap_id (i := j + 1) (by omega) (by omega)])
        ops.length 0 (ageB (rd_T32 l (x : Int)) a) (forL l a ops) (Int.le_refl _) (Int.natCast_nonneg _) (by omega)
      refine hloop ?_
      have eb : (ageB (rd_T32 l (x : Int)) a && (ops.drop (0 : Int).toNat).all fun n => decide (n ∈ (rd_T32 l (x : Int)).f5)) = fitB (rd_T32 l (x : Int)) a ops := by
        simp [ageB, fitB]
      rw [eb]
      cases c : fitB (rd_T32 l (x : Int)) a ops with
      | true =>
        rw [c, if_pos rfl] at ih
        exact Ev.step (fun k => by simp only [skiarearef22_For.l1]; rw [if_neg (by omega), if_pos trivial, if_pos (Int.natCast_nonneg _), if_pos (by omega), if_pos (by omega), wrap_id (i := (x : Int) + 1) (by omega) (by omega)]) ih
      | false =>
        rw [c, if_neg Bool.false_ne_true, List.append_nil] at ih
        exact Ev.step (fun k => by simp only [skiarearef22_For.l1]; rw [if_neg (by omega), if_neg Bool.false_ne_true, wrap_id (i := (x : Int) + 1) (by omega) (by omega)]) ih
  have h := main l.length 0 (Nat.zero_le _) (by omega)
  simpa [forL, skiarearef22_For.f] using h
end Go.Proofs.Ytpojelbablofpaa.Q
