/- By hand, plain: what the functions of this seat compute, from some number of rounds on. -/
import Derived.Test.YtdahjnbfbcemeaaR
import Derived.Test.YtdahjnbfbcemeaaF10
import Derived.Test.YtdahjnbfbcemeaaF11
import Derived.Test.YtdahjnbfbcemeaaF21
namespace Go.Proofs.Ytdahjnbfbcemeaa.Q
open Go.RowKit Go.Proofs.YtdahjnbfbcemeaaW.PrintWords Go.Proofs.YtdahjnbfbcemeaaW.PrintLast Go.Proofs.Ytdahjnbfbcemeaa.P Go.Proofs.Ytdahjnbfbcemeaa.O Go.Proofs.Ytdahjnbfbcemeaa.R
set_option linter.unusedVariables false

theorem wrap_id {i : Int} (h0 : -9223372036854775808 ≤ i) (h1 : i ≤ 9223372036854775807) : wrap64 i = i := by unfold wrap64; omega

/-- A loop that goes on to the first hit. -/
theorem Ev_first {β : Type} (g : Nat → Int → Option β) (n : Nat) (p : Int → Bool) (yes : Int → β) (no : β)
    (h1 : ∀ k i, 0 ≤ i → i < (n : Int) → p i = true → g (k + 1) i = some (yes i))
    (h2 : ∀ k i, 0 ≤ i → i < (n : Int) → p i = false → g (k + 1) i = g k (i + 1))
    (h3 : ∀ k, g (k + 1) n = some no) :
    ∃ r, Ev (fun k => g k 0) r ∧ ((∃ i, 0 ≤ i ∧ i < (n : Int) ∧ p i = true ∧ r = yes i) ∨ ((∀ i, 0 ≤ i → i < (n : Int) → p i = false) ∧ r = no)) := by
  have main : ∀ (d : Nat) (i : Int), 0 ≤ i → i ≤ n → (n : Int) - i = d → (∀ j, 0 ≤ j → j < i → p j = false) →
      ∃ r, Ev (fun k => g k i) r ∧ ((∃ i, 0 ≤ i ∧ i < (n : Int) ∧ p i = true ∧ r = yes i) ∨ ((∀ i, 0 ≤ i → i < (n : Int) → p i = false) ∧ r = no)) := by
    intro d
    induction d with
    | zero =>
      intro i h0 hi hd hp
      obtain rfl : i = (n : Int) := by omega
      exact ⟨no, Ev.step (f := fun _ => some no) h3 (Ev.now _), .inr ⟨fun j hj0 hj => hp j hj0 hj, rfl⟩⟩
    | succ d ih =>
      intro i h0 hi hd hp
      have hlt : i < (n : Int) := by omega
      cases e : p i with
      | true => exact ⟨yes i, Ev.step (f := fun _ => some (yes i)) (fun k => h1 k i h0 hlt e) (Ev.now _), .inl ⟨i, h0, hlt, e, rfl⟩⟩
      | false =>
        obtain ⟨r, hr, h⟩ := ih (i + 1) (by omega) (by omega) (by omega) (fun j hj0 hj => by
          by_cases ej : j = i
          · rw [ej]; exact e
          · exact hp j hj0 (by omega))
        exact ⟨r, Ev.step (f := fun k => g k (i + 1)) (fun k => h2 k i h0 hlt e) hr, h⟩
  exact main n 0 (Int.le_refl _) (Int.natCast_nonneg _) (by omega) (fun j h0 h => by omega)

theorem anyL_ev (p : S54 → Bool) (l : List S54) (hl : l.length ≤ 9223372036854775807) : ∃ b, Ev (fun k => anyL p k l 0) b := by
  obtain ⟨r, hr, _⟩ := Ev_first (fun k i => anyL p k l i) l.length (fun i => p (rd_T54 l i)) (fun _ => true) false
    (fun k i h0 h1 h2 => by simp only [anyL]; rw [if_pos h1, if_pos h0, if_pos h2])
    (fun k i h0 h1 h2 => by simp only [anyL]; rw [if_pos h1, if_pos h0, if_neg (by rw [h2]; simp), wrap_id (by omega) (by omega)])
    (fun k => by simp only [anyL]; rw [if_neg (by omega)])
  exact ⟨r, hr⟩

theorem in_l0_eq (a : Int) : ∀ (k : Nat) (l : List S54) (x : Int), clock_In.l0 k l a x = skiarearef02_In.l0 k l a x := by
  intro k
  induction k with
  | zero => intro l x; rfl
  | succ k ih => intro l x; simp only [clock_In.l0, skiarearef02_In.l0, ih]
theorem in_eq (k : Nat) (l : List S54) (a : Int) : clock_In.f k l a = skiarearef02_In.f k l a := by
  unfold clock_In.f skiarearef02_In.f
  simp only [in_l0_eq]

theorem in_ev (l : List S54) (t : Int) (hl : l.length ≤ 9223372036854775807) : ∃ b, Ev (fun k => clock_In.f k l t) b := by
  by_cases h : 0 ≤ t ∧ t ≤ 20000000
  · obtain ⟨b, hb⟩ := anyL_ev (inB (Int.tmod (wrap64 (Int.tdiv t 86400)) 7) (Int.tmod t 86400)) l hl
    refine ⟨b, Ev.congr (fun k => ?_) hb⟩
    have ht : skiarearef02_time.f t = some true := by unfold skiarearef02_time.f; rw [if_pos (by omega)]; simp [h.2]
    unfold clock_In.f
    rw [ht]
    simp only [Option.bind_some, if_true]
    exact in_loop t h.1 h.2 k l 0
  · refine ⟨false, Ev.congr (fun k => ?_) (Ev.now false)⟩
    have ht : skiarearef02_time.f t = some false := by
      unfold skiarearef02_time.f
      by_cases h1 : t ≥ 0
      · rw [if_pos h1]; simp; omega
      · rw [if_neg h1]
    unfold clock_In.f
    rw [ht]
    rfl


theorem alive_val : skiarealaw33_alive.f = some true := rfl

/-! ### Right of hours -/
theorem hright_l0_eq : ∀ (k : Nat) (l : List S54) (x : Int), clock_Right.l0 k l x = skiarearef02_Right.l0 k l x := by
  intro k
  induction k with
  | zero => intro l x; rfl
  | succ k ih => intro l x; simp only [clock_Right.l0, skiarearef02_Right.l0, ih]
theorem hright_eq (k : Nat) (l : List S54) : clock_Right.f k l = skiarearef02_Right.f k l := by
  unfold clock_Right.f skiarearef02_Right.f
  simp only [hright_l0_eq]
theorem hright_ev (l : List S54) (hl : l.length ≤ 9223372036854775807) : ∃ b, Ev (fun k => clock_Right.f k l) b := by
  unfold clock_Right.f
  by_cases c : (l.length : Int) > 16
  · exact ⟨false, Ev.congr (fun k => if_pos c) (Ev.now _)⟩
  · obtain ⟨b, hb⟩ := anyL_ev badB l hl
    refine ⟨!b, Ev.congr (fun k => if_neg c) ?_⟩
    obtain ⟨K, hK⟩ := hb
    exact ⟨K, fun k hk => by show clock_Right.l0 k l 0 = _; rw [right_loop, show anyL badB k l 0 = some b from hK k hk]; rfl⟩

/-! ### index and At -/
theorem index_l0 (l : List S30) (t : Int) (hl : l.length ≤ 9223372036854775807) : ∀ n : Nat, n ≤ l.length → ∃ i : Int, Ev (fun k => tariff_index.l0 k l t ((n : Int) - 1)) i ∧ -1 ≤ i ∧ i < (n : Int) ∧ (0 ≤ i → (rd_T30 l i).f0 ≤ t) ∧ ∀ j, i < j → j < (n : Int) → (rd_T30 l j).f0 > t := by
  intro n
  induction n with
  | zero =>
    intro _
    refine ⟨-1, Ev.step (f := fun _ => some (-1)) (fun k => ?_) (Ev.now _), by omega, by omega, fun h => by omega, fun j _ _ => by omega⟩
    simp only [tariff_index.l0]
    rw [if_neg (by omega)]
    simp
  | succ n ih =>
    intro hn
    obtain ⟨i, hi, h1, h2, h3, h4⟩ := ih (by omega)
    by_cases c : (rd_T30 l n).f0 > t
    · refine ⟨i, Ev.step (f := fun k => tariff_index.l0 k l t ((n : Int) - 1)) (fun k => ?_) hi, h1, by omega, h3, fun j hj1 hj2 => ?_⟩
      · simp only [tariff_index.l0]
        rw [show ((n + 1 : Nat) : Int) - 1 = n by omega, if_pos (by omega), if_pos (by omega), if_pos (by omega), if_pos c, wrap_id (by omega) (by omega)]
      · by_cases e : j = n
        · rw [e]; exact c
        · exact h4 j hj1 (by omega)
    · refine ⟨n, Ev.step (f := fun _ => some (n : Int)) (fun k => ?_) (Ev.now _), by omega, by omega, fun _ => by omega, fun j hj1 hj2 => by omega⟩
      simp only [tariff_index.l0]
      rw [show ((n + 1 : Nat) : Int) - 1 = n by omega, if_pos (by omega), if_pos (by omega), if_pos (by omega), if_neg c]
theorem index_ev (l : List S30) (t : Int) (hl : l.length ≤ 9223372036854775807) : ∃ i : Int, Ev (fun k => tariff_index.f k l t) i ∧ -1 ≤ i ∧ i < (l.length : Int) ∧ (0 ≤ i → (rd_T30 l i).f0 ≤ t) ∧ ∀ j, i < j → j < (l.length : Int) → (rd_T30 l j).f0 > t := by
  obtain ⟨i, hi, h⟩ := index_l0 l t hl l.length (Nat.le_refl _)
  refine ⟨i, Ev.congr (fun k => ?_) hi, h⟩
  unfold tariff_index.f
  rw [wrap_id (by omega) (by omega)]
/-- What the reference's At hands back at an index. -/
def atV (l : List S30) (i : Int) : Int × List S35 × Bool := if i < 0 then (0, [], false) else ((rd_T30 l i).f0, (rd_T30 l i).f1, true)
theorem at_l0_eq (l : List S30) (t : Int) : ∀ (k : Nat) (i : Int), skiarearef33_At.l0 k l t i = (tariff_index.l0 k l t i).bind (fun j => some (atV l j)) := by
  intro k
  induction k with
  | zero => intro i; rfl
  | succ k ih =>
    intro i
    simp only [skiarearef33_At.l0, tariff_index.l0]
    by_cases c1 : i ≥ 0
    · rw [if_pos c1, if_pos c1]
      by_cases c2 : 0 ≤ i
      · rw [if_pos c2, if_pos c2]
        by_cases c3 : i < (l.length : Int)
        · rw [if_pos c3, if_pos c3]
          by_cases c4 : (rd_T30 l i).f0 ≤ t
          · rw [if_pos c4, if_neg (by omega)]
            simp only [Option.bind_some, atV]
            rw [if_neg (by omega)]
          · rw [if_neg c4, if_pos (by omega), ih]
        · rw [if_neg c3, if_neg c3]; rfl
      · exact absurd c1 c2
    · rw [if_neg c1, if_neg c1]
      simp only [Option.bind_some, atV]
      rw [if_pos (by omega)]
theorem at_ref_eq (k : Nat) (l : List S30) (t : Int) : skiarearef33_At.f k l t = (tariff_index.f k l t).bind (fun j => some (atV l j)) := at_l0_eq l t k _

/-! ### Points -/
theorem pts_l0_eq (r0 r1 r2 r3 r4 r5 r6 a : Int) (m : List S35) : ∀ (k : Nat) (x : Int), tariff_Points.l0 k m (m.length : Int) x r0 r1 r2 r3 r4 r5 r6 = skiarearef33_Points.l0 k x r0 r1 r2 r3 r4 r5 r6 a m := by
  intro k
  induction k with
  | zero => intro x; rfl
  | succ k ih =>
    intro x
    simp only [tariff_Points.l0, skiarearef33_Points.l0, ih, in_eq]
    by_cases c1 : x < (m.length : Int)
    · rw [if_pos c1, if_pos c1, if_pos c1]
    · rw [if_neg c1, if_neg c1]
/-- What a ride counts by the rates m, from some number of rounds on. -/
theorem pts_l0_ev (r0 r1 r2 r3 r4 r5 r6 : Int) (m : List S35) (hl : m.length ≤ 9223372036854775807) (hp : ∀ y ∈ m, y.f3.length ≤ 9223372036854775807) :
    ∃ v, Ev (fun k => tariff_Points.l0 k m (m.length : Int) 0 r0 r1 r2 r3 r4 r5 r6) v ∧
      ((v = 0 ∧ ∀ i, 0 ≤ i → i < (m.length : Int) → (rd_T35 m i).f0 ≠ r5) ∨ ∃ i b, 0 ≤ i ∧ i < (m.length : Int) ∧ (rd_T35 m i).f0 = r5 ∧ (∀ j, 0 ≤ j → j < i → (rd_T35 m j).f0 ≠ r5) ∧ Ev (fun k => clock_In.f k (rd_T35 m i).f3 r6) b ∧
        v = if b = true then wrap64 ((rd_T35 m i).f1 + wrap64 (Int.tdiv (wrap64 ((rd_T35 m i).f1 * (rd_T35 m i).f2)) 1000)) else (rd_T35 m i).f1) := by
  have main : ∀ (d : Nat) (i : Int), 0 ≤ i → i ≤ m.length → (m.length : Int) - i = d → (∀ j, 0 ≤ j → j < i → (rd_T35 m j).f0 ≠ r5) →
      ∃ v, Ev (fun k => tariff_Points.l0 k m (m.length : Int) i r0 r1 r2 r3 r4 r5 r6) v ∧
      ((v = 0 ∧ ∀ i, 0 ≤ i → i < (m.length : Int) → (rd_T35 m i).f0 ≠ r5) ∨ ∃ i b, 0 ≤ i ∧ i < (m.length : Int) ∧ (rd_T35 m i).f0 = r5 ∧ (∀ j, 0 ≤ j → j < i → (rd_T35 m j).f0 ≠ r5) ∧ Ev (fun k => clock_In.f k (rd_T35 m i).f3 r6) b ∧
        v = if b = true then wrap64 ((rd_T35 m i).f1 + wrap64 (Int.tdiv (wrap64 ((rd_T35 m i).f1 * (rd_T35 m i).f2)) 1000)) else (rd_T35 m i).f1) := by
    intro d
    induction d with
    | zero =>
      intro i h0 hi hd hn
      exact ⟨0, Ev.step (f := fun _ => some 0) (fun k => by simp only [tariff_Points.l0]; rw [if_neg (by omega)]) (Ev.now _), .inl ⟨rfl, fun j j0 j1 => hn j j0 (by omega)⟩⟩
    | succ d ih =>
      intro i h0 hi hd hn
      have hlt : i < (m.length : Int) := by omega
      by_cases c : (rd_T35 m i).f0 = r5
      · have hm : (rd_T35 m i) ∈ m := by
          have h2 : i.toNat < m.length := by omega
          have e : rd_T35 m i = m[i.toNat] := by simp [rd_T35, h2]
          rw [e]; exact List.getElem_mem h2
        obtain ⟨b, hb⟩ := in_ev (rd_T35 m i).f3 r6 (hp _ hm)
        refine ⟨_, ?_, .inr ⟨i, b, h0, hlt, c, hn, hb, rfl⟩⟩
        refine Ev.step (fun k => by simp only [tariff_Points.l0]; rw [if_pos hlt, if_pos h0, if_pos hlt, if_pos c]) ?_
        refine Ev.bind hb ?_
        cases b with
        | true => exact Ev.congr (fun k => by simp) (Ev.now _)
        | false => exact Ev.congr (fun k => by simp) (Ev.now _)
      · obtain ⟨v, hv, h⟩ := ih (i + 1) (by omega) (by omega) (by omega) (fun j j0 j1 => by
          by_cases e : j = i
          · rw [e]; exact c
          · exact hn j j0 (by omega))
        refine ⟨v, Ev.step (fun k => ?_) hv, h⟩
        simp only [tariff_Points.l0]
        rw [if_pos hlt, if_pos h0, if_pos hlt, if_neg c, wrap_id (by omega) (by omega)]
  exact main m.length 0 (Int.le_refl _) (Int.natCast_nonneg _) (by omega) (fun j h0 h => by omega)
theorem pts_eq (k : Nat) (l : List S30) (r0 r1 r2 r3 r4 r5 r6 : Int) (hl : l.length ≤ 9223372036854775807) : tariff_Points.f k l r0 r1 r2 r3 r4 r5 r6 = skiarearef33_Points.f k l r0 r1 r2 r3 r4 r5 r6 := by
  unfold tariff_Points.f skiarearef33_Points.f
  rw [at_ref_eq]
  cases k with
  | zero => rfl
  | succ k =>
  have hi : ∀ i, tariff_index.f (k + 1) l r6 = some i → i < (l.length : Int) := by
    have h0 : ∀ (q : Nat) (x i : Int), tariff_index.l0 q l r6 x = some i → x < (l.length : Int) → -1 ≤ x → i < (l.length : Int) := by
      intro q
      induction q with
      | zero => intro x i h; simp [tariff_index.l0] at h
      | succ q ih =>
        intro x i h hx hx1
        simp only [tariff_index.l0] at h
        by_cases c1 : x ≥ 0
        · rw [if_pos c1, if_pos (show 0 ≤ x from c1), if_pos hx] at h
          by_cases c2 : (rd_T30 l x).f0 > r6
          · rw [if_pos c2, wrap_id (by omega) (by omega)] at h
            exact ih _ _ h (by omega) (by omega)
          · rw [if_neg c2] at h
            have := Option.some.inj h
            omega
        · rw [if_neg c1] at h
          have := Option.some.inj h
          omega
    intro i h
    unfold tariff_index.f at h
    rw [wrap_id (by omega) (by omega)] at h
    exact h0 _ _ _ h (by omega) (by omega)
  cases e : tariff_index.f (k + 1) l r6 with
  | none => rfl
  | some i =>
    have hlt := hi i e
    simp only [Option.bind_some, atV]
    by_cases c : i < 0
    · rw [if_pos c, if_pos c]
      simp [skiarearef33_Points.l0]
    · rw [if_neg c, if_neg c, if_pos (by omega), if_pos hlt]
      exact pts_l0_eq _ _ _ _ _ _ _ _ _ _ _
theorem rd30_mem {l : List S30} {i : Int} (h0 : 0 ≤ i) (h1 : i < (l.length : Int)) : rd_T30 l i ∈ l := by
  have h2 : i.toNat < l.length := by omega
  have e : rd_T30 l i = l[i.toNat] := by simp [rd_T30, h2]
  rw [e]; exact List.getElem_mem h2
theorem rd35_mem {l : List S35} {i : Int} (h0 : 0 ≤ i) (h1 : i < (l.length : Int)) : rd_T35 l i ∈ l := by
  have h2 : i.toNat < l.length := by omega
  have e : rd_T35 l i = l[i.toNat] := by simp [rd_T35, h2]
  rw [e]; exact List.getElem_mem h2
theorem rd24_mem {l : List S24} {i : Int} (h0 : 0 ≤ i) (h1 : i < (l.length : Int)) : rd_T24 l i ∈ l := by
  have h2 : i.toNat < l.length := by omega
  have e : rd_T24 l i = l[i.toNat] := by simp [rd_T24, h2]
  rw [e]; exact List.getElem_mem h2
theorem pts_ev (l : List S30) (hl : Ps p30 l) (r0 r1 r2 r3 r4 r5 r6 : Int) : ∃ v, Ev (fun k => tariff_Points.f k l r0 r1 r2 r3 r4 r5 r6) v := by
  obtain ⟨i, hi, h1, h2, _, _⟩ := index_ev l r6 hl.1
  by_cases c : i < 0
  · exact ⟨0, Ev.bind hi (Ev.congr (fun k => if_pos c) (Ev.now _))⟩
  · have hm := hl.2 _ (rd30_mem (show 0 ≤ i by omega) h2)
    obtain ⟨v, hv, _⟩ := pts_l0_ev r0 r1 r2 r3 r4 r5 r6 (rd_T30 l i).f1 hm.2.1 (fun y hy => (hm.2.2 y hy).2.2.2.1)
    exact ⟨v, Ev.bind hi (Ev.congr (fun k => by rw [if_neg c, if_pos (by omega), if_pos h2]) hv)⟩

/-! ### Sum -/
theorem sum_l0_eq (l : List S30) (hl : l.length ≤ 9223372036854775807) (a : Int) (rs : List S24) : ∀ (k : Nat) (n x : Int), tariff_Sum.l0 k l a n rs (rs.length : Int) x = skiarearef33_Sum.l0 k l rs a n x := by
  intro k
  induction k with
  | zero => intro n x; rfl
  | succ k ih =>
    intro n x
    simp only [tariff_Sum.l0, skiarearef33_Sum.l0, ih, pts_eq k l _ _ _ _ _ _ _ hl]
    by_cases c1 : x < (rs.length : Int)
    · rw [if_pos c1, if_pos c1, if_pos c1]
    · rw [if_neg c1, if_neg c1]
theorem sum_eq (k : Nat) (l : List S30) (hl : l.length ≤ 9223372036854775807) (rs : List S24) (a : Int) : tariff_Sum.f k l rs a = skiarearef33_Sum.f k l rs a := sum_l0_eq l hl a rs k 0 0
end Go.Proofs.Ytdahjnbfbcemeaa.Q
