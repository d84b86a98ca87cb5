/- By hand, plain: what Right computes. -/
import Derived.Test.YtpojelbablofpaaQ
import Derived.Test.YtpojelbablofpaaF12
namespace Go.Proofs.Ytpojelbablofpaa.Q
open Go.RowKit Go.Proofs.YtpojelbablofpaaW.PrintWords Go.Proofs.YtpojelbablofpaaW.PrintLast Go.Proofs.Ytpojelbablofpaa.P Go.Proofs.Ytpojelbablofpaa.O Go.Proofs.Ytpojelbablofpaa.R
set_option linter.unusedVariables false

/-! ### Right of hours -/
theorem hright_ev (l : List S52) (hl : l.length ≤ 9223372036854775807) : ∃ b, Ev (fun k => clock_Right.f k l) b := by
  unfold clock_Right.f
  by_cases c : (l.length : Int) > 16
  · exact ⟨false, Ev.congr (fun k => if_pos c) (Ev.now _)⟩
  · obtain ⟨b, hb⟩ := anyL_ev badB l hl
    refine ⟨!b, Ev.congr (fun k => if_neg c) ?_⟩
    obtain ⟨K, hK⟩ := hb
    exact ⟨K, fun k hk => by show clock_Right.l0 k l 0 = _; rw [right_loop, show anyL badB k l 0 = some b from hK k hk]; rfl⟩

/-! ### the operators of a product -/
def badOp (l : List Int) (i : Int) : Prop := rd l i < 1 ∨ rd l i > 8 ∨ (i > 0 ∧ rd l i ≤ rd l (i - 1))
def AnyBad (l : List Int) : Prop := ∃ i, 0 ≤ i ∧ i < (l.length : Int) ∧ badOp l i
instance (l : List Int) (i : Int) : Decidable (badOp l i) := by unfold badOp; infer_instance
theorem within_val (a b c : Int) : product_within.f a b c = some (decide (b ≤ a) && decide (a ≤ c)) := by
  unfold product_within.f
  by_cases h : a ≥ b
  · rw [if_pos h, decide_eq_true (show b ≤ a from h)]; simp
  · rw [if_neg h, decide_eq_false (show ¬ b ≤ a from h)]; simp
theorem operators_ev (l : List Int) (hl : l.length ≤ 9223372036854775807) : ∃ b, Ev (fun k => product_operators.f k l) b ∧ (b = true ↔ 0 < l.length ∧ ¬ AnyBad l) := by
  obtain ⟨r, hr, h⟩ := Ev_first (fun k i => product_operators.l0 k l l (l.length : Int) i) l.length (fun i => decide (badOp l i)) (fun _ => false) (decide ((l.length : Int) > 0))
    (fun k i h0 h1 h2 => by
      have h2 := of_decide_eq_true h2
      unfold badOp at h2
      simp only [product_operators.l0, within_val, Option.bind_some]
      rw [if_pos h1, if_pos h0, if_pos h1]
      by_cases c1 : 1 ≤ rd l i ∧ rd l i ≤ 8
      · rw [if_pos (by simp [c1.1, c1.2]), if_pos (by omega), wrap_id (i := i - 1) (by omega) (by omega), if_pos (by omega), if_pos (by omega), if_pos (by omega)]
      · rw [if_neg (by simp; omega)])
    (fun k i h0 h1 h2 => by
      have h2 := of_decide_eq_false h2
      unfold badOp at h2
      simp only [product_operators.l0, within_val, Option.bind_some]
      rw [if_pos h1, if_pos h0, if_pos h1, if_pos (by simp; omega), wrap_id (i := i + 1) (by omega) (by omega)]
      by_cases c3 : i > 0
      · rw [if_pos c3, wrap_id (i := i - 1) (by omega) (by omega), if_pos (by omega), if_pos (by omega), if_neg (by omega)]
      · rw [if_neg c3])
    (fun k => by simp only [product_operators.l0]; rw [if_neg (by omega)])
  refine ⟨r, hr, ?_⟩
  rcases h with ⟨i, h0, h1, h2, _, rfl⟩ | ⟨h1, rfl⟩
  · exact ⟨fun h => by simp at h, fun h => absurd ⟨i, h0, h1, of_decide_eq_true h2⟩ h.2⟩
  · exact ⟨fun h => ⟨by have h := of_decide_eq_true h; omega, fun ⟨i, i0, i1, i2⟩ => of_decide_eq_false (h1 i i0 i1) i2⟩, fun h => decide_eq_true (by omega)⟩

/-! ### a product by itself -/
def RangeOk (x : S32) : Prop := 1 ≤ x.f0 ∧ x.f0 ≤ 9999 ∧ (x.f1 = 0 ∧ x.f2 ≤ 604800 ∨ (x.f1 = 1 ∨ x.f1 = 2) ∧ x.f2 ≤ 100) ∧ 1 ≤ x.f2 ∧ 0 ≤ x.f3 ∧ x.f3 ≤ 120 ∧ 0 ≤ x.f4 ∧ x.f4 ≤ 120 ∧ 0 ≤ x.f8 ∧ x.f8 ≤ 100000000
instance (x : S32) : Decidable (RangeOk x) := by unfold RangeOk; infer_instance
def SeasonOk (x : S32) : Prop := 0 ≤ x.f7.f0 ∧ x.f7.f0 < x.f7.f1 ∧ x.f7.f1 ≤ 20000000
instance (x : S32) : Decidable (SeasonOk x) := by unfold SeasonOk; infer_instance
/-- What a product's Right says: b = the operators and the hours are right, tw = an earlier one has the ID. -/
def oneS (x : S32) (tw b : Bool) : Int := if ¬ RangeOk x then 2 else if tw = true then 7 else if x.f3 > x.f4 then 11 else if b = true ∧ SeasonOk x then 0 else 1

theorem Ev.ite {β : Type} {c : Prop} [Decidable c] {g1 g2 : Nat → Option β} {r : β} (h1 : c → Ev g1 r) (h2 : ¬ c → Ev g2 r) : Ev (fun k => if c then g1 k else g2 k) r := by
  by_cases h : c
  · exact Ev.congr (fun k => if_pos h) (h1 h)
  · exact Ev.congr (fun k => if_neg h) (h2 h)
def unitsS (a : Int) : Int := if a = 0 then 604800 else if a = 1 then 100 else if a = 2 then 100 else 0
theorem units_val (a : Int) : product_units.f a = some (unitsS a) := by
  unfold product_units.f unitsS
  by_cases c0 : a = 0
  · rw [if_pos c0, if_pos c0]
  rw [if_neg c0, if_neg c0]
  by_cases c1 : a = 1
  · rw [if_pos c1, if_pos c1]
  rw [if_neg c1, if_neg c1]
  by_cases c2 : a = 2
  · rw [if_pos c2, if_pos c2]
  rw [if_neg c2, if_neg c2]
theorem units_cases (a : Int) : (a = 0 ∧ unitsS a = 604800) ∨ ((a = 1 ∨ a = 2) ∧ unitsS a = 100) ∨ (a ≠ 0 ∧ a ≠ 1 ∧ a ≠ 2 ∧ unitsS a = 0) := by
  unfold unitsS
  by_cases c0 : a = 0
  · rw [if_pos c0]; omega
  rw [if_neg c0]
  by_cases c1 : a = 1
  · rw [if_pos c1]; omega
  rw [if_neg c1]
  by_cases c2 : a = 2
  · rw [if_pos c2]; omega
  rw [if_neg c2]; omega
theorem prod_step (l : List S32) (hl : l.length ≤ 1000000) (i : Int) (h0 : 0 ≤ i) (hi : i < (l.length : Int)) (x : S32) (hx : rd_T32 l i = x) (bO hB tw : Bool) (hbO : Ev (fun k => product_operators.f k x.f5) bO) (hh : Ev (fun k => clock_Right.f k x.f6) hB)
    (y : S32) (hf : Ev (fun k => product_Find.f k (l.take i.toNat) x.f0) (tupF y tw)) (e' : Int) (he' : Ev (fun k => product_Right.l0 k l l (l.length : Int) (i + 1)) e') :
    Ev (fun k => product_Right.l0 k l l (l.length : Int) i) (if oneS x tw (bO && hB) = 0 then e' else oneS x tw (bO && hB)) := by
  have hbad : Ev (fun k => product_Right.j1 k l tw l (l.length : Int) i true x.f0 x.f1 x.f2 x.f3 x.f4 x.f5 x.f6 x.f7.f0 x.f7.f1 x.f8) 2 := Ev.step (f := fun _ => some 2) (fun k => by simp [product_Right.j1]) (Ev.now _)
  have hgood : Ev (fun k => product_Right.j1 k l tw l (l.length : Int) i false x.f0 x.f1 x.f2 x.f3 x.f4 x.f5 x.f6 x.f7.f0 x.f7.f1 x.f8) (if tw = true then 7 else if x.f3 > x.f4 then 11 else if (bO && hB) = true ∧ SeasonOk x then e' else 1) := by
    refine Ev.step (fun k => by simp only [product_Right.j1]; rw [if_neg Bool.false_ne_true]) ?_
    cases tw with
    | true => rw [if_pos rfl]; exact Ev.congr (fun k => if_pos rfl) (Ev.now _)
    | false =>
      rw [if_neg Bool.false_ne_true]
      refine Ev.congr (fun k => if_neg Bool.false_ne_true) ?_
      by_cases c : x.f3 > x.f4
      · rw [if_pos c]; exact Ev.congr (fun k => if_pos c) (Ev.now _)
      rw [if_neg c]
      refine Ev.congr (fun k => if_neg c) (Ev.bind hbO ?_)
      cases bO with
      | false => rw [if_neg (by simp)]; exact Ev.congr (fun k => if_neg Bool.false_ne_true) (Ev.now _)
      | true =>
        refine Ev.congr (fun k => if_pos rfl) (Ev.bind hh ?_)
        cases hB with
        | false => rw [if_neg (by simp)]; exact Ev.congr (fun k => if_neg Bool.false_ne_true) (Ev.now _)
        | true =>
          refine Ev.congr (fun k => if_pos rfl) ?_
          by_cases hS : SeasonOk x
          · rw [if_pos ⟨rfl, hS⟩]
            unfold SeasonOk at hS
            exact Ev.congr (fun k => by rw [if_neg (by omega), if_neg (by omega), if_neg (by omega), wrap_id (i := i + 1) (by omega) (by omega)]) he'
          · rw [if_neg (fun h => hS h.2)]
            refine Ev.ite (fun c => Ev.now _) (fun c1 => Ev.ite (fun c => Ev.now _) (fun c2 => Ev.ite (fun c => Ev.now _) (fun c3 => absurd (by unfold SeasonOk; omega) hS)))
  have e1 : (if oneS x tw (bO && hB) = 0 then e' else oneS x tw (bO && hB)) = if ¬ RangeOk x then 2 else if tw = true then 7 else if x.f3 > x.f4 then 11 else if (bO && hB) = true ∧ SeasonOk x then e' else 1 := by
    unfold oneS
    by_cases hR : ¬ RangeOk x
    · simp only [if_pos hR]; rw [if_neg (by decide)]
    simp only [if_neg hR]
    by_cases ht : tw = true
    · simp only [if_pos ht]; rw [if_neg (by decide)]
    simp only [if_neg ht]
    by_cases c : x.f3 > x.f4
    · simp only [if_pos c]; rw [if_neg (by decide)]
    simp only [if_neg c]
    by_cases cs : (bO && hB) = true ∧ SeasonOk x
    · simp only [if_pos cs]; rw [if_pos trivial]
    · simp only [if_neg cs]; rw [if_neg (by decide)]
  rw [e1]
  generalize (if tw = true then (7 : Int) else if x.f3 > x.f4 then 11 else if (bO && hB) = true ∧ SeasonOk x then e' else 1) = v at hgood ⊢
  refine Ev.step (fun k => by simp only [product_Right.l0]; rw [if_pos hi, if_pos h0, if_pos hi, if_pos (by omega), hx]) (Ev.bind hf ?_)
  simp only [within_val, units_val, Option.bind_some, tupF]
  have hu := units_cases x.f1
  generalize unitsS x.f1 = u at hu ⊢
  clear e1 hf he' hbO hh
  by_cases hR : RangeOk x
  · rw [if_neg (fun h => h hR)]
    unfold RangeOk at hR
    refine Ev.congr (fun k => by
      rw [if_pos (by simp; omega), if_pos (by simp; omega), if_pos (by simp; omega), if_pos (by simp; omega), decide_eq_true (show 0 ≤ x.f8 by omega), decide_eq_true (show x.f8 ≤ 100000000 by omega)]; rfl) hgood
  · rw [if_pos hR]
    refine Ev.ite (fun c1 => ?_) (fun _ => hbad)
    refine Ev.ite (fun c2 => ?_) (fun _ => hbad)
    refine Ev.ite (fun c3 => ?_) (fun _ => hbad)
    refine Ev.ite (fun c4 => ?_) (fun _ => hbad)
    simp only [Bool.and_eq_true, decide_eq_true_eq] at c1 c2 c3 c4
    by_cases c8 : 0 ≤ x.f8
    · by_cases c9 : x.f8 ≤ 100000000
      · exact absurd (by unfold RangeOk; omega) hR
      · rw [decide_eq_false c9, Bool.and_false]; exact hbad
    · rw [decide_eq_false c8, Bool.false_and]; exact hbad

theorem rd32_take (l : List S32) {n : Nat} {j : Int} (h0 : 0 ≤ j) (h1 : j < (n : Int)) (hn : n ≤ l.length) : rd_T32 (l.take n) j = rd_T32 l j := by
  have h2 : j.toNat < l.length := by omega
  have h3 : j.toNat < (l.take n).length := by rw [List.length_take]; omega
  have e1 : rd_T32 l j = l[j.toNat] := by simp [rd_T32, h2]
  have e2 : rd_T32 (l.take n) j = (l.take n)[j.toNat] := by unfold rd_T32; rw [List.getD_eq_getElem?_getD, List.getElem?_eq_getElem h3]; rfl
  rw [e1, e2, List.getElem_take]
/-- No earlier product has its ID, and it names an operator. -/
def OkAt (l : List S32) (i : Int) : Prop := (∀ j, 0 ≤ j → j < i → (rd_T32 l j).f0 ≠ (rd_T32 l i).f0) ∧ 0 < (rd_T32 l i).f5.length
theorem right_prod (l : List S32) (hs : Small l) : ∃ e, Ev (fun k => product_Right.f k l) e ∧ (e = 0 → ∀ i, 0 ≤ i → i < (l.length : Int) → OkAt l i) := by
  have hlen := hs.1
  by_cases c : (l.length : Int) > 64
  · exact ⟨4, Ev.congr (fun k => if_pos c) (Ev.now _), fun h => absurd h (by decide)⟩
  have main : ∀ (d : Nat) (i : Int), 0 ≤ i → i ≤ l.length → (l.length : Int) - i = d → ∃ e, Ev (fun k => product_Right.l0 k l l (l.length : Int) i) e ∧ (e = 0 → ∀ j, i ≤ j → j < (l.length : Int) → OkAt l j) := by
    intro d
    induction d with
    | zero =>
      intro i h0 hi hd
      exact ⟨0, Ev.step (f := fun _ => some 0) (fun k => by simp only [product_Right.l0]; rw [if_neg (by omega)]) (Ev.now _), fun _ j j0 j1 => by omega⟩
    | succ d ih =>
      intro i h0 hi hd
      have hlt : i < (l.length : Int) := by omega
      obtain ⟨e', h1, h3⟩ := ih (i + 1) (by omega) (by omega) (by omega)
      have hm := hs.2 _ (rd32_mem h0 hlt)
      obtain ⟨bO, hbO, hO⟩ := operators_ev (rd_T32 l i).f5 (by omega)
      obtain ⟨hB, hh⟩ := hright_ev (rd_T32 l i).f6 (by omega)
      have htl : (l.take i.toNat).length = i.toNat := by rw [List.length_take]; omega
      obtain ⟨r, hr, hc⟩ := find_ev (l.take i.toNat) (rd_T32 l i).f0 (by omega) (fun x hx => hs.2 x (List.mem_of_mem_take hx))
      have hq : ∃ y tw, r = tupF y tw ∧ (tw = true ↔ ∃ j, 0 ≤ j ∧ j < ((l.take i.toNat).length : Int) ∧ (rd_T32 (l.take i.toNat) j).f0 = (rd_T32 l i).f0) := by
        rcases hc with ⟨j, j0, j1, j2, _, rfl⟩ | ⟨hn, rfl⟩
        · exact ⟨_, true, rfl, ⟨fun _ => ⟨j, j0, j1, j2⟩, fun _ => rfl⟩⟩
        · exact ⟨_, false, rfl, ⟨fun h => (by cases h), fun ⟨j, j0, j1, j2⟩ => absurd j2 (hn j j0 j1)⟩⟩
      obtain ⟨y, tw, rfl, htw⟩ := hq
      have HT := Aside0.mk htw
      clear htw
      have hP := prod_step l (by omega) i h0 hlt (rd_T32 l i) rfl bO hB tw hbO hh y hr e' h1
      refine ⟨_, hP, ?_⟩
      · intro he j j0 j1
        by_cases e0 : oneS (rd_T32 l i) tw (bO && hB) = 0
        · rw [if_pos e0] at he
          by_cases e : j = i
          · subst e
            unfold oneS at e0
            by_cases q1 : ¬ RangeOk (rd_T32 l j)
            · rw [if_pos q1] at e0; exact absurd e0 (by decide)
            rw [if_neg q1] at e0
            by_cases q2 : tw = true
            · rw [if_pos q2] at e0; exact absurd e0 (by decide)
            rw [if_neg q2] at e0
            by_cases q3 : (rd_T32 l j).f3 > (rd_T32 l j).f4
            · rw [if_pos q3] at e0; exact absurd e0 (by decide)
            rw [if_neg q3] at e0
            by_cases q4 : (bO && hB) = true ∧ SeasonOk (rd_T32 l j)
            · refine ⟨fun p p0 p1 hp => q2 (HT.out.2 ⟨p, p0, by omega, ?_⟩), ?_⟩
              · rw [rd32_take l p0 (by omega) (by omega)]; exact hp
              · have hb : bO = true := by have := q4.1; simp only [Bool.and_eq_true] at this; exact this.1
                exact (hO.1 hb).1
            · rw [if_neg q4] at e0; exact absurd e0 (by decide)
          · exact h3 he j (by omega) j1
        · rw [if_neg e0] at he
          exact absurd he e0
  obtain ⟨e, h1, h3⟩ := main l.length 0 (Int.le_refl _) (Int.natCast_nonneg _) (by omega)
  exact ⟨e, Ev.congr (fun k => if_neg c) h1, h3⟩
end Go.Proofs.Ytpojelbablofpaa.Q
