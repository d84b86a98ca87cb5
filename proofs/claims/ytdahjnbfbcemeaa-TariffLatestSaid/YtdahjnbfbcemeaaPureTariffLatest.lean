/- By hand, plain: the law TariffLatest answers true. -/
import Derived.Test.YtdahjnbfbcemeaaQ2
import Derived.Test.YtdahjnbfbcemeaaF9
set_option linter.unusedVariables false
namespace Go.Proofs.Ytdahjnbfbcemeaa.Pure
open Go.RowKit Go.Proofs.YtdahjnbfbcemeaaW.PrintWords Go.Proofs.Ytdahjnbfbcemeaa.P Go.Proofs.Ytdahjnbfbcemeaa.O Go.Proofs.Ytdahjnbfbcemeaa.R Go.Proofs.Ytdahjnbfbcemeaa.Q
theorem own_val (k : Nat) {a : Int} {m : List S35} (h1 : m.length ≤ 50) (h2 : ∀ q : Int, 0 ≤ q → q < (m.length : Int) → (rd_T35 m q).f3.length ≤ 30) : tariff_own.f k a m = some (a, m) := by
  unfold tariff_own.f
  rw [if_pos]
  refine ⟨by omega, List.all_eq_true.2 fun y hy => ?_⟩
  obtain ⟨j, hj, rfl⟩ := List.getElem_of_mem hy
  have := h2 j (Int.natCast_nonneg _) (by omega)
  rw [show rd_T35 m (j : Int) = m[j] by simp [rd_T35, hj]] at this
  simp only [decide_eq_true_eq]
  omega
theorem at_ev (l : List S30) (G : Q.Good l) (t i : Int) (hi : Ev (fun k => tariff_index.f k l t) i) (h2 : i < (l.length : Int)) : Ev (fun k => tariff_At.f k l t) (atV l i) := by
  unfold tariff_At.f
  refine Ev.bind hi ?_
  unfold atV
  by_cases c : i < 0
  · rw [if_pos c]
    exact Ev.congr (fun k => if_pos c) (Ev.now _)
  · rw [if_neg c]
    exact Ev.congr (fun k => by rw [if_neg c, if_pos (by omega), if_pos h2, own_val k (G.few.rates i (by omega) h2) (G.few.peaks i (by omega) h2)]; rfl) (Ev.now _)

/-! ### the order of right tariffs -/
def OrdAt (L : List S30) (p : Int) : Prop := 0 ≤ (rd_T30 L p).f0 ∧ (p = 0 → (rd_T30 L p).f0 = 0) ∧ (p > 0 → (rd_T30 L (p - 1)).f0 < (rd_T30 L p).f0)
theorem j2_zero {L : List S30} {k : Nat} {i : Int} {b : Bool} (h : skiarearef33_Right.j2 k L i b = some 0) : b = false ∧ ∃ k', k' < k ∧ skiarearef33_Right.l1 k' L i 0 = some 0 := by
  cases k with
  | zero => simp [skiarearef33_Right.j2] at h
  | succ k =>
    simp only [skiarearef33_Right.j2] at h
    cases b with
    | true => simp at h
    | false =>
      rw [if_neg Bool.false_ne_true] at h
      by_cases c1 : 0 ≤ i
      · rw [if_pos c1] at h
        by_cases c2 : i < (L.length : Int)
        · rw [if_pos c2] at h
          by_cases c3 : ((rd_T30 L i).f1.length : Int) > 32
          · rw [if_pos c3] at h; simp at h
          · rw [if_neg c3] at h; exact ⟨rfl, k, Nat.lt_succ_self k, h⟩
        · rw [if_neg c2] at h; cases h
      · rw [if_neg c1] at h; cases h
theorem j1_zero {L : List S30} (hL : L.length ≤ 1000000) {k : Nat} {i : Int} {b : Bool} (h0 : 0 ≤ i) (h1 : i < (L.length : Int)) (h : skiarearef33_Right.j1 k L i b = some 0) :
    b = false ∧ (i > 0 → (rd_T30 L (i - 1)).f0 < (rd_T30 L i).f0) ∧ ∃ k', k' < k ∧ skiarearef33_Right.l1 k' L i 0 = some 0 := by
  cases k with
  | zero => simp [skiarearef33_Right.j1] at h
  | succ k =>
    simp only [skiarearef33_Right.j1] at h
    cases b with
    | true => simp at h
    | false =>
      rw [if_neg Bool.false_ne_true] at h
      by_cases c : i > 0
      · rw [if_pos c, if_pos h0, if_pos h1, wrap_id (by omega) (by omega), if_pos (by omega), if_pos (by omega)] at h
        obtain ⟨hb, k', hk, hl⟩ := j2_zero h
        have := of_decide_eq_false hb
        exact ⟨rfl, fun _ => by omega, k', by omega, hl⟩
      · rw [if_neg c] at h
        obtain ⟨_, k', hk, hl⟩ := j2_zero h
        exact ⟨rfl, fun hc => absurd hc c, k', by omega, hl⟩
theorem ord_zero (L : List S30) (hL : L.length ≤ 1000000) (hm : ∀ p : Int, 0 ≤ p → p < (L.length : Int) → (rd_T30 L p).f1.length ≤ 1000000) : ∀ (n k : Nat), k ≤ n →
    (∀ i, 0 ≤ i → skiarearef33_Right.l0 k L i = some 0 → ∀ p, i ≤ p → p < (L.length : Int) → OrdAt L p) ∧
    (∀ i j, 0 ≤ i → i < (L.length : Int) → 0 ≤ j → j ≤ 1000000 → skiarearef33_Right.l1 k L i j = some 0 → ∀ p, i + 1 ≤ p → p < (L.length : Int) → OrdAt L p) := by
  intro n
  induction n with
  | zero =>
    intro k hk
    obtain rfl : k = 0 := by omega
    exact ⟨fun i _ h => by simp [skiarearef33_Right.l0] at h, fun i j _ _ _ _ h => by simp [skiarearef33_Right.l1] at h⟩
  | succ n ih =>
    intro k hk
    cases k with
    | zero => exact ⟨fun i _ h => by simp [skiarearef33_Right.l0] at h, fun i j _ _ _ _ h => by simp [skiarearef33_Right.l1] at h⟩
    | succ k =>
      refine ⟨fun i h0 h p hp hpl => ?_, fun i j h0 h1 hj0 hj1 h p hp hpl => ?_⟩
      · have hi : i < (L.length : Int) := by omega
        simp only [skiarearef33_Right.l0] at h
        rw [if_pos hi, if_pos h0] at h
        by_cases c1 : (rd_T30 L i).f0 < 0
        · rw [if_pos c1] at h
          exact absurd (j1_zero hL h0 hi h).1 (by decide)
        rw [if_neg c1] at h
        by_cases c2 : (rd_T30 L i).f0 > 20000000
        · rw [if_pos c2] at h
          exact absurd (j1_zero hL h0 hi h).1 (by decide)
        rw [if_neg c2] at h
        have key : OrdAt L i ∧ ∃ k', k' < k ∧ skiarearef33_Right.l1 k' L i 0 = some 0 := by
          by_cases c3 : i = 0
          · rw [if_pos c3] at h
            obtain ⟨hb, ho, hk'⟩ := j1_zero hL h0 hi h
            exact ⟨⟨by omega, fun _ => by simpa using hb, ho⟩, hk'⟩
          · rw [if_neg c3] at h
            obtain ⟨_, ho, hk'⟩ := j1_zero hL h0 hi h
            exact ⟨⟨by omega, fun e => absurd e c3, ho⟩, hk'⟩
        obtain ⟨ho, k', hk', hl⟩ := key
        by_cases e : p = i
        · rw [e]; exact ho
        · exact (ih k' (by omega)).2 i 0 h0 hi (Int.le_refl _) (by decide) hl p (by omega) hpl
      · simp only [skiarearef33_Right.l1] at h
        rw [if_pos h0, if_pos h1] at h
        have hml := hm i h0 h1
        by_cases c : j < ((rd_T30 L i).f1.length : Int)
        · rw [if_pos c] at h
          obtain ⟨t, ht, h⟩ := Option.bind_eq_some_iff.mp h
          by_cases c2 : t = 0
          · rw [if_pos c2, wrap_id (by omega) (by omega)] at h
            exact (ih k (by omega)).2 i (j + 1) h0 h1 (by omega) (by omega) h p hp hpl
          · rw [if_neg c2] at h
            exact absurd (Option.some.inj h) c2
        · rw [if_neg c, wrap_id (by omega) (by omega)] at h
          exact (ih k (by omega)).1 (i + 1) (by omega) h p hp hpl
theorem right_ord {L : List S30} (G : Q.Good L) (h : Ev (fun k => skiarealaw33_right.f k L) true) : 0 < L.length ∧ ∀ p : Int, 0 ≤ p → p < (L.length : Int) → OrdAt L p := by
  obtain ⟨K, hK⟩ := h
  have h := hK K (Nat.le_refl _)
  unfold skiarealaw33_right.f at h
  obtain ⟨b, hb, h⟩ := Option.bind_eq_some_iff.mp h
  by_cases cb : b = true
  · rw [if_pos cb] at h
    obtain ⟨e, he, h⟩ := Option.bind_eq_some_iff.mp h
    have e0 : e = 0 := by simpa using h
    subst e0
    unfold skiarearef33_Right.f at he
    by_cases c1 : (L.length : Int) = 0
    · rw [if_pos c1] at he; simp at he
    rw [if_neg c1] at he
    by_cases c2 : (L.length : Int) > 16
    · rw [if_pos c2] at he; simp at he
    rw [if_neg c2] at he
    exact ⟨by omega, fun p p0 p1 => (ord_zero L (by omega) (fun q q0 q1 => by have := G.few.rates q q0 q1; omega) K K (Nat.le_refl _)).1 0 (Int.le_refl _) he p p0 p1⟩
  · rw [if_neg cb] at h
    simp at h
theorem ord_mono {L : List S30} (ho : ∀ p : Int, 0 ≤ p → p < (L.length : Int) → OrdAt L p) {i : Int} (hi : i < (L.length : Int)) : ∀ (d : Nat) (j : Int), 0 ≤ j → i - j = d → (rd_T30 L j).f0 ≤ (rd_T30 L i).f0 := by
  intro d
  induction d with
  | zero =>
    intro j j0 hd
    obtain rfl : j = i := by omega
    exact Int.le_refl _
  | succ d ih =>
    intro j j0 hd
    have h1 := ih (j + 1) (by omega) (by omega)
    have h2 := (ho (j + 1) (by omega) (by omega)).2.2 (by omega)
    rw [show j + 1 - 1 = j by omega] at h2
    omega

/-! ### Points by the index -/
theorem rd30_nat {l : List S30} {x : Nat} (h : x < l.length) : rd_T30 l (x : Int) = l[x] := by simp [rd_T30, h]
theorem rd30_at {l : List S30} {i : Int} (h0 : 0 ≤ i) (h1 : i < (l.length : Int)) : ∃ h : i.toNat < l.length, rd_T30 l i = l[i.toNat] := by
  have h2 : i.toNat < l.length := by omega
  exact ⟨h2, by simp [rd_T30, h2]⟩
theorem othL_get (l : List S30) (f a : Int) (n : Nat) (h : n < l.length) {h' : n < (othL l f a).length} : (othL l f a)[n] = if l[n].f0 = f then l[n] else thin a l[n] := by
  simp only [othL, List.getElem_map]
theorem pts_of (l : List S30) (hl : l.length ≤ 9223372036854775807) (r0 r1 r2 r3 r4 r5 r6 v : Int) (m : List S35) (i : Int) (i0 : 0 ≤ i) (i1 : i < (l.length : Int)) (hle : (rd_T30 l i).f0 ≤ r6) (hgt : ∀ j, i < j → j < (l.length : Int) → (rd_T30 l j).f0 > r6) (hm : (rd_T30 l i).f1 = m)
    (hv : Ev (fun k => tariff_Points.l0 k m (m.length : Int) 0 r0 r1 r2 r3 r4 r5 r6) v) : Ev (fun k => tariff_Points.f k l r0 r1 r2 r3 r4 r5 r6) v := by
  obtain ⟨q, hq, q1, q2, q3, q4⟩ := index_ev l r6 hl
  have e : q = i := by
    by_cases g1 : q < i
    · have := q4 i g1 i1; omega
    · by_cases g2 : i < q
      · have a1 := hgt q g2 q2
        have a2 := q3 (by omega)
        omega
      · omega
  subst e
  subst hm
  exact Ev.bind hq (Ev.congr (fun k => by rw [if_neg (by omega), if_pos i0, if_pos i1]) hv)
theorem TariffLatest (l : List S30) (hl : l.length ≤ 9223372036854775807) (hp : ∀ y ∈ l, p30 y) (x : S24) (hx : p24 x) : ∃ k, skiarealaw33_TariffLatest.f k l x.f0 x.f1 x.f2 x.f3 x.f4 x.f5 x.f6 = some true := by
  have main : Ev (fun k => skiarealaw33_TariffLatest.f k l x.f0 x.f1 x.f2 x.f3 x.f4 x.f5 x.f6) true := by
    unfold skiarealaw33_TariffLatest.f
    obtain ⟨b, hb, hG⟩ := lright_ev l
    refine Ev.bind hb ?_
    cases b with
    | false => exact Ev.congr (fun k => if_neg Bool.false_ne_true) (Ev.now _)
    | true =>
      have G := hG rfl
      have hlen := G.few.len
      obtain ⟨hne, ho⟩ := right_ord G hb
      refine Ev.congr (fun k => by rw [if_pos rfl, if_pos (by omega)]) ?_
      obtain ⟨i, hi, i1, i2, i3, i4⟩ := index_ev l x.f6 hl
      have hA := at_ev l G x.f6 i hi i2
      by_cases c : i < 0
      · have hn : Ev (fun k => tariff_Points.f k l x.f0 x.f1 x.f2 x.f3 x.f4 x.f5 x.f6) 0 := Ev.bind hi (Ev.congr (fun k => if_pos c) (Ev.now _))
        refine Ev.bind hn ?_
        unfold atV at hA
        rw [if_pos c] at hA
        refine Ev.bind hA ?_
        have h0 := i4 0 (by omega) (by omega)
        have h1 := (ho 0 (Int.le_refl _) (by omega)).2.1 rfl
        exact Ev.congr (fun k => by rw [if_neg Bool.false_ne_true, if_pos ⟨by omega, rfl⟩]) (Ev.now true)
      · have c0 : 0 ≤ i := by omega
        have hmm := hp _ (rd30_mem c0 i2)
        obtain ⟨v, hv, _⟩ := pts_l0_ev x.f0 x.f1 x.f2 x.f3 x.f4 x.f5 x.f6 (rd_T30 l i).f1 hmm.2.1 (fun y hy => (hmm.2.2 y hy).2.2.2.1)
        have hle := i3 c0
        have hn := pts_of l hl x.f0 x.f1 x.f2 x.f3 x.f4 x.f5 x.f6 v _ i c0 i2 hle i4 rfl hv
        refine Ev.bind hn ?_
        unfold atV at hA
        rw [if_neg c] at hA
        refine Ev.bind hA ?_
        have hpos := (ho i c0 i2).1
        have hlater : laterB l x.f6 (rd_T30 l i).f0 = false := by
          unfold laterB
          rw [List.any_eq_false]
          intro y hy hc
          simp only [Bool.and_eq_true, decide_eq_true_eq] at hc
          obtain ⟨j, hj, rfl⟩ := List.getElem_of_mem hy
          rw [← rd30_nat hj] at hc
          by_cases g : (j : Int) ≤ i
          · have := ord_mono ho i2 (i - j).toNat (j : Int) (Int.natCast_nonneg _) (by omega)
            omega
          · have := i4 (j : Int) (by omega) (by omega)
            omega
        refine Ev.congr (fun k => by rw [if_pos rfl, if_neg (by show ¬ (rd_T30 l i).f0 > x.f6; omega), if_neg (by show ¬ laterB l x.f6 (rd_T30 l i).f0 = true; rw [hlater]; simp)]) ?_
        have h1 : Ev (fun k => tariff_Points.f k [⟨0, (rd_T30 l i).f1⟩] x.f0 x.f1 x.f2 x.f3 x.f4 x.f5 x.f6) v :=
          pts_of [⟨0, (rd_T30 l i).f1⟩] (by simp) x.f0 x.f1 x.f2 x.f3 x.f4 x.f5 x.f6 v _ 0 (Int.le_refl _) (by simp) (by show (0 : Int) ≤ x.f6; omega) (fun j j0 j1 => by simp at j1; omega) rfl hv
        have hbef : befL l x.f6 = l.take (i.toNat + 1) := by
          have e := List.take_append_drop (i.toNat + 1) l
          conv => lhs; rw [← e]
          unfold befL
          rw [List.filter_append, List.filter_eq_self.2, List.filter_eq_nil_iff.2, List.append_nil]
          · intro y hy
            obtain ⟨j, hj, rfl⟩ := List.getElem_of_mem hy
            rw [List.length_drop] at hj
            rw [List.getElem_drop, ← rd30_nat (by omega)]
            have := i4 ((i.toNat + 1 + j : Nat) : Int) (by omega) (by omega)
            simp only [decide_eq_true_eq]
            omega
          · intro y hy
            obtain ⟨j, hj, rfl⟩ := List.getElem_of_mem hy
            rw [List.length_take] at hj
            rw [List.getElem_take, ← rd30_nat (by omega)]
            have := ord_mono ho i2 (i - j).toNat (j : Int) (Int.natCast_nonneg _) (by omega)
            simp only [decide_eq_true_eq]
            omega
        have hbl : ((l.take (i.toNat + 1)).length : Int) = i + 1 := by rw [List.length_take]; omega
        have hb2 : rd_T30 (l.take (i.toNat + 1)) i = rd_T30 l i := by
          obtain ⟨a1, a2⟩ := rd30_at c0 i2
          obtain ⟨a3, a4⟩ := rd30_at (l := l.take (i.toNat + 1)) c0 (by omega)
          rw [a2, a4, List.getElem_take]
        have h2 : Ev (fun k => tariff_Points.f k (befL l x.f6) x.f0 x.f1 x.f2 x.f3 x.f4 x.f5 x.f6) v := by
          rw [hbef]
          exact pts_of _ (by omega) x.f0 x.f1 x.f2 x.f3 x.f4 x.f5 x.f6 v _ i c0 (by omega) (by rw [hb2]; exact hle) (fun j j0 j1 => by omega) (by rw [hb2]) hv
        have hol := othL_length l (rd_T30 l i).f0 x.f5
        have hoa : ∀ j : Int, 0 ≤ j → j < (l.length : Int) → rd_T30 (othL l (rd_T30 l i).f0 x.f5) j = if (rd_T30 l j).f0 = (rd_T30 l i).f0 then rd_T30 l j else thin x.f5 (rd_T30 l j) := by
          intro j j0 j1
          obtain ⟨a1, a2⟩ := rd30_at j0 j1
          obtain ⟨a3, a4⟩ := rd30_at (l := othL l (rd_T30 l i).f0 x.f5) j0 (by omega)
          rw [a4, othL_get _ _ _ _ a1, ← a2]
        have hof : ∀ j : Int, 0 ≤ j → j < (l.length : Int) → (rd_T30 (othL l (rd_T30 l i).f0 x.f5) j).f0 = (rd_T30 l j).f0 := by
          intro j j0 j1
          rw [hoa j j0 j1]
          split <;> rfl
        have h3 : Ev (fun k => tariff_Points.f k (othL l (rd_T30 l i).f0 x.f5) x.f0 x.f1 x.f2 x.f3 x.f4 x.f5 x.f6) v :=
          pts_of _ (by omega) x.f0 x.f1 x.f2 x.f3 x.f4 x.f5 x.f6 v _ i c0 (by omega) (by rw [hof i c0 i2]; exact hle) (fun j j0 j1 => by rw [hof j (by omega) (by omega)]; exact i4 j j0 (by omega)) (by rw [hoa i c0 i2, if_pos rfl]) hv
        exact Ev.bind h1 (Ev.bind h2 (Ev.bind h3 (Ev.congr (fun k => if_pos ⟨rfl, rfl, rfl⟩) (Ev.now true))))
  exact main.rounds
end Go.Proofs.Ytdahjnbfbcemeaa.Pure
