/- By hand, plain: the law ValidUses answers true. -/
import Derived.Test.YtkojejcjfbeedaaQ
import Derived.Test.YtkojejcjfbeedaaU
import Derived.Test.YtkojejcjfbeedaaF6
set_option linter.unusedVariables false
namespace Go.Proofs.Ytkojejcjfbeedaa.Pure
open Go.RowKit Go.Proofs.YtkojejcjfbeedaaW.PrintWords Go.Proofs.Ytkojejcjfbeedaa.P Go.Proofs.Ytkojejcjfbeedaa.O Go.Proofs.Ytkojejcjfbeedaa.R Go.Proofs.Ytkojejcjfbeedaa.Q

/-- What holds behind i tries. -/
structure Inv (x : S27) (i rides days first today : Int) (m : S30) : Prop where
  r : 0 ≤ rides ∧ rides ≤ i
  cnt : m.f1 = rides
  d : 0 ≤ days ∧ days ≤ rides
  at_ : -1 ≤ m.f7 ∧ m.f7 ≤ 20000000
  td : today = m.f5 ∧ -1 ≤ today ∧ today ≤ 231
  nw : rides = 0 → m.f3 = -1 ∧ m.f5 = -1 ∧ days = 0
  old : rides ≠ 0 → m.f3 = first ∧ 0 ≤ first ∧ first ≤ m.f7
  dk : x.f1 = 1 → m.f4 = x.f2 - days ∧ 0 ≤ m.f4
  pk : x.f1 = 2 → m.f4 = x.f2 - rides ∧ 0 ≤ m.f4

theorem uses_j4 (x : S27) (pf : PF x) (l : List S46) (i rides days first today t : Int) (m : S30) (hi : 0 ≤ i ∧ i ≤ 150) (hI : Inv x (i + 1) rides days first today m) (ht : 0 ≤ t ∧ t ≤ 20000000) (hf : 0 ≤ first ∧ first ≤ 20000000) (h0 : x.f1 = 0 → first ≤ t ∧ t - first < x.f2)
    (ih : Ev (fun k => skiarealaw26_ValidUses.l0 k l rides days first today (i + 1) x.f0 x.f1 x.f2 x.f3 x.f4 x.f5 x.f6 x.f7.f0 x.f7.f1 x.f8 m.f0 m.f1 m.f2 m.f3 m.f4 m.f5 m.f6 m.f7 m.f8) true) :
    Ev (fun k => skiarealaw26_ValidUses.j4 k l rides days first today i t x.f0 x.f1 x.f2 x.f3 x.f4 x.f5 x.f6 x.f7.f0 x.f7.f1 x.f8 m.f0 m.f1 m.f2 m.f3 m.f4 m.f5 m.f6 m.f7 m.f8) true := by
  obtain ⟨r, cnt, d, at_, td, nw, old, dk, pk⟩ := hI
  have u1 := pf.units
  have u2 := pf.timed
  have u3 := pf.other
  refine Ev.step (f := fun k => skiarealaw26_ValidUses.l0 k l rides days first today (i + 1) x.f0 x.f1 x.f2 x.f3 x.f4 x.f5 x.f6 x.f7.f0 x.f7.f1 x.f8 m.f0 m.f1 m.f2 m.f3 m.f4 m.f5 m.f6 m.f7 m.f8) (fun k => ?_) ih
  simp only [skiarealaw26_ValidUses.j4]
  rw [wrap_id (i := i + 1) (by omega) (by omega)]
  by_cases k0 : x.f1 = 0
  · have h := h0 k0
    rw [if_pos k0, if_neg (by omega), wrap_id (by omega) (by omega), if_neg (by omega)]
  · rw [if_neg k0]
    have u4 := u3 k0
    by_cases k1 : x.f1 = 1
    · have h := dk k1
      rw [if_pos k1, if_neg (by omega), wrap_id (by omega) (by omega), if_pos h.1]
    · have k2 : x.f1 = 2 := by rcases pf.kind with h | h | h <;> omega
      have h := pk k2
      rw [if_neg k1, if_neg (by omega), wrap_id (by omega) (by omega), if_pos h.1]

theorem uses_loop (x : S27) (pf : PF x) (l : List S46) (h5 : x.f5.length ≤ 9223372036854775807) (h6 : x.f6.length ≤ 9223372036854775807) (hl : l.length ≤ 150) : ∀ (n : Nat) (i : Int), 0 ≤ i → i ≤ l.length → (l.length : Int) - i = n →
    ∀ (rides days first today : Int) (m : S30), Inv x i rides days first today m →
      Ev (fun k => skiarealaw26_ValidUses.l0 k l rides days first today i x.f0 x.f1 x.f2 x.f3 x.f4 x.f5 x.f6 x.f7.f0 x.f7.f1 x.f8 m.f0 m.f1 m.f2 m.f3 m.f4 m.f5 m.f6 m.f7 m.f8) true := by
  intro n
  induction n with
  | zero =>
    intro i hi0 hi1 hn rides days first today m hI
    exact Ev.step (f := fun _ => some true) (fun k => by simp only [skiarealaw26_ValidUses.l0]; rw [if_neg (by omega)]) (Ev.now _)
  | succ n ih =>
    intro i hi0 hi1 hn rides days first today m hI
    have hlt : i < (l.length : Int) := by omega
    have IH := ih (i + 1) (by omega) (by omega) (by omega)
    clear ih
    refine Ev.step (fun k => by simp only [skiarealaw26_ValidUses.l0]; rw [if_pos hlt, if_pos hi0, wrap_id (i := i + 1) (by omega) (by omega)]) ?_
    generalize rd_T46 l i = y
    refine Ev.bind (use_ev x m y.f0 y.f1 y.f2 h5 h6) ?_
    rcases use_cases x m y.f0 y.f1 y.f2 with ⟨e, he, hne, _⟩ | ⟨he, hw, hc, hl1, hl2⟩
    · rw [he]
      refine Ev.congr (fun k => if_neg hne) ?_
      refine IH rides days first today m ?_
      obtain ⟨r, cnt, d, at_, td, nw, old, dk, pk⟩ := hI
      exact ⟨⟨r.1, by omega⟩, cnt, d, at_, td, nw, old, dk, pk⟩
    · rw [he]
      refine Ev.congr (fun k => if_pos rfl) ?_
      obtain ⟨z1, z2, z3, z4, _⟩ := why_zero hw
      have s1 := pf.season
      have u1 := pf.units
      have u2 := pf.timed
      have u3 := pf.other
      have ht : 0 ≤ y.f2 ∧ y.f2 ≤ 20000000 := by omega
      have hd : dayS y.f2 = y.f2 / 86400 := by unfold dayS; rw [if_pos ht]
      have hdw : wrap64 (Int.tdiv y.f2 86400) = dayS y.f2 := by rw [Int.tdiv_eq_ediv_of_nonneg ht.1, wrap_id (by omega) (by omega), hd]
      obtain ⟨r, cnt, d, at_, td, nw, old, dk, pk⟩ := hI
      -- the fields of the medium behind the ride
      have f1 : (rode x m y.f1 y.f2).f1 = rides + 1 := by show wrap64 (m.f1 + 1) = rides + 1; rw [wrap_id (by omega) (by omega), cnt]
      have f3 : (rode x m y.f1 y.f2).f3 = if rides = 0 then y.f2 else first := by
        show (if m.f3 = -1 then y.f2 else m.f3) = _
        by_cases e : rides = 0
        · rw [if_pos (nw e).1, if_pos e]
        · have o := old e
          rw [if_neg (by omega), if_neg e, o.1]
      have f5 : (rode x m y.f1 y.f2).f5 = dayS y.f2 := rfl
      have f7 : (rode x m y.f1 y.f2).f7 = y.f2 := rfl
      have f4 : (rode x m y.f1 y.f2).f4 = if x.f1 = 2 ∨ (x.f1 = 1 ∧ dayS y.f2 ≠ m.f5) then wrap64 (m.f4 - 1) else m.f4 := rfl
      have hz : (x.f1 = 0 → rides ≠ 0 → y.f2 < first + x.f2) ∧ (x.f1 = 1 → m.f4 = 0 → dayS y.f2 = m.f5) ∧ (x.f1 = 2 → m.f4 ≠ 0) := by
        unfold usedS at z3
        refine ⟨fun k0 hr => ?_, fun k1 hz => ?_, fun k2 hz => ?_⟩
        · have o := old hr
          have := u2 k0
          rw [if_pos k0, if_neg (by omega), wrap_id (by omega) (by omega)] at z3
          have := of_decide_eq_false z3
          omega
        · rw [if_neg (by omega), if_pos k1, if_pos hz] at z3
          simpa using z3
        · rw [if_neg (by omega), if_neg (by omega), hz] at z3
          simp at z3
      -- the days, told anew
      have main : ∀ (days' today' : Int), today' = dayS y.f2 → days' = (if dayS y.f2 = today then days else days + 1) → ∀ first' : Int, first' = (if rides = 0 then y.f2 else first) →
          Ev (fun k => skiarealaw26_ValidUses.j4 k l (rides + 1) days' first' today' i y.f2 x.f0 x.f1 x.f2 x.f3 x.f4 x.f5 x.f6 x.f7.f0 x.f7.f1 x.f8 (rode x m y.f1 y.f2).f0 (rode x m y.f1 y.f2).f1 (rode x m y.f1 y.f2).f2 (rode x m y.f1 y.f2).f3 (rode x m y.f1 y.f2).f4 (rode x m y.f1 y.f2).f5 (rode x m y.f1 y.f2).f6 (rode x m y.f1 y.f2).f7 (rode x m y.f1 y.f2).f8) true := by
        intro days' today' ht' hd' first' hf'
        have hfb : 0 ≤ first' ∧ first' ≤ y.f2 := by
          rw [hf']
          by_cases e : rides = 0
          · rw [if_pos e]; omega
          · have o := old e
            rw [if_neg e]; omega
        have hdd : days' = days ∧ dayS y.f2 = m.f5 ∨ days' = days + 1 ∧ dayS y.f2 ≠ m.f5 := by
          rw [hd', td.1]
          by_cases e : dayS y.f2 = m.f5
          · rw [if_pos e]; exact .inl ⟨rfl, e⟩
          · rw [if_neg e]; exact .inr ⟨rfl, e⟩
        have hI' : Inv x (i + 1) (rides + 1) days' first' today' (rode x m y.f1 y.f2) := by
          refine ⟨by omega, f1, by omega, by rw [f7]; omega, by rw [f5, ht', hd]; omega, fun h => by omega, fun _ => ⟨by rw [f3, hf'], hfb.1, by rw [f7]; exact hfb.2⟩, fun k1 => ?_, fun k2 => ?_⟩
          · have q := dk k1
            have q2 := hz.2.1 k1
            rw [f4]
            rcases hdd with ⟨h1, h2⟩ | ⟨h1, h2⟩
            · rw [if_neg (by omega)]; omega
            · rw [if_pos (.inr ⟨k1, h2⟩), wrap_id (by omega) (by omega)]
              have : m.f4 ≠ 0 := fun h => h2 (q2 h)
              omega
          · have q := pk k2
            have q2 := hz.2.2 k2
            rw [f4, if_pos (.inl k2), wrap_id (by omega) (by omega)]
            omega
        refine uses_j4 x pf l i (rides + 1) days' first' today' y.f2 (rode x m y.f1 y.f2) (by omega) hI' ht (by omega) (fun k0 => ⟨hfb.2, ?_⟩) (IH _ _ _ _ _ hI')
        rw [hf']
        by_cases e : rides = 0
        · rw [if_pos e]; omega
        · have := hz.1 k0 e
          rw [if_neg e]; omega
      -- the joins
      have j3 : ∀ first' : Int, first' = (if rides = 0 then y.f2 else first) →
          Ev (fun k => skiarealaw26_ValidUses.j3 k l rides days first' today i y.f2 x.f0 x.f1 x.f2 x.f3 x.f4 x.f5 x.f6 x.f7.f0 x.f7.f1 x.f8 (rode x m y.f1 y.f2).f0 (rode x m y.f1 y.f2).f1 (rode x m y.f1 y.f2).f2 (rode x m y.f1 y.f2).f3 (rode x m y.f1 y.f2).f4 (rode x m y.f1 y.f2).f5 (rode x m y.f1 y.f2).f6 (rode x m y.f1 y.f2).f7 (rode x m y.f1 y.f2).f8) true := by
        intro first' hf'
        refine Ev.step (fun k => by simp only [skiarealaw26_ValidUses.j3]; rw [hdw, wrap_id (i := rides + 1) (by omega) (by omega), wrap_id (i := days + 1) (by omega) (by omega)]) ?_
        by_cases e : dayS y.f2 = today
        · exact Ev.congr (fun k => if_pos e) (main days today e.symm (by rw [if_pos e]) first' hf')
        · exact Ev.congr (fun k => if_neg e) (main (days + 1) (dayS y.f2) rfl (by rw [if_neg e]) first' hf')
      refine Ev.congr (fun k => if_neg (by omega)) ?_
      refine Ev.step (fun k => by simp only [skiarealaw26_ValidUses.j2]; rw [if_neg (by simp only [decide_eq_true_eq]; omega)]) ?_
      by_cases e : rides = 0
      · exact Ev.congr (fun k => if_pos e) (j3 y.f2 (by rw [if_pos e]))
      · exact Ev.congr (fun k => if_neg e) (j3 first (by rw [if_neg e]))

theorem ValidUses (x : S27) (hx : p27 x) (l : List S46) (hl : l.length ≤ 9223372036854775807) (hp : ∀ y ∈ l, p46 y) :
    ∃ k, skiarealaw26_ValidUses.f k x.f0 x.f1 x.f2 x.f3 x.f4 x.f5 x.f6 x.f7.f0 x.f7.f1 x.f8 l = some true := by
  have h5 := hx.2.2.2.2.2.1.1
  have h6 := hx.2.2.2.2.2.2.1.1
  obtain ⟨t, ht, hF⟩ := one_good x h5 h6
  have j0t : Ev (fun k => skiarealaw26_ValidUses.j0 k l true x.f0 x.f1 x.f2 x.f3 x.f4 x.f5 x.f6 x.f7.f0 x.f7.f1 x.f8) true :=
    Ev.step (f := fun _ => some true) (fun k => by simp [skiarealaw26_ValidUses.j0]) (Ev.now _)
  have main : Ev (fun k => skiarealaw26_ValidUses.f k x.f0 x.f1 x.f2 x.f3 x.f4 x.f5 x.f6 x.f7.f0 x.f7.f1 x.f8 l) true := by
    unfold skiarealaw26_ValidUses.f
    rw [alive_val]
    simp only [Option.bind_some, if_true]
    refine Ev.bind ht ?_
    by_cases e : t = 0
    · have pf := hF e
      refine Ev.congr (fun k => if_pos e) ?_
      by_cases c : (l.length : Int) > 150
      · rw [decide_eq_true c]; exact j0t
      · rw [decide_eq_false c]
        refine Ev.step (fun k => by simp only [skiarealaw26_ValidUses.j0]; rw [if_neg (by simp)]) ?_
        have u1 := pf.units
        have fr : ∃ m : S30, skiarealaw26_fresh.f x.f0 x.f1 x.f2 x.f3 x.f4 x.f5 x.f6 x.f7.f0 x.f7.f1 x.f8 = some (m.f0, m.f1, m.f2, m.f3, m.f4, m.f5, m.f6, m.f7, m.f8) ∧ Inv x 0 0 0 0 (-1) m := by
          unfold skiarealaw26_fresh.f
          by_cases k0 : x.f1 = 0
          · rw [if_pos k0]
            exact ⟨⟨1, 0, x.f0, -1, 0, -1, 0, -1, 0⟩, rfl, ⟨by decide, rfl, by decide, (by show (-1:Int) ≤ -1 ∧ (-1:Int) ≤ 20000000; decide), (by show (-1:Int) = -1 ∧ (-1:Int) ≤ -1 ∧ (-1:Int) ≤ 231; decide), fun _ => ⟨rfl, rfl, rfl⟩, fun h => absurd rfl h, fun h => by omega, fun h => by omega⟩⟩
          · rw [if_neg k0]
            exact ⟨⟨1, 0, x.f0, -1, x.f2, -1, 0, -1, 0⟩, rfl, ⟨by decide, rfl, by decide, (by show (-1:Int) ≤ -1 ∧ (-1:Int) ≤ 20000000; decide), (by show (-1:Int) = -1 ∧ (-1:Int) ≤ -1 ∧ (-1:Int) ≤ 231; decide), fun _ => ⟨rfl, rfl, rfl⟩, fun h => absurd rfl h, fun h => by show x.f2 = x.f2 - 0 ∧ 0 ≤ x.f2; omega, fun h => by show x.f2 = x.f2 - 0 ∧ 0 ≤ x.f2; omega⟩⟩
        obtain ⟨m, hm, hI⟩ := fr
        rw [hm]
        simp only [Option.bind_some]
        exact uses_loop x pf l h5 h6 (by omega) l.length 0 (by omega) (by omega) (by omega) 0 0 0 (-1) m hI
    · exact Ev.congr (fun k => if_neg e) j0t
  exact main.rounds
end Go.Proofs.Ytkojejcjfbeedaa.Pure
