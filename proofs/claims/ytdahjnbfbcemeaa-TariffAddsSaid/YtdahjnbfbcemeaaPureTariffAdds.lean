/- By hand, plain: the law TariffAdds answers true. -/
import Derived.Test.YtdahjnbfbcemeaaQ2
import Derived.Test.YtdahjnbfbcemeaaF4
set_option linter.unusedVariables false
namespace Go.Proofs.Ytdahjnbfbcemeaa.Pure
open Go.RowKit Go.Proofs.YtdahjnbfbcemeaaW.PrintWords Go.Proofs.Ytdahjnbfbcemeaa.P Go.Proofs.Ytdahjnbfbcemeaa.O Go.Proofs.Ytdahjnbfbcemeaa.R Go.Proofs.Ytdahjnbfbcemeaa.Q
theorem wrap_zero : wrap64 0 = 0 := wrap_id (by decide) (by decide)
theorem wrap_wrap (x : Int) : wrap64 (wrap64 x) = wrap64 x := by unfold wrap64; omega
theorem wrap_add (x y : Int) : wrap64 (wrap64 x + y) = wrap64 (x + y) := by unfold wrap64; omega
theorem wrap_add2 (x y : Int) : wrap64 (wrap64 x + wrap64 y) = wrap64 (x + y) := by unfold wrap64; omega
theorem pts_ev2 (l : List S30) (hl : Ps p30 l) (r0 r1 r2 r3 r4 r5 r6 : Int) : ∃ v, Ev (fun k => tariff_Points.f k l r0 r1 r2 r3 r4 r5 r6) v ∧ wrap64 v = v := by
  obtain ⟨i, hi, h1, h2, _, _⟩ := index_ev l r6 hl.1
  by_cases c : i < 0
  · exact ⟨0, Ev.bind hi (Ev.congr (fun k => if_pos c) (Ev.now _)), wrap_zero⟩
  · have hm := hl.2 _ (rd30_mem (show 0 ≤ i by omega) h2)
    obtain ⟨v, hv, h⟩ := pts_l0_ev r0 r1 r2 r3 r4 r5 r6 (rd_T30 l i).f1 hm.2.1 (fun y hy => (hm.2.2 y hy).2.2.2.1)
    refine ⟨v, Ev.bind hi (Ev.congr (fun k => by rw [if_neg c, if_pos (by omega), if_pos h2]) hv), ?_⟩
    rcases h with ⟨rfl, _⟩ | ⟨q, b, q0, q1, _, _, _, hvv⟩
    · exact wrap_zero
    · rw [hvv]
      cases b with
      | true => rw [if_pos rfl]; exact wrap_wrap _
      | false =>
        have hy := hm.2.2 _ (rd35_mem q0 q1)
        have := hy.2.1
        unfold I64 at this
        rw [if_neg (by simp)]
        exact wrap_id this.1 this.2
def sumT (P : S24 → Int) (a : Int) : List S24 → Int
  | [] => 0
  | r :: rs => (if r.f5 = a then P r else 0) + sumT P a rs
theorem sumT_append (P : S24 → Int) (a : Int) (xs ys : List S24) : sumT P a (xs ++ ys) = sumT P a xs + sumT P a ys := by
  induction xs with
  | nil => simp [sumT]
  | cons r rs ih => simp only [List.cons_append, sumT, ih]; omega
theorem sum_l0_val (l : List S30) (P : S24 → Int) (hP : ∀ r : S24, Ev (fun k => tariff_Points.f k l r.f0 r.f1 r.f2 r.f3 r.f4 r.f5 r.f6) (P r)) (a : Int) (rs : List S24) (hr : rs.length ≤ 1000000) : ∀ (d : Nat) (x : Int), 0 ≤ x → x ≤ (rs.length : Int) → (rs.length : Int) - x = d → ∀ n : Int, wrap64 n = n → Ev (fun k => tariff_Sum.l0 k l a n rs (rs.length : Int) x) (wrap64 (n + sumT P a (rs.drop x.toNat))) := by
  intro d
  induction d with
  | zero =>
    intro x x0 x1 hd n hn
    rw [List.drop_eq_nil_of_le (by omega)]
    simp only [sumT, Int.add_zero, hn]
    exact Ev.step (f := fun _ => some n) (fun k => by simp only [tariff_Sum.l0]; rw [if_neg (by omega)]) (Ev.now _)
  | succ d ih =>
    intro x x0 x1 hd n hn
    have hlt : x < (rs.length : Int) := by omega
    have hl2 : x.toNat < rs.length := by omega
    have w1 : wrap64 (x + 1) = x + 1 := wrap_id (by omega) (by omega)
    have e : rd_T24 rs x = rs[x.toNat] := by simp [rd_T24, hl2]
    rw [List.drop_eq_getElem_cons hl2, sumT, ← e]
    have e2 : x.toNat + 1 = (x + 1).toNat := by omega
    rw [e2]
    by_cases c : (rd_T24 rs x).f5 = a
    · rw [if_pos c]
      have h := ih (x + 1) (by omega) (by omega) (by omega) (wrap64 (n + P (rd_T24 rs x))) (wrap_wrap _)
      rw [wrap_add, Int.add_assoc] at h
      exact Ev.step (fun k => by simp only [tariff_Sum.l0]; rw [if_pos hlt, if_pos x0, if_pos hlt, if_pos c, w1]) (Ev.bind (hP _) h)
    · rw [if_neg c, Int.zero_add]
      exact Ev.step (fun k => by simp only [tariff_Sum.l0]; rw [if_pos hlt, if_pos x0, if_pos hlt, if_neg c, w1]) (ih (x + 1) (by omega) (by omega) (by omega) n hn)
theorem sum_val (l : List S30) (P : S24 → Int) (hP : ∀ r : S24, Ev (fun k => tariff_Points.f k l r.f0 r.f1 r.f2 r.f3 r.f4 r.f5 r.f6) (P r)) (a : Int) (rs : List S24) (hr : rs.length ≤ 1000000) : Ev (fun k => tariff_Sum.f k l rs a) (wrap64 (sumT P a rs)) := by
  have h := sum_l0_val l P hP a rs hr rs.length 0 (Int.le_refl _) (Int.natCast_nonneg _) (by omega) 0 wrap_zero
  rw [Int.zero_add] at h
  exact h
theorem adds_loop (l : List S30) (P : S24 → Int) (hP : ∀ r : S24, Ev (fun k => tariff_Points.f k l r.f0 r.f1 r.f2 r.f3 r.f4 r.f5 r.f6) (P r)) (hw : ∀ r, wrap64 (P r) = P r) (a b : List S24) (ha : a.length ≤ 100) (hb : b.length ≤ 100) : ∀ (d : Nat) (x : Int), 0 ≤ x → x ≤ ((b ++ a).length : Int) → ((b ++ a).length : Int) - x = d → Ev (fun k => skiarealaw33_TariffAdds.l0 k l a b (b ++ a) x) true := by
  have hlen : (b ++ a).length ≤ 200 := by rw [List.length_append]; omega
  intro d
  induction d with
  | zero =>
    intro x x0 x1 hd
    refine Ev.step (fun k => by simp only [skiarealaw33_TariffAdds.l0]; rw [if_neg (by omega)]) ?_
    exact Ev.bind (sum_val l P hP 1 [] (by decide)) (Ev.congr (fun k => by simp [sumT, wrap_zero]) (Ev.now true))
  | succ d ih =>
    intro x x0 x1 hd
    have hlt : x < ((b ++ a).length : Int) := by omega
    have hl2 : x.toNat < (b ++ a).length := by omega
    have w1 : wrap64 (x + 1) = x + 1 := wrap_id (by omega) (by omega)
    refine Ev.step (fun k => by simp only [skiarealaw33_TariffAdds.l0]; rw [if_pos hlt, if_pos x0, w1]) ?_
    refine Ev.bind (sum_val l P hP _ a (by omega)) (Ev.bind (sum_val l P hP _ b (by omega)) (Ev.bind (sum_val l P hP _ (b ++ a) (by omega)) ?_))
    refine Ev.congr (fun k => by rw [if_pos (by rw [wrap_add2, sumT_append, Int.add_comm]), if_pos (by omega), if_pos (by omega)]) ?_
    have e : rd_T24 (b ++ a) x = (b ++ a)[x.toNat] := by unfold rd_T24; simp [List.getD_eq_getElem?_getD, List.getElem?_eq_getElem hl2]
    have hone : ((b ++ a).take (x + 1).toNat).drop x.toNat = [rd_T24 (b ++ a) x] := by
      rw [show (x + 1).toNat = x.toNat + 1 by omega, List.take_succ_eq_append_getElem hl2, List.drop_append_of_le_length (by rw [List.length_take]; omega), List.drop_eq_nil_of_le (by rw [List.length_take]; omega), e]
      rfl
    have hs := sum_val l P hP (rd_T24 (b ++ a) x).f5 [rd_T24 (b ++ a) x] (by simp)
    rw [show sumT P (rd_T24 (b ++ a) x).f5 [rd_T24 (b ++ a) x] = P (rd_T24 (b ++ a) x) by simp [sumT], hw] at hs
    rw [hone]
    refine Ev.bind hs (Ev.bind (hP _) ?_)
    exact Ev.congr (fun k => if_pos rfl) (ih (x + 1) (by omega) (by omega) (by omega))
theorem TariffAdds (l : List S30) (hl : l.length ≤ 9223372036854775807) (hp : ∀ y ∈ l, p30 y) (a : List S24) (hl2 : a.length ≤ 9223372036854775807) (hp2 : ∀ y ∈ a, p24 y) (b : List S24) (hl3 : b.length ≤ 9223372036854775807) (hp3 : ∀ y ∈ b, p24 y) : ∃ k, skiarealaw33_TariffAdds.f k l a b = some true := by
  have bad : Ev (fun k => skiarealaw33_TariffAdds.j0 k l a b true) true := Ev.step (f := fun _ => some true) (fun k => by simp [skiarealaw33_TariffAdds.j0]) (Ev.now _)
  have main : Ev (fun k => skiarealaw33_TariffAdds.f k l a b) true := by
    unfold skiarealaw33_TariffAdds.f
    rw [alive_val]
    simp only [Option.bind_some, if_true]
    obtain ⟨q, hb, hG⟩ := lright_ev l
    refine Ev.bind hb ?_
    cases q with
    | false => exact Ev.congr (fun k => if_neg Bool.false_ne_true) bad
    | true =>
      refine Ev.congr (fun k => if_pos rfl) ?_
      by_cases c1 : (a.length : Int) > 100
      · exact Ev.congr (fun k => if_pos c1) bad
      · refine Ev.congr (fun k => if_neg c1) ?_
        by_cases c2 : (b.length : Int) > 100
        · rw [decide_eq_true c2]; exact bad
        · rw [decide_eq_false c2]
          have hch : ∀ r : S24, ∃ v, Ev (fun k => tariff_Points.f k l r.f0 r.f1 r.f2 r.f3 r.f4 r.f5 r.f6) v ∧ wrap64 v = v := fun r => pts_ev2 l ⟨hl, hp⟩ _ _ _ _ _ _ _
          refine Ev.step (f := fun k => skiarealaw33_TariffAdds.l0 k l a b (b ++ a) 0) (fun k => by simp only [skiarealaw33_TariffAdds.j0]; rw [if_neg Bool.false_ne_true, if_pos (by simp; omega)]; simp only [Option.bind_some, List.nil_append]; rw [if_pos (by omega)]) ?_
          exact adds_loop l (fun r => Classical.choose (hch r)) (fun r => (Classical.choose_spec (hch r)).1) (fun r => (Classical.choose_spec (hch r)).2) a b (by omega) (by omega) _ 0 (Int.le_refl _) (Int.natCast_nonneg _) (by rw [Int.sub_zero])
  exact main.rounds
end Go.Proofs.Ytdahjnbfbcemeaa.Pure
