/- By hand, plain: the law ProductLess answers true. -/
import Derived.Test.YtpojelbablofpaaQ3
import Derived.Test.YtpojelbablofpaaF7
set_option linter.unusedVariables false
namespace Go.Proofs.Ytpojelbablofpaa.Pure
open Go.RowKit Go.Proofs.YtpojelbablofpaaW.PrintWords Go.Proofs.Ytpojelbablofpaa.P Go.Proofs.Ytpojelbablofpaa.O Go.Proofs.Ytpojelbablofpaa.R Go.Proofs.Ytpojelbablofpaa.Q
theorem less_distinct {l : List S32} (h : ∀ i, 0 ≤ i → i < (l.length : Int) → OkAt l i) : l.Pairwise (fun x y => x.f0 ≠ y.f0) := by
  rw [List.pairwise_iff_getElem]
  intro i j hi hj hij
  have := (h (j : Int) (Int.natCast_nonneg _) (by omega)).1 (i : Int) (Int.natCast_nonneg _) (by omega)
  rwa [rd32_nat hi, rd32_nat hj] at this
theorem find_mem {l : List S32} (hs : Small l) (hd : l.Pairwise (fun x y => x.f0 ≠ y.f0)) {z : S32} (hz : z ∈ l) : Ev (fun k => product_Find.f k l z.f0) (tupF z true) := by
  have hs1 := hs.1
  obtain ⟨r, hr, hc⟩ := find_ev l z.f0 (by omega) hs.2
  obtain ⟨n, hn, rfl⟩ := List.getElem_of_mem hz
  have hp := List.pairwise_iff_getElem.1 hd
  have e : r = tupF l[n] true := by
    rcases hc with ⟨i, i0, i1, i2, _, rfl⟩ | ⟨hno, _⟩
    · have hi : i.toNat < l.length := by omega
      have ei : rd_T32 l i = l[i.toNat] := by simp [rd_T32, hi]
      rw [ei] at i2 ⊢
      by_cases g1 : i.toNat < n
      · exact absurd i2 (hp _ _ hi hn g1)
      · by_cases g2 : n < i.toNat
        · exact absurd i2.symm (hp _ _ hn hi g2)
        · have e : i.toNat = n := by omega
          simp only [e]
    · exact absurd (by rw [rd32_nat hn]) (hno (n : Int) (Int.natCast_nonneg _) (by omega))
  rw [← e]
  exact hr
theorem rd_mid (xs ys : List Int) (y : Int) : rd (xs ++ y :: ys) (xs.length : Int) = y := by
  unfold rd
  simp [List.getD]
theorem less_loop (l : List S32) (hs : Small l) (hd : l.Pairwise (fun x y => x.f0 ≠ y.f0)) (a more : Int) (all few : List Int) : ∀ (zs ws : List S32), (∀ z ∈ ws ++ zs, z ∈ l ∧ ageB z a = true) → (ws ++ zs).Pairwise (fun x y => x.f0 ≠ y.f0) → all = (ws ++ zs).map (fun x => x.f0) → few = ((ws ++ zs).filter (fun x => decide (more ∈ x.f5))).map (fun x => x.f0) → (ws ++ zs).length ≤ 70 →
    Ev (fun k => skiarealaw22_ProductLess.l0 k l a more all few (((ws.filter (fun x => decide (more ∈ x.f5))).length : Nat) : Int) ((ws.length : Nat) : Int)) true := by
  intro zs
  induction zs with
  | nil =>
    intro ws hz hp ha hf hn
    rw [List.append_nil] at ha hf
    subst ha
    subst hf
    exact Ev.step (f := fun _ => some true) (fun k => by simp only [skiarealaw22_ProductLess.l0]; rw [if_neg (by simp)]; simp) (Ev.now _)
  | cons z zs ih =>
    intro ws hz hp ha hf hn
    have e1 : ws ++ z :: zs = (ws ++ [z]) ++ zs := by simp
    have ih := ih (ws ++ [z]) (by rw [← e1]; exact hz) (by rw [← e1]; exact hp) (by rw [← e1]; exact ha) (by rw [← e1]; exact hf) (by rw [← e1]; exact hn)
    have hzz := hz z (by simp)
    have hm := hs.2 z hzz.1
    have hfind := find_mem hs hd hzz.1
    have harea := area_ev z more (by omega)
    have hlen : all.length = ws.length + zs.length + 1 := by rw [ha]; simp; omega
    rw [List.length_append, List.length_cons] at hn
    have hrd : rd all ((ws.length : Nat) : Int) = z.f0 := by
      rw [ha, List.map_append, List.map_cons]
      have := rd_mid (ws.map (fun x => x.f0)) (zs.map (fun x => x.f0)) z.f0
      rwa [List.length_map] at this
    have hfl : (ws.filter (fun x => decide (more ∈ x.f5))).length ≤ ws.length := List.length_filter_le _ _
    have e4 : ((ws ++ [z]).length : Int) = (ws.length : Int) + 1 := by simp
    rw [e4] at ih
    refine Ev.step (fun k => by simp only [skiarealaw22_ProductLess.l0]; rw [if_pos (by omega), if_pos (Int.natCast_nonneg _), hrd]) (Ev.bind hfind ?_)
    simp only [tupF]
    refine Ev.congr (fun k => by rw [if_pos trivial, if_pos trivial, age_val, Option.bind_some, hzz.2]) ?_
    have hj3 : ∀ b : Bool, b = decide (more ∈ z.f5) → Ev (fun k => skiarealaw22_ProductLess.j3 k l a more all few (((ws.filter (fun x => decide (more ∈ x.f5))).length : Nat) : Int) ((ws.length : Nat) : Int) b z.f0 z.f1 z.f2 z.f3 z.f4 z.f5 z.f6 z.f7.f0 z.f7.f1 z.f8) true := by
      intro b hb
      rw [← hb] at harea
      refine Ev.step (fun k => by simp only [skiarealaw22_ProductLess.j3]; rfl) ?_
      cases b with
      | true =>
        refine Ev.congr (fun k => if_pos rfl) (Ev.bind harea (Ev.congr (fun k => if_pos rfl) ?_))
        have e3 : ((ws ++ [z]).filter (fun x => decide (more ∈ x.f5))).length = (ws.filter (fun x => decide (more ∈ x.f5))).length + 1 := by
          rw [List.filter_append, List.length_append]
          simp [of_decide_eq_true hb.symm]
        rw [e3, show (((ws.filter (fun x => decide (more ∈ x.f5))).length + 1 : Nat) : Int) = ((ws.filter (fun x => decide (more ∈ x.f5))).length : Int) + 1 by omega] at ih
        exact Ev.congr (fun k => by rw [wrap_id (by omega) (by omega), wrap_id (by omega) (by omega)]) ih
      | false =>
        refine Ev.congr (fun k => if_neg Bool.false_ne_true) (Ev.bind harea (Ev.congr (fun k => if_neg Bool.false_ne_true) ?_))
        have e3 : ((ws ++ [z]).filter (fun x => decide (more ∈ x.f5))).length = (ws.filter (fun x => decide (more ∈ x.f5))).length := by
          rw [List.filter_append, List.length_append]
          simp [of_decide_eq_false hb.symm]
        rw [e3] at ih
        exact Ev.congr (fun k => by rw [wrap_id (by omega) (by omega)]) ih
    refine Ev.step (fun k => by simp only [skiarealaw22_ProductLess.j2]; rw [if_neg (by simp)]) ?_
    have hfs : few = (ws.filter (fun x => decide (more ∈ x.f5))).map (fun x => x.f0) ++ ((z :: zs).filter (fun x => decide (more ∈ x.f5))).map (fun x => x.f0) := by
      rw [hf, List.filter_append, List.map_append]
    have hml : ((ws.filter (fun x => decide (more ∈ x.f5))).map (fun x => x.f0)).length = (ws.filter (fun x => decide (more ∈ x.f5))).length := List.length_map _
    by_cases cq : more ∈ z.f5
    · have e5 : (z :: zs).filter (fun x => decide (more ∈ x.f5)) = z :: zs.filter (fun x => decide (more ∈ x.f5)) := List.filter_cons_of_pos (by simpa using cq)
      rw [e5, List.map_cons] at hfs
      have hlt : ((ws.filter (fun x => decide (more ∈ x.f5))).length : Int) < (few.length : Int) := by rw [hfs, List.length_append, List.length_cons, hml]; omega
      have hrf : rd few ((ws.filter (fun x => decide (more ∈ x.f5))).length : Int) = z.f0 := by
        rw [hfs, ← hml]
        exact rd_mid _ _ _
      exact Ev.congr (fun k => by rw [if_pos hlt, if_pos (Int.natCast_nonneg _), if_pos (Int.natCast_nonneg _), if_pos (by omega), hrd, hrf]) (hj3 (z.f0 == z.f0) (by rw [decide_eq_true cq]; simp))
    · have e5 : (z :: zs).filter (fun x => decide (more ∈ x.f5)) = zs.filter (fun x => decide (more ∈ x.f5)) := List.filter_cons_of_neg (by simpa using cq)
      rw [e5] at hfs
      by_cases hlt : ((ws.filter (fun x => decide (more ∈ x.f5))).length : Int) < (few.length : Int)
      · have hne : rd few ((ws.filter (fun x => decide (more ∈ x.f5))).length : Int) ≠ z.f0 := by
          cases hc : zs.filter (fun x => decide (more ∈ x.f5)) with
          | nil => rw [hfs, hc, List.map_nil, List.append_nil, hml] at hlt; omega
          | cons y ys =>
            have hy : y ∈ zs := by
              have : y ∈ zs.filter (fun x => decide (more ∈ x.f5)) := by rw [hc]; simp
              exact (List.mem_filter.1 this).1
            have hrf : rd few ((ws.filter (fun x => decide (more ∈ x.f5))).length : Int) = y.f0 := by
              rw [hfs, hc, List.map_cons, ← hml]
              exact rd_mid _ _ _
            rw [hrf]
            have := (List.pairwise_append.1 hp).2.1
            exact fun e => (List.pairwise_cons.1 this).1 y hy e.symm
        exact Ev.congr (fun k => by rw [if_pos hlt, if_pos (Int.natCast_nonneg _), if_pos (Int.natCast_nonneg _), if_pos (by omega), hrd]) (hj3 _ (by rw [decide_eq_false cq]; simpa using hne))
      · exact Ev.congr (fun k => if_neg hlt) (hj3 false (by rw [decide_eq_false cq]))
theorem fitB_more (x : S32) (a : Int) (ops : List Int) (more : Int) : fitB x a (ops ++ [more]) = (fitB x a ops && decide (more ∈ x.f5)) := by
  unfold fitB
  rw [List.all_append]
  simp [Bool.and_assoc]
theorem ProductLess (l : List S32) (hl : l.length ≤ 9223372036854775807) (hp : ∀ y ∈ l, p32 y) (a : Int) (ha : I64 a) (ops : List Int) (hol : ops.length ≤ 9223372036854775807) (hop : ∀ y ∈ ops, I64 y) (more : Int) (hmo : I64 more) : ∃ k, skiarealaw22_ProductLess.f k l a ops more = some true := by
  have main : Ev (fun k => skiarealaw22_ProductLess.f k l a ops more) true := by
    unfold skiarealaw22_ProductLess.f
    rw [alive_val]
    simp only [Option.bind_some, if_true]
    obtain ⟨b, hb, hF⟩ := small_ev l hl
    refine Ev.bind hb ?_
    have ht : Ev (fun k => skiarealaw22_ProductLess.j0 k l a ops more true) true := Ev.step (f := fun _ => some true) (fun k => by simp [skiarealaw22_ProductLess.j0]) (Ev.now _)
    cases b with
    | false => exact Ev.congr (fun k => if_neg Bool.false_ne_true) ht
    | true =>
      have hs := hF rfl
      have hs1 := hs.1
      refine Ev.congr (fun k => if_pos rfl) ?_
      by_cases c : (ops.length : Int) > 40
      · exact Ev.congr (fun k => if_pos c) ht
      refine Ev.congr (fun k => if_neg c) ?_
      obtain ⟨e, h1, h3⟩ := right_prod l hs
      refine Ev.bind h1 ?_
      by_cases e0 : e = 0
      · have hd := less_distinct (h3 e0)
        rw [show (e != 0) = false by rw [e0]; rfl]
        have hal : forL l a ops = (l.filter fun x => fitB x a ops).map fun x => x.f0 := rfl
        have hfe : forL l a (ops ++ [more]) = ((l.filter fun x => fitB x a ops).filter fun x => decide (more ∈ x.f5)).map fun x => x.f0 := by
          unfold forL
          rw [List.filter_filter]
          congr 2
          funext x
          rw [fitB_more, Bool.and_comm]
        have hloop := less_loop l hs hd a more (forL l a ops) (forL l a (ops ++ [more])) (l.filter fun x => fitB x a ops) []
          (fun z hz => by
            rw [List.nil_append] at hz
            have hz := List.mem_filter.1 hz
            refine ⟨hz.1, ?_⟩
            have h2 := hz.2
            unfold fitB at h2
            simp only [Bool.and_eq_true] at h2
            unfold ageB
            rw [h2.1.1, h2.1.2]; rfl)
          (by rw [List.nil_append]; exact hd.filter _) (by rw [List.nil_append]; exact hal) (by rw [List.nil_append]; exact hfe) (by rw [List.nil_append]; have := List.length_filter_le (fun x => fitB x a ops) l; omega)
        refine Ev.step (fun k => ?_) hloop
        simp only [skiarealaw22_ProductLess.j0]
        rw [if_neg Bool.false_ne_true, for_val k l a ops hs1 (by omega) hs.2, Option.bind_some, Option.bind_some, if_pos (by simp only [List.length_nil]; omega), Option.bind_some, List.nil_append, if_pos (by omega), for_val k l a (ops ++ [more]) hs1 (by rw [List.length_append, List.length_singleton]; omega) hs.2, Option.bind_some]
        rfl
      · rw [show (e != 0) = true by simpa using e0]
        exact ht
  exact main.rounds
end Go.Proofs.Ytpojelbablofpaa.Pure
