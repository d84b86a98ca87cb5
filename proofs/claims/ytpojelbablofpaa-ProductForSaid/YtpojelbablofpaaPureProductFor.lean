/- By hand, plain: the law ProductFor answers true. -/
import Derived.Test.YtpojelbablofpaaQ
import Derived.Test.YtpojelbablofpaaF6
set_option linter.unusedVariables false
namespace Go.Proofs.Ytpojelbablofpaa.Pure
open Go.RowKit Go.Proofs.YtpojelbablofpaaW.PrintWords Go.Proofs.Ytpojelbablofpaa.P Go.Proofs.Ytpojelbablofpaa.O Go.Proofs.Ytpojelbablofpaa.R Go.Proofs.Ytpojelbablofpaa.Q
/-- The law's own look at the list says that the rest is the rest of For. -/
theorem for_loop (l : List S32) (hs : Small l) (a : Int) (ops : List Int) (ho : ops.length ≤ 40) : ∀ (d x : Nat), x ≤ l.length → l.length - x = d →
    Ev (fun k => skiarealaw22_ProductFor.l0 k l a ops (forL l a ops) ((forL (l.take x) a ops).length : Int) (x : Int)) true := by
  have hl := hs.1
  intro d
  induction d with
  | zero =>
    intro x hx hd
    rw [List.take_of_length_le (by omega)]
    refine Ev.step (fun k => by simp only [skiarealaw22_ProductFor.l0]; rw [if_neg (by omega), if_pos trivial]) ?_
    have h1 := for_ref_ev l a ops hl (by omega) hs.2
    refine Ev.bind h1 (Ev.bind (g := fun k => skiarearef22_SameInts.f k (forL l a ops) (forL l a ops)) (a := true) ?_ (Ev.now true))
    have h2 := sameInts_ev (forL l a ops) (forL l a ops) (by have := forL_length l a ops; omega)
    rwa [decide_eq_true rfl] at h2
  | succ d ih =>
    intro x hx hd
    have hlt : x < l.length := by omega
    have hm := hs.2 _ (rd32_mem (l := l) (i := (x : Int)) (Int.natCast_nonneg _) (by omega))
    have ih := ih (x + 1) (by omega) (by omega)
    have hlen := forL_length (l.take x) a ops
    rw [List.length_take] at hlen
    have hsplit : forL l a ops = forL (l.take (x + 1)) a ops ++ forL (l.drop (x + 1)) a ops := by
      have e := List.take_append_drop (x + 1) l
      conv => lhs; rw [← e]
      unfold forL
      rw [List.filter_append, List.map_append]
    rw [forL_take hlt] at ih hsplit
    rw [show ((x + 1 : Nat) : Int) = (x : Int) + 1 by omega] at ih
    refine Ev.step (fun k => by simp only [skiarealaw22_ProductFor.l0]; rw [if_pos (by omega), if_pos (Int.natCast_nonneg _), age_val, Option.bind_some]) ?_
    have hloop := all_loop (rd_T32 l (x : Int)) (by omega) ops (by omega) (fun k b j => skiarealaw22_ProductFor.l1 k l a ops (forL l a ops) ((forL (l.take x) a ops).length : Int) (x : Int) b j) (fun k n => product_Area.f k (rd_T32 l (x : Int)).f0 (rd_T32 l (x : Int)).f1 (rd_T32 l (x : Int)).f2 (rd_T32 l (x : Int)).f3 (rd_T32 l (x : Int)).f4 (rd_T32 l (x : Int)).f5 (rd_T32 l (x : Int)).f6 (rd_T32 l (x : Int)).f7.f0 (rd_T32 l (x : Int)).f7.f1 (rd_T32 l (x : Int)).f8 n) (fun n => area_ev _ n (by omega))
      (fun k j j0 j1 => by simp only [skiarealaw22_ProductFor.l1]; rw [if_pos j1, if_pos trivial, if_pos (Int.natCast_nonneg _), if_pos (by omega), if_pos j0, wrap_id (i := j + 1) (by omega) (by omega)])
      (fun k j j0 j1 => by simp only [skiarealaw22_ProductFor.l1]; rw [if_pos j1, if_neg Bool.false_ne_true, wrap_id (i := j + 1) (by omega) (by omega)])
      ops.length 0 (ageB (rd_T32 l (x : Int)) a) true (Int.le_refl _) (Int.natCast_nonneg _) (by omega)
    refine hloop ?_
    have eb : (ageB (rd_T32 l (x : Int)) a && (ops.drop (0 : Int).toNat).all fun n => decide (n ∈ (rd_T32 l (x : Int)).f5)) = fitB (rd_T32 l (x : Int)) a ops := by
      simp [ageB, fitB]
    rw [eb]
    cases c : fitB (rd_T32 l (x : Int)) a ops with
    | true =>
      rw [c, if_pos rfl] at ih hsplit
      have hlen2 : ((forL (l.take x) a ops).length : Int) < ((forL l a ops).length : Int) := by rw [hsplit]; simp only [List.length_append, List.length_cons]; omega
      have hrd : rd (forL l a ops) ((forL (l.take x) a ops).length : Int) = (rd_T32 l (x : Int)).f0 := by
        rw [hsplit]
        unfold rd
        simp [List.getD]
      rw [List.length_append, List.length_singleton, show (((forL (l.take x) a ops).length + 1 : Nat) : Int) = ((forL (l.take x) a ops).length : Int) + 1 by omega] at ih
      exact Ev.step (fun k => by simp only [skiarealaw22_ProductFor.l1]; rw [if_neg (by omega), if_pos trivial, if_neg (by omega), if_pos (Int.natCast_nonneg _), if_pos hlen2, if_pos (Int.natCast_nonneg _), if_pos (by omega), if_pos hrd, wrap_id (i := (x : Int) + 1) (by omega) (by omega), wrap_id (i := ((forL (l.take x) a ops).length : Int) + 1) (by omega) (by omega)]) ih
    | false =>
      rw [c, if_neg Bool.false_ne_true, List.append_nil] at ih
      exact Ev.step (fun k => by simp only [skiarealaw22_ProductFor.l1]; rw [if_neg (by omega), if_neg Bool.false_ne_true, wrap_id (i := (x : Int) + 1) (by omega) (by omega)]) ih
theorem ProductFor (l : List S32) (hl : l.length ≤ 9223372036854775807) (hp : ∀ y ∈ l, p32 y) (a : Int) (ha : I64 a) (ops : List Int) (hol : ops.length ≤ 9223372036854775807) (hop : ∀ y ∈ ops, I64 y) : ∃ k, skiarealaw22_ProductFor.f k l a ops = some true := by
  have main : Ev (fun k => skiarealaw22_ProductFor.f k l a ops) true := by
    unfold skiarealaw22_ProductFor.f
    rw [alive_val]
    simp only [Option.bind_some, if_true]
    obtain ⟨b, hb, hF⟩ := small_ev l hl
    refine Ev.bind hb ?_
    have ht : Ev (fun k => skiarealaw22_ProductFor.j0 k l a ops true) true := Ev.step (f := fun _ => some true) (fun k => by simp [skiarealaw22_ProductFor.j0]) (Ev.now _)
    cases b with
    | false => exact Ev.congr (fun k => if_neg Bool.false_ne_true) ht
    | true =>
      have hs := hF rfl
      have hs1 := hs.1
      refine Ev.congr (fun k => if_pos rfl) ?_
      by_cases c : (ops.length : Int) > 40
      · rw [decide_eq_true c]; exact ht
      · rw [decide_eq_false c]
        refine Ev.step (fun k => by simp only [skiarealaw22_ProductFor.j0]; rw [if_neg Bool.false_ne_true, for_val k l a ops hs1 (by omega) hs.2, Option.bind_some]) ?_
        have h := for_loop l hs a ops (by omega) l.length 0 (Nat.zero_le _) (by omega)
        simpa [forL] using h
  exact main.rounds
end Go.Proofs.Ytpojelbablofpaa.Pure
