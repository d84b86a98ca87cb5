/- By hand, plain: the law ProductJoins answers true. -/
import Derived.Test.YtpojelbablofpaaQ
import Derived.Test.YtpojelbablofpaaF9
set_option linter.unusedVariables false
namespace Go.Proofs.Ytpojelbablofpaa.Pure
open Go.RowKit Go.Proofs.YtpojelbablofpaaW.PrintWords Go.Proofs.Ytpojelbablofpaa.P Go.Proofs.Ytpojelbablofpaa.O Go.Proofs.Ytpojelbablofpaa.R Go.Proofs.Ytpojelbablofpaa.Q
theorem ProductJoins (l : List S32) (hl : l.length ≤ 9223372036854775807) (hp : ∀ y ∈ l, p32 y) (c : Int) (hc : (Lit.int .u8 c).wf = true) (a : Int) (ha : I64 a) (ops : List Int) (hol : ops.length ≤ 9223372036854775807) (hop : ∀ y ∈ ops, I64 y) : ∃ k, skiarealaw22_ProductJoins.f k l c a ops = some true := by
  have hc2 : 0 ≤ c ∧ c ≤ 255 := by
    simp only [Lit.wf, Bool.and_eq_true, decide_eq_true_eq] at hc
    exact hc
  have main : Ev (fun k => skiarealaw22_ProductJoins.f k l c a ops) true := by
    unfold skiarealaw22_ProductJoins.f
    rw [alive_val]
    simp only [Option.bind_some, if_true]
    obtain ⟨b, hb, hF⟩ := small_ev l hl
    refine Ev.bind hb ?_
    have ht : Ev (fun k => skiarealaw22_ProductJoins.j0 k l c a ops true) true := Ev.step (f := fun _ => some true) (fun k => by simp [skiarealaw22_ProductJoins.j0]) (Ev.now _)
    cases b with
    | false => exact Ev.congr (fun k => if_neg Bool.false_ne_true) ht
    | true =>
      have hs := hF rfl
      have hs1 := hs.1
      refine Ev.congr (fun k => if_pos rfl) ?_
      by_cases co : (ops.length : Int) > 40
      · rw [decide_eq_true co]; exact ht
      · rw [decide_eq_false co]
        have e1 : wrap64 ((l.length : Int) + 1) = (l.length : Int) + 1 := wrap_id (by omega) (by omega)
        have e2 : Int.tmod (wrap64 c) ((l.length : Int) + 1) = c % ((l.length : Int) + 1) := by rw [wrap_id (by omega) (by omega)]; exact Int.tmod_eq_emod_of_nonneg hc2.1
        have e3 : 0 ≤ c % ((l.length : Int) + 1) := Int.emod_nonneg _ (by omega)
        have e4 : c % ((l.length : Int) + 1) < (l.length : Int) + 1 := Int.emod_lt_of_pos _ (by omega)
        have hsum : forL (l.take (c % ((l.length : Int) + 1)).toNat) a ops ++ forL (l.drop (c % ((l.length : Int) + 1)).toNat) a ops = forL l a ops := by
          conv => rhs; rw [← List.take_append_drop (c % ((l.length : Int) + 1)).toNat l]
          unfold forL
          rw [List.filter_append, List.map_append]
        have n1 := forL_length (l.take (c % ((l.length : Int) + 1)).toNat) a ops
        have n2 := forL_length (l.drop (c % ((l.length : Int) + 1)).toNat) a ops
        rw [List.length_take] at n1
        rw [List.length_drop] at n2
        have v1 : ∀ k, product_For.f k (l.take (c % ((l.length : Int) + 1)).toNat) a ops = some (forL (l.take (c % ((l.length : Int) + 1)).toNat) a ops) := fun k => for_val k _ a ops (by rw [List.length_take]; omega) (by omega) (fun x hx => hs.2 x (List.mem_of_mem_take hx))
        have v2 : ∀ k, product_For.f k (l.drop (c % ((l.length : Int) + 1)).toNat) a ops = some (forL (l.drop (c % ((l.length : Int) + 1)).toNat) a ops) := fun k => for_val k _ a ops (by rw [List.length_drop]; omega) (by omega) (fun x hx => hs.2 x (List.mem_of_mem_drop hx))
        have hsi := sameInts_ev (forL l a ops) (forL l a ops) (by have := forL_length l a ops; omega)
        rw [decide_eq_true rfl] at hsi
        refine Ev.step (f := fun k => (skiarearef22_SameInts.f k (forL l a ops) (forL l a ops)).bind fun t => some t) (fun k => ?_) (Ev.bind hsi (Ev.now true))
        simp only [skiarealaw22_ProductJoins.j0]
        rw [if_neg Bool.false_ne_true, e1, e2, if_neg (by omega), Option.bind_some, if_pos e3, if_pos (by omega), v1, Option.bind_some, if_pos (by simp only [List.length_nil]; omega), Option.bind_some, v2, Option.bind_some, if_pos (by simp only [List.nil_append]; omega), for_val k l a ops hs1 (by omega) hs.2, Option.bind_some, List.nil_append, hsum]
  exact main.rounds
end Go.Proofs.Ytpojelbablofpaa.Pure
