/- By hand, plain: the law ProductOwn answers true. -/
import Derived.Test.YtpojelbablofpaaQ3
import Derived.Test.YtpojelbablofpaaF8
set_option linter.unusedVariables false
namespace Go.Proofs.Ytpojelbablofpaa.Pure
open Go.RowKit Go.Proofs.YtpojelbablofpaaW.PrintWords Go.Proofs.Ytpojelbablofpaa.P Go.Proofs.Ytpojelbablofpaa.O Go.Proofs.Ytpojelbablofpaa.R Go.Proofs.Ytpojelbablofpaa.Q
theorem ProductOwn (l : List S32) (hl : l.length ≤ 9223372036854775807) (hp : ∀ y ∈ l, p32 y) (c : Int) (hc : (Lit.int .u8 c).wf = true) : ∃ k, skiarealaw22_ProductOwn.f k l c = some true := by
  have hc2 : 0 ≤ c ∧ c ≤ 255 := by
    simp only [Lit.wf, Bool.and_eq_true, decide_eq_true_eq] at hc
    exact hc
  have main : Ev (fun k => skiarealaw22_ProductOwn.f k l c) true := by
    unfold skiarealaw22_ProductOwn.f
    rw [alive_val]
    simp only [Option.bind_some, if_true]
    obtain ⟨b, hb, hF⟩ := small_ev l hl
    refine Ev.bind hb ?_
    have ht : Ev (fun k => skiarealaw22_ProductOwn.j0 k l c true) true := Ev.step (f := fun _ => some true) (fun k => by simp [skiarealaw22_ProductOwn.j0]) (Ev.now _)
    cases b with
    | false => exact Ev.congr (fun k => if_neg Bool.false_ne_true) ht
    | true =>
      have hs := hF rfl
      have hs1 := hs.1
      refine Ev.congr (fun k => if_pos rfl) ?_
      obtain ⟨e, h1, h3⟩ := right_prod l hs
      refine Ev.bind h1 ?_
      by_cases e0 : e = 0
      · refine Ev.congr (fun k => if_pos e0) ?_
        by_cases cl : (l.length : Int) = 0
        · rw [beq_iff_eq.mpr cl]; exact ht
        · rw [beq_eq_false_iff_ne.mpr cl]
          have e2 : Int.tmod (wrap64 c) (l.length : Int) = c % (l.length : Int) := by rw [wrap_id (by omega) (by omega)]; exact Int.tmod_eq_emod_of_nonneg hc2.1
          have e3 : 0 ≤ c % (l.length : Int) := Int.emod_nonneg _ (by omega)
          have e4 : c % (l.length : Int) < (l.length : Int) := Int.emod_lt_of_pos _ (by omega)
          have hok := h3 e0 _ e3 e4
          have hm := hs.2 _ (rd32_mem e3 e4)
          obtain ⟨r, hr, hcase⟩ := find_ev l (rd_T32 l (c % (l.length : Int))).f0 hl hs.2
          have hrr : r = tupF (rd_T32 l (c % (l.length : Int))) true := by
            rcases hcase with ⟨i, i0, i1, i2, i3, rfl⟩ | ⟨hn, _⟩
            · have : i = c % (l.length : Int) := by
                by_cases g1 : i < c % (l.length : Int)
                · exact absurd i2 (hok.1 i i0 g1)
                · by_cases g2 : c % (l.length : Int) < i
                  · exact absurd rfl (i3 _ e3 g2)
                  · omega
              rw [this]
            · exact absurd rfl (hn _ e3 e4)
          subst hrr
          refine Ev.step (fun k => by simp only [skiarealaw22_ProductOwn.j0]; rw [if_neg Bool.false_ne_true, if_neg cl, e2, if_pos e3, if_pos e4]) ?_
          have hsame := same_refl_ev (rd_T32 l (c % (l.length : Int))) (by omega) (by omega)
          refine Ev.bind hr ?_
          have hown : ∀ k, skiarearef22_Own.f k (rd_T32 l (c % (l.length : Int))).f0 (rd_T32 l (c % (l.length : Int))).f1 (rd_T32 l (c % (l.length : Int))).f2 (rd_T32 l (c % (l.length : Int))).f3 (rd_T32 l (c % (l.length : Int))).f4 (rd_T32 l (c % (l.length : Int))).f5 (rd_T32 l (c % (l.length : Int))).f6 (rd_T32 l (c % (l.length : Int))).f7.f0 (rd_T32 l (c % (l.length : Int))).f7.f1 (rd_T32 l (c % (l.length : Int))).f8 = some ((rd_T32 l (c % (l.length : Int))).f0, (rd_T32 l (c % (l.length : Int))).f1, (rd_T32 l (c % (l.length : Int))).f2, (rd_T32 l (c % (l.length : Int))).f3, (rd_T32 l (c % (l.length : Int))).f4, (rd_T32 l (c % (l.length : Int))).f5, (rd_T32 l (c % (l.length : Int))).f6, (rd_T32 l (c % (l.length : Int))).f7.f0, (rd_T32 l (c % (l.length : Int))).f7.f1, (rd_T32 l (c % (l.length : Int))).f8) := fun k => by
            unfold skiarearef22_Own.f
            rw [if_pos ⟨by omega, by omega⟩]
          simp only [tupF, hown, Option.bind_some, if_true]
          refine Ev.bind hsame ?_
          have g0 : 0 < (rd_T32 l (c % (l.length : Int))).f5.length := hok.2
          have g1 : ¬ (((rd_T32 l (c % (l.length : Int))).f5.length : Int) = 0) := by omega
          have g2 : 0 < ((rd_T32 l (c % (l.length : Int))).f5.length : Int) := by omega
          refine Ev.congr (fun k => if_pos rfl) ?_
          exact Ev.ite (fun h => absurd h g1) (fun _ => Ev.ite (fun _ => Ev.bind hsame (Ev.now true)) (fun h => absurd g2 h))
      · exact Ev.congr (fun k => if_neg e0) ht
  exact main.rounds
end Go.Proofs.Ytpojelbablofpaa.Pure
