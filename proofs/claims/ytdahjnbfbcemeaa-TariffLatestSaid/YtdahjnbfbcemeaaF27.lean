-- Written by wip/fakeprint.py and wip/post.py of this claim's author, who used the kit's printer (print.py) on turned inputs.
import Derived.Test.YtdahjnbfbcemeaaK
import Derived.Test.YtdahjnbfbcemeaaF41
import Derived.Test.YtdahjnbfbcemeaaH2
namespace Go.Proofs.Ytdahjnbfbcemeaa.P
open Go.RowKit Go.Proofs.YtdahjnbfbcemeaaW.PrintWords Go.Proofs.YtdahjnbfbcemeaaW.PrintLast Go.Proofs.YtdahjnbfbcemeaaW.PrintMore
attribute [local go_sem] max2_int min2_int max_two min_two max_three min_three max_four min_four   -- for this text's walks alone
attribute [local go_sem] max2_int min2_int max_two min_two
set_option linter.unusedVariables false
set_option linter.unusedSimpArgs false

/-! ### tariff_rates: function 27 -/
mutual
def tariff_rates.l0 : Nat → List (S35) → Int → Option (Int)
 | 0, _, _ => none
 | k + 1, x0, x3 => if x3 < (x0.length : Int) then (if 0 ≤ x3 then (if ((rd_T35 x0 x3).f0) < 1 then (tariff_rates.j1 k x0 x3 true ((rd_T35 x0 x3).f0) ((rd_T35 x0 x3).f1) ((rd_T35 x0 x3).f2) ((rd_T35 x0 x3).f3)) else (if ((rd_T35 x0 x3).f0) > 9999 then (tariff_rates.j1 k x0 x3 true ((rd_T35 x0 x3).f0) ((rd_T35 x0 x3).f1) ((rd_T35 x0 x3).f2) ((rd_T35 x0 x3).f3)) else (if ((rd_T35 x0 x3).f1) < 1 then (tariff_rates.j1 k x0 x3 true ((rd_T35 x0 x3).f0) ((rd_T35 x0 x3).f1) ((rd_T35 x0 x3).f2) ((rd_T35 x0 x3).f3)) else (if ((rd_T35 x0 x3).f1) > 10000 then (tariff_rates.j1 k x0 x3 true ((rd_T35 x0 x3).f0) ((rd_T35 x0 x3).f1) ((rd_T35 x0 x3).f2) ((rd_T35 x0 x3).f3)) else (if ((rd_T35 x0 x3).f2) < 0 then (tariff_rates.j1 k x0 x3 true ((rd_T35 x0 x3).f0) ((rd_T35 x0 x3).f1) ((rd_T35 x0 x3).f2) ((rd_T35 x0 x3).f3)) else (tariff_rates.j1 k x0 x3 (decide (((rd_T35 x0 x3).f2) > 1000)) ((rd_T35 x0 x3).f0) ((rd_T35 x0 x3).f1) ((rd_T35 x0 x3).f2) ((rd_T35 x0 x3).f3))))))) else (none)) else (some 0)
def tariff_rates.j1 : Nat → List (S35) → Int → Bool → Int → Int → Int → List (S54) → Option (Int)
 | 0, _, _, _, _, _, _, _ => none
 | k + 1, x0, x3, x46, x220000, x220001, x220002, x220003 => if x46 = true then (some 2) else (tariff_rates.l1 k x0 x3 0 x220000 x220001 x220002 x220003)
def tariff_rates.l1 : Nat → List (S35) → Int → Int → Int → Int → Int → List (S54) → Option (Int)
 | 0, _, _, _, _, _, _, _ => none
 | k + 1, x0, x3, x5, x220000, x220001, x220002, x220003 => if x5 < x3 then (if 0 ≤ x5 then (if x5 < (x0.length : Int) then (if ((rd_T35 x0 x5).f0) = x220000 then (some 7) else (tariff_rates.l1 k x0 x3 (wrap64 (x5 + 1)) x220000 x220001 x220002 x220003)) else (none)) else (none)) else ((clock_Right.f k x220003).bind fun t221 => (if t221 = true then (tariff_rates.l0 k x0 (wrap64 (x3 + 1))) else (some 1)))
end
def tariff_rates.f (k : Nat) (l0 : List (S35)) : Option (Int) := if (l0.length : Int) > 32 then (some 4) else (tariff_rates.l0 k l0 0)
theorem tariff_rates.mono_l : ∀ k, (∀ y0 y1, LeO (tariff_rates.l0 k y0 y1) (tariff_rates.l0 (k + 1) y0 y1)) ∧ (∀ y0 y1 y2 y3 y4 y5 y6, LeO (tariff_rates.j1 k y0 y1 y2 y3 y4 y5 y6) (tariff_rates.j1 (k + 1) y0 y1 y2 y3 y4 y5 y6)) ∧ (∀ y0 y1 y2 y3 y4 y5 y6, LeO (tariff_rates.l1 k y0 y1 y2 y3 y4 y5 y6) (tariff_rates.l1 (k + 1) y0 y1 y2 y3 y4 y5 y6))
 | 0 => ⟨fun _ _ r h => by simp [tariff_rates.l0] at h, fun _ _ _ _ _ _ _ r h => by simp [tariff_rates.j1] at h, fun _ _ _ _ _ _ _ r h => by simp [tariff_rates.l1] at h⟩
 | k + 1 => by
  obtain ⟨ih0, ih1, ih2⟩ := tariff_rates.mono_l k
  refine ⟨?_, ?_, ?_⟩
  ·intro y0 y1
   unfold tariff_rates.l0
   repeat' first
   | (with_reducible exact ih0 _ _)
   | (with_reducible exact ih1 _ _ _ _ _ _ _)
   | (with_reducible exact ih2 _ _ _ _ _ _ _)
   | (with_reducible exact clock_Right.mono _ _)
   | (with_reducible exact LeO.refl _)
   | (with_reducible exact LeO.none _)
   | (with_reducible refine LeO.ite ?_ ?_)
   | (with_reducible refine LeO.bind ?_ (fun _ => ?_))
   | exact ih0 _ _
   | exact ih1 _ _ _ _ _ _ _
   | exact ih2 _ _ _ _ _ _ _
   | exact clock_Right.mono _ _
   | exact LeO.none _
   | refine LeO.ite ?_ ?_
   | refine LeO.bind ?_ (fun _ => ?_)
  ·intro y0 y1 y2 y3 y4 y5 y6
   unfold tariff_rates.j1
   repeat' first
   | (with_reducible exact ih0 _ _)
   | (with_reducible exact ih1 _ _ _ _ _ _ _)
   | (with_reducible exact ih2 _ _ _ _ _ _ _)
   | (with_reducible exact clock_Right.mono _ _)
   | (with_reducible exact LeO.refl _)
   | (with_reducible exact LeO.none _)
   | (with_reducible refine LeO.ite ?_ ?_)
   | (with_reducible refine LeO.bind ?_ (fun _ => ?_))
   | exact ih0 _ _
   | exact ih1 _ _ _ _ _ _ _
   | exact ih2 _ _ _ _ _ _ _
   | exact clock_Right.mono _ _
   | exact LeO.none _
   | refine LeO.ite ?_ ?_
   | refine LeO.bind ?_ (fun _ => ?_)
  ·intro y0 y1 y2 y3 y4 y5 y6
   unfold tariff_rates.l1
   repeat' first
   | (with_reducible exact ih0 _ _)
   | (with_reducible exact ih1 _ _ _ _ _ _ _)
   | (with_reducible exact ih2 _ _ _ _ _ _ _)
   | (with_reducible exact clock_Right.mono _ _)
   | (with_reducible exact LeO.refl _)
   | (with_reducible exact LeO.none _)
   | (with_reducible refine LeO.ite ?_ ?_)
   | (with_reducible refine LeO.bind ?_ (fun _ => ?_))
   | exact ih0 _ _
   | exact ih1 _ _ _ _ _ _ _
   | exact ih2 _ _ _ _ _ _ _
   | exact clock_Right.mono _ _
   | exact LeO.none _
   | refine LeO.ite ?_ ?_
   | refine LeO.bind ?_ (fun _ => ?_)
theorem tariff_rates.mono : ∀ a0 k, LeO (tariff_rates.f k a0) (tariff_rates.f (k + 1) a0) := by
 intro a0 k
 obtain ⟨ih0, ih1, ih2⟩ := tariff_rates.mono_l k
 unfold tariff_rates.f
 repeat' first
   | (with_reducible exact ih0 _ _)
   | (with_reducible exact ih1 _ _ _ _ _ _ _)
   | (with_reducible exact ih2 _ _ _ _ _ _ _)
   | (with_reducible exact clock_Right.mono _ _)
   | (with_reducible exact LeO.refl _)
   | (with_reducible exact LeO.none _)
   | (with_reducible refine LeO.ite ?_ ?_)
   | (with_reducible refine LeO.bind ?_ (fun _ => ?_))
   | exact ih0 _ _
   | exact ih1 _ _ _ _ _ _ _
   | exact ih2 _ _ _ _ _ _ _
   | exact clock_Right.mono _ _
   | exact LeO.none _
   | refine LeO.ite ?_ ?_
   | refine LeO.bind ?_ (fun _ => ?_)
theorem j1_bad {k : Nat} {l : List S35} {x f0 f1 f2 r : Int} {f3 : List S54} (h : tariff_rates.j1 k l x true f0 f1 f2 f3 = some r) : r = 2 := by
 cases k with
 | zero => simp [tariff_rates.j1] at h
 | succ k =>
  simp only [tariff_rates.j1, if_true] at h
  exact (Option.some.inj h).symm
theorem j1_good {k : Nat} {l : List S35} {x f0 f1 f2 r : Int} {f3 : List S54} (h : tariff_rates.j1 k l x false f0 f1 f2 f3 = some r) : ∃ k', k' < k ∧ tariff_rates.l1 k' l x 0 f0 f1 f2 f3 = some r := by
 cases k with
 | zero => simp [tariff_rates.j1] at h
 | succ k =>
  simp only [tariff_rates.j1] at h
  rw [if_neg (by simp)] at h
  exact ⟨k, by omega, h⟩
theorem l1_spec (l : List S35) (hl : l.length ≤ 1000000) (f0 f1 f2 r : Int) (f3 : List S54) : ∀ (k i j : Nat), j ≤ i → i < l.length → tariff_rates.l1 k l i j f0 f1 f2 f3 = some r →
  (((l.take i).drop j).any (fun y => y.f0 == f0) = true ∧ r = 7) ∨ (((l.take i).drop j).any (fun y => y.f0 == f0) = false ∧ ∃ k' t, k' < k ∧ clock_Right.f k' f3 = some t ∧ (if t = true then tariff_rates.l0 k' l (wrap64 ((i : Int) + 1)) = some r else r = 1)) := by
 intro k
 induction k with
 | zero => intro i j _ _ h; simp [tariff_rates.l1] at h
 | succ k ih =>
  intro i j hji hil h
  simp only [tariff_rates.l1] at h
  by_cases c : (j : Int) < (i : Int)
  · rw [if_pos c, if_pos (by omega), if_pos (by omega)] at h
    have hjl : j < l.length := by omega
    have hj2 : j < (l.take i).length := by rw [List.length_take]; omega
    have e : rd_T35 l j = l[j] := by simp [rd_T35, hjl]
    rw [e] at h
    rw [List.drop_eq_getElem_cons hj2, List.any_cons, show (l.take i)[j] = l[j] from List.getElem_take]
    by_cases q : l[j].f0 = f0
    · rw [if_pos q] at h
      exact .inl ⟨by simp [q], (Option.some.inj h).symm⟩
    · rw [if_neg q, show wrap64 ((j : Int) + 1) = ((j + 1 : Nat) : Int) by unfold wrap64; omega] at h
      have qb : (l[j].f0 == f0) = false := beq_eq_false_iff_ne.mpr q
      rw [qb, Bool.false_or]
      rcases ih i (j + 1) (by omega) hil h with h | ⟨h1, k', t, hk, h2, h3⟩
      · exact .inl h
      · exact .inr ⟨h1, k', t, by omega, h2, h3⟩
  · rw [if_neg c] at h
    obtain ⟨t, h2, h3⟩ := Option.bind_eq_some_iff.mp h
    refine .inr ⟨by rw [List.drop_eq_nil_of_le (by rw [List.length_take]; omega)]; rfl, k, t, by omega, h2, ?_⟩
    cases t with
    | true => simpa using h3
    | false =>
     simp only [Bool.false_eq_true, if_false] at h3 ⊢
     exact (Option.some.inj h3).symm
set_option maxHeartbeats 8000000 in
set_option maxRecDepth 100000 in
theorem tariff_rates.calls (k : Nat) (A0 : Option Addr) (c0 : Nat) (l0 : List (S35)) (r : Int) (w : World) (hr0 : Kd.C k35 w A0 l0.length l0) (hc0 : l0.length ≤ c0) (h : tariff_rates.f k l0 = some r) :
  Calls Try.prog 27 #[.slice A0 l0.length c0] w fun e w' => e = .returned (.int .i64 r) ∧ Below w.heap.size w w' := by
 have hu35 := Try.underlying35
 unfold tariff_rates.f at h
 have HR0 := Aside0.mk hr0
 have HC0 := Aside0.mk hc0
 clear hr0 hc0
 by_cases c : (l0.length : Int) > 32
 · rw [if_pos c] at h
   obtain rfl := Option.some.inj h
   have cb : decide (32 < (l0.length : Int)) = true := decide_eq_true c
   clear h
   go_enter Try.func27, Try.ntmps27
   go_wp2
   go_ret
   exact ⟨rfl, Below.refl _ _⟩
 · rw [if_neg c] at h
   have cb : decide (32 < (l0.length : Int)) = false := decide_eq_false c
   have HL := Aside0.mk (show l0.length ≤ 32 by omega)
   have H' := Aside0.mk h
   have eg := enters_of (P := Try.prog) Try.func40 (by kernel_rfl) rfl
   clear h c
   go_enter Try.func27, Try.ntmps27
   go_wp2
   go_loopg [10] k (fun kq v10 wr => ∃ x : Int, v10 = .int .i64 x ∧ Aside0 (tariff_rates.l0 kq l0 x = some r) ∧ Aside0 (kq ≤ k) ∧ Aside0 (Below w.heap.size w wr))
   case atStart => exact ⟨0, rfl, H', ⟨Nat.le_refl _⟩, ⟨Below.refl _ _⟩⟩
   case round =>
    clear H' cb
    obtain ⟨x, rfl, HA, HK, HB⟩ := hrel
    cases gk with
    | zero => exact absurd HA.out (by simp [tariff_rates.l0])
    | succ k1 =>
     have H := HA.out
     clear HA
     simp only [tariff_rates.l0] at H
     by_cases c1 : x < (l0.length : Int)
     · rw [if_pos c1] at H
       by_cases c2 : 0 ≤ x
       · rw [if_pos c2] at H
         have c1b := decide_eq_true c1
         have c2b := decide_eq_true c2
         obtain ⟨ad, A3, c3, e1, hx0, hx1, hx2, hx3, hx4, hx5⟩ := at_T35 (Kd.C_below HR0.out HB.out) x c2 c1
         cases e1
         have HX4 := Aside0.mk hx4
         have HX5 := Aside0.mk hx5
         clear hx4 hx5
         by_cases q1 : (rd_T35 l0 x).f0 < 1
         · rw [if_pos (show (rd_T35 l0 x).f0 < 1 from q1)] at H
           obtain rfl := j1_bad H
           have q1b := decide_eq_true q1
           clear H HX4 HX5
           go_wp2
           go_ret
           exact ⟨rfl, (by repeat (first | exact HB.out | apply below_alloc | apply pw_below_drewN | apply below_drew1 | refine below_set ?_ (HB.out.size)))⟩
         rw [if_neg (show ¬ (rd_T35 l0 x).f0 < 1 from q1)] at H
         have q1b := decide_eq_false q1
         by_cases q2 : 9999 < (rd_T35 l0 x).f0
         · rw [if_pos (show (rd_T35 l0 x).f0 > 9999 from q2)] at H
           obtain rfl := j1_bad H
           have q2b := decide_eq_true q2
           clear H HX4 HX5
           go_wp2
           go_ret
           exact ⟨rfl, (by repeat (first | exact HB.out | apply below_alloc | apply pw_below_drewN | apply below_drew1 | refine below_set ?_ (HB.out.size)))⟩
         rw [if_neg (show ¬ (rd_T35 l0 x).f0 > 9999 from q2)] at H
         have q2b := decide_eq_false q2
         by_cases q3 : (rd_T35 l0 x).f1 < 1
         · rw [if_pos (show (rd_T35 l0 x).f1 < 1 from q3)] at H
           obtain rfl := j1_bad H
           have q3b := decide_eq_true q3
           clear H HX4 HX5
           go_wp2
           go_ret
           exact ⟨rfl, (by repeat (first | exact HB.out | apply below_alloc | apply pw_below_drewN | apply below_drew1 | refine below_set ?_ (HB.out.size)))⟩
         rw [if_neg (show ¬ (rd_T35 l0 x).f1 < 1 from q3)] at H
         have q3b := decide_eq_false q3
         by_cases q4 : 10000 < (rd_T35 l0 x).f1
         · rw [if_pos (show (rd_T35 l0 x).f1 > 10000 from q4)] at H
           obtain rfl := j1_bad H
           have q4b := decide_eq_true q4
           clear H HX4 HX5
           go_wp2
           go_ret
           exact ⟨rfl, (by repeat (first | exact HB.out | apply below_alloc | apply pw_below_drewN | apply below_drew1 | refine below_set ?_ (HB.out.size)))⟩
         rw [if_neg (show ¬ (rd_T35 l0 x).f1 > 10000 from q4)] at H
         have q4b := decide_eq_false q4
         by_cases q5 : (rd_T35 l0 x).f2 < 0
         · rw [if_pos (show (rd_T35 l0 x).f2 < 0 from q5)] at H
           obtain rfl := j1_bad H
           have q5b := decide_eq_true q5
           clear H HX4 HX5
           go_wp2
           go_ret
           exact ⟨rfl, (by repeat (first | exact HB.out | apply below_alloc | apply pw_below_drewN | apply below_drew1 | refine below_set ?_ (HB.out.size)))⟩
         rw [if_neg (show ¬ (rd_T35 l0 x).f2 < 0 from q5)] at H
         have q5b := decide_eq_false q5
         by_cases q6 : 1000 < (rd_T35 l0 x).f2
         · rw [decide_eq_true (show (rd_T35 l0 x).f2 > 1000 from q6)] at H
           obtain rfl := j1_bad H
           have q6b := decide_eq_true q6
           clear H HX4 HX5
           go_wp2
           go_ret
           exact ⟨rfl, (by repeat (first | exact HB.out | apply below_alloc | apply pw_below_drewN | apply below_drew1 | refine below_set ?_ (HB.out.size)))⟩
         rw [decide_eq_false (show ¬ (rd_T35 l0 x).f2 > 1000 from q6)] at H
         have q6b := decide_eq_false q6
         clear q1 q2 q3 q4 q5 q6
         obtain ⟨k2, hk2, H2⟩ := j1_good H
         replace H := H2
         clear H2
         have hxl : x.toNat < l0.length := by omega
         have hxn : ((x.toNat : Nat) : Int) = x := by omega
         rw [← hxn] at H
         have hs := l1_spec l0 (by have := HL.out; omega) _ _ _ r _ k2 x.toNat 0 (Nat.zero_le _) hxl (by rw [hxn] at H ⊢; exact H)
         rw [hxn] at hs
         rw [List.drop_zero] at hs
         have hcut : ∀ W : World, (Instr.slice 28 (.slice (some ad) l0.length c0) none (some (.int .i64 x)) none).run Try.prog W = .ok (.slice (some ad) x.toNat c0) W := by
          intro W
          rw [run_slice_h W 28 (some ad) l0.length c0 (by rw [show Try.prog.elem 28 = 35 by kernel_rfl]; exact Try.underlying28) .i64 x c2 (by have := HC0.out; omega)]
          go_simp
         have hlen : (l0.take x.toNat).length = x.toNat := by rw [List.length_take]; omega
         have hany := anyR_any (fun y => y.f0 == (rd_T35 l0 x).f0) (l0.take x.toNat) (by have := HL.out; omega) x.toNat 0 (by omega)
         have hrow := Kd.C_take HR0.out (show x.toNat ≤ l0.length by omega)
         rw [List.drop_zero] at hany
         clear H hxl hxn
         have HS := Aside0.mk hs
         have HANY := Aside0.mk hany
         have HROW := Aside0.mk hrow
         have HLEN := Aside0.mk hlen
         have HC2 := Aside0.mk c2
         have HK2 := Aside0.mk hk2
         clear hs hany hrow hlen hk2
         have CF : ∀ (b : Bool), ((l0.take x.toNat).any fun y => y.f0 == (rd_T35 l0 x).f0) = b → ∀ (W : World), Below w.heap.size w W → ∀ B : Nat, B < W.heap.size → W.cell? ⟨B, 0, none⟩ = some (.int .i64 (rd_T35 l0 x).f0) →
           Calls Try.prog 39 #[.slice (some ad) x.toNat c0, .func (.func 40) #[] #[.pointer (some ⟨B, 0, none⟩)]] W fun e w' => e = .returned (.bool b) ∧ Below W.heap.size W w' := by
          intro b hb W hW B h2 h3
          have hC := ContainsFunc_rates (x.toNat + 1) (some ad) c0 (l0.take x.toNat) (fun y => y.f0 == (rd_T35 l0 x).f0) 40 #[.pointer (some ⟨B, 0, none⟩)] b W (Kd.C_below HROW.out hW) eg (rates_closure _ B W h2 h3) (by have h4 := HANY.out; rw [hb] at h4; exact h4)
          rw [HLEN.out] at hC
          exact hC
         clear HANY HROW HLEN eg
         rcases HS.out with ⟨hA, rfl⟩ | ⟨hA, k3, t, hk3, hcr, hrest⟩
         · have CT := Aside0.mk (CF true hA)
           clear CF hA HS HX4 HX5
           go_wp2_with (go_at_call 39; refine (CT.out _ ?c1 wr.heap.size ?c2 ?c3).mono ?_; (case c1 => exact (by repeat (first | exact HB.out | apply below_alloc | apply pw_below_drewN | apply below_drew1 | refine below_set ?_ (HB.out.size)))); (case c2 => simp); (case c3 => go_simp); rintro e w1 ⟨rfl, hd⟩; have HD := Aside0.mk hd; clear hd)
           go_ret
           exact ⟨rfl, below_then (by repeat (first | exact HB.out | apply below_alloc | apply pw_below_drewN | apply below_drew1 | refine below_set ?_ (HB.out.size))) (by have := HB.out.size; simp; omega) HD.out⟩
         · have CT := Aside0.mk (CF false hA)
           have HCR := Aside0.mk hcr
           have HREST := Aside0.mk hrest
           have HK3 := Aside0.mk hk3
           clear CF hA HS hcr hrest hk3
           cases t with
           | true =>
            go_wp2_with (first
             | (go_at_call 39; refine (CT.out _ ?c1 wr.heap.size ?c2 ?c3).mono ?_; (case c1 => exact (by repeat (first | exact HB.out | apply below_alloc | apply pw_below_drewN | apply below_drew1 | refine below_set ?_ (HB.out.size)))); (case c2 => simp); (case c3 => go_simp); rintro e w1 ⟨rfl, hd⟩; have e3 := (hd.cell (p := ⟨wr.heap.size, 3, none⟩) (by simp)).trans (show _ = some (.slice A3 (rd_T35 l0 x).f3.length c3) by go_simp); have HD := Aside0.mk (below_then (by repeat (first | exact HB.out | apply below_alloc | apply pw_below_drewN | apply below_drew1 | refine below_set ?_ (HB.out.size))) (by have := HB.out.size; simp; omega) hd); have HD1 := Aside0.mk (below_then (show Below wr.heap.size wr _ by repeat (first | exact Below.refl _ _ | apply below_alloc | apply pw_below_drewN | apply below_drew1 | refine below_set ?_ (Nat.le_refl _))) (by simp) hd); clear hd)
             | (go_at_call 41; refine (clock_Right.calls k3 A3 c3 _ true _ ?d1 HX4.out HCR.out).mono ?_; (case d1 => exact Kd.C_below HX5.out HD1.out); rintro e w2 ⟨rfl, hd⟩; have HE := Aside0.mk (below_then HD.out HD.out.size hd); clear hd))
            go_roundg k3
            case measure => have h1 := HK3.out; have h2 := HK2.out; omega
            case rel => exact ⟨_, rfl, ⟨by have h3 := HREST.out; rw [if_pos trivial] at h3; exact h3⟩, ⟨by have h1 := HK3.out; have h2 := HK2.out; have h3 := HK.out; omega⟩, HE⟩
           | false =>
            obtain rfl : r = 1 := by have h3 := HREST.out; simpa using h3
            go_wp2_with (first
             | (go_at_call 39; refine (CT.out _ ?c1 wr.heap.size ?c2 ?c3).mono ?_; (case c1 => exact (by repeat (first | exact HB.out | apply below_alloc | apply pw_below_drewN | apply below_drew1 | refine below_set ?_ (HB.out.size)))); (case c2 => simp); (case c3 => go_simp); rintro e w1 ⟨rfl, hd⟩; have e3 := (hd.cell (p := ⟨wr.heap.size, 3, none⟩) (by simp)).trans (show _ = some (.slice A3 (rd_T35 l0 x).f3.length c3) by go_simp); have HD := Aside0.mk (below_then (by repeat (first | exact HB.out | apply below_alloc | apply pw_below_drewN | apply below_drew1 | refine below_set ?_ (HB.out.size))) (by have := HB.out.size; simp; omega) hd); have HD1 := Aside0.mk (below_then (show Below wr.heap.size wr _ by repeat (first | exact Below.refl _ _ | apply below_alloc | apply pw_below_drewN | apply below_drew1 | refine below_set ?_ (Nat.le_refl _))) (by simp) hd); clear hd)
             | (go_at_call 41; refine (clock_Right.calls k3 A3 c3 _ false _ ?d1 HX4.out HCR.out).mono ?_; (case d1 => exact Kd.C_below HX5.out HD1.out); rintro e w2 ⟨rfl, hd⟩; have HE := Aside0.mk (below_then HD.out HD.out.size hd); clear hd))
            go_ret
            exact ⟨rfl, HE.out⟩
       · rw [if_neg c2] at H
         cases H
     · rw [if_neg c1] at H
       have c1b := decide_eq_false c1
       obtain rfl := Option.some.inj H
       go_wp2
       go_ret
       exact ⟨rfl, HB.out⟩

end Go.Proofs.Ytdahjnbfbcemeaa.P
