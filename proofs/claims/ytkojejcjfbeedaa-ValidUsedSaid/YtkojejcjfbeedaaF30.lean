-- Written by wip/fakeprint.py and wip/post.py of this claim's author, who used the kit's printer (print.py) on turned inputs.
import Derived.Test.YtkojejcjfbeedaaK
import Derived.Test.YtkojejcjfbeedaaFA
namespace Go.Proofs.Ytkojejcjfbeedaa.P
open Go.RowKit Go.Proofs.YtkojejcjfbeedaaW.PrintWords Go.Proofs.YtkojejcjfbeedaaW.PrintLast
attribute [local go_sem] max2_int min2_int max_two min_two
set_option linter.unusedVariables false
set_option linter.unusedSimpArgs false

/-! ### skiarearef26_used: function 30 -/
def skiarearef26_used.f (a0_0 : Int) (a0_1 : Int) (a0_2 : Int) (a0_3 : Int) (a0_4 : Int) (l0_5 : List Int) (l0_6 : List (S62)) (a0_7 : Int) (a0_8 : Int) (a0_9 : Int) (a1_0 : Int) (a1_1 : Int) (a1_2 : Int) (a1_3 : Int) (a1_4 : Int) (a1_5 : Int) (a1_6 : Int) (a1_7 : Int) (a1_8 : Int) (a2 : Int) : Option (Bool) := if a0_1 = 0 then (if a1_3 = (-1) then (some false) else (some (decide (a2 ≥ (wrap64 (a1_3 + a0_2)))))) else (if a0_1 = 1 then (if a1_4 = 0 then ((skiarearef02_Day.f a2).bind fun t189 => (some (t189 != a1_5))) else (some false)) else (some (a1_4 == 0)))
set_option maxHeartbeats 2000000 in
set_option maxRecDepth 100000 in
theorem skiarearef26_used.calls (a0_0 : Int) (a0_1 : Int) (a0_2 : Int) (a0_3 : Int) (a0_4 : Int) (A0_5 : Option Addr) (c0_5 : Nat) (l0_5 : List Int) (A0_6 : Option Addr) (c0_6 : Nat) (l0_6 : List (S62)) (a0_7 : Int) (a0_8 : Int) (a0_9 : Int) (a1_0 : Int) (a1_1 : Int) (a1_2 : Int) (a1_3 : Int) (a1_4 : Int) (a1_5 : Int) (a1_6 : Int) (a1_7 : Int) (a1_8 : Int) (a2 : Int) (r : Bool) (w : World) (hr0_5 : Kd.C (Kd.int .i64) w A0_5 l0_5.length l0_5) (hc0_5 : l0_5.length ≤ c0_5) (hr0_6 : Kd.C k62 w A0_6 l0_6.length l0_6) (hc0_6 : l0_6.length ≤ c0_6) (h : skiarearef26_used.f a0_0 a0_1 a0_2 a0_3 a0_4 l0_5 l0_6 a0_7 a0_8 a0_9 a1_0 a1_1 a1_2 a1_3 a1_4 a1_5 a1_6 a1_7 a1_8 a2 = some r) :
  Calls Try.prog 30 #[.agg #[.int .i64 a0_0, .int .i64 a0_1, .int .i64 a0_2, .int .i64 a0_3, .int .i64 a0_4, .slice A0_5 l0_5.length c0_5, .slice A0_6 l0_6.length c0_6, .int .i64 a0_7, .int .i64 a0_8, .int .i64 a0_9], .agg #[.int .i64 a1_0, .int .i64 a1_1, .int .i64 a1_2, .int .i64 a1_3, .int .i64 a1_4, .int .i64 a1_5, .int .i64 a1_6, .int .i64 a1_7, .int .u64 a1_8], .int .i64 a2] w fun e w' => e = .returned (.bool r) ∧ Below w.heap.size w w' := by
 have hu27 := Try.underlying27
 have hu30 := Try.underlying30
 clear hr0_5 hc0_5 hr0_6 hc0_6
 have H := h
 clear h
 unfold skiarearef26_used.f at H
 by_cases c4 : a0_1 = 0
 · rw [if_pos c4] at H
   have c4b0 : (a0_1 == 0) = true := beq_iff_eq.mpr c4
   have c4b1 : (a0_1 != 0) = false := bne_eq_false_iff_eq.mpr c4
   clear c4
   by_cases c5 : a1_3 = (-1)
   · rw [if_pos c5] at H
     have c5b0 : (a1_3 == (-1)) = true := beq_iff_eq.mpr c5
     have c5b1 : (a1_3 != (-1)) = false := bne_eq_false_iff_eq.mpr c5
     clear c5
     obtain rfl := Option.some.inj H
     clear H
     go_enter Try.func30, Try.ntmps30
     go_wp2
     repeat (go_quiet (fail); go_wp2)
     go_ret
     exact ⟨by first | rfl | (simp [*]; done), by repeat (first | exact Below.refl _ _ | apply below_alloc | apply pw_below_drewN | apply below_drew1)⟩
   · rw [if_neg c5] at H
     have c5b0 : (a1_3 == (-1)) = false := beq_eq_false_iff_ne.mpr c5
     have c5b1 : (a1_3 != (-1)) = true := bne_iff_ne.mpr c5
     clear c5
     obtain rfl := Option.some.inj H
     clear H
     go_enter Try.func30, Try.ntmps30
     go_wp2
     repeat (go_quiet (fail); go_wp2)
     go_ret
     exact ⟨by first | rfl | (simp [*]; done), by repeat (first | exact Below.refl _ _ | apply below_alloc | apply pw_below_drewN | apply below_drew1)⟩
 · rw [if_neg c4] at H
   have c4b0 : (a0_1 == 0) = false := beq_eq_false_iff_ne.mpr c4
   have c4b1 : (a0_1 != 0) = true := bne_iff_ne.mpr c4
   clear c4
   by_cases c16 : a0_1 = 1
   · rw [if_pos c16] at H
     have c16b0 : (a0_1 == 1) = true := beq_iff_eq.mpr c16
     have c16b1 : (a0_1 != 1) = false := bne_eq_false_iff_eq.mpr c16
     clear c16
     by_cases c17 : a1_4 = 0
     · rw [if_pos c17] at H
       have c17b0 : (a1_4 == 0) = true := beq_iff_eq.mpr c17
       have c17b1 : (a1_4 != 0) = false := bne_eq_false_iff_eq.mpr c17
       clear c17
       replace H := Option.bind_eq_some_iff.mp H
       obtain ⟨t, A, H⟩ := H
       have A18 := Aside0.mk A
       obtain rfl := Option.some.inj H
       clear H A
       go_enter Try.func30, Try.ntmps30
       go_wp2
       repeat (go_quiet ((go_at_call 32; (with_reducible refine (skiarearef02_Day.calls a2 t _ A18.out).mono ?_); rintro e w' ⟨rfl, ⟨nd, rfl⟩⟩; exact ⟨rfl, _, World.drewN_drewN _ _ _⟩)); go_wp2)
       go_ret
       exact ⟨by first | rfl | (simp [*]; done), by repeat (first | exact Below.refl _ _ | apply below_alloc | apply pw_below_drewN | apply below_drew1)⟩
     · rw [if_neg c17] at H
       have c17b0 : (a1_4 == 0) = false := beq_eq_false_iff_ne.mpr c17
       have c17b1 : (a1_4 != 0) = true := bne_iff_ne.mpr c17
       clear c17
       obtain rfl := Option.some.inj H
       clear H
       go_enter Try.func30, Try.ntmps30
       go_wp2
       repeat (go_quiet (fail); go_wp2)
       go_ret
       exact ⟨by first | rfl | (simp [*]; done), by repeat (first | exact Below.refl _ _ | apply below_alloc | apply pw_below_drewN | apply below_drew1)⟩
   · rw [if_neg c16] at H
     have c16b0 : (a0_1 == 1) = false := beq_eq_false_iff_ne.mpr c16
     have c16b1 : (a0_1 != 1) = true := bne_iff_ne.mpr c16
     clear c16
     obtain rfl := Option.some.inj H
     clear H
     go_enter Try.func30, Try.ntmps30
     go_wp2
     repeat (go_quiet (fail); go_wp2)
     go_ret
     exact ⟨by first | rfl | (simp [*]; done), by repeat (first | exact Below.refl _ _ | apply below_alloc | apply pw_below_drewN | apply below_drew1)⟩

end Go.Proofs.Ytkojejcjfbeedaa.P
