-- Written by wip/fakeprint.py and wip/post.py of this claim's author, who used the kit's printer (print.py) on turned inputs.
import Derived.Test.YtpojelbablofpaaK
import Derived.Test.YtpojelbablofpaaF10
import Derived.Test.YtpojelbablofpaaF11
import Derived.Test.YtpojelbablofpaaF14
import Derived.Test.YtpojelbablofpaaF12
import Derived.Test.YtpojelbablofpaaF26
import Derived.Test.YtpojelbablofpaaF16
namespace Go.Proofs.Ytpojelbablofpaa.P
open Go.RowKit Go.Proofs.YtpojelbablofpaaW.PrintWords Go.Proofs.YtpojelbablofpaaW.PrintLast Go.Proofs.YtpojelbablofpaaW.PrintMore
attribute [local go_sem] max2_int min2_int max_two min_two max_three min_three max_four min_four   -- for this text's walks alone
attribute [local go_sem] max2_int min2_int max_two min_two
set_option linter.unusedVariables false
set_option linter.unusedSimpArgs false

/-! ### skiarealaw22_ProductOwn: function 8 -/
def skiarealaw22_ProductOwn.j0 : Nat → List (S32) → Int → Bool → Option (Bool)
 | 0, _, _, _ => none
 | k + 1, x0, x1, x23 => if x23 = true then (some true) else (if (x0.length : Int) = 0 then (none) else (if 0 ≤ (Int.tmod (wrap64 (x1)) (x0.length : Int)) then (if (Int.tmod (wrap64 (x1)) (x0.length : Int)) < (x0.length : Int) then ((product_Find.f k x0 ((rd_T32 x0 (Int.tmod (wrap64 (x1)) (x0.length : Int))).f0)).bind fun bt403 => ((skiarearef22_Own.f k ((rd_T32 x0 (Int.tmod (wrap64 (x1)) (x0.length : Int))).f0) ((rd_T32 x0 (Int.tmod (wrap64 (x1)) (x0.length : Int))).f1) ((rd_T32 x0 (Int.tmod (wrap64 (x1)) (x0.length : Int))).f2) ((rd_T32 x0 (Int.tmod (wrap64 (x1)) (x0.length : Int))).f3) ((rd_T32 x0 (Int.tmod (wrap64 (x1)) (x0.length : Int))).f4) ((rd_T32 x0 (Int.tmod (wrap64 (x1)) (x0.length : Int))).f5) ((rd_T32 x0 (Int.tmod (wrap64 (x1)) (x0.length : Int))).f6) ((rd_T32 x0 (Int.tmod (wrap64 (x1)) (x0.length : Int))).f7.f0) ((rd_T32 x0 (Int.tmod (wrap64 (x1)) (x0.length : Int))).f7.f1) ((rd_T32 x0 (Int.tmod (wrap64 (x1)) (x0.length : Int))).f8)).bind fun bt420 => (if bt403.2.2.2.2.2.2.2.2.2.2 = true then ((skiarearef22_Same.f k bt403.1 bt403.2.1 bt403.2.2.1 bt403.2.2.2.1 bt403.2.2.2.2.1 bt403.2.2.2.2.2.1 bt403.2.2.2.2.2.2.1 bt403.2.2.2.2.2.2.2.1 bt403.2.2.2.2.2.2.2.2.1 bt403.2.2.2.2.2.2.2.2.2.1 bt420.1 bt420.2.1 bt420.2.2.1 bt420.2.2.2.1 bt420.2.2.2.2.1 bt420.2.2.2.2.2.1 bt420.2.2.2.2.2.2.1 bt420.2.2.2.2.2.2.2.1 bt420.2.2.2.2.2.2.2.2.1 bt420.2.2.2.2.2.2.2.2.2).bind fun t435 => (if t435 = true then (if (bt403.2.2.2.2.2.1.length : Int) = 0 then none else (if 0 < (bt403.2.2.2.2.2.1.length : Int) then ((skiarearef22_Same.f k ((rd_T32 x0 (Int.tmod (wrap64 (x1)) (x0.length : Int))).f0) ((rd_T32 x0 (Int.tmod (wrap64 (x1)) (x0.length : Int))).f1) ((rd_T32 x0 (Int.tmod (wrap64 (x1)) (x0.length : Int))).f2) ((rd_T32 x0 (Int.tmod (wrap64 (x1)) (x0.length : Int))).f3) ((rd_T32 x0 (Int.tmod (wrap64 (x1)) (x0.length : Int))).f4) ((rd_T32 x0 (Int.tmod (wrap64 (x1)) (x0.length : Int))).f5) ((rd_T32 x0 (Int.tmod (wrap64 (x1)) (x0.length : Int))).f6) ((rd_T32 x0 (Int.tmod (wrap64 (x1)) (x0.length : Int))).f7.f0) ((rd_T32 x0 (Int.tmod (wrap64 (x1)) (x0.length : Int))).f7.f1) ((rd_T32 x0 (Int.tmod (wrap64 (x1)) (x0.length : Int))).f8) bt420.1 bt420.2.1 bt420.2.2.1 bt420.2.2.2.1 bt420.2.2.2.2.1 bt420.2.2.2.2.2.1 bt420.2.2.2.2.2.2.1 bt420.2.2.2.2.2.2.2.1 bt420.2.2.2.2.2.2.2.2.1 bt420.2.2.2.2.2.2.2.2.2).bind fun t439 => (some t439)) else (none))) else none)) else none))) else (none)) else (none)))
def skiarealaw22_ProductOwn.f (k : Nat) (l0 : List (S32)) (a1 : Int) : Option (Bool) := (skiarealaw22_alive.f).bind fun t399 => (if t399 = true then ((skiarealaw22_small.f k l0).bind fun t400 => (if t400 = true then ((product_Right.f k l0).bind fun t401 => (if t401 = 0 then (skiarealaw22_ProductOwn.j0 k l0 a1 ((l0.length : Int) == 0)) else (skiarealaw22_ProductOwn.j0 k l0 a1 true))) else (skiarealaw22_ProductOwn.j0 k l0 a1 true))) else none)
theorem skiarealaw22_ProductOwn.mono_l : ∀ k, (∀ y0 y1 y2, LeO (skiarealaw22_ProductOwn.j0 k y0 y1 y2) (skiarealaw22_ProductOwn.j0 (k + 1) y0 y1 y2))
 | 0 => fun _ _ _ r h => by simp [skiarealaw22_ProductOwn.j0] at h
 | k + 1 => by
  have ih0 := skiarealaw22_ProductOwn.mono_l k
  ·intro y0 y1 y2
   unfold skiarealaw22_ProductOwn.j0
   repeat' first
   | (with_reducible exact ih0 _ _ _)
   | (with_reducible exact product_Find.mono _ _ _)
   | (with_reducible exact product_Right.mono _ _)
   | (with_reducible exact skiarealaw22_small.mono _ _)
   | (with_reducible exact skiarearef22_Own.mono _ _ _ _ _ _ _ _ _ _ _)
   | (with_reducible exact skiarearef22_Same.mono _ _ _ _ _ _ _ _ _ _ _ _ _ _ _ _ _ _ _ _ _)
   | (with_reducible exact LeO.refl _)
   | (with_reducible exact LeO.none _)
   | (with_reducible refine LeO.ite ?_ ?_)
   | (with_reducible refine LeO.bind ?_ (fun _ => ?_))
   | exact ih0 _ _ _
   | exact product_Find.mono _ _ _
   | exact product_Right.mono _ _
   | exact skiarealaw22_small.mono _ _
   | exact skiarearef22_Own.mono _ _ _ _ _ _ _ _ _ _ _
   | exact skiarearef22_Same.mono _ _ _ _ _ _ _ _ _ _ _ _ _ _ _ _ _ _ _ _ _
   | exact LeO.none _
   | refine LeO.ite ?_ ?_
   | refine LeO.bind ?_ (fun _ => ?_)
theorem skiarealaw22_ProductOwn.mono : ∀ a0 a1 k, LeO (skiarealaw22_ProductOwn.f k a0 a1) (skiarealaw22_ProductOwn.f (k + 1) a0 a1) := by
 intro a0 a1 k
 have ih0 := skiarealaw22_ProductOwn.mono_l k
 unfold skiarealaw22_ProductOwn.f
 repeat' first
   | (with_reducible exact ih0 _ _ _)
   | (with_reducible exact product_Find.mono _ _ _)
   | (with_reducible exact product_Right.mono _ _)
   | (with_reducible exact skiarealaw22_small.mono _ _)
   | (with_reducible exact skiarearef22_Own.mono _ _ _ _ _ _ _ _ _ _ _)
   | (with_reducible exact skiarearef22_Same.mono _ _ _ _ _ _ _ _ _ _ _ _ _ _ _ _ _ _ _ _ _)
   | (with_reducible exact LeO.refl _)
   | (with_reducible exact LeO.none _)
   | (with_reducible refine LeO.ite ?_ ?_)
   | (with_reducible refine LeO.bind ?_ (fun _ => ?_))
   | exact ih0 _ _ _
   | exact product_Find.mono _ _ _
   | exact product_Right.mono _ _
   | exact skiarealaw22_small.mono _ _
   | exact skiarearef22_Own.mono _ _ _ _ _ _ _ _ _ _ _
   | exact skiarearef22_Same.mono _ _ _ _ _ _ _ _ _ _ _ _ _ _ _ _ _ _ _ _ _
   | exact LeO.none _
   | refine LeO.ite ?_ ?_
   | refine LeO.bind ?_ (fun _ => ?_)
def skiarealaw22_ProductOwn.T10 : Bool × List (List Nat × List Nat) := (true, [([], []), ([0], [0]), ([], []), ([2], [2]), ([3], [3]), ([4], [4]), ([5], [5]), ([1, 0, 1, 2, 3, 4, 5, 6], [1]), ([7, 6, 0, 1, 2, 3, 4, 5, 6], [6, 7])])
def skiarealaw22_ProductOwn.B10 : List Nat := [0, 1, 0, 4, 12, 28, 60, 127, 255]
theorem skiarealaw22_ProductOwn.tab10 : rtab .any (opsOf Try.f8 10) = skiarealaw22_ProductOwn.T10 := by kernel_rfl
theorem skiarealaw22_ProductOwn.bits10 : waitsOk skiarealaw22_ProductOwn.T10.2 skiarealaw22_ProductOwn.B10 = true := by kernel_rfl
set_option maxHeartbeats 8000000 in
set_option maxRecDepth 100000 in
theorem skiarealaw22_ProductOwn.calls (k : Nat) (A0 : Option Addr) (c0 : Nat) (l0 : List (S32)) (a1 : Int) (r : Bool) (w : World) (hr0 : Kd.C k32 w A0 l0.length l0) (hc0 : l0.length ≤ c0) (h : skiarealaw22_ProductOwn.f k l0 a1 = some r) :
  Calls Try.prog 8 #[.slice A0 l0.length c0, .int .u8 a1] w fun e w' => e = .returned (.bool r) ∧ Below w.heap.size w w' := by
 have hu32 := Try.underlying32
 have HR0 := Aside0.mk hr0
 have HC0 := Aside0.mk hc0
 clear hr0 hc0
 have HB := Aside0.mk (Below.refl w.heap.size w)
 have H : ((skiarealaw22_alive.f).bind fun t399 => (if t399 = true then ((skiarealaw22_small.f k l0).bind fun t400 => (if t400 = true then ((product_Right.f k l0).bind fun t401 => (if t401 = 0 then (skiarealaw22_ProductOwn.j0 k l0 a1 ((l0.length : Int) == 0)) else (skiarealaw22_ProductOwn.j0 k l0 a1 true))) else (skiarealaw22_ProductOwn.j0 k l0 a1 true))) else none)) = some r := h
 clear h
 replace H := Option.bind_eq_some_iff.mp H
 obtain ⟨t399, A30, H⟩ := H
 replace H : (if t399 = true then ((skiarealaw22_small.f k l0).bind fun t400 => (if t400 = true then ((product_Right.f k l0).bind fun t401 => (if t401 = 0 then (skiarealaw22_ProductOwn.j0 k l0 a1 ((l0.length : Int) == 0)) else (skiarealaw22_ProductOwn.j0 k l0 a1 true))) else (skiarealaw22_ProductOwn.j0 k l0 a1 true))) else none) = some r := H
 have A3 := Aside0.mk A30
 clear A30
 by_cases c4 : t399 = true
 ·subst c4
  have H1 : ((skiarealaw22_small.f k l0).bind fun t400 => (if t400 = true then ((product_Right.f k l0).bind fun t401 => (if t401 = 0 then (skiarealaw22_ProductOwn.j0 k l0 a1 ((l0.length : Int) == 0)) else (skiarealaw22_ProductOwn.j0 k l0 a1 true))) else (skiarealaw22_ProductOwn.j0 k l0 a1 true))) = some r := by rw [if_pos rfl] at H; exact H
  clear H
  have H := H1
  clear H1
  have HC5 := Aside0.mk H
  clear H
  go_enter Try.func8, Try.ntmps8
  go_upto_region 3 with (first | ((with_reducible refine gate_callee (f := 10) rfl ?_); refine goesL_ (some 9) rfl rfl Try.func10 (by kernel_rfl) rfl #[] rfl (by (try simp only [List.map_toArray, List.map_cons, List.map_nil]); first | done | rfl | (simp only [List.length_drop, List.length_take]; rfl)) ?_; (with_reducible refine (skiarealaw22_alive.calls  true _ A3.out).mono ?_); rintro e w6 ⟨rfl, hb⟩; refine ⟨_, rfl, ?_⟩; have n0_ := Aside0.mk (below_step (by repeat (first | (with_reducible first | exact HB.out | apply below_alloc | apply pw_below_drewN | apply below_drew1) | exact HB.out)) hb); clear HB; have HB := n0_; clear n0_; (try clear hb); (try clear hb2); (try clear hk); (try clear hi)))
  (try simp only [Act.put, List.setIfInBounds_toArray, List.set_cons_zero, List.set_cons_succ])
  go_cut [23] (fun v23 wc => ∃ (kq : Nat) (x23_4 : Bool), v23 = .bool x23_4 ∧ Aside0 (skiarealaw22_ProductOwn.j0 kq l0 a1 x23_4 = some r) ∧ Aside0 (kq ≤ k) ∧ Aside0 (Below w.heap.size w wc))
  case first =>
   have H := HC5.out
   clear HC5
   replace H := Option.bind_eq_some_iff.mp H
   obtain ⟨t400, A70, H⟩ := H
   replace H : (if t400 = true then ((product_Right.f k l0).bind fun t401 => (if t401 = 0 then (skiarealaw22_ProductOwn.j0 k l0 a1 ((l0.length : Int) == 0)) else (skiarealaw22_ProductOwn.j0 k l0 a1 true))) else (skiarealaw22_ProductOwn.j0 k l0 a1 true)) = some r := H
   have A7 := Aside0.mk A70
   clear A70
   by_cases c8 : t400 = true
   ·subst c8
    have H1 : ((product_Right.f k l0).bind fun t401 => (if t401 = 0 then (skiarealaw22_ProductOwn.j0 k l0 a1 ((l0.length : Int) == 0)) else (skiarealaw22_ProductOwn.j0 k l0 a1 true))) = some r := by rw [if_pos rfl] at H; exact H
    clear H
    have H := H1
    clear H1
    replace H := Option.bind_eq_some_iff.mp H
    obtain ⟨t401, A90, H⟩ := H
    replace H : (if t401 = 0 then (skiarealaw22_ProductOwn.j0 k l0 a1 ((l0.length : Int) == 0)) else (skiarealaw22_ProductOwn.j0 k l0 a1 true)) = some r := H
    have A9 := Aside0.mk A90
    clear A90
    by_cases c10 : t401 = 0
    ·rw [if_pos c10] at H
     have c10b0 : (t401 == 0) = true := beq_iff_eq.mpr c10
     have c10b1 : (t401 != 0) = false := bne_eq_false_iff_eq.mpr c10
     clear c10
     (first | rw [c10b0] | (simp only [i64_w, i32_w]; rw [c10b0]) | skip)
     have H' := Aside0.mk H
     clear H
     go_wp2_with (first | ((with_reducible refine gate_callee (f := 11) rfl ?_); refine goesL_ (some 12) rfl rfl Try.func11 (by kernel_rfl) rfl #[.slice A0 l0.length c0] rfl (by (try simp only [List.map_toArray, List.map_cons, List.map_nil]); first | done | rfl | (simp only [List.length_drop, List.length_take]; rfl)) ?_; (with_reducible refine (skiarealaw22_small.calls k _ _ l0 true _ ?side1 ?side2 A7.out).mono ?_); (case side1 => repeat (first | exact (Kd.C_below HR0.out HB.out) | (with_reducible refine Kd.C_alloc ?_ _) | (with_reducible refine Kd.C_drewN ?_ _) | (with_reducible refine Kd.C_drew ?_))); (case side2 => exact HC0.out); rintro e w' ⟨rfl, ⟨nd, rfl⟩⟩; refine ⟨_, rfl, ?_⟩) | (go_at_call 12; (with_reducible refine (product_Right.calls k _ _ l0 t401 _ ?side1 ?side2 A9.out).mono ?_); (case side1 => repeat (first | exact (Kd.C_below HR0.out (by repeat (first | (with_reducible first | exact HB.out | apply below_alloc | apply pw_below_drewN | apply below_drew1) | exact HB.out))) | (with_reducible refine Kd.C_alloc ?_ _) | (with_reducible refine Kd.C_drewN ?_ _) | (with_reducible refine Kd.C_drew ?_))); (case side2 => exact HC0.out); rintro e w11 ⟨rfl, hb⟩; have n0_ := Aside0.mk (below_step (by repeat (first | (with_reducible first | exact HB.out | apply below_alloc | apply pw_below_drewN | apply below_drew1) | exact HB.out)) hb); clear HB; have HB := n0_; clear n0_; (try clear hb); (try clear hb2); (try clear hk); (try clear hi)))
     go_meet
     case rel => exact ⟨_, (((l0.length : Int) == 0)), (by first | rfl | (simp; done) | (simp [*]; done)), H', ⟨by first | omega | exact Nat.le_refl _⟩, ⟨by repeat (first | (with_reducible first | exact HB.out | apply below_alloc | apply pw_below_drewN | apply below_drew1) | exact HB.out)⟩⟩
    ·rw [if_neg c10] at H
     have c10b0 : (t401 == 0) = false := beq_eq_false_iff_ne.mpr c10
     have c10b1 : (t401 != 0) = true := bne_iff_ne.mpr c10
     (first | rw [c10b0] | (simp only [i64_w, i32_w]; rw [c10b0]) | skip)
     have H' := Aside0.mk H
     clear H
     go_wp2_with (first | ((with_reducible refine gate_callee (f := 11) rfl ?_); refine goesL_ (some 12) rfl rfl Try.func11 (by kernel_rfl) rfl #[.slice A0 l0.length c0] rfl (by (try simp only [List.map_toArray, List.map_cons, List.map_nil]); first | done | rfl | (simp only [List.length_drop, List.length_take]; rfl)) ?_; (with_reducible refine (skiarealaw22_small.calls k _ _ l0 true _ ?side1 ?side2 A7.out).mono ?_); (case side1 => repeat (first | exact (Kd.C_below HR0.out HB.out) | (with_reducible refine Kd.C_alloc ?_ _) | (with_reducible refine Kd.C_drewN ?_ _) | (with_reducible refine Kd.C_drew ?_))); (case side2 => exact HC0.out); rintro e w' ⟨rfl, ⟨nd, rfl⟩⟩; refine ⟨_, rfl, ?_⟩) | (go_at_call 12; (with_reducible refine (product_Right.calls k _ _ l0 t401 _ ?side1 ?side2 A9.out).mono ?_); (case side1 => repeat (first | exact (Kd.C_below HR0.out (by repeat (first | (with_reducible first | exact HB.out | apply below_alloc | apply pw_below_drewN | apply below_drew1) | exact HB.out))) | (with_reducible refine Kd.C_alloc ?_ _) | (with_reducible refine Kd.C_drewN ?_ _) | (with_reducible refine Kd.C_drew ?_))); (case side2 => exact HC0.out); rintro e w12 ⟨rfl, hb⟩; have n0_ := Aside0.mk (below_step (by repeat (first | (with_reducible first | exact HB.out | apply below_alloc | apply pw_below_drewN | apply below_drew1) | exact HB.out)) hb); clear HB; have HB := n0_; clear n0_; (try clear hb); (try clear hb2); (try clear hk); (try clear hi)))
     go_meet
     case rel => exact ⟨_, (true), (by first | rfl | (simp; done) | (simp [*]; done)), H', ⟨by first | omega | exact Nat.le_refl _⟩, ⟨by repeat (first | (with_reducible first | exact HB.out | apply below_alloc | apply pw_below_drewN | apply below_drew1) | exact HB.out)⟩⟩
   ·replace c8 := Bool.eq_false_iff.mpr c8
    subst c8
    have H1 : (skiarealaw22_ProductOwn.j0 k l0 a1 true) = some r := by rw [if_neg (show ¬ (false = true) by decide)] at H; exact H
    clear H
    have H := H1
    clear H1
    have H' := Aside0.mk H
    clear H
    go_wp2_with (first | ((with_reducible refine gate_callee (f := 11) rfl ?_); refine goesL_ (some 12) rfl rfl Try.func11 (by kernel_rfl) rfl #[.slice A0 l0.length c0] rfl (by (try simp only [List.map_toArray, List.map_cons, List.map_nil]); first | done | rfl | (simp only [List.length_drop, List.length_take]; rfl)) ?_; (with_reducible refine (skiarealaw22_small.calls k _ _ l0 false _ ?side1 ?side2 A7.out).mono ?_); (case side1 => repeat (first | exact (Kd.C_below HR0.out HB.out) | (with_reducible refine Kd.C_alloc ?_ _) | (with_reducible refine Kd.C_drewN ?_ _) | (with_reducible refine Kd.C_drew ?_))); (case side2 => exact HC0.out); rintro e w' ⟨rfl, ⟨nd, rfl⟩⟩; refine ⟨_, rfl, ?_⟩))
    go_meet
    case rel => exact ⟨_, (true), (by first | rfl | (simp; done) | (simp [*]; done)), H', ⟨by first | omega | exact Nat.le_refl _⟩, ⟨by repeat (first | (with_reducible first | exact HB.out | apply below_alloc | apply pw_below_drewN | apply below_drew1) | exact HB.out)⟩⟩
  case rest =>
   clear HC5
   try clear c1
   try clear p2
   try clear c4
   try clear c8
   try clear c10
   try clear c10b0
   try clear c10b1
   try clear c11
   obtain ⟨kq, x23_4, rfl, HA, HJ4, HB⟩ := hcut
   cases kq with
   | zero => exact absurd HA.out (by simp [skiarealaw22_ProductOwn.j0])
   | succ kj4 =>
    have H := HA.out
    clear HA
    simp only [skiarealaw22_ProductOwn.j0] at H
    by_cases c13 : x23_4 = true
    ·subst c13
     have H1 : (some true) = some r := by rw [if_pos rfl] at H; exact H
     clear H
     have H := H1
     clear H1
     obtain rfl := Option.some.inj H
     go_wp2
     go_ret
     exact ⟨by first | rfl | (simp [errW_none, errW_some] <;> rfl) | (simp [*, errW_none, errW_some] <;> rfl), by repeat (first | (with_reducible first | exact HB.out | apply below_alloc | apply pw_below_drewN | apply below_drew1) | exact HB.out)⟩
    ·replace c13 := Bool.eq_false_iff.mpr c13
     subst c13
     have H1 : (if (l0.length : Int) = 0 then (none) else (if 0 ≤ (Int.tmod (wrap64 (a1)) (l0.length : Int)) then (if (Int.tmod (wrap64 (a1)) (l0.length : Int)) < (l0.length : Int) then ((product_Find.f kj4 l0 ((rd_T32 l0 (Int.tmod (wrap64 (a1)) (l0.length : Int))).f0)).bind fun bt403 => ((skiarearef22_Own.f kj4 ((rd_T32 l0 (Int.tmod (wrap64 (a1)) (l0.length : Int))).f0) ((rd_T32 l0 (Int.tmod (wrap64 (a1)) (l0.length : Int))).f1) ((rd_T32 l0 (Int.tmod (wrap64 (a1)) (l0.length : Int))).f2) ((rd_T32 l0 (Int.tmod (wrap64 (a1)) (l0.length : Int))).f3) ((rd_T32 l0 (Int.tmod (wrap64 (a1)) (l0.length : Int))).f4) ((rd_T32 l0 (Int.tmod (wrap64 (a1)) (l0.length : Int))).f5) ((rd_T32 l0 (Int.tmod (wrap64 (a1)) (l0.length : Int))).f6) ((rd_T32 l0 (Int.tmod (wrap64 (a1)) (l0.length : Int))).f7.f0) ((rd_T32 l0 (Int.tmod (wrap64 (a1)) (l0.length : Int))).f7.f1) ((rd_T32 l0 (Int.tmod (wrap64 (a1)) (l0.length : Int))).f8)).bind fun bt420 => (if bt403.2.2.2.2.2.2.2.2.2.2 = true then ((skiarearef22_Same.f kj4 bt403.1 bt403.2.1 bt403.2.2.1 bt403.2.2.2.1 bt403.2.2.2.2.1 bt403.2.2.2.2.2.1 bt403.2.2.2.2.2.2.1 bt403.2.2.2.2.2.2.2.1 bt403.2.2.2.2.2.2.2.2.1 bt403.2.2.2.2.2.2.2.2.2.1 bt420.1 bt420.2.1 bt420.2.2.1 bt420.2.2.2.1 bt420.2.2.2.2.1 bt420.2.2.2.2.2.1 bt420.2.2.2.2.2.2.1 bt420.2.2.2.2.2.2.2.1 bt420.2.2.2.2.2.2.2.2.1 bt420.2.2.2.2.2.2.2.2.2).bind fun t435 => (if t435 = true then (if (bt403.2.2.2.2.2.1.length : Int) = 0 then none else (if 0 < (bt403.2.2.2.2.2.1.length : Int) then ((skiarearef22_Same.f kj4 ((rd_T32 l0 (Int.tmod (wrap64 (a1)) (l0.length : Int))).f0) ((rd_T32 l0 (Int.tmod (wrap64 (a1)) (l0.length : Int))).f1) ((rd_T32 l0 (Int.tmod (wrap64 (a1)) (l0.length : Int))).f2) ((rd_T32 l0 (Int.tmod (wrap64 (a1)) (l0.length : Int))).f3) ((rd_T32 l0 (Int.tmod (wrap64 (a1)) (l0.length : Int))).f4) ((rd_T32 l0 (Int.tmod (wrap64 (a1)) (l0.length : Int))).f5) ((rd_T32 l0 (Int.tmod (wrap64 (a1)) (l0.length : Int))).f6) ((rd_T32 l0 (Int.tmod (wrap64 (a1)) (l0.length : Int))).f7.f0) ((rd_T32 l0 (Int.tmod (wrap64 (a1)) (l0.length : Int))).f7.f1) ((rd_T32 l0 (Int.tmod (wrap64 (a1)) (l0.length : Int))).f8) bt420.1 bt420.2.1 bt420.2.2.1 bt420.2.2.2.1 bt420.2.2.2.2.1 bt420.2.2.2.2.2.1 bt420.2.2.2.2.2.2.1 bt420.2.2.2.2.2.2.2.1 bt420.2.2.2.2.2.2.2.2.1 bt420.2.2.2.2.2.2.2.2.2).bind fun t439 => (some t439)) else (none))) else none)) else none))) else (none)) else (none))) = some r := by rw [if_neg (show ¬ (false = true) by decide)] at H; exact H
     clear H
     have H := H1
     clear H1
     by_cases c14 : (l0.length : Int) = 0
     ·rw [if_pos c14] at H
      exact absurd H (by simp)
     ·rw [if_neg c14] at H
      have c14b0 : ((l0.length : Int) == 0) = false := beq_eq_false_iff_ne.mpr c14
      have c14b1 : ((l0.length : Int) != 0) = true := bne_iff_ne.mpr c14
      have c14b2 : ¬ (l0 = []) := fun h_ => c14 (by rw [h_]; rfl)
      obtain ⟨ji15, hji15⟩ : ∃ j_ : Int, (Int.tmod (wrap64 (a1)) (l0.length : Int)) = j_ := ⟨_, rfl⟩
      replace H : (if 0 ≤ (ji15) then (if (ji15) < (l0.length : Int) then ((product_Find.f kj4 l0 ((rd_T32 l0 (ji15)).f0)).bind fun bt403 => ((skiarearef22_Own.f kj4 ((rd_T32 l0 (ji15)).f0) ((rd_T32 l0 (ji15)).f1) ((rd_T32 l0 (ji15)).f2) ((rd_T32 l0 (ji15)).f3) ((rd_T32 l0 (ji15)).f4) ((rd_T32 l0 (ji15)).f5) ((rd_T32 l0 (ji15)).f6) ((rd_T32 l0 (ji15)).f7.f0) ((rd_T32 l0 (ji15)).f7.f1) ((rd_T32 l0 (ji15)).f8)).bind fun bt420 => (if bt403.2.2.2.2.2.2.2.2.2.2 = true then ((skiarearef22_Same.f kj4 bt403.1 bt403.2.1 bt403.2.2.1 bt403.2.2.2.1 bt403.2.2.2.2.1 bt403.2.2.2.2.2.1 bt403.2.2.2.2.2.2.1 bt403.2.2.2.2.2.2.2.1 bt403.2.2.2.2.2.2.2.2.1 bt403.2.2.2.2.2.2.2.2.2.1 bt420.1 bt420.2.1 bt420.2.2.1 bt420.2.2.2.1 bt420.2.2.2.2.1 bt420.2.2.2.2.2.1 bt420.2.2.2.2.2.2.1 bt420.2.2.2.2.2.2.2.1 bt420.2.2.2.2.2.2.2.2.1 bt420.2.2.2.2.2.2.2.2.2).bind fun t435 => (if t435 = true then (if (bt403.2.2.2.2.2.1.length : Int) = 0 then none else (if 0 < (bt403.2.2.2.2.2.1.length : Int) then ((skiarearef22_Same.f kj4 ((rd_T32 l0 (ji15)).f0) ((rd_T32 l0 (ji15)).f1) ((rd_T32 l0 (ji15)).f2) ((rd_T32 l0 (ji15)).f3) ((rd_T32 l0 (ji15)).f4) ((rd_T32 l0 (ji15)).f5) ((rd_T32 l0 (ji15)).f6) ((rd_T32 l0 (ji15)).f7.f0) ((rd_T32 l0 (ji15)).f7.f1) ((rd_T32 l0 (ji15)).f8) bt420.1 bt420.2.1 bt420.2.2.1 bt420.2.2.2.1 bt420.2.2.2.2.1 bt420.2.2.2.2.2.1 bt420.2.2.2.2.2.2.1 bt420.2.2.2.2.2.2.2.1 bt420.2.2.2.2.2.2.2.2.1 bt420.2.2.2.2.2.2.2.2.2).bind fun t439 => (some t439)) else (none))) else none)) else none))) else (none)) else (none)) = some r := by first | (rw [hji15] at H; exact H) | (simp only [hji15] at H ⊢; exact H)
      by_cases c16 : 0 ≤ (ji15)
      ·rw [if_pos c16] at H
       have c16b0 : decide (0 ≤ (ji15)) = true := decide_eq_true c16
       clear c16
       by_cases c17 : (ji15) < (l0.length : Int)
       ·rw [if_pos c17] at H
        have c17b0 : decide ((ji15) < (l0.length : Int)) = true := decide_eq_true c17
        clear c17
        replace H := Option.bind_eq_some_iff.mp H
        obtain ⟨⟨t403, t404, t405, t406, t407, t408, t411, t414, t415, t416, t417⟩, A180, H⟩ := H
        replace H : ((skiarearef22_Own.f kj4 ((rd_T32 l0 (ji15)).f0) ((rd_T32 l0 (ji15)).f1) ((rd_T32 l0 (ji15)).f2) ((rd_T32 l0 (ji15)).f3) ((rd_T32 l0 (ji15)).f4) ((rd_T32 l0 (ji15)).f5) ((rd_T32 l0 (ji15)).f6) ((rd_T32 l0 (ji15)).f7.f0) ((rd_T32 l0 (ji15)).f7.f1) ((rd_T32 l0 (ji15)).f8)).bind fun bt420 => (if t417 = true then ((skiarearef22_Same.f kj4 t403 t404 t405 t406 t407 t408 t411 t414 t415 t416 bt420.1 bt420.2.1 bt420.2.2.1 bt420.2.2.2.1 bt420.2.2.2.2.1 bt420.2.2.2.2.2.1 bt420.2.2.2.2.2.2.1 bt420.2.2.2.2.2.2.2.1 bt420.2.2.2.2.2.2.2.2.1 bt420.2.2.2.2.2.2.2.2.2).bind fun t435 => (if t435 = true then (if (t408.length : Int) = 0 then none else (if 0 < (t408.length : Int) then ((skiarearef22_Same.f kj4 ((rd_T32 l0 (ji15)).f0) ((rd_T32 l0 (ji15)).f1) ((rd_T32 l0 (ji15)).f2) ((rd_T32 l0 (ji15)).f3) ((rd_T32 l0 (ji15)).f4) ((rd_T32 l0 (ji15)).f5) ((rd_T32 l0 (ji15)).f6) ((rd_T32 l0 (ji15)).f7.f0) ((rd_T32 l0 (ji15)).f7.f1) ((rd_T32 l0 (ji15)).f8) bt420.1 bt420.2.1 bt420.2.2.1 bt420.2.2.2.1 bt420.2.2.2.2.1 bt420.2.2.2.2.2.1 bt420.2.2.2.2.2.2.1 bt420.2.2.2.2.2.2.2.1 bt420.2.2.2.2.2.2.2.2.1 bt420.2.2.2.2.2.2.2.2.2).bind fun t439 => (some t439)) else (none))) else none)) else none)) = some r := H
        have A18 := Aside0.mk A180
        clear A180
        replace H := Option.bind_eq_some_iff.mp H
        obtain ⟨⟨t420, t421, t422, t423, t424, t425, t428, t431, t432, t433⟩, A190, H⟩ := H
        replace H : (if t417 = true then ((skiarearef22_Same.f kj4 t403 t404 t405 t406 t407 t408 t411 t414 t415 t416 t420 t421 t422 t423 t424 t425 t428 t431 t432 t433).bind fun t435 => (if t435 = true then (if (t408.length : Int) = 0 then none else (if 0 < (t408.length : Int) then ((skiarearef22_Same.f kj4 ((rd_T32 l0 (ji15)).f0) ((rd_T32 l0 (ji15)).f1) ((rd_T32 l0 (ji15)).f2) ((rd_T32 l0 (ji15)).f3) ((rd_T32 l0 (ji15)).f4) ((rd_T32 l0 (ji15)).f5) ((rd_T32 l0 (ji15)).f6) ((rd_T32 l0 (ji15)).f7.f0) ((rd_T32 l0 (ji15)).f7.f1) ((rd_T32 l0 (ji15)).f8) t420 t421 t422 t423 t424 t425 t428 t431 t432 t433).bind fun t439 => (some t439)) else (none))) else none)) else none) = some r := H
        have A19 := Aside0.mk A190
        clear A190
        by_cases c20 : t417 = true
        ·subst c20
         have H1 : ((skiarearef22_Same.f kj4 t403 t404 t405 t406 t407 t408 t411 t414 t415 t416 t420 t421 t422 t423 t424 t425 t428 t431 t432 t433).bind fun t435 => (if t435 = true then (if (t408.length : Int) = 0 then none else (if 0 < (t408.length : Int) then ((skiarearef22_Same.f kj4 ((rd_T32 l0 (ji15)).f0) ((rd_T32 l0 (ji15)).f1) ((rd_T32 l0 (ji15)).f2) ((rd_T32 l0 (ji15)).f3) ((rd_T32 l0 (ji15)).f4) ((rd_T32 l0 (ji15)).f5) ((rd_T32 l0 (ji15)).f6) ((rd_T32 l0 (ji15)).f7.f0) ((rd_T32 l0 (ji15)).f7.f1) ((rd_T32 l0 (ji15)).f8) t420 t421 t422 t423 t424 t425 t428 t431 t432 t433).bind fun t439 => (some t439)) else (none))) else none)) = some r := by rw [if_pos rfl] at H; exact H
         clear H
         have H := H1
         clear H1
         replace H := Option.bind_eq_some_iff.mp H
         obtain ⟨t435, A210, H⟩ := H
         replace H : (if t435 = true then (if (t408.length : Int) = 0 then none else (if 0 < (t408.length : Int) then ((skiarearef22_Same.f kj4 ((rd_T32 l0 (ji15)).f0) ((rd_T32 l0 (ji15)).f1) ((rd_T32 l0 (ji15)).f2) ((rd_T32 l0 (ji15)).f3) ((rd_T32 l0 (ji15)).f4) ((rd_T32 l0 (ji15)).f5) ((rd_T32 l0 (ji15)).f6) ((rd_T32 l0 (ji15)).f7.f0) ((rd_T32 l0 (ji15)).f7.f1) ((rd_T32 l0 (ji15)).f8) t420 t421 t422 t423 t424 t425 t428 t431 t432 t433).bind fun t439 => (some t439)) else (none))) else none) = some r := H
         have A21 := Aside0.mk A210
         clear A210
         by_cases c22 : t435 = true
         ·subst c22
          have H1 : (if (t408.length : Int) = 0 then none else (if 0 < (t408.length : Int) then ((skiarearef22_Same.f kj4 ((rd_T32 l0 (ji15)).f0) ((rd_T32 l0 (ji15)).f1) ((rd_T32 l0 (ji15)).f2) ((rd_T32 l0 (ji15)).f3) ((rd_T32 l0 (ji15)).f4) ((rd_T32 l0 (ji15)).f5) ((rd_T32 l0 (ji15)).f6) ((rd_T32 l0 (ji15)).f7.f0) ((rd_T32 l0 (ji15)).f7.f1) ((rd_T32 l0 (ji15)).f8) t420 t421 t422 t423 t424 t425 t428 t431 t432 t433).bind fun t439 => (some t439)) else (none))) = some r := by rw [if_pos rfl] at H; exact H
          clear H
          have H := H1
          clear H1
          by_cases c23 : (t408.length : Int) = 0
          ·rw [if_pos c23] at H
           have c23b0 : ((t408.length : Int) == 0) = true := beq_iff_eq.mpr c23
           have c23b1 : ((t408.length : Int) != 0) = false := bne_eq_false_iff_eq.mpr c23
           clear c23
           cases H
          ·rw [if_neg c23] at H
           have c23b0 : ((t408.length : Int) == 0) = false := beq_eq_false_iff_ne.mpr c23
           have c23b1 : ((t408.length : Int) != 0) = true := bne_iff_ne.mpr c23
           have c23b2 : ¬ (t408 = []) := fun h_ => c23 (by rw [h_]; rfl)
           by_cases c38 : 0 < (t408.length : Int)
           ·rw [if_pos c38] at H
            have c38b0 : decide (0 < (t408.length : Int)) = true := decide_eq_true c38
            have c38b1 : decide (0 < t408.length) = true := decide_eq_true (by omega)
            clear c38
            obtain ⟨y437, hy437⟩ : ∃ y_ : List Int, y_ = (t408.set (0 : Int).toNat (wrap64 ((rd t408 0) + 1))) := ⟨_, rfl⟩
            replace H : ((skiarearef22_Same.f kj4 ((rd_T32 l0 (ji15)).f0) ((rd_T32 l0 (ji15)).f1) ((rd_T32 l0 (ji15)).f2) ((rd_T32 l0 (ji15)).f3) ((rd_T32 l0 (ji15)).f4) ((rd_T32 l0 (ji15)).f5) ((rd_T32 l0 (ji15)).f6) ((rd_T32 l0 (ji15)).f7.f0) ((rd_T32 l0 (ji15)).f7.f1) ((rd_T32 l0 (ji15)).f8) t420 t421 t422 t423 t424 t425 t428 t431 t432 t433).bind fun t439 => (some t439)) = some r := by first | (rw [hy437]; with_reducible exact H) | (have H2_ := (Option.bind_some _ _).symm.trans H; rw [hy437]; with_reducible exact H2_) | (have H2_ := (Option.bind_some _ _).symm.trans H; with_reducible exact H2_) | with_reducible exact H | (rw [hy437]; exact H) | exact H
            have Ny437 := Aside0.mk hy437
            clear hy437
            replace H := Option.bind_eq_some_iff.mp H
            obtain ⟨t439, A400, H⟩ := H
            replace H : (some t439) = some r := H
            have A40 := Aside0.mk A400
            clear A400
            obtain rfl := Option.some.inj H
            have p402 : 0 ≤ ((ji15) : Int) := of_decide_eq_true (by first | (with_reducible assumption) | assumption)
            have q402 : (ji15) < (l0.length : Int) := of_decide_eq_true (by first | (with_reducible assumption) | assumption)
            obtain ⟨ad402, A402_5, c402_5, A402_6, c402_6, e402, hx402_0, hx402_1, hx402_2, hx402_3, hx402_4, hx402_5, hx402_6, hx402_7, hx402_8, hx402_9, hl402_5, hi402_5, hl402_6, hi402_6⟩ := at_T32 HR0.out (ji15) p402 q402
            cases e402
            replace hx402_0 := (HB.out.cell (World.block_lt_of_cell? w _ hx402_0)).trans hx402_0
            replace hx402_1 := (HB.out.cell (World.block_lt_of_cell? w _ hx402_1)).trans hx402_1
            replace hx402_2 := (HB.out.cell (World.block_lt_of_cell? w _ hx402_2)).trans hx402_2
            replace hx402_3 := (HB.out.cell (World.block_lt_of_cell? w _ hx402_3)).trans hx402_3
            replace hx402_4 := (HB.out.cell (World.block_lt_of_cell? w _ hx402_4)).trans hx402_4
            replace hx402_5 := (HB.out.cell (World.block_lt_of_cell? w _ hx402_5)).trans hx402_5
            replace hx402_6 := (HB.out.cell (World.block_lt_of_cell? w _ hx402_6)).trans hx402_6
            replace hx402_7 := (HB.out.cell (World.block_lt_of_cell? w _ hx402_7)).trans hx402_7
            replace hx402_8 := (HB.out.cell (World.block_lt_of_cell? w _ hx402_8)).trans hx402_8
            replace hx402_9 := (HB.out.cell (World.block_lt_of_cell? w _ hx402_9)).trans hx402_9
            have HR402_5 := Aside0.mk hi402_5
            have HC402_5 := Aside0.mk hl402_5
            clear hi402_5 hl402_5
            have HR402_6 := Aside0.mk hi402_6
            have HC402_6 := Aside0.mk hl402_6
            clear hi402_6 hl402_6
            replace p402 := eq_true p402
            replace q402 := eq_true q402
            try go_wp2_with (first | ((with_reducible refine gate_callee (f := 14) rfl ?_); refine goesL_ (some 36) rfl rfl Try.func14 (by kernel_rfl) rfl #[.slice (some ad402) l0.length c0, .int .i64 ((rd_T32 l0 (ji15)).f0)] rfl (by (try simp only [List.map_toArray, List.map_cons, List.map_nil]); first | done | (simp only [hji15]; rfl) | rfl | (simp only [List.length_drop, List.length_take]; rfl)) ?_; (with_reducible refine (product_Find.calls kj4 _ _ l0 ((rd_T32 l0 (ji15)).f0) t403 t404 t405 t406 t407 t408 t411 t414 t415 t416 true _ ?side1 ?side2 A18.out).mono ?_); (case side1 => repeat (first | exact (Kd.C_below HR0.out HB.out) | (with_reducible refine Kd.C_alloc ?_ _) | (with_reducible refine Kd.C_drewN ?_ _) | (with_reducible refine Kd.C_drew ?_))); (case side2 => exact HC0.out); rintro e w41 ⟨v409, v412, rfl, ho0, ho1, hb⟩; refine ⟨_, rfl, ?_⟩; have n0_ := Aside0.mk (Kd.R_lower ho0 (below_size (by repeat (first | (with_reducible first | exact HB.out | apply below_alloc | apply pw_below_drewN | apply below_drew1) | exact HB.out)))); have n1_ := Aside0.mk (Kd.R_lower ho1 (below_size (by repeat (first | (with_reducible first | exact HB.out | apply below_alloc | apply pw_below_drewN | apply below_drew1) | exact HB.out)))); have n2_ := Aside0.mk (below_step (by repeat (first | (with_reducible first | exact HB.out | apply below_alloc | apply pw_below_drewN | apply below_drew1) | exact HB.out)) hb); clear HB; have HO410 := n0_; have HO413 := n1_; have HB := n2_; clear n0_ n1_ n2_; (try clear hb); (try clear hb2); (try clear hk); (try clear hi); (try clear ho0); (try clear ho1)) | ((with_reducible refine gate_dst (N := 6) rfl ?_); refine box_event ?hg (N := 6) ?hd (cs := #[.int .i64 0, .int .i64 0, .int .i64 0, .int .i64 0, .int .i64 0, .slice none 0 0, .slice none 0 0, .int .i64 0, .int .i64 0, .int .i64 0]) (t := 32) ?hr ?_; (case hd => rfl); (case hg => rfl); (case hr => first | (go_simp; done) | (go_simp; rfl)); intro gb418 hg w42 hbox hb; have n0_ := Aside0.mk (Kd.R_below (by (with_reducible repeat (first | apply Kd.R_alloc | apply Kd.R_drewN | apply Kd.R_drew)); exact HO410.out) hb); have n1_ := Aside0.mk (Kd.R_below (by (with_reducible repeat (first | apply Kd.R_alloc | apply Kd.R_drewN | apply Kd.R_drew)); exact HO413.out) hb); have n2_ := Aside0.mk (below_step (by repeat (first | (with_reducible first | exact HB.out | apply below_alloc | apply pw_below_drewN | apply below_drew1) | exact HB.out)) hb); have n3_ := Aside0.mk (hbox); have n4_ := Aside0.mk ((by rw [hg]; exact (below_size (by repeat (first | (with_reducible first | exact HB.out | apply below_alloc | apply pw_below_drewN | apply below_drew1) | exact HB.out))) : w.heap.size ≤ gb418)); have n5_ := n4_; clear HO410; clear HO413; clear HB; have HO410 := n0_; have HO413 := n1_; have HB := n2_; have BK418 := n3_; have GW418 := n4_; have GE418 := n5_; clear n0_ n1_ n2_ n3_ n4_ n5_; clear hb hbox hg; obtain ⟨hcz43_0, hcz43_1, hcz43_2, hcz43_3, hcz43_4, hcz43_5, hcz43_6, hcz43_7, hcz43_8, hcz43_9, hfz43_0, hfz43_1, hfz43_2, hfz43_3, hfz43_4, hfz43_5, hfz43_6, hfz43_7, hfz43_8, hfz43_9⟩ := cells10 BK418.out; obtain ⟨Ao44, co44, eo44⟩ := Kd.R_slice HO410.out; subst eo44; obtain ⟨Ao45, co45, eo45⟩ := Kd.R_slice HO413.out; subst eo45; have p419 : 0 ≤ ((ji15) : Int) := of_decide_eq_true (by first | (with_reducible assumption) | assumption); have q419 : (ji15) < (l0.length : Int) := of_decide_eq_true (by first | (with_reducible assumption) | assumption); obtain ⟨ad419, A419_5, c419_5, A419_6, c419_6, e419, hx419_0, hx419_1, hx419_2, hx419_3, hx419_4, hx419_5, hx419_6, hx419_7, hx419_8, hx419_9, hl419_5, hi419_5, hl419_6, hi419_6⟩ := at_T32 HR0.out (ji15) p419 q419; obtain rfl : ad402 = ad419 := (by injection e419); have hn419_0 : ad402.block ≠ gb418 := Nat.ne_of_lt (Nat.lt_of_lt_of_le (by have := World.block_lt_of_cell? _ _ hx419_0; first | rwa [add_block] at this | exact this) GW418.out); have hn419_1 : ad402.block ≠ gb418 := Nat.ne_of_lt (Nat.lt_of_lt_of_le (by have := World.block_lt_of_cell? _ _ hx419_0; first | rwa [add_block] at this | exact this) GW418.out); have hn419_2 : ad402.block ≠ gb418 := Nat.ne_of_lt (Nat.lt_of_lt_of_le (by have := World.block_lt_of_cell? _ _ hx419_0; first | rwa [add_block] at this | exact this) GW418.out); have hn419_3 : ad402.block ≠ gb418 := Nat.ne_of_lt (Nat.lt_of_lt_of_le (by have := World.block_lt_of_cell? _ _ hx419_0; first | rwa [add_block] at this | exact this) GW418.out); have hn419_4 : ad402.block ≠ gb418 := Nat.ne_of_lt (Nat.lt_of_lt_of_le (by have := World.block_lt_of_cell? _ _ hx419_0; first | rwa [add_block] at this | exact this) GW418.out); have hn419_5 : ad402.block ≠ gb418 := Nat.ne_of_lt (Nat.lt_of_lt_of_le (by have := World.block_lt_of_cell? _ _ hx419_0; first | rwa [add_block] at this | exact this) GW418.out); have hn419_6 : ad402.block ≠ gb418 := Nat.ne_of_lt (Nat.lt_of_lt_of_le (by have := World.block_lt_of_cell? _ _ hx419_0; first | rwa [add_block] at this | exact this) GW418.out); have hn419_7 : ad402.block ≠ gb418 := Nat.ne_of_lt (Nat.lt_of_lt_of_le (by have := World.block_lt_of_cell? _ _ hx419_0; first | rwa [add_block] at this | exact this) GW418.out); have hn419_8 : ad402.block ≠ gb418 := Nat.ne_of_lt (Nat.lt_of_lt_of_le (by have := World.block_lt_of_cell? _ _ hx419_0; first | rwa [add_block] at this | exact this) GW418.out); have hn419_9 : ad402.block ≠ gb418 := Nat.ne_of_lt (Nat.lt_of_lt_of_le (by have := World.block_lt_of_cell? _ _ hx419_0; first | rwa [add_block] at this | exact this) GW418.out); replace hx419_0 := (HB.out.cell (World.block_lt_of_cell? w _ hx419_0)).trans hx419_0; replace hx419_1 := (HB.out.cell (World.block_lt_of_cell? w _ hx419_1)).trans hx419_1; replace hx419_2 := (HB.out.cell (World.block_lt_of_cell? w _ hx419_2)).trans hx419_2; replace hx419_3 := (HB.out.cell (World.block_lt_of_cell? w _ hx419_3)).trans hx419_3; replace hx419_4 := (HB.out.cell (World.block_lt_of_cell? w _ hx419_4)).trans hx419_4; replace hx419_5 := (HB.out.cell (World.block_lt_of_cell? w _ hx419_5)).trans hx419_5; replace hx419_6 := (HB.out.cell (World.block_lt_of_cell? w _ hx419_6)).trans hx419_6; replace hx419_7 := (HB.out.cell (World.block_lt_of_cell? w _ hx419_7)).trans hx419_7; replace hx419_8 := (HB.out.cell (World.block_lt_of_cell? w _ hx419_8)).trans hx419_8; replace hx419_9 := (HB.out.cell (World.block_lt_of_cell? w _ hx419_9)).trans hx419_9; have HR419_5 := Aside0.mk hi419_5; have HC419_5 := Aside0.mk hl419_5; clear hi419_5 hl419_5; have HR419_6 := Aside0.mk hi419_6; have HC419_6 := Aside0.mk hl419_6; clear hi419_6 hl419_6; replace hx419_0 := (cell_far (p := ⟨gb418, 0, none⟩) (by first | (rw [add_block]; exact hn419_0) | (show (Addr.add _ _).block ≠ _; rw [add_block]; exact hn419_0) | exact hn419_0) (.int .i64 t403)).trans hx419_0; replace hx419_1 := (cell_far (p := ⟨gb418, 0, none⟩) (by first | (rw [add_block]; exact hn419_0) | (show (Addr.add _ _).block ≠ _; rw [add_block]; exact hn419_0) | exact hn419_0) (.int .i64 t403)).trans hx419_1; replace hx419_2 := (cell_far (p := ⟨gb418, 0, none⟩) (by first | (rw [add_block]; exact hn419_0) | (show (Addr.add _ _).block ≠ _; rw [add_block]; exact hn419_0) | exact hn419_0) (.int .i64 t403)).trans hx419_2; replace hx419_3 := (cell_far (p := ⟨gb418, 0, none⟩) (by first | (rw [add_block]; exact hn419_0) | (show (Addr.add _ _).block ≠ _; rw [add_block]; exact hn419_0) | exact hn419_0) (.int .i64 t403)).trans hx419_3; replace hx419_4 := (cell_far (p := ⟨gb418, 0, none⟩) (by first | (rw [add_block]; exact hn419_0) | (show (Addr.add _ _).block ≠ _; rw [add_block]; exact hn419_0) | exact hn419_0) (.int .i64 t403)).trans hx419_4; replace hx419_5 := (cell_far (p := ⟨gb418, 0, none⟩) (by first | (rw [add_block]; exact hn419_0) | (show (Addr.add _ _).block ≠ _; rw [add_block]; exact hn419_0) | exact hn419_0) (.int .i64 t403)).trans hx419_5; replace hx419_6 := (cell_far (p := ⟨gb418, 0, none⟩) (by first | (rw [add_block]; exact hn419_0) | (show (Addr.add _ _).block ≠ _; rw [add_block]; exact hn419_0) | exact hn419_0) (.int .i64 t403)).trans hx419_6; replace hx419_7 := (cell_far (p := ⟨gb418, 0, none⟩) (by first | (rw [add_block]; exact hn419_0) | (show (Addr.add _ _).block ≠ _; rw [add_block]; exact hn419_0) | exact hn419_0) (.int .i64 t403)).trans hx419_7; replace hx419_8 := (cell_far (p := ⟨gb418, 0, none⟩) (by first | (rw [add_block]; exact hn419_0) | (show (Addr.add _ _).block ≠ _; rw [add_block]; exact hn419_0) | exact hn419_0) (.int .i64 t403)).trans hx419_8; replace hx419_9 := (cell_far (p := ⟨gb418, 0, none⟩) (by first | (rw [add_block]; exact hn419_0) | (show (Addr.add _ _).block ≠ _; rw [add_block]; exact hn419_0) | exact hn419_0) (.int .i64 t403)).trans hx419_9; replace hx419_0 := (cell_far (p := ⟨gb418, 1, none⟩) (by first | (rw [add_block]; exact hn419_1) | (show (Addr.add _ _).block ≠ _; rw [add_block]; exact hn419_1) | exact hn419_1) (.int .i64 t404)).trans hx419_0; replace hx419_1 := (cell_far (p := ⟨gb418, 1, none⟩) (by first | (rw [add_block]; exact hn419_1) | (show (Addr.add _ _).block ≠ _; rw [add_block]; exact hn419_1) | exact hn419_1) (.int .i64 t404)).trans hx419_1; replace hx419_2 := (cell_far (p := ⟨gb418, 1, none⟩) (by first | (rw [add_block]; exact hn419_1) | (show (Addr.add _ _).block ≠ _; rw [add_block]; exact hn419_1) | exact hn419_1) (.int .i64 t404)).trans hx419_2; replace hx419_3 := (cell_far (p := ⟨gb418, 1, none⟩) (by first | (rw [add_block]; exact hn419_1) | (show (Addr.add _ _).block ≠ _; rw [add_block]; exact hn419_1) | exact hn419_1) (.int .i64 t404)).trans hx419_3; replace hx419_4 := (cell_far (p := ⟨gb418, 1, none⟩) (by first | (rw [add_block]; exact hn419_1) | (show (Addr.add _ _).block ≠ _; rw [add_block]; exact hn419_1) | exact hn419_1) (.int .i64 t404)).trans hx419_4; replace hx419_5 := (cell_far (p := ⟨gb418, 1, none⟩) (by first | (rw [add_block]; exact hn419_1) | (show (Addr.add _ _).block ≠ _; rw [add_block]; exact hn419_1) | exact hn419_1) (.int .i64 t404)).trans hx419_5; replace hx419_6 := (cell_far (p := ⟨gb418, 1, none⟩) (by first | (rw [add_block]; exact hn419_1) | (show (Addr.add _ _).block ≠ _; rw [add_block]; exact hn419_1) | exact hn419_1) (.int .i64 t404)).trans hx419_6; replace hx419_7 := (cell_far (p := ⟨gb418, 1, none⟩) (by first | (rw [add_block]; exact hn419_1) | (show (Addr.add _ _).block ≠ _; rw [add_block]; exact hn419_1) | exact hn419_1) (.int .i64 t404)).trans hx419_7; replace hx419_8 := (cell_far (p := ⟨gb418, 1, none⟩) (by first | (rw [add_block]; exact hn419_1) | (show (Addr.add _ _).block ≠ _; rw [add_block]; exact hn419_1) | exact hn419_1) (.int .i64 t404)).trans hx419_8; replace hx419_9 := (cell_far (p := ⟨gb418, 1, none⟩) (by first | (rw [add_block]; exact hn419_1) | (show (Addr.add _ _).block ≠ _; rw [add_block]; exact hn419_1) | exact hn419_1) (.int .i64 t404)).trans hx419_9; replace hx419_0 := (cell_far (p := ⟨gb418, 2, none⟩) (by first | (rw [add_block]; exact hn419_2) | (show (Addr.add _ _).block ≠ _; rw [add_block]; exact hn419_2) | exact hn419_2) (.int .i64 t405)).trans hx419_0; replace hx419_1 := (cell_far (p := ⟨gb418, 2, none⟩) (by first | (rw [add_block]; exact hn419_2) | (show (Addr.add _ _).block ≠ _; rw [add_block]; exact hn419_2) | exact hn419_2) (.int .i64 t405)).trans hx419_1; replace hx419_2 := (cell_far (p := ⟨gb418, 2, none⟩) (by first | (rw [add_block]; exact hn419_2) | (show (Addr.add _ _).block ≠ _; rw [add_block]; exact hn419_2) | exact hn419_2) (.int .i64 t405)).trans hx419_2; replace hx419_3 := (cell_far (p := ⟨gb418, 2, none⟩) (by first | (rw [add_block]; exact hn419_2) | (show (Addr.add _ _).block ≠ _; rw [add_block]; exact hn419_2) | exact hn419_2) (.int .i64 t405)).trans hx419_3; replace hx419_4 := (cell_far (p := ⟨gb418, 2, none⟩) (by first | (rw [add_block]; exact hn419_2) | (show (Addr.add _ _).block ≠ _; rw [add_block]; exact hn419_2) | exact hn419_2) (.int .i64 t405)).trans hx419_4; replace hx419_5 := (cell_far (p := ⟨gb418, 2, none⟩) (by first | (rw [add_block]; exact hn419_2) | (show (Addr.add _ _).block ≠ _; rw [add_block]; exact hn419_2) | exact hn419_2) (.int .i64 t405)).trans hx419_5; replace hx419_6 := (cell_far (p := ⟨gb418, 2, none⟩) (by first | (rw [add_block]; exact hn419_2) | (show (Addr.add _ _).block ≠ _; rw [add_block]; exact hn419_2) | exact hn419_2) (.int .i64 t405)).trans hx419_6; replace hx419_7 := (cell_far (p := ⟨gb418, 2, none⟩) (by first | (rw [add_block]; exact hn419_2) | (show (Addr.add _ _).block ≠ _; rw [add_block]; exact hn419_2) | exact hn419_2) (.int .i64 t405)).trans hx419_7; replace hx419_8 := (cell_far (p := ⟨gb418, 2, none⟩) (by first | (rw [add_block]; exact hn419_2) | (show (Addr.add _ _).block ≠ _; rw [add_block]; exact hn419_2) | exact hn419_2) (.int .i64 t405)).trans hx419_8; replace hx419_9 := (cell_far (p := ⟨gb418, 2, none⟩) (by first | (rw [add_block]; exact hn419_2) | (show (Addr.add _ _).block ≠ _; rw [add_block]; exact hn419_2) | exact hn419_2) (.int .i64 t405)).trans hx419_9; replace hx419_0 := (cell_far (p := ⟨gb418, 3, none⟩) (by first | (rw [add_block]; exact hn419_3) | (show (Addr.add _ _).block ≠ _; rw [add_block]; exact hn419_3) | exact hn419_3) (.int .i64 t406)).trans hx419_0; replace hx419_1 := (cell_far (p := ⟨gb418, 3, none⟩) (by first | (rw [add_block]; exact hn419_3) | (show (Addr.add _ _).block ≠ _; rw [add_block]; exact hn419_3) | exact hn419_3) (.int .i64 t406)).trans hx419_1; replace hx419_2 := (cell_far (p := ⟨gb418, 3, none⟩) (by first | (rw [add_block]; exact hn419_3) | (show (Addr.add _ _).block ≠ _; rw [add_block]; exact hn419_3) | exact hn419_3) (.int .i64 t406)).trans hx419_2; replace hx419_3 := (cell_far (p := ⟨gb418, 3, none⟩) (by first | (rw [add_block]; exact hn419_3) | (show (Addr.add _ _).block ≠ _; rw [add_block]; exact hn419_3) | exact hn419_3) (.int .i64 t406)).trans hx419_3; replace hx419_4 := (cell_far (p := ⟨gb418, 3, none⟩) (by first | (rw [add_block]; exact hn419_3) | (show (Addr.add _ _).block ≠ _; rw [add_block]; exact hn419_3) | exact hn419_3) (.int .i64 t406)).trans hx419_4; replace hx419_5 := (cell_far (p := ⟨gb418, 3, none⟩) (by first | (rw [add_block]; exact hn419_3) | (show (Addr.add _ _).block ≠ _; rw [add_block]; exact hn419_3) | exact hn419_3) (.int .i64 t406)).trans hx419_5; replace hx419_6 := (cell_far (p := ⟨gb418, 3, none⟩) (by first | (rw [add_block]; exact hn419_3) | (show (Addr.add _ _).block ≠ _; rw [add_block]; exact hn419_3) | exact hn419_3) (.int .i64 t406)).trans hx419_6; replace hx419_7 := (cell_far (p := ⟨gb418, 3, none⟩) (by first | (rw [add_block]; exact hn419_3) | (show (Addr.add _ _).block ≠ _; rw [add_block]; exact hn419_3) | exact hn419_3) (.int .i64 t406)).trans hx419_7; replace hx419_8 := (cell_far (p := ⟨gb418, 3, none⟩) (by first | (rw [add_block]; exact hn419_3) | (show (Addr.add _ _).block ≠ _; rw [add_block]; exact hn419_3) | exact hn419_3) (.int .i64 t406)).trans hx419_8; replace hx419_9 := (cell_far (p := ⟨gb418, 3, none⟩) (by first | (rw [add_block]; exact hn419_3) | (show (Addr.add _ _).block ≠ _; rw [add_block]; exact hn419_3) | exact hn419_3) (.int .i64 t406)).trans hx419_9; replace hx419_0 := (cell_far (p := ⟨gb418, 4, none⟩) (by first | (rw [add_block]; exact hn419_4) | (show (Addr.add _ _).block ≠ _; rw [add_block]; exact hn419_4) | exact hn419_4) (.int .i64 t407)).trans hx419_0; replace hx419_1 := (cell_far (p := ⟨gb418, 4, none⟩) (by first | (rw [add_block]; exact hn419_4) | (show (Addr.add _ _).block ≠ _; rw [add_block]; exact hn419_4) | exact hn419_4) (.int .i64 t407)).trans hx419_1; replace hx419_2 := (cell_far (p := ⟨gb418, 4, none⟩) (by first | (rw [add_block]; exact hn419_4) | (show (Addr.add _ _).block ≠ _; rw [add_block]; exact hn419_4) | exact hn419_4) (.int .i64 t407)).trans hx419_2; replace hx419_3 := (cell_far (p := ⟨gb418, 4, none⟩) (by first | (rw [add_block]; exact hn419_4) | (show (Addr.add _ _).block ≠ _; rw [add_block]; exact hn419_4) | exact hn419_4) (.int .i64 t407)).trans hx419_3; replace hx419_4 := (cell_far (p := ⟨gb418, 4, none⟩) (by first | (rw [add_block]; exact hn419_4) | (show (Addr.add _ _).block ≠ _; rw [add_block]; exact hn419_4) | exact hn419_4) (.int .i64 t407)).trans hx419_4; replace hx419_5 := (cell_far (p := ⟨gb418, 4, none⟩) (by first | (rw [add_block]; exact hn419_4) | (show (Addr.add _ _).block ≠ _; rw [add_block]; exact hn419_4) | exact hn419_4) (.int .i64 t407)).trans hx419_5; replace hx419_6 := (cell_far (p := ⟨gb418, 4, none⟩) (by first | (rw [add_block]; exact hn419_4) | (show (Addr.add _ _).block ≠ _; rw [add_block]; exact hn419_4) | exact hn419_4) (.int .i64 t407)).trans hx419_6; replace hx419_7 := (cell_far (p := ⟨gb418, 4, none⟩) (by first | (rw [add_block]; exact hn419_4) | (show (Addr.add _ _).block ≠ _; rw [add_block]; exact hn419_4) | exact hn419_4) (.int .i64 t407)).trans hx419_7; replace hx419_8 := (cell_far (p := ⟨gb418, 4, none⟩) (by first | (rw [add_block]; exact hn419_4) | (show (Addr.add _ _).block ≠ _; rw [add_block]; exact hn419_4) | exact hn419_4) (.int .i64 t407)).trans hx419_8; replace hx419_9 := (cell_far (p := ⟨gb418, 4, none⟩) (by first | (rw [add_block]; exact hn419_4) | (show (Addr.add _ _).block ≠ _; rw [add_block]; exact hn419_4) | exact hn419_4) (.int .i64 t407)).trans hx419_9; replace hx419_0 := (cell_far (p := ⟨gb418, 5, none⟩) (by first | (rw [add_block]; exact hn419_5) | (show (Addr.add _ _).block ≠ _; rw [add_block]; exact hn419_5) | exact hn419_5) (.slice Ao44 t408.length co44)).trans hx419_0; replace hx419_1 := (cell_far (p := ⟨gb418, 5, none⟩) (by first | (rw [add_block]; exact hn419_5) | (show (Addr.add _ _).block ≠ _; rw [add_block]; exact hn419_5) | exact hn419_5) (.slice Ao44 t408.length co44)).trans hx419_1; replace hx419_2 := (cell_far (p := ⟨gb418, 5, none⟩) (by first | (rw [add_block]; exact hn419_5) | (show (Addr.add _ _).block ≠ _; rw [add_block]; exact hn419_5) | exact hn419_5) (.slice Ao44 t408.length co44)).trans hx419_2; replace hx419_3 := (cell_far (p := ⟨gb418, 5, none⟩) (by first | (rw [add_block]; exact hn419_5) | (show (Addr.add _ _).block ≠ _; rw [add_block]; exact hn419_5) | exact hn419_5) (.slice Ao44 t408.length co44)).trans hx419_3; replace hx419_4 := (cell_far (p := ⟨gb418, 5, none⟩) (by first | (rw [add_block]; exact hn419_5) | (show (Addr.add _ _).block ≠ _; rw [add_block]; exact hn419_5) | exact hn419_5) (.slice Ao44 t408.length co44)).trans hx419_4; replace hx419_5 := (cell_far (p := ⟨gb418, 5, none⟩) (by first | (rw [add_block]; exact hn419_5) | (show (Addr.add _ _).block ≠ _; rw [add_block]; exact hn419_5) | exact hn419_5) (.slice Ao44 t408.length co44)).trans hx419_5; replace hx419_6 := (cell_far (p := ⟨gb418, 5, none⟩) (by first | (rw [add_block]; exact hn419_5) | (show (Addr.add _ _).block ≠ _; rw [add_block]; exact hn419_5) | exact hn419_5) (.slice Ao44 t408.length co44)).trans hx419_6; replace hx419_7 := (cell_far (p := ⟨gb418, 5, none⟩) (by first | (rw [add_block]; exact hn419_5) | (show (Addr.add _ _).block ≠ _; rw [add_block]; exact hn419_5) | exact hn419_5) (.slice Ao44 t408.length co44)).trans hx419_7; replace hx419_8 := (cell_far (p := ⟨gb418, 5, none⟩) (by first | (rw [add_block]; exact hn419_5) | (show (Addr.add _ _).block ≠ _; rw [add_block]; exact hn419_5) | exact hn419_5) (.slice Ao44 t408.length co44)).trans hx419_8; replace hx419_9 := (cell_far (p := ⟨gb418, 5, none⟩) (by first | (rw [add_block]; exact hn419_5) | (show (Addr.add _ _).block ≠ _; rw [add_block]; exact hn419_5) | exact hn419_5) (.slice Ao44 t408.length co44)).trans hx419_9; replace hx419_0 := (cell_far (p := ⟨gb418, 6, none⟩) (by first | (rw [add_block]; exact hn419_6) | (show (Addr.add _ _).block ≠ _; rw [add_block]; exact hn419_6) | exact hn419_6) (.slice Ao45 t411.length co45)).trans hx419_0; replace hx419_1 := (cell_far (p := ⟨gb418, 6, none⟩) (by first | (rw [add_block]; exact hn419_6) | (show (Addr.add _ _).block ≠ _; rw [add_block]; exact hn419_6) | exact hn419_6) (.slice Ao45 t411.length co45)).trans hx419_1; replace hx419_2 := (cell_far (p := ⟨gb418, 6, none⟩) (by first | (rw [add_block]; exact hn419_6) | (show (Addr.add _ _).block ≠ _; rw [add_block]; exact hn419_6) | exact hn419_6) (.slice Ao45 t411.length co45)).trans hx419_2; replace hx419_3 := (cell_far (p := ⟨gb418, 6, none⟩) (by first | (rw [add_block]; exact hn419_6) | (show (Addr.add _ _).block ≠ _; rw [add_block]; exact hn419_6) | exact hn419_6) (.slice Ao45 t411.length co45)).trans hx419_3; replace hx419_4 := (cell_far (p := ⟨gb418, 6, none⟩) (by first | (rw [add_block]; exact hn419_6) | (show (Addr.add _ _).block ≠ _; rw [add_block]; exact hn419_6) | exact hn419_6) (.slice Ao45 t411.length co45)).trans hx419_4; replace hx419_5 := (cell_far (p := ⟨gb418, 6, none⟩) (by first | (rw [add_block]; exact hn419_6) | (show (Addr.add _ _).block ≠ _; rw [add_block]; exact hn419_6) | exact hn419_6) (.slice Ao45 t411.length co45)).trans hx419_5; replace hx419_6 := (cell_far (p := ⟨gb418, 6, none⟩) (by first | (rw [add_block]; exact hn419_6) | (show (Addr.add _ _).block ≠ _; rw [add_block]; exact hn419_6) | exact hn419_6) (.slice Ao45 t411.length co45)).trans hx419_6; replace hx419_7 := (cell_far (p := ⟨gb418, 6, none⟩) (by first | (rw [add_block]; exact hn419_6) | (show (Addr.add _ _).block ≠ _; rw [add_block]; exact hn419_6) | exact hn419_6) (.slice Ao45 t411.length co45)).trans hx419_7; replace hx419_8 := (cell_far (p := ⟨gb418, 6, none⟩) (by first | (rw [add_block]; exact hn419_6) | (show (Addr.add _ _).block ≠ _; rw [add_block]; exact hn419_6) | exact hn419_6) (.slice Ao45 t411.length co45)).trans hx419_8; replace hx419_9 := (cell_far (p := ⟨gb418, 6, none⟩) (by first | (rw [add_block]; exact hn419_6) | (show (Addr.add _ _).block ≠ _; rw [add_block]; exact hn419_6) | exact hn419_6) (.slice Ao45 t411.length co45)).trans hx419_9; replace hx419_0 := (cell_far (p := ⟨gb418, 7, none⟩) (by first | (rw [add_block]; exact hn419_7) | (show (Addr.add _ _).block ≠ _; rw [add_block]; exact hn419_7) | exact hn419_7) (.int .i64 t414)).trans hx419_0; replace hx419_1 := (cell_far (p := ⟨gb418, 7, none⟩) (by first | (rw [add_block]; exact hn419_7) | (show (Addr.add _ _).block ≠ _; rw [add_block]; exact hn419_7) | exact hn419_7) (.int .i64 t414)).trans hx419_1; replace hx419_2 := (cell_far (p := ⟨gb418, 7, none⟩) (by first | (rw [add_block]; exact hn419_7) | (show (Addr.add _ _).block ≠ _; rw [add_block]; exact hn419_7) | exact hn419_7) (.int .i64 t414)).trans hx419_2; replace hx419_3 := (cell_far (p := ⟨gb418, 7, none⟩) (by first | (rw [add_block]; exact hn419_7) | (show (Addr.add _ _).block ≠ _; rw [add_block]; exact hn419_7) | exact hn419_7) (.int .i64 t414)).trans hx419_3; replace hx419_4 := (cell_far (p := ⟨gb418, 7, none⟩) (by first | (rw [add_block]; exact hn419_7) | (show (Addr.add _ _).block ≠ _; rw [add_block]; exact hn419_7) | exact hn419_7) (.int .i64 t414)).trans hx419_4; replace hx419_5 := (cell_far (p := ⟨gb418, 7, none⟩) (by first | (rw [add_block]; exact hn419_7) | (show (Addr.add _ _).block ≠ _; rw [add_block]; exact hn419_7) | exact hn419_7) (.int .i64 t414)).trans hx419_5; replace hx419_6 := (cell_far (p := ⟨gb418, 7, none⟩) (by first | (rw [add_block]; exact hn419_7) | (show (Addr.add _ _).block ≠ _; rw [add_block]; exact hn419_7) | exact hn419_7) (.int .i64 t414)).trans hx419_6; replace hx419_7 := (cell_far (p := ⟨gb418, 7, none⟩) (by first | (rw [add_block]; exact hn419_7) | (show (Addr.add _ _).block ≠ _; rw [add_block]; exact hn419_7) | exact hn419_7) (.int .i64 t414)).trans hx419_7; replace hx419_8 := (cell_far (p := ⟨gb418, 7, none⟩) (by first | (rw [add_block]; exact hn419_7) | (show (Addr.add _ _).block ≠ _; rw [add_block]; exact hn419_7) | exact hn419_7) (.int .i64 t414)).trans hx419_8; replace hx419_9 := (cell_far (p := ⟨gb418, 7, none⟩) (by first | (rw [add_block]; exact hn419_7) | (show (Addr.add _ _).block ≠ _; rw [add_block]; exact hn419_7) | exact hn419_7) (.int .i64 t414)).trans hx419_9; replace hx419_0 := (cell_far (p := ⟨gb418, 8, none⟩) (by first | (rw [add_block]; exact hn419_8) | (show (Addr.add _ _).block ≠ _; rw [add_block]; exact hn419_8) | exact hn419_8) (.int .i64 t415)).trans hx419_0; replace hx419_1 := (cell_far (p := ⟨gb418, 8, none⟩) (by first | (rw [add_block]; exact hn419_8) | (show (Addr.add _ _).block ≠ _; rw [add_block]; exact hn419_8) | exact hn419_8) (.int .i64 t415)).trans hx419_1; replace hx419_2 := (cell_far (p := ⟨gb418, 8, none⟩) (by first | (rw [add_block]; exact hn419_8) | (show (Addr.add _ _).block ≠ _; rw [add_block]; exact hn419_8) | exact hn419_8) (.int .i64 t415)).trans hx419_2; replace hx419_3 := (cell_far (p := ⟨gb418, 8, none⟩) (by first | (rw [add_block]; exact hn419_8) | (show (Addr.add _ _).block ≠ _; rw [add_block]; exact hn419_8) | exact hn419_8) (.int .i64 t415)).trans hx419_3; replace hx419_4 := (cell_far (p := ⟨gb418, 8, none⟩) (by first | (rw [add_block]; exact hn419_8) | (show (Addr.add _ _).block ≠ _; rw [add_block]; exact hn419_8) | exact hn419_8) (.int .i64 t415)).trans hx419_4; replace hx419_5 := (cell_far (p := ⟨gb418, 8, none⟩) (by first | (rw [add_block]; exact hn419_8) | (show (Addr.add _ _).block ≠ _; rw [add_block]; exact hn419_8) | exact hn419_8) (.int .i64 t415)).trans hx419_5; replace hx419_6 := (cell_far (p := ⟨gb418, 8, none⟩) (by first | (rw [add_block]; exact hn419_8) | (show (Addr.add _ _).block ≠ _; rw [add_block]; exact hn419_8) | exact hn419_8) (.int .i64 t415)).trans hx419_6; replace hx419_7 := (cell_far (p := ⟨gb418, 8, none⟩) (by first | (rw [add_block]; exact hn419_8) | (show (Addr.add _ _).block ≠ _; rw [add_block]; exact hn419_8) | exact hn419_8) (.int .i64 t415)).trans hx419_7; replace hx419_8 := (cell_far (p := ⟨gb418, 8, none⟩) (by first | (rw [add_block]; exact hn419_8) | (show (Addr.add _ _).block ≠ _; rw [add_block]; exact hn419_8) | exact hn419_8) (.int .i64 t415)).trans hx419_8; replace hx419_9 := (cell_far (p := ⟨gb418, 8, none⟩) (by first | (rw [add_block]; exact hn419_8) | (show (Addr.add _ _).block ≠ _; rw [add_block]; exact hn419_8) | exact hn419_8) (.int .i64 t415)).trans hx419_9; replace hx419_0 := (cell_far (p := ⟨gb418, 9, none⟩) (by first | (rw [add_block]; exact hn419_9) | (show (Addr.add _ _).block ≠ _; rw [add_block]; exact hn419_9) | exact hn419_9) (.int .i64 t416)).trans hx419_0; replace hx419_1 := (cell_far (p := ⟨gb418, 9, none⟩) (by first | (rw [add_block]; exact hn419_9) | (show (Addr.add _ _).block ≠ _; rw [add_block]; exact hn419_9) | exact hn419_9) (.int .i64 t416)).trans hx419_1; replace hx419_2 := (cell_far (p := ⟨gb418, 9, none⟩) (by first | (rw [add_block]; exact hn419_9) | (show (Addr.add _ _).block ≠ _; rw [add_block]; exact hn419_9) | exact hn419_9) (.int .i64 t416)).trans hx419_2; replace hx419_3 := (cell_far (p := ⟨gb418, 9, none⟩) (by first | (rw [add_block]; exact hn419_9) | (show (Addr.add _ _).block ≠ _; rw [add_block]; exact hn419_9) | exact hn419_9) (.int .i64 t416)).trans hx419_3; replace hx419_4 := (cell_far (p := ⟨gb418, 9, none⟩) (by first | (rw [add_block]; exact hn419_9) | (show (Addr.add _ _).block ≠ _; rw [add_block]; exact hn419_9) | exact hn419_9) (.int .i64 t416)).trans hx419_4; replace hx419_5 := (cell_far (p := ⟨gb418, 9, none⟩) (by first | (rw [add_block]; exact hn419_9) | (show (Addr.add _ _).block ≠ _; rw [add_block]; exact hn419_9) | exact hn419_9) (.int .i64 t416)).trans hx419_5; replace hx419_6 := (cell_far (p := ⟨gb418, 9, none⟩) (by first | (rw [add_block]; exact hn419_9) | (show (Addr.add _ _).block ≠ _; rw [add_block]; exact hn419_9) | exact hn419_9) (.int .i64 t416)).trans hx419_6; replace hx419_7 := (cell_far (p := ⟨gb418, 9, none⟩) (by first | (rw [add_block]; exact hn419_9) | (show (Addr.add _ _).block ≠ _; rw [add_block]; exact hn419_9) | exact hn419_9) (.int .i64 t416)).trans hx419_7; replace hx419_8 := (cell_far (p := ⟨gb418, 9, none⟩) (by first | (rw [add_block]; exact hn419_9) | (show (Addr.add _ _).block ≠ _; rw [add_block]; exact hn419_9) | exact hn419_9) (.int .i64 t416)).trans hx419_8; replace hx419_9 := (cell_far (p := ⟨gb418, 9, none⟩) (by first | (rw [add_block]; exact hn419_9) | (show (Addr.add _ _).block ≠ _; rw [add_block]; exact hn419_9) | exact hn419_9) (.int .i64 t416)).trans hx419_9; clear hn419_0; clear hn419_1; clear hn419_2; clear hn419_3; clear hn419_4; clear hn419_5; clear hn419_6; clear hn419_7; clear hn419_8; clear hn419_9; replace p419 := eq_true p419; replace q419 := eq_true q419) | ((with_reducible refine gate_callee (f := 26) rfl ?_); refine goesL_ (some 43) rfl rfl Try.func26 (by kernel_rfl) rfl #[.agg #[.int .i64 ((rd_T32 l0 (ji15)).f0), .int .i64 ((rd_T32 l0 (ji15)).f1), .int .i64 ((rd_T32 l0 (ji15)).f2), .int .i64 ((rd_T32 l0 (ji15)).f3), .int .i64 ((rd_T32 l0 (ji15)).f4), .slice A419_5 ((rd_T32 l0 (ji15)).f5).length c419_5, .slice A419_6 ((rd_T32 l0 (ji15)).f6).length c419_6, .int .i64 ((rd_T32 l0 (ji15)).f7.f0), .int .i64 ((rd_T32 l0 (ji15)).f7.f1), .int .i64 ((rd_T32 l0 (ji15)).f8)]] rfl (by (try simp only [List.map_toArray, List.map_cons, List.map_nil]); first | done | (simp only [hji15]; rfl) | rfl | (simp only [List.length_drop, List.length_take]; rfl)) ?_; (with_reducible refine (skiarearef22_Own.calls kj4 ((rd_T32 l0 (ji15)).f0) ((rd_T32 l0 (ji15)).f1) ((rd_T32 l0 (ji15)).f2) ((rd_T32 l0 (ji15)).f3) ((rd_T32 l0 (ji15)).f4) _ _ ((rd_T32 l0 (ji15)).f5) _ _ ((rd_T32 l0 (ji15)).f6) ((rd_T32 l0 (ji15)).f7.f0) ((rd_T32 l0 (ji15)).f7.f1) ((rd_T32 l0 (ji15)).f8) t420 t421 t422 t423 t424 t425 t428 t431 t432 t433 _ ?side1 ?side2 ?side3 ?side4 A19.out).mono ?_); (case side1 => exact Kd.C_below HR419_5.out (by repeat (first | (with_reducible first | exact HB.out | apply below_alloc | apply pw_below_drewN | apply below_drew1 | refine below_set ?_ GE418.out) | exact HB.out))); (case side2 => exact HC419_5.out); (case side3 => exact Kd.C_below HR419_6.out (by repeat (first | (with_reducible first | exact HB.out | apply below_alloc | apply pw_below_drewN | apply below_drew1 | refine below_set ?_ GE418.out) | exact HB.out))); (case side4 => exact HC419_6.out); rintro e w46 ⟨v426, v429, rfl, ho0, ho1, hb⟩; refine ⟨_, rfl, ?_⟩; have n0_ := Aside0.mk (Kd.R_elder' (by (with_reducible repeat (first | apply Kd.R_alloc | apply Kd.R_drewN | apply Kd.R_drew)); exact (Kd.R_mono (Kd.R_far (p := ⟨gb418, 9, none⟩) (Kd.R_far (p := ⟨gb418, 8, none⟩) (Kd.R_far (p := ⟨gb418, 7, none⟩) (Kd.R_far (p := ⟨gb418, 6, none⟩) (Kd.R_far (p := ⟨gb418, 5, none⟩) (Kd.R_far (p := ⟨gb418, 4, none⟩) (Kd.R_far (p := ⟨gb418, 3, none⟩) (Kd.R_far (p := ⟨gb418, 2, none⟩) (Kd.R_far (p := ⟨gb418, 1, none⟩) (Kd.R_far (p := ⟨gb418, 0, none⟩) (Kd.R_types HO410.out BK418.out (by decide)) (fun _ hk => hk.2) (.int .i64 t403)) (fun _ hk => hk.2) (.int .i64 t404)) (fun _ hk => hk.2) (.int .i64 t405)) (fun _ hk => hk.2) (.int .i64 t406)) (fun _ hk => hk.2) (.int .i64 t407)) (fun _ hk => hk.2) (.slice Ao44 t408.length co44)) (fun _ hk => hk.2) (.slice Ao45 t411.length co45)) (fun _ hk => hk.2) (.int .i64 t414)) (fun _ hk => hk.2) (.int .i64 t415)) (fun _ hk => hk.2) (.int .i64 t416)) (fun _ h_ => h_.1))) (Kd.R_base ho0) hb); have n1_ := Aside0.mk (Kd.R_elder' (by (with_reducible repeat (first | apply Kd.R_alloc | apply Kd.R_drewN | apply Kd.R_drew)); exact (Kd.R_mono (Kd.R_far (p := ⟨gb418, 9, none⟩) (Kd.R_far (p := ⟨gb418, 8, none⟩) (Kd.R_far (p := ⟨gb418, 7, none⟩) (Kd.R_far (p := ⟨gb418, 6, none⟩) (Kd.R_far (p := ⟨gb418, 5, none⟩) (Kd.R_far (p := ⟨gb418, 4, none⟩) (Kd.R_far (p := ⟨gb418, 3, none⟩) (Kd.R_far (p := ⟨gb418, 2, none⟩) (Kd.R_far (p := ⟨gb418, 1, none⟩) (Kd.R_far (p := ⟨gb418, 0, none⟩) (Kd.R_types HO413.out BK418.out (by decide)) (fun _ hk => hk.2) (.int .i64 t403)) (fun _ hk => hk.2) (.int .i64 t404)) (fun _ hk => hk.2) (.int .i64 t405)) (fun _ hk => hk.2) (.int .i64 t406)) (fun _ hk => hk.2) (.int .i64 t407)) (fun _ hk => hk.2) (.slice Ao44 t408.length co44)) (fun _ hk => hk.2) (.slice Ao45 t411.length co45)) (fun _ hk => hk.2) (.int .i64 t414)) (fun _ hk => hk.2) (.int .i64 t415)) (fun _ hk => hk.2) (.int .i64 t416)) (fun _ h_ => h_.1))) (Kd.R_base ho1) hb); have n2_ := Aside0.mk (Kd.R_lower (Kd.R_new' ho0 (Kd.R_lt (by (with_reducible repeat (first | apply Kd.R_alloc | apply Kd.R_drewN | apply Kd.R_drew)); exact (Kd.R_mono (Kd.R_far (p := ⟨gb418, 9, none⟩) (Kd.R_far (p := ⟨gb418, 8, none⟩) (Kd.R_far (p := ⟨gb418, 7, none⟩) (Kd.R_far (p := ⟨gb418, 6, none⟩) (Kd.R_far (p := ⟨gb418, 5, none⟩) (Kd.R_far (p := ⟨gb418, 4, none⟩) (Kd.R_far (p := ⟨gb418, 3, none⟩) (Kd.R_far (p := ⟨gb418, 2, none⟩) (Kd.R_far (p := ⟨gb418, 1, none⟩) (Kd.R_far (p := ⟨gb418, 0, none⟩) (Kd.R_types HO410.out BK418.out (by decide)) (fun _ hk => hk.2) (.int .i64 t403)) (fun _ hk => hk.2) (.int .i64 t404)) (fun _ hk => hk.2) (.int .i64 t405)) (fun _ hk => hk.2) (.int .i64 t406)) (fun _ hk => hk.2) (.int .i64 t407)) (fun _ hk => hk.2) (.slice Ao44 t408.length co44)) (fun _ hk => hk.2) (.slice Ao45 t411.length co45)) (fun _ hk => hk.2) (.int .i64 t414)) (fun _ hk => hk.2) (.int .i64 t415)) (fun _ hk => hk.2) (.int .i64 t416)) (fun _ h_ => h_.1))))) (below_size (by repeat (first | (with_reducible first | exact HB.out | apply below_alloc | apply pw_below_drewN | apply below_drew1 | refine below_set ?_ GE418.out) | exact HB.out)))); have n3_ := Aside0.mk (Kd.R_lower (Kd.R_new' ho1 (Kd.R_lt (by (with_reducible repeat (first | apply Kd.R_alloc | apply Kd.R_drewN | apply Kd.R_drew)); exact (Kd.R_mono (Kd.R_far (p := ⟨gb418, 9, none⟩) (Kd.R_far (p := ⟨gb418, 8, none⟩) (Kd.R_far (p := ⟨gb418, 7, none⟩) (Kd.R_far (p := ⟨gb418, 6, none⟩) (Kd.R_far (p := ⟨gb418, 5, none⟩) (Kd.R_far (p := ⟨gb418, 4, none⟩) (Kd.R_far (p := ⟨gb418, 3, none⟩) (Kd.R_far (p := ⟨gb418, 2, none⟩) (Kd.R_far (p := ⟨gb418, 1, none⟩) (Kd.R_far (p := ⟨gb418, 0, none⟩) (Kd.R_types HO413.out BK418.out (by decide)) (fun _ hk => hk.2) (.int .i64 t403)) (fun _ hk => hk.2) (.int .i64 t404)) (fun _ hk => hk.2) (.int .i64 t405)) (fun _ hk => hk.2) (.int .i64 t406)) (fun _ hk => hk.2) (.int .i64 t407)) (fun _ hk => hk.2) (.slice Ao44 t408.length co44)) (fun _ hk => hk.2) (.slice Ao45 t411.length co45)) (fun _ hk => hk.2) (.int .i64 t414)) (fun _ hk => hk.2) (.int .i64 t415)) (fun _ hk => hk.2) (.int .i64 t416)) (fun _ h_ => h_.1))))) (below_size (by repeat (first | (with_reducible first | exact HB.out | apply below_alloc | apply pw_below_drewN | apply below_drew1 | refine below_set ?_ GE418.out) | exact HB.out)))); have n4_ := Aside0.mk (blk_below (g := gb418) (o := .cells #[.int .i64 t403, .int .i64 t404, .int .i64 t405, .int .i64 t406, .int .i64 t407, .slice Ao44 t408.length co44, .slice Ao45 t411.length co45, .int .i64 t414, .int .i64 t415, .int .i64 t416] 32 (0, 0)) (by (with_reducible repeat first|refine blk_drewN ?_ _|refine blk_drew ?_|refine blk_alloc ?_ _); refine blk_put (cs := #[.int .i64 t403, .int .i64 t404, .int .i64 t405, .int .i64 t406, .int .i64 t407, .slice Ao44 t408.length co44, .slice Ao45 t411.length co45, .int .i64 t414, .int .i64 t415, .int .i64 0]) ?_ 9 _ rfl; (with_reducible repeat first|refine blk_drewN ?_ _|refine blk_drew ?_|refine blk_alloc ?_ _); refine blk_put (cs := #[.int .i64 t403, .int .i64 t404, .int .i64 t405, .int .i64 t406, .int .i64 t407, .slice Ao44 t408.length co44, .slice Ao45 t411.length co45, .int .i64 t414, .int .i64 0, .int .i64 0]) ?_ 8 _ rfl; (with_reducible repeat first|refine blk_drewN ?_ _|refine blk_drew ?_|refine blk_alloc ?_ _); refine blk_put (cs := #[.int .i64 t403, .int .i64 t404, .int .i64 t405, .int .i64 t406, .int .i64 t407, .slice Ao44 t408.length co44, .slice Ao45 t411.length co45, .int .i64 0, .int .i64 0, .int .i64 0]) ?_ 7 _ rfl; (with_reducible repeat first|refine blk_drewN ?_ _|refine blk_drew ?_|refine blk_alloc ?_ _); refine blk_put (cs := #[.int .i64 t403, .int .i64 t404, .int .i64 t405, .int .i64 t406, .int .i64 t407, .slice Ao44 t408.length co44, .slice none 0 0, .int .i64 0, .int .i64 0, .int .i64 0]) ?_ 6 _ rfl; (with_reducible repeat first|refine blk_drewN ?_ _|refine blk_drew ?_|refine blk_alloc ?_ _); refine blk_put (cs := #[.int .i64 t403, .int .i64 t404, .int .i64 t405, .int .i64 t406, .int .i64 t407, .slice none 0 0, .slice none 0 0, .int .i64 0, .int .i64 0, .int .i64 0]) ?_ 5 _ rfl; (with_reducible repeat first|refine blk_drewN ?_ _|refine blk_drew ?_|refine blk_alloc ?_ _); refine blk_put (cs := #[.int .i64 t403, .int .i64 t404, .int .i64 t405, .int .i64 t406, .int .i64 0, .slice none 0 0, .slice none 0 0, .int .i64 0, .int .i64 0, .int .i64 0]) ?_ 4 _ rfl; (with_reducible repeat first|refine blk_drewN ?_ _|refine blk_drew ?_|refine blk_alloc ?_ _); refine blk_put (cs := #[.int .i64 t403, .int .i64 t404, .int .i64 t405, .int .i64 0, .int .i64 0, .slice none 0 0, .slice none 0 0, .int .i64 0, .int .i64 0, .int .i64 0]) ?_ 3 _ rfl; (with_reducible repeat first|refine blk_drewN ?_ _|refine blk_drew ?_|refine blk_alloc ?_ _); refine blk_put (cs := #[.int .i64 t403, .int .i64 t404, .int .i64 0, .int .i64 0, .int .i64 0, .slice none 0 0, .slice none 0 0, .int .i64 0, .int .i64 0, .int .i64 0]) ?_ 2 _ rfl; (with_reducible repeat first|refine blk_drewN ?_ _|refine blk_drew ?_|refine blk_alloc ?_ _); refine blk_put (cs := #[.int .i64 t403, .int .i64 0, .int .i64 0, .int .i64 0, .int .i64 0, .slice none 0 0, .slice none 0 0, .int .i64 0, .int .i64 0, .int .i64 0]) ?_ 1 _ rfl; (with_reducible repeat first|refine blk_drewN ?_ _|refine blk_drew ?_|refine blk_alloc ?_ _); refine blk_put (cs := #[.int .i64 0, .int .i64 0, .int .i64 0, .int .i64 0, .int .i64 0, .slice none 0 0, .slice none 0 0, .int .i64 0, .int .i64 0, .int .i64 0]) ?_ 0 _ rfl; (with_reducible repeat first|refine blk_drewN ?_ _|refine blk_drew ?_|refine blk_alloc ?_ _); exact BK418.out) hb); have n5_ := Aside0.mk (below_step (by repeat (first | (with_reducible first | exact HB.out | apply below_alloc | apply pw_below_drewN | apply below_drew1 | refine below_set ?_ GE418.out) | exact HB.out)) hb); clear HO410; clear HO413; clear BK418; clear HB; have HO410 := n0_; have HO413 := n1_; have HO427 := n2_; have HO430 := n3_; have BK418 := n4_; have HB := n5_; clear n0_ n1_ n2_ n3_ n4_ n5_; (try clear hb); (try clear hb2); (try clear hk); (try clear hi); (try clear ho0); (try clear ho1)) | ((with_reducible refine gate_dst (N := 8) rfl ?_); refine box_event ?hg (N := 8) ?hd (cs := #[.int .i64 0, .int .i64 0, .int .i64 0, .int .i64 0, .int .i64 0, .slice none 0 0, .slice none 0 0, .int .i64 0, .int .i64 0, .int .i64 0]) (t := 32) ?hr ?_; (case hd => rfl); (case hg => rfl); (case hr => first | (go_simp; done) | (go_simp; rfl)); intro gb434 hg w47 hbox hb; have n0_ := Aside0.mk (Kd.R_below (by (with_reducible repeat (first | apply Kd.R_alloc | apply Kd.R_drewN | apply Kd.R_drew)); exact HO410.out) hb); have n1_ := Aside0.mk (Kd.R_below (by (with_reducible repeat (first | apply Kd.R_alloc | apply Kd.R_drewN | apply Kd.R_drew)); exact HO413.out) hb); have n2_ := Aside0.mk (Kd.R_below (by (with_reducible repeat (first | apply Kd.R_alloc | apply Kd.R_drewN | apply Kd.R_drew)); exact HO427.out) hb); have n3_ := Aside0.mk (Kd.R_below (by (with_reducible repeat (first | apply Kd.R_alloc | apply Kd.R_drewN | apply Kd.R_drew)); exact HO430.out) hb); have n4_ := Aside0.mk (blk_below (g := gb418) (by (with_reducible repeat first|refine blk_drewN ?_ _|refine blk_drew ?_|refine blk_alloc ?_ _); exact BK418.out) hb); have n5_ := Aside0.mk (below_step (by repeat (first | (with_reducible first | exact HB.out | apply below_alloc | apply pw_below_drewN | apply below_drew1 | refine below_set ?_ GE418.out) | exact HB.out)) hb); have n6_ := Aside0.mk (hbox); have n7_ := Aside0.mk ((by rw [hg]; exact (below_size (by repeat (first | (with_reducible first | exact HB.out | apply below_alloc | apply pw_below_drewN | apply below_drew1 | refine below_set ?_ GE418.out) | exact HB.out))) : w.heap.size ≤ gb434)); have n8_ := n7_; have n9_ := Aside0.mk ((by rw [hg]; exact Nat.ne_of_lt (blk_lt (g := gb418) (by (with_reducible repeat first|refine blk_drewN ?_ _|refine blk_drew ?_|refine blk_alloc ?_ _); exact BK418.out)) : gb418 ≠ gb434)); have n10_ := Aside0.mk n9_.out.symm; clear HO410; clear HO413; clear HO427; clear HO430; clear BK418; clear HB; have HO410 := n0_; have HO413 := n1_; have HO427 := n2_; have HO430 := n3_; have BK418 := n4_; have HB := n5_; have BK434 := n6_; have GW434 := n7_; have GE434 := n8_; have NB418_434 := n9_; have NB434_418 := n10_; clear n0_ n1_ n2_ n3_ n4_ n5_ n6_ n7_ n8_ n9_ n10_; clear hb hbox hg; have hnb48 := NB434_418.out; have hnc48 := NB418_434.out; obtain ⟨hcz49_0, hcz49_1, hcz49_2, hcz49_3, hcz49_4, hcz49_5, hcz49_6, hcz49_7, hcz49_8, hcz49_9, hfz49_0, hfz49_1, hfz49_2, hfz49_3, hfz49_4, hfz49_5, hfz49_6, hfz49_7, hfz49_8, hfz49_9⟩ := cells10 BK434.out; obtain ⟨Ao50, co50, eo50⟩ := Kd.R_slice HO427.out; subst eo50; obtain ⟨Ao51, co51, eo51⟩ := Kd.R_slice HO430.out; subst eo51; obtain ⟨hcz52_0, hcz52_1, hcz52_2, hcz52_3, hcz52_4, hcz52_5, hcz52_6, hcz52_7, hcz52_8, hcz52_9, hfz52_0, hfz52_1, hfz52_2, hfz52_3, hfz52_4, hfz52_5, hfz52_6, hfz52_7, hfz52_8, hfz52_9⟩ := cells10 BK418.out) | (go_at_call 16; (with_reducible refine (skiarearef22_Same.calls kj4 t403 t404 t405 t406 t407 _ _ t408 _ _ t411 t414 t415 t416 t420 t421 t422 t423 t424 _ _ t425 _ _ t428 t431 t432 t433 true _ ?side1 ?side2 ?side3 ?side4 ?side5 ?side6 ?side7 ?side8 A21.out).mono ?_); (case side1 => refine (Kd.R_reads' (e := 3) (base := w.heap.size) (ok := fun k_ => (True ∧ some k_ ≠ (.slice Ao50 t425.length co50 : Value).ownBlock)) (n := t408.length) (c := co44) ?_).2.2; exact (by (with_reducible repeat (first | apply Kd.R_alloc | apply Kd.R_drewN | apply Kd.R_drew)); exact (Kd.R_mono (Kd.R_far (p := ⟨gb434, 9, none⟩) (Kd.R_far (p := ⟨gb434, 8, none⟩) (Kd.R_far (p := ⟨gb434, 7, none⟩) (Kd.R_far (p := ⟨gb434, 6, none⟩) (Kd.R_far (p := ⟨gb434, 5, none⟩) (Kd.R_far (p := ⟨gb434, 4, none⟩) (Kd.R_far (p := ⟨gb434, 3, none⟩) (Kd.R_far (p := ⟨gb434, 2, none⟩) (Kd.R_far (p := ⟨gb434, 1, none⟩) (Kd.R_far (p := ⟨gb434, 0, none⟩) (Kd.R_types HO410.out BK434.out (by decide)) (fun _ hk => hk.2) (.int .i64 t420)) (fun _ hk => hk.2) (.int .i64 t421)) (fun _ hk => hk.2) (.int .i64 t422)) (fun _ hk => hk.2) (.int .i64 t423)) (fun _ hk => hk.2) (.int .i64 t424)) (fun _ hk => hk.2) (.slice Ao50 t425.length co50)) (fun _ hk => hk.2) (.slice Ao51 t428.length co51)) (fun _ hk => hk.2) (.int .i64 t431)) (fun _ hk => hk.2) (.int .i64 t432)) (fun _ hk => hk.2) (.int .i64 t433)) (fun _ h_ => h_.1)))); (case side2 => exact (Kd.R_reads' HO410.out).2.1); (case side3 => refine (Kd.R_reads' (e := 52) (base := w.heap.size) (ok := fun k_ => (True ∧ some k_ ≠ (.slice Ao51 t428.length co51 : Value).ownBlock)) (n := t411.length) (c := co45) ?_).2.2; exact (by (with_reducible repeat (first | apply Kd.R_alloc | apply Kd.R_drewN | apply Kd.R_drew)); exact (Kd.R_mono (Kd.R_far (p := ⟨gb434, 9, none⟩) (Kd.R_far (p := ⟨gb434, 8, none⟩) (Kd.R_far (p := ⟨gb434, 7, none⟩) (Kd.R_far (p := ⟨gb434, 6, none⟩) (Kd.R_far (p := ⟨gb434, 5, none⟩) (Kd.R_far (p := ⟨gb434, 4, none⟩) (Kd.R_far (p := ⟨gb434, 3, none⟩) (Kd.R_far (p := ⟨gb434, 2, none⟩) (Kd.R_far (p := ⟨gb434, 1, none⟩) (Kd.R_far (p := ⟨gb434, 0, none⟩) (Kd.R_types HO413.out BK434.out (by decide)) (fun _ hk => hk.2) (.int .i64 t420)) (fun _ hk => hk.2) (.int .i64 t421)) (fun _ hk => hk.2) (.int .i64 t422)) (fun _ hk => hk.2) (.int .i64 t423)) (fun _ hk => hk.2) (.int .i64 t424)) (fun _ hk => hk.2) (.slice Ao50 t425.length co50)) (fun _ hk => hk.2) (.slice Ao51 t428.length co51)) (fun _ hk => hk.2) (.int .i64 t431)) (fun _ hk => hk.2) (.int .i64 t432)) (fun _ hk => hk.2) (.int .i64 t433)) (fun _ h_ => h_.1)))); (case side4 => exact (Kd.R_reads' HO413.out).2.1); (case side5 => refine (Kd.R_reads' (e := 3) (base := w.heap.size) (ok := fun k_ => (True ∧ some k_ ≠ (.slice Ao44 t408.length co44 : Value).ownBlock)) (n := t425.length) (c := co50) ?_).2.2; exact (by (with_reducible repeat (first | apply Kd.R_alloc | apply Kd.R_drewN | apply Kd.R_drew)); exact (Kd.R_mono (Kd.R_far (p := ⟨gb434, 9, none⟩) (Kd.R_far (p := ⟨gb434, 8, none⟩) (Kd.R_far (p := ⟨gb434, 7, none⟩) (Kd.R_far (p := ⟨gb434, 6, none⟩) (Kd.R_far (p := ⟨gb434, 5, none⟩) (Kd.R_far (p := ⟨gb434, 4, none⟩) (Kd.R_far (p := ⟨gb434, 3, none⟩) (Kd.R_far (p := ⟨gb434, 2, none⟩) (Kd.R_far (p := ⟨gb434, 1, none⟩) (Kd.R_far (p := ⟨gb434, 0, none⟩) (Kd.R_types HO427.out BK434.out (by decide)) (fun _ hk => hk.2) (.int .i64 t420)) (fun _ hk => hk.2) (.int .i64 t421)) (fun _ hk => hk.2) (.int .i64 t422)) (fun _ hk => hk.2) (.int .i64 t423)) (fun _ hk => hk.2) (.int .i64 t424)) (fun _ hk => hk.2) (.slice Ao50 t425.length co50)) (fun _ hk => hk.2) (.slice Ao51 t428.length co51)) (fun _ hk => hk.2) (.int .i64 t431)) (fun _ hk => hk.2) (.int .i64 t432)) (fun _ hk => hk.2) (.int .i64 t433)) (fun _ h_ => h_.1)))); (case side6 => exact (Kd.R_reads' HO427.out).2.1); (case side7 => refine (Kd.R_reads' (e := 52) (base := w.heap.size) (ok := fun k_ => (True ∧ some k_ ≠ (.slice Ao45 t411.length co45 : Value).ownBlock)) (n := t428.length) (c := co51) ?_).2.2; exact (by (with_reducible repeat (first | apply Kd.R_alloc | apply Kd.R_drewN | apply Kd.R_drew)); exact (Kd.R_mono (Kd.R_far (p := ⟨gb434, 9, none⟩) (Kd.R_far (p := ⟨gb434, 8, none⟩) (Kd.R_far (p := ⟨gb434, 7, none⟩) (Kd.R_far (p := ⟨gb434, 6, none⟩) (Kd.R_far (p := ⟨gb434, 5, none⟩) (Kd.R_far (p := ⟨gb434, 4, none⟩) (Kd.R_far (p := ⟨gb434, 3, none⟩) (Kd.R_far (p := ⟨gb434, 2, none⟩) (Kd.R_far (p := ⟨gb434, 1, none⟩) (Kd.R_far (p := ⟨gb434, 0, none⟩) (Kd.R_types HO430.out BK434.out (by decide)) (fun _ hk => hk.2) (.int .i64 t420)) (fun _ hk => hk.2) (.int .i64 t421)) (fun _ hk => hk.2) (.int .i64 t422)) (fun _ hk => hk.2) (.int .i64 t423)) (fun _ hk => hk.2) (.int .i64 t424)) (fun _ hk => hk.2) (.slice Ao50 t425.length co50)) (fun _ hk => hk.2) (.slice Ao51 t428.length co51)) (fun _ hk => hk.2) (.int .i64 t431)) (fun _ hk => hk.2) (.int .i64 t432)) (fun _ hk => hk.2) (.int .i64 t433)) (fun _ h_ => h_.1)))); (case side8 => exact (Kd.R_reads' HO430.out).2.1); rintro e w53 ⟨rfl, hb⟩; have n0_ := Aside0.mk (Kd.R_below (by (with_reducible repeat (first | apply Kd.R_alloc | apply Kd.R_drewN | apply Kd.R_drew)); exact (Kd.R_mono (Kd.R_far (p := ⟨gb434, 9, none⟩) (Kd.R_far (p := ⟨gb434, 8, none⟩) (Kd.R_far (p := ⟨gb434, 7, none⟩) (Kd.R_far (p := ⟨gb434, 6, none⟩) (Kd.R_far (p := ⟨gb434, 5, none⟩) (Kd.R_far (p := ⟨gb434, 4, none⟩) (Kd.R_far (p := ⟨gb434, 3, none⟩) (Kd.R_far (p := ⟨gb434, 2, none⟩) (Kd.R_far (p := ⟨gb434, 1, none⟩) (Kd.R_far (p := ⟨gb434, 0, none⟩) (Kd.R_types HO410.out BK434.out (by decide)) (fun _ hk => hk.2) (.int .i64 t420)) (fun _ hk => hk.2) (.int .i64 t421)) (fun _ hk => hk.2) (.int .i64 t422)) (fun _ hk => hk.2) (.int .i64 t423)) (fun _ hk => hk.2) (.int .i64 t424)) (fun _ hk => hk.2) (.slice Ao50 t425.length co50)) (fun _ hk => hk.2) (.slice Ao51 t428.length co51)) (fun _ hk => hk.2) (.int .i64 t431)) (fun _ hk => hk.2) (.int .i64 t432)) (fun _ hk => hk.2) (.int .i64 t433)) (fun _ h_ => h_.1))) hb); have n1_ := Aside0.mk (Kd.R_below (by (with_reducible repeat (first | apply Kd.R_alloc | apply Kd.R_drewN | apply Kd.R_drew)); exact (Kd.R_mono (Kd.R_far (p := ⟨gb434, 9, none⟩) (Kd.R_far (p := ⟨gb434, 8, none⟩) (Kd.R_far (p := ⟨gb434, 7, none⟩) (Kd.R_far (p := ⟨gb434, 6, none⟩) (Kd.R_far (p := ⟨gb434, 5, none⟩) (Kd.R_far (p := ⟨gb434, 4, none⟩) (Kd.R_far (p := ⟨gb434, 3, none⟩) (Kd.R_far (p := ⟨gb434, 2, none⟩) (Kd.R_far (p := ⟨gb434, 1, none⟩) (Kd.R_far (p := ⟨gb434, 0, none⟩) (Kd.R_types HO413.out BK434.out (by decide)) (fun _ hk => hk.2) (.int .i64 t420)) (fun _ hk => hk.2) (.int .i64 t421)) (fun _ hk => hk.2) (.int .i64 t422)) (fun _ hk => hk.2) (.int .i64 t423)) (fun _ hk => hk.2) (.int .i64 t424)) (fun _ hk => hk.2) (.slice Ao50 t425.length co50)) (fun _ hk => hk.2) (.slice Ao51 t428.length co51)) (fun _ hk => hk.2) (.int .i64 t431)) (fun _ hk => hk.2) (.int .i64 t432)) (fun _ hk => hk.2) (.int .i64 t433)) (fun _ h_ => h_.1))) hb); have n2_ := Aside0.mk (Kd.R_below (by (with_reducible repeat (first | apply Kd.R_alloc | apply Kd.R_drewN | apply Kd.R_drew)); exact (Kd.R_mono (Kd.R_far (p := ⟨gb434, 9, none⟩) (Kd.R_far (p := ⟨gb434, 8, none⟩) (Kd.R_far (p := ⟨gb434, 7, none⟩) (Kd.R_far (p := ⟨gb434, 6, none⟩) (Kd.R_far (p := ⟨gb434, 5, none⟩) (Kd.R_far (p := ⟨gb434, 4, none⟩) (Kd.R_far (p := ⟨gb434, 3, none⟩) (Kd.R_far (p := ⟨gb434, 2, none⟩) (Kd.R_far (p := ⟨gb434, 1, none⟩) (Kd.R_far (p := ⟨gb434, 0, none⟩) (Kd.R_types HO427.out BK434.out (by decide)) (fun _ hk => hk.2) (.int .i64 t420)) (fun _ hk => hk.2) (.int .i64 t421)) (fun _ hk => hk.2) (.int .i64 t422)) (fun _ hk => hk.2) (.int .i64 t423)) (fun _ hk => hk.2) (.int .i64 t424)) (fun _ hk => hk.2) (.slice Ao50 t425.length co50)) (fun _ hk => hk.2) (.slice Ao51 t428.length co51)) (fun _ hk => hk.2) (.int .i64 t431)) (fun _ hk => hk.2) (.int .i64 t432)) (fun _ hk => hk.2) (.int .i64 t433)) (fun _ h_ => h_.1))) hb); have n3_ := Aside0.mk (Kd.R_below (by (with_reducible repeat (first | apply Kd.R_alloc | apply Kd.R_drewN | apply Kd.R_drew)); exact (Kd.R_mono (Kd.R_far (p := ⟨gb434, 9, none⟩) (Kd.R_far (p := ⟨gb434, 8, none⟩) (Kd.R_far (p := ⟨gb434, 7, none⟩) (Kd.R_far (p := ⟨gb434, 6, none⟩) (Kd.R_far (p := ⟨gb434, 5, none⟩) (Kd.R_far (p := ⟨gb434, 4, none⟩) (Kd.R_far (p := ⟨gb434, 3, none⟩) (Kd.R_far (p := ⟨gb434, 2, none⟩) (Kd.R_far (p := ⟨gb434, 1, none⟩) (Kd.R_far (p := ⟨gb434, 0, none⟩) (Kd.R_types HO430.out BK434.out (by decide)) (fun _ hk => hk.2) (.int .i64 t420)) (fun _ hk => hk.2) (.int .i64 t421)) (fun _ hk => hk.2) (.int .i64 t422)) (fun _ hk => hk.2) (.int .i64 t423)) (fun _ hk => hk.2) (.int .i64 t424)) (fun _ hk => hk.2) (.slice Ao50 t425.length co50)) (fun _ hk => hk.2) (.slice Ao51 t428.length co51)) (fun _ hk => hk.2) (.int .i64 t431)) (fun _ hk => hk.2) (.int .i64 t432)) (fun _ hk => hk.2) (.int .i64 t433)) (fun _ h_ => h_.1))) hb); have n4_ := Aside0.mk (blk_below (g := gb418) (o := .cells #[.int .i64 t403, .int .i64 t404, .int .i64 t405, .int .i64 t406, .int .i64 t407, .slice Ao44 t408.length co44, .slice Ao45 t411.length co45, .int .i64 t414, .int .i64 t415, .int .i64 t416] 32 (0, 0)) (by (with_reducible repeat first|refine blk_drewN ?_ _|refine blk_drew ?_|refine blk_alloc ?_ _); refine blk_far ?_ NB418_434.out _; (with_reducible repeat first|refine blk_drewN ?_ _|refine blk_drew ?_|refine blk_alloc ?_ _); refine blk_far ?_ NB418_434.out _; (with_reducible repeat first|refine blk_drewN ?_ _|refine blk_drew ?_|refine blk_alloc ?_ _); refine blk_far ?_ NB418_434.out _; (with_reducible repeat first|refine blk_drewN ?_ _|refine blk_drew ?_|refine blk_alloc ?_ _); refine blk_far ?_ NB418_434.out _; (with_reducible repeat first|refine blk_drewN ?_ _|refine blk_drew ?_|refine blk_alloc ?_ _); refine blk_far ?_ NB418_434.out _; (with_reducible repeat first|refine blk_drewN ?_ _|refine blk_drew ?_|refine blk_alloc ?_ _); refine blk_far ?_ NB418_434.out _; (with_reducible repeat first|refine blk_drewN ?_ _|refine blk_drew ?_|refine blk_alloc ?_ _); refine blk_far ?_ NB418_434.out _; (with_reducible repeat first|refine blk_drewN ?_ _|refine blk_drew ?_|refine blk_alloc ?_ _); refine blk_far ?_ NB418_434.out _; (with_reducible repeat first|refine blk_drewN ?_ _|refine blk_drew ?_|refine blk_alloc ?_ _); refine blk_far ?_ NB418_434.out _; (with_reducible repeat first|refine blk_drewN ?_ _|refine blk_drew ?_|refine blk_alloc ?_ _); refine blk_far ?_ NB418_434.out _; (with_reducible repeat first|refine blk_drewN ?_ _|refine blk_drew ?_|refine blk_alloc ?_ _); exact BK418.out) hb); have n5_ := Aside0.mk (blk_below (g := gb434) (o := .cells #[.int .i64 t420, .int .i64 t421, .int .i64 t422, .int .i64 t423, .int .i64 t424, .slice Ao50 t425.length co50, .slice Ao51 t428.length co51, .int .i64 t431, .int .i64 t432, .int .i64 t433] 32 (0, 0)) (by (with_reducible repeat first|refine blk_drewN ?_ _|refine blk_drew ?_|refine blk_alloc ?_ _); refine blk_put (cs := #[.int .i64 t420, .int .i64 t421, .int .i64 t422, .int .i64 t423, .int .i64 t424, .slice Ao50 t425.length co50, .slice Ao51 t428.length co51, .int .i64 t431, .int .i64 t432, .int .i64 0]) ?_ 9 _ rfl; (with_reducible repeat first|refine blk_drewN ?_ _|refine blk_drew ?_|refine blk_alloc ?_ _); refine blk_put (cs := #[.int .i64 t420, .int .i64 t421, .int .i64 t422, .int .i64 t423, .int .i64 t424, .slice Ao50 t425.length co50, .slice Ao51 t428.length co51, .int .i64 t431, .int .i64 0, .int .i64 0]) ?_ 8 _ rfl; (with_reducible repeat first|refine blk_drewN ?_ _|refine blk_drew ?_|refine blk_alloc ?_ _); refine blk_put (cs := #[.int .i64 t420, .int .i64 t421, .int .i64 t422, .int .i64 t423, .int .i64 t424, .slice Ao50 t425.length co50, .slice Ao51 t428.length co51, .int .i64 0, .int .i64 0, .int .i64 0]) ?_ 7 _ rfl; (with_reducible repeat first|refine blk_drewN ?_ _|refine blk_drew ?_|refine blk_alloc ?_ _); refine blk_put (cs := #[.int .i64 t420, .int .i64 t421, .int .i64 t422, .int .i64 t423, .int .i64 t424, .slice Ao50 t425.length co50, .slice none 0 0, .int .i64 0, .int .i64 0, .int .i64 0]) ?_ 6 _ rfl; (with_reducible repeat first|refine blk_drewN ?_ _|refine blk_drew ?_|refine blk_alloc ?_ _); refine blk_put (cs := #[.int .i64 t420, .int .i64 t421, .int .i64 t422, .int .i64 t423, .int .i64 t424, .slice none 0 0, .slice none 0 0, .int .i64 0, .int .i64 0, .int .i64 0]) ?_ 5 _ rfl; (with_reducible repeat first|refine blk_drewN ?_ _|refine blk_drew ?_|refine blk_alloc ?_ _); refine blk_put (cs := #[.int .i64 t420, .int .i64 t421, .int .i64 t422, .int .i64 t423, .int .i64 0, .slice none 0 0, .slice none 0 0, .int .i64 0, .int .i64 0, .int .i64 0]) ?_ 4 _ rfl; (with_reducible repeat first|refine blk_drewN ?_ _|refine blk_drew ?_|refine blk_alloc ?_ _); refine blk_put (cs := #[.int .i64 t420, .int .i64 t421, .int .i64 t422, .int .i64 0, .int .i64 0, .slice none 0 0, .slice none 0 0, .int .i64 0, .int .i64 0, .int .i64 0]) ?_ 3 _ rfl; (with_reducible repeat first|refine blk_drewN ?_ _|refine blk_drew ?_|refine blk_alloc ?_ _); refine blk_put (cs := #[.int .i64 t420, .int .i64 t421, .int .i64 0, .int .i64 0, .int .i64 0, .slice none 0 0, .slice none 0 0, .int .i64 0, .int .i64 0, .int .i64 0]) ?_ 2 _ rfl; (with_reducible repeat first|refine blk_drewN ?_ _|refine blk_drew ?_|refine blk_alloc ?_ _); refine blk_put (cs := #[.int .i64 t420, .int .i64 0, .int .i64 0, .int .i64 0, .int .i64 0, .slice none 0 0, .slice none 0 0, .int .i64 0, .int .i64 0, .int .i64 0]) ?_ 1 _ rfl; (with_reducible repeat first|refine blk_drewN ?_ _|refine blk_drew ?_|refine blk_alloc ?_ _); refine blk_put (cs := #[.int .i64 0, .int .i64 0, .int .i64 0, .int .i64 0, .int .i64 0, .slice none 0 0, .slice none 0 0, .int .i64 0, .int .i64 0, .int .i64 0]) ?_ 0 _ rfl; (with_reducible repeat first|refine blk_drewN ?_ _|refine blk_drew ?_|refine blk_alloc ?_ _); exact BK434.out) hb); have n6_ := Aside0.mk (below_step (by repeat (first | (with_reducible first | exact HB.out | apply below_alloc | apply pw_below_drewN | apply below_drew1 | refine below_set ?_ GE418.out | refine below_set ?_ GE434.out) | exact HB.out)) hb); clear HO410; clear HO413; clear HO427; clear HO430; clear BK418; clear BK434; clear HB; have HO410 := n0_; have HO413 := n1_; have HO427 := n2_; have HO430 := n3_; have BK418 := n4_; have BK434 := n5_; have HB := n6_; clear n0_ n1_ n2_ n3_ n4_ n5_ n6_; (try clear hb); (try clear hb2); (try clear hk); (try clear hi); obtain ⟨hcz54_0, hcz54_1, hcz54_2, hcz54_3, hcz54_4, hcz54_5, hcz54_6, hcz54_7, hcz54_8, hcz54_9, hfz54_0, hfz54_1, hfz54_2, hfz54_3, hfz54_4, hfz54_5, hfz54_6, hfz54_7, hfz54_8, hfz54_9⟩ := cells10 BK418.out))
            have n0_ := Aside0.mk (Kd.R_drew HO410.out)
            have n1_ := Aside0.mk (Kd.R_drew HO413.out)
            have n2_ := Aside0.mk (Kd.R_drew HO427.out)
            have n3_ := Aside0.mk (Kd.R_drew HO430.out)
            have n4_ := Aside0.mk (blk_drew BK418.out)
            have n5_ := Aside0.mk (blk_drew BK434.out)
            have n6_ := Aside0.mk (below_drew1 HB.out)
            clear HO410
            clear HO413
            clear HO427
            clear HO430
            clear BK418
            clear BK434
            clear HB
            have HO410 := n0_
            have HO413 := n1_
            have HO427 := n2_
            have HO430 := n3_
            have BK418 := n4_
            have BK434 := n5_
            have HB := n6_
            clear n0_ n1_ n2_ n3_ n4_ n5_ n6_
            have p436 : 0 ≤ (0 : Int) := (by omega)
            have q436 : 0 < (t408.length : Int) := of_decide_eq_true (by first | (with_reducible assumption) | assumption)
            obtain ⟨ad436, e436, hx436_0⟩ := Kd.at_int (Kd.R_reads' HO410.out).2.2 0 p436 q436
            cases e436
            have qi436 : (0 < t408.length) = True := eq_true (by omega)
            (try rw [show ((0 : Int)).toNat = 0 from rfl] at hx436_0)
            (try rw [Addr.add_zero'] at hx436_0)
            replace p436 := eq_true p436
            replace q436 := eq_true q436
            have p39 : 0 ≤ (0 : Int) := (by omega)
            have q39 : (0 : Int) < ((t408.length : Int) : Int) := of_decide_eq_true (by first | (with_reducible assumption) | assumption)
            have qi39 : (0 < t408.length) = True := eq_true (by omega)
            obtain ⟨go39, co39, eo39, gb39, gl39, cl39, HG39⟩ := Kd.R_form HO410.out (by omega)
            (first | cases eo39 | (injection eo39 with ea_ en_ ec_; (first | subst ea_ | (injection ea_ with ea_; subst ea_)); subst ec_; clear en_))
            have GB39 := Aside0.mk gb39
            have GG39 := Aside0.mk HG39
            clear gb39 gl39 HG39
            (first | simp only [add_plain] at hx436_0 | skip)
            obtain ⟨hx39_0, hf39_0⟩ := Kd.R_celln 0 HO410.out (0 : Int) p39 q39
            (try rw [show ((0 : Int)).toNat = 0 from rfl] at hx39_0)
            (try simp only [Nat.reduceMul, Nat.zero_mul, Nat.zero_add, Nat.reduceAdd] at hx39_0)
            (try rw [show ((0 : Int)).toNat = 0 from rfl] at hf39_0)
            (try simp only [Nat.reduceMul, Nat.zero_mul, Nat.zero_add, Nat.reduceAdd] at hf39_0)
            replace p39 := eq_true p39
            replace q39 := eq_true q39
            have HP56 := Kd.R_putn HO410.out (0 : Int) (wrap64 ((rd t408 0) + 1))
            rw [← Ny437.out] at HP56
            have HQ56 := Aside0.mk HP56
            clear HP56
            refine start_ (n := 9) (S := fun w' => w'.cell? ⟨gb418, 0, none⟩ = some (.int .i64 t403) ∧ w'.cell? ⟨gb418, 1, none⟩ = some (.int .i64 t404) ∧ w'.cell? ⟨gb418, 2, none⟩ = some (.int .i64 t405) ∧ w'.cell? ⟨gb418, 3, none⟩ = some (.int .i64 t406) ∧ w'.cell? ⟨gb418, 4, none⟩ = some (.int .i64 t407) ∧ w'.cell? ⟨gb418, 5, none⟩ = some (.slice (some ⟨go39, 0, none⟩) t408.length co44) ∧ w'.cell? ⟨gb418, 6, none⟩ = some (.slice Ao45 t411.length co45) ∧ w'.cell? ⟨gb418, 7, none⟩ = some (.int .i64 t414) ∧ w'.cell? ⟨gb418, 8, none⟩ = some (.int .i64 t415) ∧ w'.cell? ⟨gb418, 9, none⟩ = some (.int .i64 t416) ∧ w'.cell? ⟨go39, 0, none⟩ = some (.int .i64 (rd t408 0))) (ds := [8]) #[false, false, false, false, false, false, false, false, false] (by kernel_rfl) rfl rfl ⟨(blk_cell BK418.out 0).trans rfl, (blk_cell BK418.out 1).trans rfl, (blk_cell BK418.out 2).trans rfl, (blk_cell BK418.out 3).trans rfl, (blk_cell BK418.out 4).trans rfl, (blk_cell BK418.out 5).trans rfl, (blk_cell BK418.out 6).trans rfl, (blk_cell BK418.out 7).trans rfl, (blk_cell BK418.out 8).trans rfl, (blk_cell BK418.out 9).trans rfl, hx436_0⟩ (fun hHeld => ?_); refine with_tabW skiarealaw22_ProductOwn.tab10 skiarealaw22_ProductOwn.bits10 (fun HT_ HW_ => ?_)
            generalize w53.drew = w55 at HO410 HO413 HO427 HO430 BK418 BK434 HB GG39 HQ56 hf39_0 hx39_0 hx436_0 hHeld ⊢
            refine pure_ (i := 0) (N := some 58) (v := ?_) (a' := ?_) #[true, false, false, false, false, false, false, false, false] rfl rfl (any_of HT_.out (by kernel_rfl)) (fun _ _ _ h => h) (Or.inl ⟨by rfl, ?_⟩) ?_ ?_
            rotate_left
            ·intro w'
             go_simp
             with_reducible rfl
            rotate_left
            ·simp only [Act.put, List.setIfInBounds_toArray, List.set_cons_zero, List.set_cons_succ, i64_w, i32_w]
             rfl
            refine pure_ (i := 2) (N := some 60) (v := ?_) (a' := ?_) #[true, false, true, false, false, false, false, false, false] rfl rfl (any_of HT_.out (by kernel_rfl)) (fun _ _ _ h => h) (Or.inl ⟨by rfl, ?_⟩) ?_ ?_
            rotate_left
            ·intro w'
             go_simp
             with_reducible rfl
            rotate_left
            ·simp only [Act.put, List.setIfInBounds_toArray, List.set_cons_zero, List.set_cons_succ, i64_w, i32_w]
             rfl
            refine take_ (i := 1) (N := some 59) (v := ?_) (a' := ?_) #[true, true, true, false, false, false, false, false, false] rfl rfl (take_ofW HT_.out HW_.out (by kernel_rfl)) (fun _ _ _ h => h) (Or.inl ⟨by rfl, ?_⟩) hHeld ?_ ?_
            rotate_left
            ·rintro w' ⟨s0, s1, s2, s3, s4, s5, s6, s7, s8, s9, s10⟩
             go_simp
             with_reducible rfl
            rotate_left
            ·simp only [Act.put, List.setIfInBounds_toArray, List.set_cons_zero, List.set_cons_succ, i64_w, i32_w]
             rfl
            refine take_ (i := 3) (N := some 61) (v := ?_) (a' := ?_) #[true, true, true, true, false, false, false, false, false] rfl rfl (take_ofW HT_.out HW_.out (by kernel_rfl)) (fun _ _ _ h => h) (Or.inl ⟨by rfl, ?_⟩) hHeld ?_ ?_
            rotate_left
            ·rintro w' ⟨s0, s1, s2, s3, s4, s5, s6, s7, s8, s9, s10⟩
             go_simp
             with_reducible rfl
            rotate_left
            ·simp only [Act.put, List.setIfInBounds_toArray, List.set_cons_zero, List.set_cons_succ, i64_w, i32_w]
             rfl
            refine pure_ (i := 4) (N := some 62) (v := ?_) (a' := ?_) #[true, true, true, true, true, false, false, false, false] rfl rfl (any_of HT_.out (by kernel_rfl)) (fun _ _ _ h => h) (Or.inl ⟨by rfl, ?_⟩) ?_ ?_
            rotate_left
            ·intro w'
             go_simp
             with_reducible rfl
            rotate_left
            ·simp only [Act.put, List.setIfInBounds_toArray, List.set_cons_zero, List.set_cons_succ, i64_w, i32_w]
             rfl
            refine take_ (i := 5) (N := some 63) (v := ?_) (a' := ?_) #[true, true, true, true, true, true, false, false, false] rfl rfl (take_ofW HT_.out HW_.out (by kernel_rfl)) (fun _ _ _ h => h) (Or.inl ⟨by rfl, ?_⟩) hHeld ?_ ?_
            rotate_left
            ·rintro w' ⟨s0, s1, s2, s3, s4, s5, s6, s7, s8, s9, s10⟩
             go_simp
             with_reducible rfl
            rotate_left
            ·simp only [Act.put, List.setIfInBounds_toArray, List.set_cons_zero, List.set_cons_succ, i64_w, i32_w]
             rfl
            refine pure_ (i := 6) (N := some 64) (v := ?_) (a' := ?_) #[true, true, true, true, true, true, true, false, false] rfl rfl (any_of HT_.out (by kernel_rfl)) (fun _ _ _ h => h) (Or.inl ⟨by rfl, ?_⟩) ?_ ?_
            rotate_left
            ·intro w'
             go_simp
             with_reducible rfl
            rotate_left
            ·simp only [Act.put, List.setIfInBounds_toArray, List.set_cons_zero, List.set_cons_succ, i64_w, i32_w]
             rfl
            refine pure_ (i := 7) (N := some 65) (v := ?_) (a' := ?_) #[true, true, true, true, true, true, true, true, false] rfl rfl (any_of HT_.out (by kernel_rfl)) (fun _ _ _ h => h) (Or.inl ⟨by rfl, ?_⟩) ?_ ?_
            rotate_left
            ·intro w'
             go_simp
             with_reducible rfl
            rotate_left
            ·simp only [Act.put, List.setIfInBounds_toArray, List.set_cons_zero, List.set_cons_succ, i64_w, i32_w]
             rfl
            refine last_ (i := 8) (N := none) #[true, true, true, true, true, true, true, true, true] rfl rfl (one_of HT_.out (by kernel_rfl)) (by decide) (fun K hK => ?_)
            refine skip_ (w1 := ?_) (by rfl) rfl ?_ ?_
            rotate_left
            ·go_simp
             rfl
            refine hK.out _ _ ?_
            clear hK K
            refine done_ (done_of HT_.out (by kernel_rfl)) ?_
            try go_wp2
            have n0_ : Aside0 (Kd.R (Kd.int .i64) 3 (w55.setCell ⟨go39, 0, none⟩ (.int .i64 (wrap64 ((rd t408 0) + 1)))) w.heap.size (fun k_ => some k_ ≠ (.slice Ao50 t425.length co50 : Value).ownBlock) (.slice (some ⟨go39, 0, none⟩) t408.length co44) y437) := ⟨by (with_reducible repeat (first | apply Kd.R_alloc | apply Kd.R_drewN | apply Kd.R_drew)); exact Kd.R_mono HQ56.out (fun _ hk => hk.2)⟩
            have n1_ : Aside0 (Kd.R k52 52 (w55.setCell ⟨go39, 0, none⟩ (.int .i64 (wrap64 ((rd t408 0) + 1)))) w.heap.size (fun k_ => some k_ ≠ (.slice Ao51 t428.length co51 : Value).ownBlock) (.slice Ao45 t411.length co45) t411) := ⟨by (with_reducible repeat (first | apply Kd.R_alloc | apply Kd.R_drewN | apply Kd.R_drew)); exact Kd.R_mono (Kd.R_far (p := ⟨go39, 0, none⟩) (Kd.R_types HO413.out GG39.out (by decide)) (fun _ hk => hk.2) (.int .i64 (wrap64 ((rd t408 0) + 1)))) (fun _ hk => hk.1.2)⟩
            have n2_ : Aside0 (Kd.R (Kd.int .i64) 3 (w55.setCell ⟨go39, 0, none⟩ (.int .i64 (wrap64 ((rd t408 0) + 1)))) w.heap.size (fun k_ => some k_ ≠ (.slice (some ⟨go39, 0, none⟩) t408.length co44 : Value).ownBlock) (.slice Ao50 t425.length co50) t425) := ⟨by (with_reducible repeat (first | apply Kd.R_alloc | apply Kd.R_drewN | apply Kd.R_drew)); exact Kd.R_mono (Kd.R_far (p := ⟨go39, 0, none⟩) (Kd.R_mono HO427.out (fun k_ hk => (⟨hk, fun e_ => hk.2 (by rw [e_]; rfl)⟩ : _ ∧ k_ ≠ go39))) (fun _ hk => hk.2) (.int .i64 (wrap64 ((rd t408 0) + 1)))) (fun _ hk => hk.1.2)⟩
            have n3_ : Aside0 (Kd.R k52 52 (w55.setCell ⟨go39, 0, none⟩ (.int .i64 (wrap64 ((rd t408 0) + 1)))) w.heap.size (fun k_ => some k_ ≠ (.slice Ao45 t411.length co45 : Value).ownBlock) (.slice Ao51 t428.length co51) t428) := ⟨by (with_reducible repeat (first | apply Kd.R_alloc | apply Kd.R_drewN | apply Kd.R_drew)); exact Kd.R_mono (Kd.R_far (p := ⟨go39, 0, none⟩) (Kd.R_types HO430.out GG39.out (by decide)) (fun _ hk => hk.2) (.int .i64 (wrap64 ((rd t408 0) + 1)))) (fun _ hk => hk.1.2)⟩
            have n4_ : Aside0 ((w55.setCell ⟨go39, 0, none⟩ (.int .i64 (wrap64 ((rd t408 0) + 1)))).heap[gb418]? = some (.cells #[.int .i64 t403, .int .i64 t404, .int .i64 t405, .int .i64 t406, .int .i64 t407, .slice (some ⟨go39, 0, none⟩) t408.length co44, .slice Ao45 t411.length co45, .int .i64 t414, .int .i64 t415, .int .i64 t416] 32 (0, 0))) := ⟨by (with_reducible repeat first|refine blk_drewN ?_ _|refine blk_drew ?_|refine blk_alloc ?_ _); refine blk_far ?_ (by have h_ := Kd.R_ne HO410.out BK418.out (by decide); intro e_; exact h_ (by rw [e_]; rfl)) _; (with_reducible repeat first|refine blk_drewN ?_ _|refine blk_drew ?_|refine blk_alloc ?_ _); exact BK418.out⟩
            have n5_ : Aside0 ((w55.setCell ⟨go39, 0, none⟩ (.int .i64 (wrap64 ((rd t408 0) + 1)))).heap[gb434]? = some (.cells #[.int .i64 t420, .int .i64 t421, .int .i64 t422, .int .i64 t423, .int .i64 t424, .slice Ao50 t425.length co50, .slice Ao51 t428.length co51, .int .i64 t431, .int .i64 t432, .int .i64 t433] 32 (0, 0))) := ⟨by (with_reducible repeat first|refine blk_drewN ?_ _|refine blk_drew ?_|refine blk_alloc ?_ _); refine blk_far ?_ (by have h_ := Kd.R_ne HO410.out BK434.out (by decide); intro e_; exact h_ (by rw [e_]; rfl)) _; (with_reducible repeat first|refine blk_drewN ?_ _|refine blk_drew ?_|refine blk_alloc ?_ _); exact BK434.out⟩
            have n6_ : Aside0 (Below w.heap.size w (w55.setCell ⟨go39, 0, none⟩ (.int .i64 (wrap64 ((rd t408 0) + 1))))) := ⟨by repeat (first | (with_reducible first | exact HB.out | apply below_alloc | apply pw_below_drewN | apply below_drew1 | refine below_set ?_ GB39.out | refine below_set ?_ GE418.out | refine below_set ?_ GE434.out) | exact HB.out)⟩
            (try clear HO410)
            (try clear HO413)
            (try clear HO427)
            (try clear HO430)
            (try clear BK418)
            (try clear BK434)
            (try clear HB)
            generalize (w55.setCell ⟨go39, 0, none⟩ (.int .i64 (wrap64 ((rd t408 0) + 1)))) = w57 at n0_ n1_ n2_ n3_ n4_ n5_ n6_ ⊢
            have HO410 := n0_
            have HO413 := n1_
            have HO427 := n2_
            have HO430 := n3_
            have BK418 := n4_
            have BK434 := n5_
            have HB := n6_
            clear n0_ n1_ n2_ n3_ n4_ n5_ n6_
            have n0_ := Aside0.mk (Kd.R_drew HO410.out)
            have n1_ := Aside0.mk (Kd.R_drew HO413.out)
            have n2_ := Aside0.mk (Kd.R_drew HO427.out)
            have n3_ := Aside0.mk (Kd.R_drew HO430.out)
            have n4_ := Aside0.mk (blk_drew BK418.out)
            have n5_ := Aside0.mk (blk_drew BK434.out)
            have n6_ := Aside0.mk (below_drew1 HB.out)
            clear HO410
            clear HO413
            clear HO427
            clear HO430
            clear BK418
            clear BK434
            clear HB
            have HO410 := n0_
            have HO413 := n1_
            have HO427 := n2_
            have HO430 := n3_
            have BK418 := n4_
            have BK434 := n5_
            have HB := n6_
            clear n0_ n1_ n2_ n3_ n4_ n5_ n6_
            have p438 : 0 ≤ ((ji15) : Int) := of_decide_eq_true (by first | (with_reducible assumption) | assumption)
            have q438 : (ji15) < (l0.length : Int) := of_decide_eq_true (by first | (with_reducible assumption) | assumption)
            obtain ⟨ad438, A438_5, c438_5, A438_6, c438_6, e438, hx438_0, hx438_1, hx438_2, hx438_3, hx438_4, hx438_5, hx438_6, hx438_7, hx438_8, hx438_9, hl438_5, hi438_5, hl438_6, hi438_6⟩ := at_T32 HR0.out (ji15) p438 q438
            have hw438_9 := hx438_9
            have hw438_8 := hx438_8
            have hw438_7 := hx438_7
            have hw438_6 := hx438_6
            have hw438_5 := hx438_5
            have hw438_4 := hx438_4
            have hw438_3 := hx438_3
            have hw438_2 := hx438_2
            have hw438_1 := hx438_1
            have hw438_0 := hx438_0
            obtain rfl : ad402 = ad438 := (by injection e438)
            replace hx438_0 := (HB.out.cell (World.block_lt_of_cell? w _ hx438_0)).trans hx438_0
            replace hx438_1 := (HB.out.cell (World.block_lt_of_cell? w _ hx438_1)).trans hx438_1
            replace hx438_2 := (HB.out.cell (World.block_lt_of_cell? w _ hx438_2)).trans hx438_2
            replace hx438_3 := (HB.out.cell (World.block_lt_of_cell? w _ hx438_3)).trans hx438_3
            replace hx438_4 := (HB.out.cell (World.block_lt_of_cell? w _ hx438_4)).trans hx438_4
            replace hx438_5 := (HB.out.cell (World.block_lt_of_cell? w _ hx438_5)).trans hx438_5
            replace hx438_6 := (HB.out.cell (World.block_lt_of_cell? w _ hx438_6)).trans hx438_6
            replace hx438_7 := (HB.out.cell (World.block_lt_of_cell? w _ hx438_7)).trans hx438_7
            replace hx438_8 := (HB.out.cell (World.block_lt_of_cell? w _ hx438_8)).trans hx438_8
            replace hx438_9 := (HB.out.cell (World.block_lt_of_cell? w _ hx438_9)).trans hx438_9
            have HR438_5 := Aside0.mk hi438_5
            have HC438_5 := Aside0.mk hl438_5
            clear hi438_5 hl438_5
            have HR438_6 := Aside0.mk hi438_6
            have HC438_6 := Aside0.mk hl438_6
            clear hi438_6 hl438_6
            replace p438 := eq_true p438
            replace q438 := eq_true q438
            refine start_ (n := 7) (S := fun w' => w'.cell? ⟨gb434, 0, none⟩ = some (.int .i64 t420) ∧ w'.cell? ⟨gb434, 1, none⟩ = some (.int .i64 t421) ∧ w'.cell? ⟨gb434, 2, none⟩ = some (.int .i64 t422) ∧ w'.cell? ⟨gb434, 3, none⟩ = some (.int .i64 t423) ∧ w'.cell? ⟨gb434, 4, none⟩ = some (.int .i64 t424) ∧ w'.cell? ⟨gb434, 5, none⟩ = some (.slice Ao50 t425.length co50) ∧ w'.cell? ⟨gb434, 6, none⟩ = some (.slice Ao51 t428.length co51) ∧ w'.cell? ⟨gb434, 7, none⟩ = some (.int .i64 t431) ∧ w'.cell? ⟨gb434, 8, none⟩ = some (.int .i64 t432) ∧ w'.cell? ⟨gb434, 9, none⟩ = some (.int .i64 t433) ∧ w'.cell? (ad402.add (((ji15)).toNat * 10)) = some (.int .i64 ((rd_T32 l0 (ji15)).f0)) ∧ w'.cell? ⟨(ad402.add (((ji15)).toNat * 10)).block, (ad402.add (((ji15)).toNat * 10)).off + 1, none⟩ = some (.int .i64 ((rd_T32 l0 (ji15)).f1)) ∧ w'.cell? ⟨(ad402.add (((ji15)).toNat * 10)).block, (ad402.add (((ji15)).toNat * 10)).off + 2, none⟩ = some (.int .i64 ((rd_T32 l0 (ji15)).f2)) ∧ w'.cell? ⟨(ad402.add (((ji15)).toNat * 10)).block, (ad402.add (((ji15)).toNat * 10)).off + 3, none⟩ = some (.int .i64 ((rd_T32 l0 (ji15)).f3)) ∧ w'.cell? ⟨(ad402.add (((ji15)).toNat * 10)).block, (ad402.add (((ji15)).toNat * 10)).off + 4, none⟩ = some (.int .i64 ((rd_T32 l0 (ji15)).f4)) ∧ w'.cell? ⟨(ad402.add (((ji15)).toNat * 10)).block, (ad402.add (((ji15)).toNat * 10)).off + 5, none⟩ = some (.slice A438_5 ((rd_T32 l0 (ji15)).f5).length c438_5) ∧ w'.cell? ⟨(ad402.add (((ji15)).toNat * 10)).block, (ad402.add (((ji15)).toNat * 10)).off + 6, none⟩ = some (.slice A438_6 ((rd_T32 l0 (ji15)).f6).length c438_6) ∧ w'.cell? ⟨(ad402.add (((ji15)).toNat * 10)).block, (ad402.add (((ji15)).toNat * 10)).off + 7, none⟩ = some (.int .i64 ((rd_T32 l0 (ji15)).f7.f0)) ∧ w'.cell? ⟨(ad402.add (((ji15)).toNat * 10)).block, (ad402.add (((ji15)).toNat * 10)).off + 8, none⟩ = some (.int .i64 ((rd_T32 l0 (ji15)).f7.f1)) ∧ w'.cell? ⟨(ad402.add (((ji15)).toNat * 10)).block, (ad402.add (((ji15)).toNat * 10)).off + 9, none⟩ = some (.int .i64 ((rd_T32 l0 (ji15)).f8))) (ds := []) #[false, false, false, false, false, false, false] (by kernel_rfl) rfl rfl ⟨(blk_cell BK434.out 0).trans rfl, (blk_cell BK434.out 1).trans rfl, (blk_cell BK434.out 2).trans rfl, (blk_cell BK434.out 3).trans rfl, (blk_cell BK434.out 4).trans rfl, (blk_cell BK434.out 5).trans rfl, (blk_cell BK434.out 6).trans rfl, (blk_cell BK434.out 7).trans rfl, (blk_cell BK434.out 8).trans rfl, (blk_cell BK434.out 9).trans rfl, ((HB.out.cell (World.block_lt_of_cell? w _ hw438_0)).trans hw438_0), ((HB.out.cell (World.block_lt_of_cell? w _ hw438_1)).trans hw438_1), ((HB.out.cell (World.block_lt_of_cell? w _ hw438_2)).trans hw438_2), ((HB.out.cell (World.block_lt_of_cell? w _ hw438_3)).trans hw438_3), ((HB.out.cell (World.block_lt_of_cell? w _ hw438_4)).trans hw438_4), ((HB.out.cell (World.block_lt_of_cell? w _ hw438_5)).trans hw438_5), ((HB.out.cell (World.block_lt_of_cell? w _ hw438_6)).trans hw438_6), ((HB.out.cell (World.block_lt_of_cell? w _ hw438_7)).trans hw438_7), ((HB.out.cell (World.block_lt_of_cell? w _ hw438_8)).trans hw438_8), ((HB.out.cell (World.block_lt_of_cell? w _ hw438_9)).trans hw438_9)⟩ (fun hHeld => ?_)
            generalize w57.drew = w58 at HO410 HO413 HO427 HO430 BK418 BK434 HB HQ56 HR438_5 HR438_6 hx438_0 hx438_1 hx438_2 hx438_3 hx438_4 hx438_5 hx438_6 hx438_7 hx438_8 hx438_9 hHeld ⊢
            refine pure_ (i := 0) (N := some 66) (v := ?_) (a' := ?_) #[true, false, false, false, false, false, false] rfl rfl (by kernel_rfl) (fun _ _ _ h => h) (Or.inl ⟨by rfl, ?_⟩) ?_ ?_
            rotate_left
            ·intro w'
             go_simp
             with_reducible rfl
            rotate_left
            ·simp only [Act.put, List.setIfInBounds_toArray, List.set_cons_zero, List.set_cons_succ, i64_w, i32_w]
             rfl
            refine pure_ (i := 1) (N := some 67) (v := ?_) (a' := ?_) #[true, true, false, false, false, false, false] rfl rfl (by kernel_rfl) (fun _ _ _ h => h) (Or.inl ⟨by rfl, ?_⟩) ?_ ?_
            rotate_left
            ·intro w'
             go_simp
             with_reducible rfl
            rotate_left
            ·simp only [Act.put, List.setIfInBounds_toArray, List.set_cons_zero, List.set_cons_succ, i64_w, i32_w]
             rfl
            refine pure_ (i := 2) (N := some 68) (v := ?_) (a' := ?_) #[true, true, true, false, false, false, false] rfl rfl (by kernel_rfl) (fun _ _ _ h => h) (Or.inl ⟨by rfl, ?_⟩) ?_ ?_
            rotate_left
            ·intro w'
             go_simp
             with_reducible rfl
            rotate_left
            ·simp only [Act.put, List.setIfInBounds_toArray, List.set_cons_zero, List.set_cons_succ, i64_w, i32_w]
             rfl
            refine take_ (i := 3) (N := some 69) (v := ?_) (a' := ?_) #[true, true, true, true, false, false, false] rfl rfl (by kernel_rfl) (fun _ _ _ h => h) (Or.inl ⟨by rfl, ?_⟩) hHeld ?_ ?_
            rotate_left
            ·rintro w' ⟨s0, s1, s2, s3, s4, s5, s6, s7, s8, s9, s10, s11, s12, s13, s14, s15, s16, s17, s18, s19⟩
             go_simp
             with_reducible rfl
            rotate_left
            ·simp only [Act.put, List.setIfInBounds_toArray, List.set_cons_zero, List.set_cons_succ, i64_w, i32_w]
             rfl
            refine take_ (i := 4) (N := some 70) (v := ?_) (a' := ?_) #[true, true, true, true, true, false, false] rfl rfl (by kernel_rfl) (fun _ _ _ h => h) (Or.inl ⟨by rfl, ?_⟩) hHeld ?_ ?_
            rotate_left
            ·rintro w' ⟨s0, s1, s2, s3, s4, s5, s6, s7, s8, s9, s10, s11, s12, s13, s14, s15, s16, s17, s18, s19⟩
             go_simp
             with_reducible rfl
            rotate_left
            ·simp only [Act.put, List.setIfInBounds_toArray, List.set_cons_zero, List.set_cons_succ, i64_w, i32_w]
             rfl
            refine one_ (i := 5) (N := some 71) #[true, true, true, true, true, true, false] rfl rfl (by kernel_rfl) (by decide) (fun K hK => ?_)
            refine goes_ Try.func16 (by kernel_rfl) rfl #[.agg #[.int .i64 ((rd_T32 l0 (ji15)).f0), .int .i64 ((rd_T32 l0 (ji15)).f1), .int .i64 ((rd_T32 l0 (ji15)).f2), .int .i64 ((rd_T32 l0 (ji15)).f3), .int .i64 ((rd_T32 l0 (ji15)).f4), .slice A438_5 ((rd_T32 l0 (ji15)).f5).length c438_5, .slice A438_6 ((rd_T32 l0 (ji15)).f6).length c438_6, .int .i64 ((rd_T32 l0 (ji15)).f7.f0), .int .i64 ((rd_T32 l0 (ji15)).f7.f1), .int .i64 ((rd_T32 l0 (ji15)).f8)], .agg #[.int .i64 t420, .int .i64 t421, .int .i64 t422, .int .i64 t423, .int .i64 t424, .slice Ao50 t425.length co50, .slice Ao51 t428.length co51, .int .i64 t431, .int .i64 t432, .int .i64 t433]] (by rfl) rfl rfl (by (try simp only [List.map_toArray, List.map_cons, List.map_nil]); first | done | (simp only [hji15]; rfl) | rfl | (simp only [List.length_drop, List.length_take]; rfl)) ?_
            with_reducible refine (skiarearef22_Same.calls kj4 ((rd_T32 l0 (ji15)).f0) ((rd_T32 l0 (ji15)).f1) ((rd_T32 l0 (ji15)).f2) ((rd_T32 l0 (ji15)).f3) ((rd_T32 l0 (ji15)).f4) _ _ ((rd_T32 l0 (ji15)).f5) _ _ ((rd_T32 l0 (ji15)).f6) ((rd_T32 l0 (ji15)).f7.f0) ((rd_T32 l0 (ji15)).f7.f1) ((rd_T32 l0 (ji15)).f8) t420 t421 t422 t423 t424 _ _ t425 _ _ t428 t431 t432 t433 t439 _ ?side1 ?side2 ?side3 ?side4 ?side5 ?side6 ?side7 ?side8 A40.out).mono ?_
            (case side1 => repeat (first | exact (Kd.C_below HR438_5.out HB.out) | (with_reducible refine Kd.C_alloc ?_ _) | (with_reducible refine Kd.C_drewN ?_ _) | (with_reducible refine Kd.C_drew ?_)))
            (case side2 => exact HC438_5.out)
            (case side3 => repeat (first | exact (Kd.C_below HR438_6.out HB.out) | (with_reducible refine Kd.C_alloc ?_ _) | (with_reducible refine Kd.C_drewN ?_ _) | (with_reducible refine Kd.C_drew ?_)))
            (case side4 => exact HC438_6.out)
            (case side5 => repeat (first | exact (Kd.R_reads' HO427.out).2.2 | (with_reducible refine Kd.C_alloc ?_ _) | (with_reducible refine Kd.C_drewN ?_ _) | (with_reducible refine Kd.C_drew ?_)))
            (case side6 => exact (Kd.R_reads' HO427.out).2.1)
            (case side7 => repeat (first | exact (Kd.R_reads' HO430.out).2.2 | (with_reducible refine Kd.C_alloc ?_ _) | (with_reducible refine Kd.C_drewN ?_ _) | (with_reducible refine Kd.C_drew ?_)))
            (case side8 => exact (Kd.R_reads' HO430.out).2.1)
            rintro e w59 ⟨rfl, hb⟩
            refine ⟨_, rfl, ?_⟩
            have n0_ := Aside0.mk (Kd.R_below (by (with_reducible repeat (first | apply Kd.R_alloc | apply Kd.R_drewN | apply Kd.R_drew)); exact HO410.out) hb)
            have n1_ := Aside0.mk (Kd.R_below (by (with_reducible repeat (first | apply Kd.R_alloc | apply Kd.R_drewN | apply Kd.R_drew)); exact HO413.out) hb)
            have n2_ := Aside0.mk (Kd.R_below (by (with_reducible repeat (first | apply Kd.R_alloc | apply Kd.R_drewN | apply Kd.R_drew)); exact HO427.out) hb)
            have n3_ := Aside0.mk (Kd.R_below (by (with_reducible repeat (first | apply Kd.R_alloc | apply Kd.R_drewN | apply Kd.R_drew)); exact HO430.out) hb)
            have n4_ := Aside0.mk (blk_below (g := gb418) (by (with_reducible repeat first|refine blk_drewN ?_ _|refine blk_drew ?_|refine blk_alloc ?_ _); exact BK418.out) hb)
            have n5_ := Aside0.mk (blk_below (g := gb434) (by (with_reducible repeat first|refine blk_drewN ?_ _|refine blk_drew ?_|refine blk_alloc ?_ _); exact BK434.out) hb)
            have n6_ := Aside0.mk (below_step (by repeat (first | (with_reducible first | exact HB.out | apply below_alloc | apply pw_below_drewN | apply below_drew1 | refine below_set ?_ GE418.out | refine below_set ?_ GE434.out) | exact HB.out)) hb)
            clear HO410
            clear HO413
            clear HO427
            clear HO430
            clear BK418
            clear BK434
            clear HB
            have HO410 := n0_
            have HO413 := n1_
            have HO427 := n2_
            have HO430 := n3_
            have BK418 := n4_
            have BK434 := n5_
            have HB := n6_
            clear n0_ n1_ n2_ n3_ n4_ n5_ n6_
            (try clear hb)
            (try clear hb2)
            (try clear hk)
            (try clear hi)
            refine hK.out _ _ ⟨(blk_cell BK434.out 0).trans rfl, (blk_cell BK434.out 1).trans rfl, (blk_cell BK434.out 2).trans rfl, (blk_cell BK434.out 3).trans rfl, (blk_cell BK434.out 4).trans rfl, (blk_cell BK434.out 5).trans rfl, (blk_cell BK434.out 6).trans rfl, (blk_cell BK434.out 7).trans rfl, (blk_cell BK434.out 8).trans rfl, (blk_cell BK434.out 9).trans rfl, ((HB.out.cell (World.block_lt_of_cell? w _ hw438_0)).trans hw438_0), ((HB.out.cell (World.block_lt_of_cell? w _ hw438_1)).trans hw438_1), ((HB.out.cell (World.block_lt_of_cell? w _ hw438_2)).trans hw438_2), ((HB.out.cell (World.block_lt_of_cell? w _ hw438_3)).trans hw438_3), ((HB.out.cell (World.block_lt_of_cell? w _ hw438_4)).trans hw438_4), ((HB.out.cell (World.block_lt_of_cell? w _ hw438_5)).trans hw438_5), ((HB.out.cell (World.block_lt_of_cell? w _ hw438_6)).trans hw438_6), ((HB.out.cell (World.block_lt_of_cell? w _ hw438_7)).trans hw438_7), ((HB.out.cell (World.block_lt_of_cell? w _ hw438_8)).trans hw438_8), ((HB.out.cell (World.block_lt_of_cell? w _ hw438_9)).trans hw438_9)⟩ (fun hHeld => ?_)
            clear hK K
            refine norm_ (a' := ?_) ?_ ?_
            rotate_left
            ·show Act.put _ (some 71) _ = _
             simp only [Act.put, List.setIfInBounds_toArray, List.set_cons_zero, List.set_cons_succ, i64_w, i32_w]
             rfl
            refine pure_ (i := 6) (N := some 4) (v := ?_) (a' := ?_) #[true, true, true, true, true, true, true] rfl rfl (by kernel_rfl) (fun _ _ _ h => h) (Or.inl ⟨by rfl, ?_⟩) ?_ ?_
            rotate_left
            ·intro w'
             go_simp
             with_reducible rfl
            rotate_left
            ·simp only [Act.put, List.setIfInBounds_toArray, List.set_cons_zero, List.set_cons_succ, i64_w, i32_w]
             rfl
            refine done_ (by kernel_rfl) ?_
            try go_wp2
            go_ret
            exact ⟨by first | rfl | (simp [errW_none, errW_some] <;> rfl) | (simp only [← hji15]; first | rfl | (simp [errW_none, errW_some] <;> rfl)) | (simp [*, errW_none, errW_some] <;> rfl), by repeat (first | (with_reducible first | exact HB.out | apply below_alloc | apply pw_below_drewN | apply below_drew1 | refine below_set ?_ GE418.out | refine below_set ?_ GE434.out) | exact HB.out)⟩
           ·rw [if_neg c38] at H
            exact absurd H (by simp)
         ·replace c22 := Bool.eq_false_iff.mpr c22
          subst c22
          have H1 : none = some r := by rw [if_neg (show ¬ (false = true) by decide)] at H; exact H
          clear H
          have H := H1
          clear H1
          cases H
        ·replace c20 := Bool.eq_false_iff.mpr c20
         subst c20
         have H1 : none = some r := by rw [if_neg (show ¬ (false = true) by decide)] at H; exact H
         clear H
         have H := H1
         clear H1
         cases H
       ·rw [if_neg c17] at H
        exact absurd H (by simp)
      ·rw [if_neg c16] at H
       exact absurd H (by simp)
 ·replace c4 := Bool.eq_false_iff.mpr c4
  subst c4
  have H1 : none = some r := by rw [if_neg (show ¬ (false = true) by decide)] at H; exact H
  clear H
  have H := H1
  clear H1
  cases H
end Go.Proofs.Ytpojelbablofpaa.P
