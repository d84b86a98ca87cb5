-- Written by wip/fakeprint.py and wip/post.py of this claim's author, who used the kit's printer (print.py) on turned inputs.
import Derived.Test.YtpojelbablofpaaK
import Derived.Test.YtpojelbablofpaaF27
import Derived.Test.YtpojelbablofpaaF27
import Derived.Test.YtpojelbablofpaaF14
import Derived.Test.YtpojelbablofpaaF12
import Derived.Test.YtpojelbablofpaaF16
import Derived.Test.YtpojelbablofpaaF21
import Derived.Test.YtpojelbablofpaaF17
import Derived.Test.YtpojelbablofpaaF19
import Derived.Test.YtpojelbablofpaaF23
namespace Go.Proofs.Ytpojelbablofpaa.P
open Go.RowKit Go.Proofs.YtpojelbablofpaaW.PrintWords Go.Proofs.YtpojelbablofpaaW.PrintLast Go.Proofs.YtpojelbablofpaaW.PrintMore
attribute [local go_sem] max2_int min2_int max_two min_two max_three min_three max_four min_four   -- for this text's walks alone
attribute [local go_sem] max2_int min2_int max_two min_two
set_option linter.unusedVariables false
set_option linter.unusedSimpArgs false

/-! ### skiarealaw22_alive: function 10 -/
def skiarealaw22_alive.f  : Option (Bool) := (skiarealaw22_two.f).bind fun t113 => (some true)
def aliveK.f (k : Nat)  : Option (Bool) := (skiarealaw22_two.f).bind fun t140 => ((skiarealaw22_two.f).bind fun t143 => ((skiarealaw22_two.f).bind fun t146 => (if 0 < (t143.length : Int) then (if 0 < (t146.length : Int) then ((product_Find.f k t140 5).bind fun bt154 => (some true)) else (none)) else (none))))
theorem aliveK.mono : ∀ k, LeO (aliveK.f k ) (aliveK.f (k + 1) ) := by
 intro  k
 unfold aliveK.f
 repeat' first
   | (with_reducible exact product_Find.mono _ _ _)
   | (with_reducible exact LeO.refl _)
   | (with_reducible exact LeO.none _)
   | (with_reducible refine LeO.ite ?_ ?_)
   | (with_reducible refine LeO.bind ?_ (fun _ => ?_))
   | exact product_Find.mono _ _ _
   | exact LeO.none _
   | refine LeO.ite ?_ ?_
   | refine LeO.bind ?_ (fun _ => ?_)
def bs82 (m : Nat) : Array Bool := ((List.range 82).map fun i => m.testBit i).toArray
/-- A block whose cells are the elements' reads as the list. -/
theorem C_of_blk {α : Type} {d : Kd α} {w : World} {g t : Nat} {xs : List α} {inner : List Value} (h : w.heap[g]? = some (.cells inner.toArray t (0, 0))) (hr : Reps (d.K w) d.sz xs inner) (hl : xs.length ≤ 1000000) : Kd.C d w (some ⟨g, 0, none⟩) xs.length xs := by
 refine ⟨rfl, by omega, fun _ => ⟨_, rfl, fun j p hj => ⟨_, d.K_len (hr.2 j p hj), hr.2 j p hj, fun i u hu => ?_⟩⟩⟩
 rw [Addr.add_lit, Nat.zero_add, blk_cell h]
 rw [List.getElem?_take] at hu
 split at hu
 ·rw [List.getElem?_drop] at hu
  simpa using hu
 ·cases hu
def twoL : List S32 := [⟨3, 1, 3, 16, 64, [1, 4], [], ⟨0, 9000000⟩, 0⟩, ⟨5, 2, 10, 0, 120, [1], [⟨3, 28800, 61200⟩], ⟨0, 9000000⟩, 0⟩]
def noneL : List S32 := [⟨3, 1, 3, 16, 64, [], [], ⟨0, 9000000⟩, 0⟩, ⟨5, 2, 10, 0, 120, [1], [⟨3, 28800, 61200⟩], ⟨0, 9000000⟩, 0⟩]
def turnL : List S32 := [⟨3, 1, 3, 16, 64, [4, 1], [], ⟨0, 9000000⟩, 0⟩, ⟨5, 2, 10, 0, 120, [1], [⟨3, 28800, 61200⟩], ⟨0, 9000000⟩, 0⟩]
theorem two_val : skiarealaw22_two.f = some twoL := rfl
theorem find_val : product_Find.f 40 twoL 5 = some (5, 2, 10, 0, 120, [1], [⟨3, 28800, 61200⟩], 0, 9000000, 0, true) := by kernel_rfl
theorem right_v1 : product_Right.f 40 twoL = some 0 := by kernel_rfl
theorem right_v2 : product_Right.f 40 noneL = some 1 := by kernel_rfl
theorem right_v3 : product_Right.f 40 turnL = some 1 := by kernel_rfl
theorem for_v1 : product_For.f 40 twoL 20 [1] = some [3, 5] := by kernel_rfl
theorem for_v2 : product_For.f 40 twoL 20 [4, 1] = some [3] := by kernel_rfl
theorem for_v3 : product_For.f 40 twoL 10 [1] = some [5] := by kernel_rfl
theorem si_v1 : skiarearef22_SameInts.f 40 [3, 5] [3, 5] = some true := by kernel_rfl
theorem si_v2 : skiarearef22_SameInts.f 40 [3] [3] = some true := by kernel_rfl
theorem si_v3 : skiarearef22_SameInts.f 40 [5] [5] = some true := by kernel_rfl
theorem same_v : skiarearef22_Same.f 40 5 2 10 0 120 [1] [⟨3, 28800, 61200⟩] 0 9000000 0 5 2 10 0 120 [1] [⟨3, 28800, 61200⟩] 0 9000000 0 = some true := by kernel_rfl
theorem open_v1 : product_Open.f 40 5 2 10 0 120 [1] [⟨3, 28800, 61200⟩] 0 9000000 0 28800 = some true := by kernel_rfl
theorem open_v2 : product_Open.f 40 5 2 10 0 120 [1] [⟨3, 28800, 61200⟩] 0 9000000 0 61199 = some true := by kernel_rfl
theorem open_v3 : product_Open.f 40 5 2 10 0 120 [1] [⟨3, 28800, 61200⟩] 0 9000000 0 61200 = some false := by kernel_rfl
theorem open_v4 : product_Open.f 40 5 2 10 0 120 [1] [⟨3, 28800, 61200⟩] 0 9000000 0 201600 = some false := by kernel_rfl
theorem open_v5 : product_Open.f 40 3 1 3 16 64 [1, 4] [] 0 9000000 0 5 = some true := by kernel_rfl
theorem age_v : product_Age.f 3 1 3 16 64 [1, 4] [] 0 9000000 0 64 = some true := by kernel_rfl
theorem area_v : product_Area.f 40 3 1 3 16 64 [1, 4] [] 0 9000000 0 2 = some false := by kernel_rfl
theorem alive_k_val : aliveK.f 40 = some true := by kernel_rfl
set_option maxHeartbeats 8000000 in
set_option maxRecDepth 100000 in
theorem alive_k (k : Nat) (hk40 : k = 40) (r : Bool) (w : World) (h : aliveK.f k  = some r) :
  Calls Try.prog 10 #[] w fun e w' => e = .returned (.bool r) ∧ Below w.heap.size w w' := by
 have hu32 := Try.underlying32
 have HB := Aside0.mk (Below.refl w.heap.size w)
 have H : ((skiarealaw22_two.f).bind fun t140 => ((skiarealaw22_two.f).bind fun t143 => ((skiarealaw22_two.f).bind fun t146 => (if 0 < (t143.length : Int) then (if 0 < (t146.length : Int) then ((product_Find.f k t140 5).bind fun bt154 => (some true)) else (none)) else (none))))) = some r := h
 clear h
 replace H := Option.bind_eq_some_iff.mp H
 obtain ⟨t140, A10, H⟩ := H
 replace H : ((skiarealaw22_two.f).bind fun t143 => ((skiarealaw22_two.f).bind fun t146 => (if 0 < (t143.length : Int) then (if 0 < (t146.length : Int) then ((product_Find.f k t140 5).bind fun bt154 => (some true)) else (none)) else (none)))) = some r := H
 have A1 := Aside0.mk A10
 clear A10
 replace H := Option.bind_eq_some_iff.mp H
 obtain ⟨t143, A20, H⟩ := H
 replace H : ((skiarealaw22_two.f).bind fun t146 => (if 0 < (t143.length : Int) then (if 0 < (t146.length : Int) then ((product_Find.f k t140 5).bind fun bt154 => (some true)) else (none)) else (none))) = some r := H
 have A2 := Aside0.mk A20
 clear A20
 replace H := Option.bind_eq_some_iff.mp H
 obtain ⟨t146, A30, H⟩ := H
 replace H : (if 0 < (t143.length : Int) then (if 0 < (t146.length : Int) then ((product_Find.f k t140 5).bind fun bt154 => (some true)) else (none)) else (none)) = some r := H
 have A3 := Aside0.mk A30
 clear A30
 by_cases c4 : 0 < (t143.length : Int)
 ·rw [if_pos c4] at H
  have c4b0 : decide (0 < (t143.length : Int)) = true := decide_eq_true c4
  have c4b1 : decide (0 < t143.length) = true := decide_eq_true (by omega)
  clear c4
  obtain ⟨y149, hy149⟩ : ∃ y_ : List (S32), y_ = (t143.set (0 : Int).toNat (⟨(rd_T32 t143 0).f0, (rd_T32 t143 0).f1, (rd_T32 t143 0).f2, (rd_T32 t143 0).f3, (rd_T32 t143 0).f4, ([] : List Int), (rd_T32 t143 0).f6, (⟨(rd_T32 t143 0).f7.f0, (rd_T32 t143 0).f7.f1⟩ : S30), (rd_T32 t143 0).f8⟩ : S32)) := ⟨_, rfl⟩
  replace H : (if 0 < (t146.length : Int) then ((product_Find.f k t140 5).bind fun bt154 => (some true)) else (none)) = some r := by first | (rw [hy149]; with_reducible exact H) | (have H2_ := (Option.bind_some _ _).symm.trans H; rw [hy149]; with_reducible exact H2_) | (have H2_ := (Option.bind_some _ _).symm.trans H; with_reducible exact H2_) | with_reducible exact H | (rw [hy149]; exact H) | exact H
  have Ny149 := Aside0.mk hy149
  clear hy149
  obtain ⟨y150, hy150⟩ : ∃ y_ : List Int, y_ = (([4, 1] : List Int)) := ⟨_, rfl⟩
  replace H : (if 0 < (t146.length : Int) then ((product_Find.f k t140 5).bind fun bt154 => (some true)) else (none)) = some r := by first | (rw [hy150]; with_reducible exact H) | (have H2_ := (Option.bind_some _ _).symm.trans H; rw [hy150]; with_reducible exact H2_) | (have H2_ := (Option.bind_some _ _).symm.trans H; with_reducible exact H2_) | with_reducible exact H | (rw [hy150]; exact H) | exact H
  have Ny150 := Aside0.mk hy150
  clear hy150
  by_cases c6 : 0 < (t146.length : Int)
  ·rw [if_pos c6] at H
   have c6b0 : decide (0 < (t146.length : Int)) = true := decide_eq_true c6
   have c6b1 : decide (0 < t146.length) = true := decide_eq_true (by omega)
   clear c6
   obtain ⟨y153, hy153⟩ : ∃ y_ : List (S32), y_ = (t146.set (0 : Int).toNat (⟨(rd_T32 t146 0).f0, (rd_T32 t146 0).f1, (rd_T32 t146 0).f2, (rd_T32 t146 0).f3, (rd_T32 t146 0).f4, y150, (rd_T32 t146 0).f6, (⟨(rd_T32 t146 0).f7.f0, (rd_T32 t146 0).f7.f1⟩ : S30), (rd_T32 t146 0).f8⟩ : S32)) := ⟨_, rfl⟩
   replace H : ((product_Find.f k t140 5).bind fun bt154 => (some true)) = some r := by first | (rw [hy153]; with_reducible exact H) | (have H2_ := (Option.bind_some _ _).symm.trans H; rw [hy153]; with_reducible exact H2_) | (have H2_ := (Option.bind_some _ _).symm.trans H; with_reducible exact H2_) | with_reducible exact H | (rw [hy153]; exact H) | exact H
   have Ny153 := Aside0.mk hy153
   clear hy153
   replace H := Option.bind_eq_some_iff.mp H
   obtain ⟨⟨t154, t155, t156, t157, t158, t159, t162, t165, t166, t167, t168⟩, A80, H⟩ := H
   replace H : (some true) = some r := H
   have A8 := Aside0.mk A80
   clear A80
   obtain rfl := Option.some.inj H
   go_enter Try.func10, Try.ntmps10
   go_wp2_with (first | ((with_reducible refine gate_callee (f := 27) rfl ?_); refine goesL_ (some 6) rfl rfl Try.func27 (by kernel_rfl) rfl #[] rfl (by (try simp only [List.map_toArray, List.map_cons, List.map_nil]); first | done | rfl | (simp only [List.length_drop, List.length_take]; rfl)) ?_; (with_reducible refine (skiarealaw22_two.calls  t140 _ A1.out).mono ?_); rintro e w9 ⟨v141, rfl, ho0, hb⟩; refine ⟨_, rfl, ?_⟩; have n0_ := Aside0.mk (Kd.N_lower (Kd.N_mono (ok' := fun k_ => True) ho0 (fun k_ hk_ => trivial)) (below_size (by repeat (first | (with_reducible first | exact HB.out | apply below_alloc | apply pw_below_drewN | apply below_drew1) | exact HB.out)))); have n1_ := Aside0.mk (below_step (by repeat (first | (with_reducible first | exact HB.out | apply below_alloc | apply pw_below_drewN | apply below_drew1) | exact HB.out)) hb); clear HB; have HO142 := n0_; have HB := n1_; clear n0_ n1_; (try clear hb); (try clear hb2); (try clear hk); (try clear hi); (try clear ho0)) | ((with_reducible refine gate_callee (f := 27) rfl ?_); refine goesL_ (some 7) rfl rfl Try.func27 (by kernel_rfl) rfl #[] rfl (by (try simp only [List.map_toArray, List.map_cons, List.map_nil]); first | done | rfl | (simp only [List.length_drop, List.length_take]; rfl)) ?_; (with_reducible refine (skiarealaw22_two.calls  t143 _ A2.out).mono ?_); rintro e w10 ⟨v144, rfl, ho0, hb⟩; refine ⟨_, rfl, ?_⟩; have n0_ := Aside0.mk (Kd.N_elder' (by (with_reducible repeat (first | apply Kd.N_alloc | apply Kd.N_drewN | apply Kd.N_drew)); exact HO142.out) (Kd.N_base ho0) hb); have n1_ := Aside0.mk (Kd.N_lower (Kd.N_mono (ok' := fun k_ => some k_ ≠ (v141 : Value).ownBlock) ho0 (fun k_ hk_ => (Kd.fresh' (Kd.N_lt (by (with_reducible repeat (first | apply Kd.N_alloc | apply Kd.N_drewN | apply Kd.N_drew)); exact HO142.out)) k_ hk_))) (below_size (by repeat (first | (with_reducible first | exact HB.out | apply below_alloc | apply pw_below_drewN | apply below_drew1) | exact HB.out)))); have n2_ := Aside0.mk (below_step (by repeat (first | (with_reducible first | exact HB.out | apply below_alloc | apply pw_below_drewN | apply below_drew1) | exact HB.out)) hb); clear HO142; clear HB; have HO142 := n0_; have HO145 := n1_; have HB := n2_; clear n0_ n1_ n2_; (try clear hb); (try clear hb2); (try clear hk); (try clear hi); (try clear ho0)) | ((with_reducible refine gate_callee (f := 27) rfl ?_); refine goesL_ (some 8) rfl rfl Try.func27 (by kernel_rfl) rfl #[] rfl (by (try simp only [List.map_toArray, List.map_cons, List.map_nil]); first | done | rfl | (simp only [List.length_drop, List.length_take]; rfl)) ?_; (with_reducible refine (skiarealaw22_two.calls  t146 _ A3.out).mono ?_); rintro e w11 ⟨v147, rfl, ho0, hb⟩; refine ⟨_, rfl, ?_⟩; have n0_ := Aside0.mk (Kd.N_elder' (by (with_reducible repeat (first | apply Kd.N_alloc | apply Kd.N_drewN | apply Kd.N_drew)); exact HO142.out) (Kd.N_base ho0) hb); have n1_ := Aside0.mk (Kd.N_elder' (by (with_reducible repeat (first | apply Kd.N_alloc | apply Kd.N_drewN | apply Kd.N_drew)); exact HO145.out) (Kd.N_base ho0) hb); have n2_ := Aside0.mk (Kd.N_lower (Kd.N_mono (ok' := fun k_ => some k_ ≠ (v141 : Value).ownBlock ∧ some k_ ≠ (v144 : Value).ownBlock) ho0 (fun k_ hk_ => ⟨(Kd.fresh' (Kd.N_lt (by (with_reducible repeat (first | apply Kd.N_alloc | apply Kd.N_drewN | apply Kd.N_drew)); exact HO142.out)) k_ hk_), (Kd.fresh' (Kd.N_lt (by (with_reducible repeat (first | apply Kd.N_alloc | apply Kd.N_drewN | apply Kd.N_drew)); exact HO145.out)) k_ hk_)⟩)) (below_size (by repeat (first | (with_reducible first | exact HB.out | apply below_alloc | apply pw_below_drewN | apply below_drew1) | exact HB.out)))); have n3_ := Aside0.mk (below_step (by repeat (first | (with_reducible first | exact HB.out | apply below_alloc | apply pw_below_drewN | apply below_drew1) | exact HB.out)) hb); clear HO142; clear HO145; clear HB; have HO142 := n0_; have HO145 := n1_; have HO148 := n2_; have HB := n3_; clear n0_ n1_ n2_ n3_; (try clear hb); (try clear hb2); (try clear hk); (try clear hi); (try clear ho0); have p5 : 0 ≤ (0 : Int) := (by omega); have q5 : (0 : Int) < ((t143.length : Int) : Int) := of_decide_eq_true (by first | (with_reducible assumption) | assumption); have qi5 : (0 < t143.length) = True := eq_true (by omega); obtain ⟨go5, co5, eo5, gb5, gl5, cl5, HG5⟩ := Kd.N_form HO145.out (by omega); (first | cases eo5 | (injection eo5 with ea_ en_ ec_; (first | subst ea_ | (injection ea_ with ea_; subst ea_)); subst ec_; clear en_)); have GB5 := Aside0.mk gb5; have GG5 := Aside0.mk HG5; clear gb5 gl5 HG5; obtain ⟨ce5, hcl5, hM5, hcc5, hfr5⟩ := Kd.N_elem HO145.out z32 (0 : Int) p5 q5; obtain ⟨ua5_5, uc5_5, ua5_6, uc5_6, rfl, ul5_5, ge5_5, ul5_6, ge5_6⟩ := k32_openF hM5; have hx5_0 : w11.cell? ⟨go5, (0 : Int).toNat * 10, none⟩ = some (.int .i64 ((rd_T32 t143 0).f0)) := hcc5 0 _ rfl; have hx5_1 : w11.cell? ⟨go5, (0 : Int).toNat * 10 + 1, none⟩ = some (.int .i64 ((rd_T32 t143 0).f1)) := hcc5 1 _ rfl; have hx5_2 : w11.cell? ⟨go5, (0 : Int).toNat * 10 + 2, none⟩ = some (.int .i64 ((rd_T32 t143 0).f2)) := hcc5 2 _ rfl; have hx5_3 : w11.cell? ⟨go5, (0 : Int).toNat * 10 + 3, none⟩ = some (.int .i64 ((rd_T32 t143 0).f3)) := hcc5 3 _ rfl; have hx5_4 : w11.cell? ⟨go5, (0 : Int).toNat * 10 + 4, none⟩ = some (.int .i64 ((rd_T32 t143 0).f4)) := hcc5 4 _ rfl; have hx5_5 : w11.cell? ⟨go5, (0 : Int).toNat * 10 + 5, none⟩ = some (.slice ua5_5 ((rd_T32 t143 0).f5).length uc5_5) := hcc5 5 _ rfl; have hx5_6 : w11.cell? ⟨go5, (0 : Int).toNat * 10 + 6, none⟩ = some (.slice ua5_6 ((rd_T32 t143 0).f6).length uc5_6) := hcc5 6 _ rfl; have hx5_7 : w11.cell? ⟨go5, (0 : Int).toNat * 10 + 7, none⟩ = some (.int .i64 ((rd_T32 t143 0).f7.f0)) := hcc5 7 _ rfl; have hx5_8 : w11.cell? ⟨go5, (0 : Int).toNat * 10 + 8, none⟩ = some (.int .i64 ((rd_T32 t143 0).f7.f1)) := hcc5 8 _ rfl; have hx5_9 : w11.cell? ⟨go5, (0 : Int).toNat * 10 + 9, none⟩ = some (.int .i64 ((rd_T32 t143 0).f8)) := hcc5 9 _ rfl; have hf5_0 : w11.frozen? ⟨go5, (0 : Int).toNat * 10, none⟩ = false := hfr5 0; have hf5_1 : w11.frozen? ⟨go5, (0 : Int).toNat * 10 + 1, none⟩ = false := hfr5 1; have hf5_2 : w11.frozen? ⟨go5, (0 : Int).toNat * 10 + 2, none⟩ = false := hfr5 2; have hf5_3 : w11.frozen? ⟨go5, (0 : Int).toNat * 10 + 3, none⟩ = false := hfr5 3; have hf5_4 : w11.frozen? ⟨go5, (0 : Int).toNat * 10 + 4, none⟩ = false := hfr5 4; have hf5_5 : w11.frozen? ⟨go5, (0 : Int).toNat * 10 + 5, none⟩ = false := hfr5 5; have hf5_6 : w11.frozen? ⟨go5, (0 : Int).toNat * 10 + 6, none⟩ = false := hfr5 6; have hf5_7 : w11.frozen? ⟨go5, (0 : Int).toNat * 10 + 7, none⟩ = false := hfr5 7; have hf5_8 : w11.frozen? ⟨go5, (0 : Int).toNat * 10 + 8, none⟩ = false := hfr5 8; have hf5_9 : w11.frozen? ⟨go5, (0 : Int).toNat * 10 + 9, none⟩ = false := hfr5 9; clear hcl5 hcc5 hfr5 hM5; (try rw [show ((0 : Int)).toNat = 0 from rfl] at hx5_0); (try simp only [Nat.reduceMul, Nat.zero_mul, Nat.zero_add, Nat.reduceAdd] at hx5_0); (try rw [show ((0 : Int)).toNat = 0 from rfl] at hf5_0); (try simp only [Nat.reduceMul, Nat.zero_mul, Nat.zero_add, Nat.reduceAdd] at hf5_0); (try rw [show ((0 : Int)).toNat = 0 from rfl] at hx5_1); (try simp only [Nat.reduceMul, Nat.zero_mul, Nat.zero_add, Nat.reduceAdd] at hx5_1); (try rw [show ((0 : Int)).toNat = 0 from rfl] at hf5_1); (try simp only [Nat.reduceMul, Nat.zero_mul, Nat.zero_add, Nat.reduceAdd] at hf5_1); (try rw [show ((0 : Int)).toNat = 0 from rfl] at hx5_2); (try simp only [Nat.reduceMul, Nat.zero_mul, Nat.zero_add, Nat.reduceAdd] at hx5_2); (try rw [show ((0 : Int)).toNat = 0 from rfl] at hf5_2); (try simp only [Nat.reduceMul, Nat.zero_mul, Nat.zero_add, Nat.reduceAdd] at hf5_2); (try rw [show ((0 : Int)).toNat = 0 from rfl] at hx5_3); (try simp only [Nat.reduceMul, Nat.zero_mul, Nat.zero_add, Nat.reduceAdd] at hx5_3); (try rw [show ((0 : Int)).toNat = 0 from rfl] at hf5_3); (try simp only [Nat.reduceMul, Nat.zero_mul, Nat.zero_add, Nat.reduceAdd] at hf5_3); (try rw [show ((0 : Int)).toNat = 0 from rfl] at hx5_4); (try simp only [Nat.reduceMul, Nat.zero_mul, Nat.zero_add, Nat.reduceAdd] at hx5_4); (try rw [show ((0 : Int)).toNat = 0 from rfl] at hf5_4); (try simp only [Nat.reduceMul, Nat.zero_mul, Nat.zero_add, Nat.reduceAdd] at hf5_4); (try rw [show ((0 : Int)).toNat = 0 from rfl] at hx5_5); (try simp only [Nat.reduceMul, Nat.zero_mul, Nat.zero_add, Nat.reduceAdd] at hx5_5); (try rw [show ((0 : Int)).toNat = 0 from rfl] at hf5_5); (try simp only [Nat.reduceMul, Nat.zero_mul, Nat.zero_add, Nat.reduceAdd] at hf5_5); (try rw [show ((0 : Int)).toNat = 0 from rfl] at hx5_6); (try simp only [Nat.reduceMul, Nat.zero_mul, Nat.zero_add, Nat.reduceAdd] at hx5_6); (try rw [show ((0 : Int)).toNat = 0 from rfl] at hf5_6); (try simp only [Nat.reduceMul, Nat.zero_mul, Nat.zero_add, Nat.reduceAdd] at hf5_6); (try rw [show ((0 : Int)).toNat = 0 from rfl] at hx5_7); (try simp only [Nat.reduceMul, Nat.zero_mul, Nat.zero_add, Nat.reduceAdd] at hx5_7); (try rw [show ((0 : Int)).toNat = 0 from rfl] at hf5_7); (try simp only [Nat.reduceMul, Nat.zero_mul, Nat.zero_add, Nat.reduceAdd] at hf5_7); (try rw [show ((0 : Int)).toNat = 0 from rfl] at hx5_8); (try simp only [Nat.reduceMul, Nat.zero_mul, Nat.zero_add, Nat.reduceAdd] at hx5_8); (try rw [show ((0 : Int)).toNat = 0 from rfl] at hf5_8); (try simp only [Nat.reduceMul, Nat.zero_mul, Nat.zero_add, Nat.reduceAdd] at hf5_8); (try rw [show ((0 : Int)).toNat = 0 from rfl] at hx5_9); (try simp only [Nat.reduceMul, Nat.zero_mul, Nat.zero_add, Nat.reduceAdd] at hx5_9); (try rw [show ((0 : Int)).toNat = 0 from rfl] at hf5_9); (try simp only [Nat.reduceMul, Nat.zero_mul, Nat.zero_add, Nat.reduceAdd] at hf5_9); replace p5 := eq_true p5; replace q5 := eq_true q5; have HX12 := Aside0.mk (show Kd.N k32 32 w11 w.heap.size (fun k_ => some k_ ≠ (v141 : Value).ownBlock ∧ some k_ ≠ (v147 : Value).ownBlock) (.slice (some ⟨go5, 0, none⟩) t143.length co5) t143 from (by (with_reducible repeat (first | apply Kd.N_alloc | apply Kd.N_drewN | apply Kd.N_drew)); exact HO145.out)); obtain ⟨ce12, hcl12, hM12, hcc12, hfr12⟩ := Kd.N_elem HX12.out z32 (0 : Int) (by omega) (by have h_ : (0 : Int) < ((t143.length : Int) : Int) := of_decide_eq_true (by first | (with_reducible assumption) | assumption); first | exact h_ | (have e_ := (Kd.N_reads' HO145.out).1; omega) | simpa using h_); obtain ⟨ua12_5, uc12_5, ua12_6, uc12_6, rfl, ul12_5, ge12_5, ul12_6, ge12_6⟩ := k32_openF hM12; have HP12 := Kd.N_seg HX12.out (0 : Int) (by omega) (by have h_ : (0 : Int) < ((t143.length : Int) : Int) := of_decide_eq_true (by first | (with_reducible assumption) | assumption); first | exact h_ | (have e_ := (Kd.N_reads' HO145.out).1; omega) | simpa using h_) (seg := [.slice none 0 0]) (j := 5) hcl12 hcc12 (show 6 ≤ 10 from by decide) (x' := (⟨(rd_T32 t143 0).f0, (rd_T32 t143 0).f1, (rd_T32 t143 0).f2, (rd_T32 t143 0).f3, (rd_T32 t143 0).f4, ([] : List Int), (rd_T32 t143 0).f6, (⟨(rd_T32 t143 0).f7.f0, (rd_T32 t143 0).f7.f1⟩ : S30), (rd_T32 t143 0).f8⟩ : S32)) (k32_mkF _ _ (⟨(rd_T32 t143 0).f0, (rd_T32 t143 0).f1, (rd_T32 t143 0).f2, (rd_T32 t143 0).f3, (rd_T32 t143 0).f4, ([] : List Int), (rd_T32 t143 0).f6, (⟨(rd_T32 t143 0).f7.f0, (rd_T32 t143 0).f7.f1⟩ : S30), (rd_T32 t143 0).f8⟩ : S32) (Nat.le_refl _) (Kd.F_nil _ _ _) ul12_6 ge12_6) (fun _ hk => hk); have hx12_5 := hcc12 5 _ rfl; (try simp only [show (k32).sz = 10 from rfl, Nat.mul_one, Nat.add_zero] at hx12_5); (try rw [show ((0 : Int)).toNat = 0 from rfl] at hx12_5); (try simp only [Nat.reduceMul, Nat.zero_mul, Nat.zero_add, Nat.reduceAdd] at hx12_5); have hf12_5 := hfr12 5; (try simp only [show (k32).sz = 10 from rfl, Nat.mul_one, Nat.add_zero] at hf12_5); (try rw [show ((0 : Int)).toNat = 0 from rfl] at hf12_5); (try simp only [Nat.reduceMul, Nat.zero_mul, Nat.zero_add, Nat.reduceAdd] at hf12_5); clear hcl12 hcc12 hfr12 hM12) | ((with_reducible refine gate_store (t := 27) (p := 11) rfl ?_); refine store_event (t := 27) (p := 11) (v := ?vo_w13) (w1 := (w11.setCell ⟨go5, 5, none⟩ (.slice none 0 0))) ?hg ?ho ?hn ?hr ?_; (case ho => rfl); (case hg => rfl); (case hn => rfl); (case hr => first | (go_simp; done) | (go_simp; rfl)); intro w13 hw; have hg : w11.grownBy w13 (some go5) := (by rw [hw]; exact HP12.2); have hp_ : Kd.N k32 32 w13 w.heap.size (fun k_ => some k_ ≠ (v141 : Value).ownBlock ∧ some k_ ≠ (v147 : Value).ownBlock) (.slice (some ⟨go5, 0, none⟩) t143.length co5) y149 := (by rw [hw, Ny149.out]; exact HP12.1); clear HP12; have n0_ := Aside0.mk (Kd.N_afterv (v := (.slice (some ⟨go5, 0, none⟩) t143.length co5)) (v1 := (.slice (some ⟨go5, 0, none⟩) t143.length co5)) (ok := (fun k_ => some k_ ≠ (v147 : Value).ownBlock)) (by (with_reducible repeat (first | apply Kd.N_alloc | apply Kd.N_drewN | apply Kd.N_drew)); exact Kd.N_mono HO142.out (fun _ hk => ⟨hk.2, hk.1.2⟩)) hg (.inl rfl)); have n1_ := Aside0.mk (hp_); have n2_ := Aside0.mk (Kd.N_afterv (v := (.slice (some ⟨go5, 0, none⟩) t143.length co5)) (v1 := (.slice (some ⟨go5, 0, none⟩) t143.length co5)) (ok := (fun k_ => some k_ ≠ (v141 : Value).ownBlock)) (by (with_reducible repeat (first | apply Kd.N_alloc | apply Kd.N_drewN | apply Kd.N_drew)); exact HO148.out) hg (.inl rfl)); have n3_ := Aside0.mk ((by rw [hw]; exact below_set (HB.out) GB5.out : Below w.heap.size w w13)); clear HO142; clear HO145; clear HO148; clear HB; have HO142 := n0_; have HO145 := n1_; have HO148 := n2_; have HB := n3_; clear n0_ n1_ n2_ n3_; clear hg hw hp_) | ((with_reducible refine gate_dst (N := 13) rfl ?_); refine Kd.R_lit (Kd.int .i64) _ 3 ?hg (N := 13) ?hd (xs := ([4, 1] : List Int)) (inner := [.int .i64 4, .int .i64 1]) (ok := fun _ => True) (okp := fun _ => True) ?hr ?hp (fun _ hk => hk) trivial (Below.refl _ _) (Nat.le_refl _) (by simp) ?_; (case hd => rfl); (case hg => rfl); (case hr => first | (go_simp; done) | (go_simp; rfl)); (case hp => exact (Reps.one (show Kd.M (Kd.int .i64) _ _ _ 4 [.int .i64 4] from rfl) (Reps.one (show Kd.M (Kd.int .i64) _ _ _ 1 [.int .i64 1] from rfl) (Reps.none _ _)))); intro v151 w14 ho15 hb hg_ hnew_; clear hg_ hnew_; (first | rw [← Ny150.out] at ho15 | (simp only [Int.reduceToNat] at ho15; rw [← Ny150.out] at ho15)); obtain ⟨Av_, cv_, rfl⟩ := Kd.R_slice ho15; have n0_ := Aside0.mk (Kd.N_elder' (by (with_reducible repeat (first | apply Kd.N_alloc | apply Kd.N_drewN | apply Kd.N_drew)); exact HO142.out) (Kd.R_base ho15) hb); have n1_ := Aside0.mk (Kd.N_elder' (by (with_reducible repeat (first | apply Kd.N_alloc | apply Kd.N_drewN | apply Kd.N_drew)); exact HO145.out) (Kd.R_base ho15) hb); have n2_ := Aside0.mk (Kd.N_elder' (by (with_reducible repeat (first | apply Kd.N_alloc | apply Kd.N_drewN | apply Kd.N_drew)); exact HO148.out) (Kd.R_base ho15) hb); have n3_ := Aside0.mk (Kd.R_lower ho15 (below_size (by repeat (first | (with_reducible first | exact HB.out | apply below_alloc | apply pw_below_drewN | apply below_drew1) | exact HB.out)))); have n4_ := Aside0.mk (below_step (by repeat (first | (with_reducible first | exact HB.out | apply below_alloc | apply pw_below_drewN | apply below_drew1) | exact HB.out)) hb); clear HO142; clear HO145; clear HO148; clear HB; have HO142 := n0_; have HO145 := n1_; have HO148 := n2_; have HO152 := n3_; have HB := n4_; clear n0_ n1_ n2_ n3_ n4_; clear hb ho15; have p7 : 0 ≤ (0 : Int) := (by omega); have q7 : (0 : Int) < ((t146.length : Int) : Int) := of_decide_eq_true (by first | (with_reducible assumption) | assumption); have qi7 : (0 < t146.length) = True := eq_true (by omega); obtain ⟨go7, co7, eo7, gb7, gl7, cl7, HG7⟩ := Kd.N_form HO148.out (by omega); (first | cases eo7 | (injection eo7 with ea_ en_ ec_; (first | subst ea_ | (injection ea_ with ea_; subst ea_)); subst ec_; clear en_)); have GB7 := Aside0.mk gb7; have GG7 := Aside0.mk HG7; clear gb7 gl7 HG7; obtain ⟨ce7, hcl7, hM7, hcc7, hfr7⟩ := Kd.N_elem HO148.out z32 (0 : Int) p7 q7; obtain ⟨ua7_5, uc7_5, ua7_6, uc7_6, rfl, ul7_5, ge7_5, ul7_6, ge7_6⟩ := k32_openF hM7; have hx7_0 : w14.cell? ⟨go7, (0 : Int).toNat * 10, none⟩ = some (.int .i64 ((rd_T32 t146 0).f0)) := hcc7 0 _ rfl; have hx7_1 : w14.cell? ⟨go7, (0 : Int).toNat * 10 + 1, none⟩ = some (.int .i64 ((rd_T32 t146 0).f1)) := hcc7 1 _ rfl; have hx7_2 : w14.cell? ⟨go7, (0 : Int).toNat * 10 + 2, none⟩ = some (.int .i64 ((rd_T32 t146 0).f2)) := hcc7 2 _ rfl; have hx7_3 : w14.cell? ⟨go7, (0 : Int).toNat * 10 + 3, none⟩ = some (.int .i64 ((rd_T32 t146 0).f3)) := hcc7 3 _ rfl; have hx7_4 : w14.cell? ⟨go7, (0 : Int).toNat * 10 + 4, none⟩ = some (.int .i64 ((rd_T32 t146 0).f4)) := hcc7 4 _ rfl; have hx7_5 : w14.cell? ⟨go7, (0 : Int).toNat * 10 + 5, none⟩ = some (.slice ua7_5 ((rd_T32 t146 0).f5).length uc7_5) := hcc7 5 _ rfl; have hx7_6 : w14.cell? ⟨go7, (0 : Int).toNat * 10 + 6, none⟩ = some (.slice ua7_6 ((rd_T32 t146 0).f6).length uc7_6) := hcc7 6 _ rfl; have hx7_7 : w14.cell? ⟨go7, (0 : Int).toNat * 10 + 7, none⟩ = some (.int .i64 ((rd_T32 t146 0).f7.f0)) := hcc7 7 _ rfl; have hx7_8 : w14.cell? ⟨go7, (0 : Int).toNat * 10 + 8, none⟩ = some (.int .i64 ((rd_T32 t146 0).f7.f1)) := hcc7 8 _ rfl; have hx7_9 : w14.cell? ⟨go7, (0 : Int).toNat * 10 + 9, none⟩ = some (.int .i64 ((rd_T32 t146 0).f8)) := hcc7 9 _ rfl; have hf7_0 : w14.frozen? ⟨go7, (0 : Int).toNat * 10, none⟩ = false := hfr7 0; have hf7_1 : w14.frozen? ⟨go7, (0 : Int).toNat * 10 + 1, none⟩ = false := hfr7 1; have hf7_2 : w14.frozen? ⟨go7, (0 : Int).toNat * 10 + 2, none⟩ = false := hfr7 2; have hf7_3 : w14.frozen? ⟨go7, (0 : Int).toNat * 10 + 3, none⟩ = false := hfr7 3; have hf7_4 : w14.frozen? ⟨go7, (0 : Int).toNat * 10 + 4, none⟩ = false := hfr7 4; have hf7_5 : w14.frozen? ⟨go7, (0 : Int).toNat * 10 + 5, none⟩ = false := hfr7 5; have hf7_6 : w14.frozen? ⟨go7, (0 : Int).toNat * 10 + 6, none⟩ = false := hfr7 6; have hf7_7 : w14.frozen? ⟨go7, (0 : Int).toNat * 10 + 7, none⟩ = false := hfr7 7; have hf7_8 : w14.frozen? ⟨go7, (0 : Int).toNat * 10 + 8, none⟩ = false := hfr7 8; have hf7_9 : w14.frozen? ⟨go7, (0 : Int).toNat * 10 + 9, none⟩ = false := hfr7 9; clear hcl7 hcc7 hfr7 hM7; (try rw [show ((0 : Int)).toNat = 0 from rfl] at hx7_0); (try simp only [Nat.reduceMul, Nat.zero_mul, Nat.zero_add, Nat.reduceAdd] at hx7_0); (try rw [show ((0 : Int)).toNat = 0 from rfl] at hf7_0); (try simp only [Nat.reduceMul, Nat.zero_mul, Nat.zero_add, Nat.reduceAdd] at hf7_0); (try rw [show ((0 : Int)).toNat = 0 from rfl] at hx7_1); (try simp only [Nat.reduceMul, Nat.zero_mul, Nat.zero_add, Nat.reduceAdd] at hx7_1); (try rw [show ((0 : Int)).toNat = 0 from rfl] at hf7_1); (try simp only [Nat.reduceMul, Nat.zero_mul, Nat.zero_add, Nat.reduceAdd] at hf7_1); (try rw [show ((0 : Int)).toNat = 0 from rfl] at hx7_2); (try simp only [Nat.reduceMul, Nat.zero_mul, Nat.zero_add, Nat.reduceAdd] at hx7_2); (try rw [show ((0 : Int)).toNat = 0 from rfl] at hf7_2); (try simp only [Nat.reduceMul, Nat.zero_mul, Nat.zero_add, Nat.reduceAdd] at hf7_2); (try rw [show ((0 : Int)).toNat = 0 from rfl] at hx7_3); (try simp only [Nat.reduceMul, Nat.zero_mul, Nat.zero_add, Nat.reduceAdd] at hx7_3); (try rw [show ((0 : Int)).toNat = 0 from rfl] at hf7_3); (try simp only [Nat.reduceMul, Nat.zero_mul, Nat.zero_add, Nat.reduceAdd] at hf7_3); (try rw [show ((0 : Int)).toNat = 0 from rfl] at hx7_4); (try simp only [Nat.reduceMul, Nat.zero_mul, Nat.zero_add, Nat.reduceAdd] at hx7_4); (try rw [show ((0 : Int)).toNat = 0 from rfl] at hf7_4); (try simp only [Nat.reduceMul, Nat.zero_mul, Nat.zero_add, Nat.reduceAdd] at hf7_4); (try rw [show ((0 : Int)).toNat = 0 from rfl] at hx7_5); (try simp only [Nat.reduceMul, Nat.zero_mul, Nat.zero_add, Nat.reduceAdd] at hx7_5); (try rw [show ((0 : Int)).toNat = 0 from rfl] at hf7_5); (try simp only [Nat.reduceMul, Nat.zero_mul, Nat.zero_add, Nat.reduceAdd] at hf7_5); (try rw [show ((0 : Int)).toNat = 0 from rfl] at hx7_6); (try simp only [Nat.reduceMul, Nat.zero_mul, Nat.zero_add, Nat.reduceAdd] at hx7_6); (try rw [show ((0 : Int)).toNat = 0 from rfl] at hf7_6); (try simp only [Nat.reduceMul, Nat.zero_mul, Nat.zero_add, Nat.reduceAdd] at hf7_6); (try rw [show ((0 : Int)).toNat = 0 from rfl] at hx7_7); (try simp only [Nat.reduceMul, Nat.zero_mul, Nat.zero_add, Nat.reduceAdd] at hx7_7); (try rw [show ((0 : Int)).toNat = 0 from rfl] at hf7_7); (try simp only [Nat.reduceMul, Nat.zero_mul, Nat.zero_add, Nat.reduceAdd] at hf7_7); (try rw [show ((0 : Int)).toNat = 0 from rfl] at hx7_8); (try simp only [Nat.reduceMul, Nat.zero_mul, Nat.zero_add, Nat.reduceAdd] at hx7_8); (try rw [show ((0 : Int)).toNat = 0 from rfl] at hf7_8); (try simp only [Nat.reduceMul, Nat.zero_mul, Nat.zero_add, Nat.reduceAdd] at hf7_8); (try rw [show ((0 : Int)).toNat = 0 from rfl] at hx7_9); (try simp only [Nat.reduceMul, Nat.zero_mul, Nat.zero_add, Nat.reduceAdd] at hx7_9); (try rw [show ((0 : Int)).toNat = 0 from rfl] at hf7_9); (try simp only [Nat.reduceMul, Nat.zero_mul, Nat.zero_add, Nat.reduceAdd] at hf7_9); replace p7 := eq_true p7; replace q7 := eq_true q7; have n_ := Aside0.mk (Kd.N_mono (ok' := (fun k_ => some k_ ≠ (v141 : Value).ownBlock ∧ some k_ ≠ (.slice (some ⟨go5, 0, none⟩) t143.length co5 : Value).ownBlock ∧ some k_ ≠ ((.slice Av_ y150.length cv_ : Value) : Value).ownBlock)) HO148.out (fun k_ hk => ⟨hk.1.1, ⟨hk.1.2, hk.2⟩⟩)); clear HO148; have HO148 := n_; clear n_; have HX16 := Aside0.mk (show Kd.N k32 32 w14 w.heap.size (fun k_ => some k_ ≠ (v141 : Value).ownBlock ∧ some k_ ≠ (.slice (some ⟨go5, 0, none⟩) t143.length co5 : Value).ownBlock) (.slice (some ⟨go7, 0, none⟩) t146.length co7) t146 from (by (with_reducible repeat (first | apply Kd.N_alloc | apply Kd.N_drewN | apply Kd.N_drew)); exact Kd.N_mono HO148.out (fun _ hk => ⟨hk.1, hk.2.1⟩))); obtain ⟨ce16, hcl16, hM16, hcc16, hfr16⟩ := Kd.N_elem HX16.out z32 (0 : Int) (by omega) (by have h_ : (0 : Int) < ((t146.length : Int) : Int) := of_decide_eq_true (by first | (with_reducible assumption) | assumption); first | exact h_ | (have e_ := (Kd.N_reads' HO148.out).1; omega) | simpa using h_); obtain ⟨ua16_5, uc16_5, ua16_6, uc16_6, rfl, ul16_5, ge16_5, ul16_6, ge16_6⟩ := k32_openF hM16; have HAP_ : Kd.R (Kd.int .i64) 3 w14 w.heap.size (fun k_ => ((fun k_ => some k_ ≠ (v141 : Value).ownBlock ∧ some k_ ≠ (.slice (some ⟨go5, 0, none⟩) t143.length co5 : Value).ownBlock)) k_ ∧ k_ ≠ go7) (.slice Av_ y150.length cv_ : Value) y150 := Kd.R_mono  (Kd.R_apart' (Kd.R_apart' (Kd.R_apart' (HO152.out) (Kd.N_typed HO142.out) (by decide)) (Kd.N_typed HO145.out) (by decide)) (Kd.N_typed HO148.out) (by decide)) (fun k_ hk => ⟨⟨hk.1.1.2, hk.1.2⟩, fun e_ => (hk.2) (by rw [e_]; rfl)⟩); have HP16 := Kd.N_seg HX16.out (0 : Int) (by omega) (by have h_ : (0 : Int) < ((t146.length : Int) : Int) := of_decide_eq_true (by first | (with_reducible assumption) | assumption); first | exact h_ | (have e_ := (Kd.N_reads' HO148.out).1; omega) | simpa using h_) (seg := [(.slice Av_ y150.length cv_ : Value)]) (j := 5) hcl16 hcc16 (show 6 ≤ 10 from by decide) (x' := (⟨(rd_T32 t146 0).f0, (rd_T32 t146 0).f1, (rd_T32 t146 0).f2, (rd_T32 t146 0).f3, (rd_T32 t146 0).f4, y150, (rd_T32 t146 0).f6, (⟨(rd_T32 t146 0).f7.f0, (rd_T32 t146 0).f7.f1⟩ : S30), (rd_T32 t146 0).f8⟩ : S32)) (k32_mkF _ _ (⟨(rd_T32 t146 0).f0, (rd_T32 t146 0).f1, (rd_T32 t146 0).f2, (rd_T32 t146 0).f3, (rd_T32 t146 0).f4, y150, (rd_T32 t146 0).f6, (⟨(rd_T32 t146 0).f7.f0, (rd_T32 t146 0).f7.f1⟩ : S30), (rd_T32 t146 0).f8⟩ : S32) (Kd.R_reads' HAP_).2.1 (Kd.R_F HAP_) ul16_6 ge16_6) (fun _ hk => hk); have hx16_5 := hcc16 5 _ rfl; (try simp only [show (k32).sz = 10 from rfl, Nat.mul_one, Nat.add_zero] at hx16_5); (try rw [show ((0 : Int)).toNat = 0 from rfl] at hx16_5); (try simp only [Nat.reduceMul, Nat.zero_mul, Nat.zero_add, Nat.reduceAdd] at hx16_5); have hf16_5 := hfr16 5; (try simp only [show (k32).sz = 10 from rfl, Nat.mul_one, Nat.add_zero] at hf16_5); (try rw [show ((0 : Int)).toNat = 0 from rfl] at hf16_5); (try simp only [Nat.reduceMul, Nat.zero_mul, Nat.zero_add, Nat.reduceAdd] at hf16_5); clear hcl16 hcc16 hfr16 hM16) | ((with_reducible refine gate_store (t := 27) (p := 15) rfl ?_); refine store_event (t := 27) (p := 15) (v := ?vo_w17) (w1 := (w14.setCell ⟨go7, 5, none⟩ ((.slice Av_ y150.length cv_ : Value)))) ?hg ?ho ?hn ?hr ?_; (case ho => rfl); (case hg => rfl); (case hn => rfl); (case hr => first | (go_simp; done) | (go_simp; rfl)); intro w17 hw; have hg : w14.grownBy w17 (some go7) := (by rw [hw]; exact HP16.2); have hp_ : Kd.N k32 32 w17 w.heap.size (fun k_ => some k_ ≠ (v141 : Value).ownBlock ∧ some k_ ≠ (.slice (some ⟨go5, 0, none⟩) t143.length co5 : Value).ownBlock) (.slice (some ⟨go7, 0, none⟩) t146.length co7) y153 := (by rw [hw, Ny153.out]; exact HP16.1); clear HP16; have n0_ := Aside0.mk (Kd.N_afterv (v := (.slice (some ⟨go7, 0, none⟩) t146.length co7)) (v1 := (.slice (some ⟨go7, 0, none⟩) t146.length co7)) (ok := (fun k_ => some k_ ≠ (.slice (some ⟨go5, 0, none⟩) t143.length co5 : Value).ownBlock ∧ some k_ ≠ ((.slice Av_ y150.length cv_ : Value) : Value).ownBlock)) (by (with_reducible repeat (first | apply Kd.N_alloc | apply Kd.N_drewN | apply Kd.N_drew)); exact Kd.N_mono HO142.out (fun _ hk => ⟨⟨hk.1.2, hk.2⟩, hk.1.1⟩)) hg (.inl rfl)); have n1_ := Aside0.mk (Kd.N_afterv (v := (.slice (some ⟨go7, 0, none⟩) t146.length co7)) (v1 := (.slice (some ⟨go7, 0, none⟩) t146.length co7)) (ok := (fun k_ => some k_ ≠ (v141 : Value).ownBlock ∧ some k_ ≠ ((.slice Av_ y150.length cv_ : Value) : Value).ownBlock)) (by (with_reducible repeat (first | apply Kd.N_alloc | apply Kd.N_drewN | apply Kd.N_drew)); exact Kd.N_mono HO145.out (fun _ hk => ⟨⟨hk.1.1, hk.2⟩, hk.1.2⟩)) hg (.inl rfl)); have n2_ := Aside0.mk (hp_); have n3_ := Aside0.mk ((by rw [hw]; exact below_set (HB.out) GB7.out : Below w.heap.size w w17)); clear HO142; clear HO145; clear HO148; clear HB; clear HO152; have HO142 := n0_; have HO145 := n1_; have HO148 := n2_; have HB := n3_; clear n0_ n1_ n2_ n3_; clear hg hw hp_; obtain ⟨Ao18, co18, eo18⟩ := Kd.N_slice HO142.out; subst eo18) | ((with_reducible refine gate_callee (f := 14) rfl ?_); refine goesL_ (some 18) rfl rfl Try.func14 (by kernel_rfl) rfl #[.slice Ao18 t140.length co18, .int .i64 5] rfl (by (try simp only [List.map_toArray, List.map_cons, List.map_nil]); first | done | rfl | (simp only [List.length_drop, List.length_take]; rfl)) ?_; (with_reducible refine (product_Find.calls k _ _ t140 5 t154 t155 t156 t157 t158 t159 t162 t165 t166 t167 t168 _ ?side1 ?side2 A8.out).mono ?_); (case side1 => repeat (first | exact (Kd.N_reads' HO142.out).2.2 | (with_reducible refine Kd.C_alloc ?_ _) | (with_reducible refine Kd.C_drewN ?_ _) | (with_reducible refine Kd.C_drew ?_))); (case side2 => exact (Kd.N_reads' HO142.out).2.1); rintro e w19 ⟨v160, v163, rfl, ho0, ho1, hb⟩; refine ⟨_, rfl, ?_⟩; have n0_ := Aside0.mk (Kd.N_mono (Kd.N_told (Kd.N_told (Kd.N_old (by (with_reducible repeat (first | apply Kd.N_alloc | apply Kd.N_drewN | apply Kd.N_drew)); exact HO142.out) hb) (Kd.R_base ho0)) (Kd.R_base ho1)) (fun _ h_ => h_.1)); have n1_ := Aside0.mk (Kd.N_mono (Kd.N_told (Kd.N_told (Kd.N_old (by (with_reducible repeat (first | apply Kd.N_alloc | apply Kd.N_drewN | apply Kd.N_drew)); exact HO145.out) hb) (Kd.R_base ho0)) (Kd.R_base ho1)) (fun _ h_ => h_.1)); have n2_ := Aside0.mk (Kd.N_mono (Kd.N_told (Kd.N_told (Kd.N_old (by (with_reducible repeat (first | apply Kd.N_alloc | apply Kd.N_drewN | apply Kd.N_drew)); exact HO148.out) hb) (Kd.R_base ho0)) (Kd.R_base ho1)) (fun _ h_ => h_.1)); have n3_ := Aside0.mk (Kd.R_lower ho0 (below_size (by repeat (first | (with_reducible first | exact HB.out | apply below_alloc | apply pw_below_drewN | apply below_drew1) | exact HB.out)))); have n4_ := Aside0.mk (Kd.R_lower ho1 (below_size (by repeat (first | (with_reducible first | exact HB.out | apply below_alloc | apply pw_below_drewN | apply below_drew1) | exact HB.out)))); have n5_ := Aside0.mk (below_step (by repeat (first | (with_reducible first | exact HB.out | apply below_alloc | apply pw_below_drewN | apply below_drew1) | exact HB.out)) hb); clear HO142; clear HO145; clear HO148; clear HB; have HO142 := n0_; have HO145 := n1_; have HO148 := n2_; have HO161 := n3_; have HO164 := n4_; have HB := n5_; clear n0_ n1_ n2_ n3_ n4_ n5_; (try clear hb); (try clear hb2); (try clear hk); (try clear hi); (try clear ho0); (try clear ho1)) | ((with_reducible refine gate_dst (N := 4) rfl ?_); refine box_event ?hg (N := 4) ?hd (cs := #[.int .i64 0, .int .i64 0, .int .i64 0, .int .i64 0, .int .i64 0, .slice none 0 0, .slice none 0 0, .int .i64 0, .int .i64 0, .int .i64 0]) (t := 32) ?hr ?_; (case hd => rfl); (case hg => rfl); (case hr => first | (go_simp; done) | (go_simp; rfl)); intro gb169 hg w20 hbox hb; have n0_ := Aside0.mk (Kd.N_below (Kd.N_elderB (by (with_reducible repeat (first | apply Kd.N_alloc | apply Kd.N_drewN | apply Kd.N_drew)); exact HO142.out) gb169 (Nat.le_of_eq hg.symm)) hb); have n1_ := Aside0.mk (Kd.N_below (Kd.N_elderB (by (with_reducible repeat (first | apply Kd.N_alloc | apply Kd.N_drewN | apply Kd.N_drew)); exact HO145.out) gb169 (Nat.le_of_eq hg.symm)) hb); have n2_ := Aside0.mk (Kd.N_below (Kd.N_elderB (by (with_reducible repeat (first | apply Kd.N_alloc | apply Kd.N_drewN | apply Kd.N_drew)); exact HO148.out) gb169 (Nat.le_of_eq hg.symm)) hb); have n3_ := Aside0.mk (Kd.R_below (by (with_reducible repeat (first | apply Kd.R_alloc | apply Kd.R_drewN | apply Kd.R_drew)); exact HO161.out) hb); have n4_ := Aside0.mk (Kd.R_below (by (with_reducible repeat (first | apply Kd.R_alloc | apply Kd.R_drewN | apply Kd.R_drew)); exact HO164.out) hb); have n5_ := Aside0.mk (below_step (by repeat (first | (with_reducible first | exact HB.out | apply below_alloc | apply pw_below_drewN | apply below_drew1) | exact HB.out)) hb); have n6_ := Aside0.mk (hbox); have n7_ := Aside0.mk ((by rw [hg]; exact (below_size (by repeat (first | (with_reducible first | exact HB.out | apply below_alloc | apply pw_below_drewN | apply below_drew1) | exact HB.out))) : w.heap.size ≤ gb169)); have n8_ := n7_; clear HO142; clear HO145; clear HO148; clear HO161; clear HO164; clear HB; have HO142 := n0_; have HO145 := n1_; have HO148 := n2_; have HO161 := n3_; have HO164 := n4_; have HB := n5_; have BK169 := n6_; have GW169 := n7_; have GE169 := n8_; clear n0_ n1_ n2_ n3_ n4_ n5_ n6_ n7_ n8_; clear hb hbox hg; obtain ⟨hcz21_0, hcz21_1, hcz21_2, hcz21_3, hcz21_4, hcz21_5, hcz21_6, hcz21_7, hcz21_8, hcz21_9, hfz21_0, hfz21_1, hfz21_2, hfz21_3, hfz21_4, hfz21_5, hfz21_6, hfz21_7, hfz21_8, hfz21_9⟩ := cells10 BK169.out; obtain ⟨Ao22, co22, eo22⟩ := Kd.R_slice HO161.out; subst eo22; obtain ⟨Ao23, co23, eo23⟩ := Kd.R_slice HO164.out; subst eo23))
   subst hk40
   obtain rfl : twoL = t140 := Option.some.inj (two_val.symm.trans A1.out)
   obtain rfl : twoL = t143 := Option.some.inj (two_val.symm.trans A2.out)
   obtain rfl : twoL = t146 := Option.some.inj (two_val.symm.trans A3.out)
   obtain rfl : [4, 1] = y150 := Ny150.out.symm
   obtain rfl : noneL = y149 := Ny149.out.symm
   obtain rfl : turnL = y153 := Ny153.out.symm
   have e8 := Option.some.inj (find_val.symm.trans A8.out)
   simp only [Prod.mk.injEq] at e8
   obtain ⟨rfl, rfl, rfl, rfl, rfl, rfl, rfl, rfl, rfl, rfl, rfl⟩ := e8
   obtain ⟨gl, col, eol, gbl, gll, cll, HGl⟩ := Kd.N_form HO142.out (by decide)
   injection eol with eo1 eo2 eo3
   subst eo1
   subst eo3
   clear eo2 gbl gll HGl
   have hfar : ∀ q, q ≠ gb169 → ((((((((((w20.setCell ⟨gb169, 0, none⟩ (.int .i64 5)).setCell ⟨gb169, 1, none⟩ (.int .i64 2)).setCell ⟨gb169, 2, none⟩ (.int .i64 10)).setCell ⟨gb169, 3, none⟩ (.int .i64 0)).setCell ⟨gb169, 4, none⟩ (.int .i64 120)).setCell ⟨gb169, 5, none⟩ (.slice Ao22 1 co22)).setCell ⟨gb169, 6, none⟩ (.slice Ao23 1 co23)).setCell ⟨gb169, 7, none⟩ (.int .i64 0)).setCell ⟨gb169, 8, none⟩ (.int .i64 9000000)).setCell ⟨gb169, 9, none⟩ (.int .i64 0)).heap[q]? = w20.heap[q]? := fun q hne => ((Below.heap_setCell _ ⟨gb169, 9, none⟩ _ q hne).trans ((Below.heap_setCell _ ⟨gb169, 8, none⟩ _ q hne).trans ((Below.heap_setCell _ ⟨gb169, 7, none⟩ _ q hne).trans ((Below.heap_setCell _ ⟨gb169, 6, none⟩ _ q hne).trans ((Below.heap_setCell _ ⟨gb169, 5, none⟩ _ q hne).trans ((Below.heap_setCell _ ⟨gb169, 4, none⟩ _ q hne).trans ((Below.heap_setCell _ ⟨gb169, 3, none⟩ _ q hne).trans ((Below.heap_setCell _ ⟨gb169, 2, none⟩ _ q hne).trans ((Below.heap_setCell _ ⟨gb169, 1, none⟩ _ q hne).trans ((Below.heap_setCell _ ⟨gb169, 0, none⟩ _ q hne).trans rfl))))))))))
   have BZ := (blk_put (cs := #[.int .i64 5, .int .i64 2, .int .i64 10, .int .i64 0, .int .i64 120, .slice Ao22 1 co22, .slice Ao23 1 co23, .int .i64 0, .int .i64 9000000, .int .i64 0]) (blk_put (cs := #[.int .i64 5, .int .i64 2, .int .i64 10, .int .i64 0, .int .i64 120, .slice Ao22 1 co22, .slice Ao23 1 co23, .int .i64 0, .int .i64 0, .int .i64 0]) (blk_put (cs := #[.int .i64 5, .int .i64 2, .int .i64 10, .int .i64 0, .int .i64 120, .slice Ao22 1 co22, .slice Ao23 1 co23, .int .i64 0, .int .i64 0, .int .i64 0]) (blk_put (cs := #[.int .i64 5, .int .i64 2, .int .i64 10, .int .i64 0, .int .i64 120, .slice Ao22 1 co22, .slice none 0 0, .int .i64 0, .int .i64 0, .int .i64 0]) (blk_put (cs := #[.int .i64 5, .int .i64 2, .int .i64 10, .int .i64 0, .int .i64 120, .slice none 0 0, .slice none 0 0, .int .i64 0, .int .i64 0, .int .i64 0]) (blk_put (cs := #[.int .i64 5, .int .i64 2, .int .i64 10, .int .i64 0, .int .i64 0, .slice none 0 0, .slice none 0 0, .int .i64 0, .int .i64 0, .int .i64 0]) (blk_put (cs := #[.int .i64 5, .int .i64 2, .int .i64 10, .int .i64 0, .int .i64 0, .slice none 0 0, .slice none 0 0, .int .i64 0, .int .i64 0, .int .i64 0]) (blk_put (cs := #[.int .i64 5, .int .i64 2, .int .i64 0, .int .i64 0, .int .i64 0, .slice none 0 0, .slice none 0 0, .int .i64 0, .int .i64 0, .int .i64 0]) (blk_put (cs := #[.int .i64 5, .int .i64 0, .int .i64 0, .int .i64 0, .int .i64 0, .slice none 0 0, .slice none 0 0, .int .i64 0, .int .i64 0, .int .i64 0]) (blk_put (cs := #[.int .i64 0, .int .i64 0, .int .i64 0, .int .i64 0, .int .i64 0, .slice none 0 0, .slice none 0 0, .int .i64 0, .int .i64 0, .int .i64 0]) BK169.out 0 (.int .i64 5) rfl) 1 (.int .i64 2) rfl) 2 (.int .i64 10) rfl) 3 (.int .i64 0) rfl) 4 (.int .i64 120) rfl) 5 (.slice Ao22 1 co22) rfl) 6 (.slice Ao23 1 co23) rfl) 7 (.int .i64 0) rfl) 8 (.int .i64 9000000) rfl) 9 (.int .i64 0) rfl)
   have HBZ : Below w.heap.size w ((((((((((w20.setCell ⟨gb169, 0, none⟩ (.int .i64 5)).setCell ⟨gb169, 1, none⟩ (.int .i64 2)).setCell ⟨gb169, 2, none⟩ (.int .i64 10)).setCell ⟨gb169, 3, none⟩ (.int .i64 0)).setCell ⟨gb169, 4, none⟩ (.int .i64 120)).setCell ⟨gb169, 5, none⟩ (.slice Ao22 1 co22)).setCell ⟨gb169, 6, none⟩ (.slice Ao23 1 co23)).setCell ⟨gb169, 7, none⟩ (.int .i64 0)).setCell ⟨gb169, 8, none⟩ (.int .i64 9000000)).setCell ⟨gb169, 9, none⟩ (.int .i64 0)) := (below_set (g := gb169) (j := 9) (v := .int .i64 0) (below_set (g := gb169) (j := 8) (v := .int .i64 9000000) (below_set (g := gb169) (j := 7) (v := .int .i64 0) (below_set (g := gb169) (j := 6) (v := .slice Ao23 1 co23) (below_set (g := gb169) (j := 5) (v := .slice Ao22 1 co22) (below_set (g := gb169) (j := 4) (v := .int .i64 120) (below_set (g := gb169) (j := 3) (v := .int .i64 0) (below_set (g := gb169) (j := 2) (v := .int .i64 10) (below_set (g := gb169) (j := 1) (v := .int .i64 2) (below_set (g := gb169) (j := 0) (v := .int .i64 5) HB.out GE169.out) GE169.out) GE169.out) GE169.out) GE169.out) GE169.out) GE169.out) GE169.out) GE169.out) GE169.out)
   have CL := (Kd.N_reads' (Kd.N_step HO142.out (fun q hq _ => hfar q hq.2))).2.2
   have lcl := (Kd.N_reads' HO142.out).2.1
   have CN := (Kd.N_reads' (Kd.N_step HO145.out (fun q hq _ => hfar q hq.2))).2.2
   have lcn := (Kd.N_reads' HO145.out).2.1
   have CT := (Kd.N_reads' (Kd.N_step HO148.out (fun q hq _ => hfar q hq.2))).2.2
   have lct := (Kd.N_reads' HO148.out).2.1
   have CP5 := (Kd.R_reads' (Kd.R_step (Kd.R_types HO161.out BK169.out (by decide)) (fun q hq _ => hfar q hq.2))).2.2
   have lp5 := (Kd.R_reads' HO161.out).2.1
   have CP6 := (Kd.R_reads' (Kd.R_step (Kd.R_types HO164.out BK169.out (by decide)) (fun q hq _ => hfar q hq.2))).2.2
   have lp6 := (Kd.R_reads' HO164.out).2.1
   clear hfar HO142 HO145 HO148 HO161 HO164
   generalize ((((((((((w20.setCell ⟨gb169, 0, none⟩ (.int .i64 5)).setCell ⟨gb169, 1, none⟩ (.int .i64 2)).setCell ⟨gb169, 2, none⟩ (.int .i64 10)).setCell ⟨gb169, 3, none⟩ (.int .i64 0)).setCell ⟨gb169, 4, none⟩ (.int .i64 120)).setCell ⟨gb169, 5, none⟩ (.slice Ao22 1 co22)).setCell ⟨gb169, 6, none⟩ (.slice Ao23 1 co23)).setCell ⟨gb169, 7, none⟩ (.int .i64 0)).setCell ⟨gb169, 8, none⟩ (.int .i64 9000000)).setCell ⟨gb169, 9, none⟩ (.int .i64 0)) = wz at *
   obtain ⟨z0, z1, z2, z3, z4, z5, z6, z7, z8, z9, fz0, fz1, fz2, fz3, fz4, fz5, fz6, fz7, fz8, fz9⟩ := cells10 BZ
   clear fz0 fz1 fz2 fz3 fz4 fz5 fz6 fz7 fz8 fz9 BZ
   obtain ⟨ad, A5, c5, A6, c6, ea, x0', x1', x2', x3', x4', x5', x6', x7', x8', x9', l5, g5, l6, g6⟩ := at_T32 CL (1 : Int) (by decide) (by decide)
   obtain rfl := Option.some.inj ea
   obtain ⟨ad, B5, d5, B6, d6, eb, y0', y1', y2', y3', y4', y5', y6', y7', y8', y9', lb5, CB5, lb6, CB6⟩ := at_T32 CL (0 : Int) (by decide) (by decide)
   obtain rfl := Option.some.inj eb
   have x0 : wz.cell? ⟨gl, 10, none⟩ = some (.int .i64 5) := x0'
   have x1 : wz.cell? ⟨gl, 11, none⟩ = some (.int .i64 2) := x1'
   have x2 : wz.cell? ⟨gl, 12, none⟩ = some (.int .i64 10) := x2'
   have x3 : wz.cell? ⟨gl, 13, none⟩ = some (.int .i64 0) := x3'
   have x4 : wz.cell? ⟨gl, 14, none⟩ = some (.int .i64 120) := x4'
   have x5 : wz.cell? ⟨gl, 15, none⟩ = some (.slice A5 1 c5) := x5'
   have x6 : wz.cell? ⟨gl, 16, none⟩ = some (.slice A6 1 c6) := x6'
   have x7 : wz.cell? ⟨gl, 17, none⟩ = some (.int .i64 0) := x7'
   have x8 : wz.cell? ⟨gl, 18, none⟩ = some (.int .i64 9000000) := x8'
   have x9 : wz.cell? ⟨gl, 19, none⟩ = some (.int .i64 0) := x9'
   have y0 : wz.cell? ⟨gl, 0, none⟩ = some (.int .i64 3) := y0'
   have y1 : wz.cell? ⟨gl, 1, none⟩ = some (.int .i64 1) := y1'
   have y2 : wz.cell? ⟨gl, 2, none⟩ = some (.int .i64 3) := y2'
   have y3 : wz.cell? ⟨gl, 3, none⟩ = some (.int .i64 16) := y3'
   have y4 : wz.cell? ⟨gl, 4, none⟩ = some (.int .i64 64) := y4'
   have y5 : wz.cell? ⟨gl, 5, none⟩ = some (.slice B5 2 d5) := y5'
   have y6 : wz.cell? ⟨gl, 6, none⟩ = some (.slice B6 0 d6) := y6'
   have y7 : wz.cell? ⟨gl, 7, none⟩ = some (.int .i64 0) := y7'
   have y8 : wz.cell? ⟨gl, 8, none⟩ = some (.int .i64 9000000) := y8'
   have y9 : wz.cell? ⟨gl, 9, none⟩ = some (.int .i64 0) := y9'
   clear x0' x1' x2' x3' x4' x5' x6' x7' x8' x9' y0' y1' y2' y3' y4' y5' y6' y7' y8' y9' ea eb
   clear hf5_0 hf7_0 hx5_0 hx7_0 hf5_1 hf7_1 hx5_1 hx7_1 hf5_2 hf7_2 hx5_2 hx7_2 hf5_3 hf7_3 hx5_3 hx7_3 hf5_4 hf7_4 hx5_4 hx7_4 hf5_5 hf7_5 hx5_5 hx7_5 hf5_6 hf7_6 hx5_6 hx7_6 hf5_7 hf7_7 hx5_7 hx7_7 hf5_8 hf7_8 hx5_8 hx7_8 hf5_9 hf7_9 hx5_9 hx7_9
   clear p5 p7 ul5_5 ul5_6 hf12_5 hf16_5 ul12_5 ul12_6 hx12_5 ul7_5 ul7_6 ul16_5 ul16_6 hx16_5 q5 q7 qi5 qi7 c4b0 c4b1 c6b0 c6b1 GG5 GG7 Ny150 Ny149 Ny153 A8 ge5_5 ge5_6 ge7_5 ge7_6 HX12 HX16 ge12_5 ge12_6 ge16_5 ge16_6 HAP_ A1 A2 A3 H HB BK169 GW169 GE169 GB5 GB7 hu32 hcz21_0 hfz21_0 hcz21_1 hfz21_1 hcz21_2 hfz21_2 hcz21_3 hfz21_3 hcz21_4 hfz21_4 hcz21_5 hfz21_5 hcz21_6 hfz21_6 hcz21_7 hfz21_7 hcz21_8 hfz21_8 hcz21_9 hfz21_9
   have tl1 : ((1 : Int) < (twoL.length : Int)) = True := by simp [twoL]
   have tl2 : (0 < twoL.length) = True := by simp [twoL]
   have tl3 : (1 < twoL.length) = True := by simp [twoL]
   have tl0 : ((0 : Int) < (twoL.length : Int)) = True := by simp [twoL]
   refine start_ (n := 82) (S := fun w' => Below wz.heap.size wz w') (ds := []) (bs82 0) (by kernel_rfl) rfl (by kernel_rfl) (below_drew (Below.refl _ _)) (fun hS => ?_)
   generalize wz.drew = wd at hS ⊢
   refine pure_ (i := 0) (N := some 21) (v := ?_) (a' := ?_) (bs82 1) rfl rfl (by kernel_rfl) (fun _ _ _ h => h) (Or.inl ⟨by rfl, ?_⟩) ?_ ?_
   rotate_left
   ·intro w'
    go_simp
    with_reducible rfl
   rotate_left
   ·simp only [Act.put, List.setIfInBounds_toArray, List.set_cons_zero, List.set_cons_succ, i64_w, i32_w]
    rfl
   refine one_ (i := 1) (N := some 22) (bs82 3) rfl rfl (by kernel_rfl) (by decide) (fun K hK => ?_)
   refine goes_ (f := 12) Try.func12 (by kernel_rfl) rfl #[.slice (some ⟨gl, 0, none⟩) 2 co18] (by rfl) rfl rfl (by (try simp only [List.map_toArray, List.map_cons, List.map_nil]); first | done | rfl) ?_
   refine (product_Right.calls 40 (some ⟨gl, 0, none⟩) co18 twoL 0 _ (Kd.C_below CL hS) lcl right_v1).mono ?_
   rintro e wn ⟨rfl, hd⟩
   refine ⟨_, rfl, ?_⟩
   have hS2 := below_step hS hd
   refine hK.out _ _ hS2 (fun _ => ?_)
   clear hK K
   refine norm_ (a' := ?_) ?_ ?_
   rotate_left
   ·show Act.put _ (some 22) _ = _
    simp only [Act.put, List.setIfInBounds_toArray, List.set_cons_zero, List.set_cons_succ, i64_w, i32_w]
    rfl
   replace hS := hS2
   clear hS2 hd
   as_aux_lemma =>
    refine pure_ (i := 2) (N := some 23) (v := ?_) (a' := ?_) (bs82 7) rfl rfl (by kernel_rfl) (fun _ _ _ h => h) (Or.inl ⟨by rfl, ?_⟩) ?_ ?_
    rotate_left
    ·intro w'
     go_simp
     with_reducible rfl
    rotate_left
    ·simp only [Act.put, List.setIfInBounds_toArray, List.set_cons_zero, List.set_cons_succ, i64_w, i32_w]
     rfl
    refine pure_ (i := 3) (N := some 24) (v := ?_) (a' := ?_) (bs82 15) rfl rfl (by kernel_rfl) (fun _ _ _ h => h) (Or.inl ⟨by rfl, ?_⟩) ?_ ?_
    rotate_left
    ·intro w'
     go_simp
     with_reducible rfl
    rotate_left
    ·simp only [Act.put, List.setIfInBounds_toArray, List.set_cons_zero, List.set_cons_succ, i64_w, i32_w]
     rfl
    refine pure_ (i := 4) (N := some 25) (v := ?_) (a' := ?_) (bs82 31) rfl rfl (by kernel_rfl) (fun _ _ _ h => h) (Or.inl ⟨by rfl, ?_⟩) ?_ ?_
    rotate_left
    ·intro w'
     go_simp
     with_reducible rfl
    rotate_left
    ·simp only [Act.put, List.setIfInBounds_toArray, List.set_cons_zero, List.set_cons_succ, i64_w, i32_w]
     rfl
    refine one_ (i := 5) (N := some 26) (bs82 63) rfl rfl (by kernel_rfl) (by decide) (fun K hK => ?_)
    refine goes_ (f := 12) Try.func12 (by kernel_rfl) rfl #[.slice (some ⟨go5, 0, none⟩) 2 co5] (by rfl) rfl rfl (by (try simp only [List.map_toArray, List.map_cons, List.map_nil]); first | done | rfl) ?_
    refine (product_Right.calls 40 (some ⟨go5, 0, none⟩) co5 noneL 1 _ (Kd.C_below CN hS) lcn right_v2).mono ?_
    rintro e wn ⟨rfl, hd⟩
    refine ⟨_, rfl, ?_⟩
    have hS2 := below_step hS hd
    refine hK.out _ _ hS2 (fun _ => ?_)
    clear hK K
    refine norm_ (a' := ?_) ?_ ?_
    rotate_left
    ·show Act.put _ (some 26) _ = _
     simp only [Act.put, List.setIfInBounds_toArray, List.set_cons_zero, List.set_cons_succ, i64_w, i32_w]
     rfl
    replace hS := hS2
    clear hS2 hd
    as_aux_lemma =>
     refine pure_ (i := 6) (N := some 27) (v := ?_) (a' := ?_) (bs82 127) rfl rfl (by kernel_rfl) (fun _ _ _ h => h) (Or.inl ⟨by rfl, ?_⟩) ?_ ?_
     rotate_left
     ·intro w'
      go_simp
      with_reducible rfl
     rotate_left
     ·simp only [Act.put, List.setIfInBounds_toArray, List.set_cons_zero, List.set_cons_succ, i64_w, i32_w]
      rfl
     refine pure_ (i := 7) (N := some 28) (v := ?_) (a' := ?_) (bs82 255) rfl rfl (by kernel_rfl) (fun _ _ _ h => h) (Or.inl ⟨by rfl, ?_⟩) ?_ ?_
     rotate_left
     ·intro w'
      go_simp
      with_reducible rfl
     rotate_left
     ·simp only [Act.put, List.setIfInBounds_toArray, List.set_cons_zero, List.set_cons_succ, i64_w, i32_w]
      rfl
     refine pure_ (i := 8) (N := some 29) (v := ?_) (a' := ?_) (bs82 511) rfl rfl (by kernel_rfl) (fun _ _ _ h => h) (Or.inl ⟨by rfl, ?_⟩) ?_ ?_
     rotate_left
     ·intro w'
      go_simp
      with_reducible rfl
     rotate_left
     ·simp only [Act.put, List.setIfInBounds_toArray, List.set_cons_zero, List.set_cons_succ, i64_w, i32_w]
      rfl
     refine pure_ (i := 9) (N := some 30) (v := ?_) (a' := ?_) (bs82 1023) rfl rfl (by kernel_rfl) (fun _ _ _ h => h) (Or.inl ⟨by rfl, ?_⟩) ?_ ?_
     rotate_left
     ·intro w'
      go_simp
      with_reducible rfl
     rotate_left
     ·simp only [Act.put, List.setIfInBounds_toArray, List.set_cons_zero, List.set_cons_succ, i64_w, i32_w]
      rfl
     refine one_ (i := 10) (N := some 31) (bs82 2047) rfl rfl (by kernel_rfl) (by decide) (fun K hK => ?_)
     refine goes_ (f := 12) Try.func12 (by kernel_rfl) rfl #[.slice (some ⟨go7, 0, none⟩) 2 co7] (by rfl) rfl rfl (by (try simp only [List.map_toArray, List.map_cons, List.map_nil]); first | done | rfl) ?_
     refine (product_Right.calls 40 (some ⟨go7, 0, none⟩) co7 turnL 1 _ (Kd.C_below CT hS) lct right_v3).mono ?_
     rintro e wn ⟨rfl, hd⟩
     refine ⟨_, rfl, ?_⟩
     have hS2 := below_step hS hd
     refine hK.out _ _ hS2 (fun _ => ?_)
     clear hK K
     refine norm_ (a' := ?_) ?_ ?_
     rotate_left
     ·show Act.put _ (some 31) _ = _
      simp only [Act.put, List.setIfInBounds_toArray, List.set_cons_zero, List.set_cons_succ, i64_w, i32_w]
      rfl
     replace hS := hS2
     clear hS2 hd
     as_aux_lemma =>
      refine pure_ (i := 11) (N := some 32) (v := ?_) (a' := ?_) (bs82 4095) rfl rfl (by kernel_rfl) (fun _ _ _ h => h) (Or.inl ⟨by rfl, ?_⟩) ?_ ?_
      rotate_left
      ·intro w'
       go_simp
       with_reducible rfl
      rotate_left
      ·simp only [Act.put, List.setIfInBounds_toArray, List.set_cons_zero, List.set_cons_succ, i64_w, i32_w]
       rfl
      refine pure_ (i := 12) (N := some 33) (v := ?_) (a' := ?_) (bs82 8191) rfl rfl (by kernel_rfl) (fun _ _ _ h => h) (Or.inl ⟨by rfl, ?_⟩) ?_ ?_
      rotate_left
      ·intro w'
       go_simp
       with_reducible rfl
      rotate_left
      ·simp only [Act.put, List.setIfInBounds_toArray, List.set_cons_zero, List.set_cons_succ, i64_w, i32_w]
       rfl
      refine pure_ (i := 13) (N := some 34) (v := ?_) (a' := ?_) (bs82 16383) rfl rfl (by kernel_rfl) (fun _ _ _ h => h) (Or.inl ⟨by rfl, ?_⟩) ?_ ?_
      rotate_left
      ·intro w'
       go_simp
       with_reducible rfl
      rotate_left
      ·simp only [Act.put, List.setIfInBounds_toArray, List.set_cons_zero, List.set_cons_succ, i64_w, i32_w]
       rfl
      refine pure_ (i := 14) (N := some 35) (v := ?_) (a' := ?_) (bs82 32767) rfl rfl (by kernel_rfl) (fun _ _ _ h => h) (Or.inl ⟨by rfl, ?_⟩) ?_ ?_
      rotate_left
      ·intro w'
       go_simp
       with_reducible rfl
      rotate_left
      ·simp only [Act.put, List.setIfInBounds_toArray, List.set_cons_zero, List.set_cons_succ, i64_w, i32_w]
       rfl
      as_aux_lemma =>
       refine join_ (σ := Value × Value × Value) 64 (bs82 262143) (fun s_ => [(36, s_.1), (37, s_.2.1), (38, s_.2.2)]) (fun s_ w' => Below wz.heap.size wz w' ∧ (∃ A c, s_.1 = .slice A 1 c) ∧ (∃ A c, s_.2.1 = .slice A 2 c ∧ 2 ≤ c ∧ Kd.C (Kd.int .i64) w' A 2 [3, 5]) ∧ (∃ A, s_.2.2 = .slice A 2 2 ∧ Kd.C (Kd.int .i64) w' A 2 [3, 5])) ?_ ?_
       rotate_left
       ·intro hgo
        refine two_ (i := 15) (j := 17) (Ni := some 36) (Nj := some 38) (bs82 65535) (bs82 163839) rfl rfl rfl rfl (by kernel_rfl) (by decide) (by decide) (fun K hK => ?_) (fun K hK => ?_)
        ·skip
         refine value_ (w1 := ?_) (v := ?_) (by rfl) rfl ?_ ?_
         rotate_left 2
         ·go_simp
          constructor
          ·rfl
          ·rfl
         have q1 := (C_of_blk (d := Kd.int .i64) (xs := [1]) (inner := [.int .i64 1]) (t := 3) (blk_new wn _) (by exact Reps.one rfl (Reps.none _ _)) (by decide))
         refine hK.out _ _ (below_alloc hS _) (fun hS1 => ?_)
         clear hK K
         refine norm_ (a' := ?_) ?_ ?_
         rotate_left
         ·show Act.put _ (some 36) _ = _
          simp only [Act.put, List.setIfInBounds_toArray, List.set_cons_zero, List.set_cons_succ, i64_w, i32_w]
          rfl
         generalize hwa : wn.alloc _ = wa at hS1 q1 ⊢
         refine two_ (i := 16) (j := 17) (Ni := some 37) (Nj := some 38) (bs82 131071) (bs82 196607) rfl rfl rfl rfl (by kernel_rfl) (by decide) (by decide) (fun K hK => ?_) (fun K hK => ?_)
         ·skip
          refine goes_ (f := 23) Try.func23 (by kernel_rfl) rfl #[.slice (some ⟨gl, 0, none⟩) 2 co18, .int .i64 20, .slice (some ⟨wn.heap.size, 0, none⟩) 1 1] (by rfl) rfl rfl (by (try simp only [List.map_toArray, List.map_cons, List.map_nil]); first | done | rfl) ?_
          refine (product_For.calls 40 (some ⟨gl, 0, none⟩) co18 twoL 20 (some ⟨wn.heap.size, 0, none⟩) 1 [1] [3, 5] _ (Kd.C_below CL hS1) lcl q1 (Nat.le_refl 1) for_v1).mono ?_
          rintro e wm ⟨v, rfl, hv, hd⟩
          obtain ⟨A37, c37, rfl⟩ := Kd.R_slice hv
          have hv2 := (Kd.R_reads' hv).2
          refine ⟨_, rfl, ?_⟩
          have hS2 := below_step hS1 hd
          refine hK.out _ _ hS2 (fun _ => ?_)
          clear hK K
          refine norm_ (a' := ?_) ?_ ?_
          rotate_left
          ·show Act.put _ (some 37) _ = _
           simp only [Act.put, List.setIfInBounds_toArray, List.set_cons_zero, List.set_cons_succ, i64_w, i32_w]
           rfl
          refine one_ (i := 17) (N := some 38) (bs82 262143) rfl rfl (by kernel_rfl) (by decide) (fun K hK => ?_)
          refine value_ (w1 := ?_) (v := ?_) (by rfl) rfl ?_ ?_
          rotate_left 2
          ·go_simp
           constructor
           ·rfl
           ·rfl
          have q3 := (C_of_blk (d := Kd.int .i64) (xs := [3, 5]) (inner := [.int .i64 3, .int .i64 5]) (t := 3) (blk_new wm _) (by exact Reps.one rfl (Reps.one rfl (Reps.none _ _))) (by decide))
          refine hK.out _ _ (below_alloc hS2 _) (fun _ => ?_)
          clear hK K
          refine norm_ ?_ (hgo (.slice (some ⟨wn.heap.size, 0, none⟩) 1 1, .slice A37 2 c37, .slice (some ⟨wm.heap.size, 0, none⟩) 2 2) _ ⟨below_alloc hS2 _, ⟨_, _, rfl⟩, ⟨_, _, rfl, hv2.1, Kd.C_alloc hv2.2 _⟩, ⟨_, rfl, q3⟩⟩)
          simp only [putAll, Act.put, List.setIfInBounds_toArray, List.set_cons_zero, List.set_cons_succ]
          try rfl
         ·skip
          refine value_ (w1 := ?_) (v := ?_) (by rfl) rfl ?_ ?_
          rotate_left 2
          ·go_simp
           constructor
           ·rfl
           ·rfl
          have q3 := (C_of_blk (d := Kd.int .i64) (xs := [3, 5]) (inner := [.int .i64 3, .int .i64 5]) (t := 3) (blk_new wa _) (by exact Reps.one rfl (Reps.one rfl (Reps.none _ _))) (by decide))
          refine hK.out _ _ (below_alloc hS1 _) (fun _ => ?_)
          clear hK K
          refine norm_ (a' := ?_) ?_ ?_
          rotate_left
          ·show Act.put _ (some 38) _ = _
           simp only [Act.put, List.setIfInBounds_toArray, List.set_cons_zero, List.set_cons_succ, i64_w, i32_w]
           rfl
          have q1b := Kd.C_alloc q1 (.cells #[.int .i64 3, .int .i64 5] 3)
          have hS1b := below_alloc hS1 (.cells #[.int .i64 3, .int .i64 5] 3)
          generalize hwb : wa.alloc _ = wb at q3 q1b hS1b ⊢
          refine one_ (i := 16) (N := some 37) (bs82 262143) rfl rfl (by kernel_rfl) (by decide) (fun K hK => ?_)
          refine goes_ (f := 23) Try.func23 (by kernel_rfl) rfl #[.slice (some ⟨gl, 0, none⟩) 2 co18, .int .i64 20, .slice (some ⟨wn.heap.size, 0, none⟩) 1 1] (by rfl) rfl rfl (by (try simp only [List.map_toArray, List.map_cons, List.map_nil]); first | done | rfl) ?_
          refine (product_For.calls 40 (some ⟨gl, 0, none⟩) co18 twoL 20 (some ⟨wn.heap.size, 0, none⟩) 1 [1] [3, 5] _ (Kd.C_below CL hS1b) lcl q1b (Nat.le_refl 1) for_v1).mono ?_
          rintro e wm ⟨v, rfl, hv, hd⟩
          obtain ⟨A37, c37, rfl⟩ := Kd.R_slice hv
          have hv2 := (Kd.R_reads' hv).2
          refine ⟨_, rfl, ?_⟩
          have hS2 := below_step hS1b hd
          refine hK.out _ _ hS2 (fun _ => ?_)
          clear hK K
          refine norm_ ?_ (hgo (.slice (some ⟨wn.heap.size, 0, none⟩) 1 1, .slice A37 2 c37, .slice (some ⟨wa.heap.size, 0, none⟩) 2 2) _ ⟨hS2, ⟨_, _, rfl⟩, ⟨_, _, rfl, hv2.1, hv2.2⟩, ⟨_, rfl, Kd.C_below q3 hd⟩⟩)
          simp only [putAll, Act.put, List.setIfInBounds_toArray, List.set_cons_zero, List.set_cons_succ]
          try rfl
        ·skip
         refine value_ (w1 := ?_) (v := ?_) (by rfl) rfl ?_ ?_
         rotate_left 2
         ·go_simp
          constructor
          ·rfl
          ·rfl
         have q3 := (C_of_blk (d := Kd.int .i64) (xs := [3, 5]) (inner := [.int .i64 3, .int .i64 5]) (t := 3) (blk_new wn _) (by exact Reps.one rfl (Reps.one rfl (Reps.none _ _))) (by decide))
         refine hK.out _ _ (below_alloc hS _) (fun hS1 => ?_)
         clear hK K
         refine norm_ (a' := ?_) ?_ ?_
         rotate_left
         ·show Act.put _ (some 38) _ = _
          simp only [Act.put, List.setIfInBounds_toArray, List.set_cons_zero, List.set_cons_succ, i64_w, i32_w]
          rfl
         generalize hwa : wn.alloc _ = wa at hS1 q3 ⊢
         refine one_ (i := 15) (N := some 36) (bs82 196607) rfl rfl (by kernel_rfl) (by decide) (fun K hK => ?_)
         refine value_ (w1 := ?_) (v := ?_) (by rfl) rfl ?_ ?_
         rotate_left 2
         ·go_simp
          constructor
          ·rfl
          ·rfl
         have q1 := (C_of_blk (d := Kd.int .i64) (xs := [1]) (inner := [.int .i64 1]) (t := 3) (blk_new wa _) (by exact Reps.one rfl (Reps.none _ _)) (by decide))
         refine hK.out _ _ (below_alloc hS1 _) (fun hS1b => ?_)
         clear hK K
         refine norm_ (a' := ?_) ?_ ?_
         rotate_left
         ·show Act.put _ (some 36) _ = _
          simp only [Act.put, List.setIfInBounds_toArray, List.set_cons_zero, List.set_cons_succ, i64_w, i32_w]
          rfl
         have q3b := Kd.C_alloc q3 (.cells #[.int .i64 1] 3)
         generalize hwb : wa.alloc _ = wb at hS1b q1 q3b ⊢
         refine one_ (i := 16) (N := some 37) (bs82 262143) rfl rfl (by kernel_rfl) (by decide) (fun K hK => ?_)
         refine goes_ (f := 23) Try.func23 (by kernel_rfl) rfl #[.slice (some ⟨gl, 0, none⟩) 2 co18, .int .i64 20, .slice (some ⟨wa.heap.size, 0, none⟩) 1 1] (by rfl) rfl rfl (by (try simp only [List.map_toArray, List.map_cons, List.map_nil]); first | done | rfl) ?_
         refine (product_For.calls 40 (some ⟨gl, 0, none⟩) co18 twoL 20 (some ⟨wa.heap.size, 0, none⟩) 1 [1] [3, 5] _ (Kd.C_below CL hS1b) lcl q1 (Nat.le_refl 1) for_v1).mono ?_
         rintro e wm ⟨v, rfl, hv, hd⟩
         obtain ⟨A37, c37, rfl⟩ := Kd.R_slice hv
         have hv2 := (Kd.R_reads' hv).2
         refine ⟨_, rfl, ?_⟩
         have hS2 := below_step hS1b hd
         refine hK.out _ _ hS2 (fun _ => ?_)
         clear hK K
         refine norm_ ?_ (hgo (.slice (some ⟨wa.heap.size, 0, none⟩) 1 1, .slice A37 2 c37, .slice (some ⟨wn.heap.size, 0, none⟩) 2 2) _ ⟨hS2, ⟨_, _, rfl⟩, ⟨_, _, rfl, hv2.1, hv2.2⟩, ⟨_, rfl, Kd.C_below q3b hd⟩⟩)
         simp only [putAll, Act.put, List.setIfInBounds_toArray, List.set_cons_zero, List.set_cons_succ]
         try rfl
       rintro ⟨_, _, _⟩ wj ⟨hSj, ⟨A36, c36, rfl⟩, ⟨A37, c37, rfl, lc37, C37⟩, ⟨A38, rfl, C38⟩⟩
       clear hS
       refine norm_ (a' := ?_) ?_ ?_
       rotate_left
       ·simp only [putAll, Act.put, List.setIfInBounds_toArray, List.set_cons_zero, List.set_cons_succ]
        rfl
       have hS := hSj
       clear hSj
       as_aux_lemma =>
        refine one_ (i := 18) (N := some 39) (bs82 524287) rfl rfl (by kernel_rfl) (by decide) (fun K hK => ?_)
        refine goes_ (f := 24) Try.func24 (by kernel_rfl) rfl #[.slice A37 2 c37, .slice A38 2 2] (by rfl) rfl rfl (by (try simp only [List.map_toArray, List.map_cons, List.map_nil]); first | done | rfl) ?_
        refine (skiarearef22_SameInts.calls 40 A37 c37 [3, 5] A38 2 [3, 5] true _ C37 lc37 C38 (Nat.le_refl 2) si_v1).mono ?_
        rintro e wn ⟨rfl, hd⟩
        refine ⟨_, rfl, ?_⟩
        have hS2 := below_step hS hd.below
        refine hK.out _ _ hS2 (fun _ => ?_)
        clear hK K
        refine norm_ (a' := ?_) ?_ ?_
        rotate_left
        ·show Act.put _ (some 39) _ = _
         simp only [Act.put, List.setIfInBounds_toArray, List.set_cons_zero, List.set_cons_succ, i64_w, i32_w]
         rfl
        replace hS := hS2
        clear hS2 hd
        refine pure_ (i := 19) (N := some 40) (v := ?_) (a' := ?_) (bs82 1048575) rfl rfl (by kernel_rfl) (fun _ _ _ h => h) (Or.inl ⟨by rfl, ?_⟩) ?_ ?_
        rotate_left
        ·intro w'
         go_simp
         with_reducible rfl
        rotate_left
        ·simp only [Act.put, List.setIfInBounds_toArray, List.set_cons_zero, List.set_cons_succ, i64_w, i32_w]
         rfl
        refine pure_ (i := 20) (N := some 41) (v := ?_) (a' := ?_) (bs82 2097151) rfl rfl (by kernel_rfl) (fun _ _ _ h => h) (Or.inl ⟨by rfl, ?_⟩) ?_ ?_
        rotate_left
        ·intro w'
         go_simp
         with_reducible rfl
        rotate_left
        ·simp only [Act.put, List.setIfInBounds_toArray, List.set_cons_zero, List.set_cons_succ, i64_w, i32_w]
         rfl
        refine pure_ (i := 21) (N := some 42) (v := ?_) (a' := ?_) (bs82 4194303) rfl rfl (by kernel_rfl) (fun _ _ _ h => h) (Or.inl ⟨by rfl, ?_⟩) ?_ ?_
        rotate_left
        ·intro w'
         go_simp
         with_reducible rfl
        rotate_left
        ·simp only [Act.put, List.setIfInBounds_toArray, List.set_cons_zero, List.set_cons_succ, i64_w, i32_w]
         rfl
        as_aux_lemma =>
         refine join_ (σ := Value × Value × Value) 57 (bs82 33554431) (fun s_ => [(43, s_.1), (44, s_.2.1), (45, s_.2.2)]) (fun s_ w' => Below wz.heap.size wz w' ∧ (∃ A c, s_.1 = .slice A 2 c) ∧ (∃ A c, s_.2.1 = .slice A 1 c ∧ 1 ≤ c ∧ Kd.C (Kd.int .i64) w' A 1 [3]) ∧ (∃ A, s_.2.2 = .slice A 1 1 ∧ Kd.C (Kd.int .i64) w' A 1 [3])) ?_ ?_
         rotate_left
         ·intro hgo
          refine two_ (i := 22) (j := 24) (Ni := some 43) (Nj := some 45) (bs82 8388607) (bs82 20971519) rfl rfl rfl rfl (by kernel_rfl) (by decide) (by decide) (fun K hK => ?_) (fun K hK => ?_)
          ·skip
           refine value_ (w1 := ?_) (v := ?_) (by rfl) rfl ?_ ?_
           rotate_left 2
           ·go_simp
            constructor
            ·rfl
            ·rfl
           have q1 := (C_of_blk (d := Kd.int .i64) (xs := [4, 1]) (inner := [.int .i64 4, .int .i64 1]) (t := 3) (blk_new wn _) (by exact Reps.one rfl (Reps.one rfl (Reps.none _ _))) (by decide))
           refine hK.out _ _ (below_alloc hS _) (fun hS1 => ?_)
           clear hK K
           refine norm_ (a' := ?_) ?_ ?_
           rotate_left
           ·show Act.put _ (some 43) _ = _
            simp only [Act.put, List.setIfInBounds_toArray, List.set_cons_zero, List.set_cons_succ, i64_w, i32_w]
            rfl
           generalize hwa : wn.alloc _ = wa at hS1 q1 ⊢
           refine two_ (i := 23) (j := 24) (Ni := some 44) (Nj := some 45) (bs82 16777215) (bs82 25165823) rfl rfl rfl rfl (by kernel_rfl) (by decide) (by decide) (fun K hK => ?_) (fun K hK => ?_)
           ·skip
            refine goes_ (f := 23) Try.func23 (by kernel_rfl) rfl #[.slice (some ⟨gl, 0, none⟩) 2 co18, .int .i64 20, .slice (some ⟨wn.heap.size, 0, none⟩) 2 2] (by rfl) rfl rfl (by (try simp only [List.map_toArray, List.map_cons, List.map_nil]); first | done | rfl) ?_
            refine (product_For.calls 40 (some ⟨gl, 0, none⟩) co18 twoL 20 (some ⟨wn.heap.size, 0, none⟩) 2 [4, 1] [3] _ (Kd.C_below CL hS1) lcl q1 (Nat.le_refl 2) for_v2).mono ?_
            rintro e wm ⟨v, rfl, hv, hd⟩
            obtain ⟨A37, c37, rfl⟩ := Kd.R_slice hv
            have hv2 := (Kd.R_reads' hv).2
            refine ⟨_, rfl, ?_⟩
            have hS2 := below_step hS1 hd
            refine hK.out _ _ hS2 (fun _ => ?_)
            clear hK K
            refine norm_ (a' := ?_) ?_ ?_
            rotate_left
            ·show Act.put _ (some 44) _ = _
             simp only [Act.put, List.setIfInBounds_toArray, List.set_cons_zero, List.set_cons_succ, i64_w, i32_w]
             rfl
            refine one_ (i := 24) (N := some 45) (bs82 33554431) rfl rfl (by kernel_rfl) (by decide) (fun K hK => ?_)
            refine value_ (w1 := ?_) (v := ?_) (by rfl) rfl ?_ ?_
            rotate_left 2
            ·go_simp
             constructor
             ·rfl
             ·rfl
            have q3 := (C_of_blk (d := Kd.int .i64) (xs := [3]) (inner := [.int .i64 3]) (t := 3) (blk_new wm _) (by exact Reps.one rfl (Reps.none _ _)) (by decide))
            refine hK.out _ _ (below_alloc hS2 _) (fun _ => ?_)
            clear hK K
            refine norm_ ?_ (hgo (.slice (some ⟨wn.heap.size, 0, none⟩) 2 2, .slice A37 1 c37, .slice (some ⟨wm.heap.size, 0, none⟩) 1 1) _ ⟨below_alloc hS2 _, ⟨_, _, rfl⟩, ⟨_, _, rfl, hv2.1, Kd.C_alloc hv2.2 _⟩, ⟨_, rfl, q3⟩⟩)
            simp only [putAll, Act.put, List.setIfInBounds_toArray, List.set_cons_zero, List.set_cons_succ]
            try rfl
           ·skip
            refine value_ (w1 := ?_) (v := ?_) (by rfl) rfl ?_ ?_
            rotate_left 2
            ·go_simp
             constructor
             ·rfl
             ·rfl
            have q3 := (C_of_blk (d := Kd.int .i64) (xs := [3]) (inner := [.int .i64 3]) (t := 3) (blk_new wa _) (by exact Reps.one rfl (Reps.none _ _)) (by decide))
            refine hK.out _ _ (below_alloc hS1 _) (fun _ => ?_)
            clear hK K
            refine norm_ (a' := ?_) ?_ ?_
            rotate_left
            ·show Act.put _ (some 45) _ = _
             simp only [Act.put, List.setIfInBounds_toArray, List.set_cons_zero, List.set_cons_succ, i64_w, i32_w]
             rfl
            have q1b := Kd.C_alloc q1 (.cells #[.int .i64 3] 3)
            have hS1b := below_alloc hS1 (.cells #[.int .i64 3] 3)
            generalize hwb : wa.alloc _ = wb at q3 q1b hS1b ⊢
            refine one_ (i := 23) (N := some 44) (bs82 33554431) rfl rfl (by kernel_rfl) (by decide) (fun K hK => ?_)
            refine goes_ (f := 23) Try.func23 (by kernel_rfl) rfl #[.slice (some ⟨gl, 0, none⟩) 2 co18, .int .i64 20, .slice (some ⟨wn.heap.size, 0, none⟩) 2 2] (by rfl) rfl rfl (by (try simp only [List.map_toArray, List.map_cons, List.map_nil]); first | done | rfl) ?_
            refine (product_For.calls 40 (some ⟨gl, 0, none⟩) co18 twoL 20 (some ⟨wn.heap.size, 0, none⟩) 2 [4, 1] [3] _ (Kd.C_below CL hS1b) lcl q1b (Nat.le_refl 2) for_v2).mono ?_
            rintro e wm ⟨v, rfl, hv, hd⟩
            obtain ⟨A37, c37, rfl⟩ := Kd.R_slice hv
            have hv2 := (Kd.R_reads' hv).2
            refine ⟨_, rfl, ?_⟩
            have hS2 := below_step hS1b hd
            refine hK.out _ _ hS2 (fun _ => ?_)
            clear hK K
            refine norm_ ?_ (hgo (.slice (some ⟨wn.heap.size, 0, none⟩) 2 2, .slice A37 1 c37, .slice (some ⟨wa.heap.size, 0, none⟩) 1 1) _ ⟨hS2, ⟨_, _, rfl⟩, ⟨_, _, rfl, hv2.1, hv2.2⟩, ⟨_, rfl, Kd.C_below q3 hd⟩⟩)
            simp only [putAll, Act.put, List.setIfInBounds_toArray, List.set_cons_zero, List.set_cons_succ]
            try rfl
          ·skip
           refine value_ (w1 := ?_) (v := ?_) (by rfl) rfl ?_ ?_
           rotate_left 2
           ·go_simp
            constructor
            ·rfl
            ·rfl
           have q3 := (C_of_blk (d := Kd.int .i64) (xs := [3]) (inner := [.int .i64 3]) (t := 3) (blk_new wn _) (by exact Reps.one rfl (Reps.none _ _)) (by decide))
           refine hK.out _ _ (below_alloc hS _) (fun hS1 => ?_)
           clear hK K
           refine norm_ (a' := ?_) ?_ ?_
           rotate_left
           ·show Act.put _ (some 45) _ = _
            simp only [Act.put, List.setIfInBounds_toArray, List.set_cons_zero, List.set_cons_succ, i64_w, i32_w]
            rfl
           generalize hwa : wn.alloc _ = wa at hS1 q3 ⊢
           refine one_ (i := 22) (N := some 43) (bs82 25165823) rfl rfl (by kernel_rfl) (by decide) (fun K hK => ?_)
           refine value_ (w1 := ?_) (v := ?_) (by rfl) rfl ?_ ?_
           rotate_left 2
           ·go_simp
            constructor
            ·rfl
            ·rfl
           have q1 := (C_of_blk (d := Kd.int .i64) (xs := [4, 1]) (inner := [.int .i64 4, .int .i64 1]) (t := 3) (blk_new wa _) (by exact Reps.one rfl (Reps.one rfl (Reps.none _ _))) (by decide))
           refine hK.out _ _ (below_alloc hS1 _) (fun hS1b => ?_)
           clear hK K
           refine norm_ (a' := ?_) ?_ ?_
           rotate_left
           ·show Act.put _ (some 43) _ = _
            simp only [Act.put, List.setIfInBounds_toArray, List.set_cons_zero, List.set_cons_succ, i64_w, i32_w]
            rfl
           have q3b := Kd.C_alloc q3 (.cells #[.int .i64 4, .int .i64 1] 3)
           generalize hwb : wa.alloc _ = wb at hS1b q1 q3b ⊢
           refine one_ (i := 23) (N := some 44) (bs82 33554431) rfl rfl (by kernel_rfl) (by decide) (fun K hK => ?_)
           refine goes_ (f := 23) Try.func23 (by kernel_rfl) rfl #[.slice (some ⟨gl, 0, none⟩) 2 co18, .int .i64 20, .slice (some ⟨wa.heap.size, 0, none⟩) 2 2] (by rfl) rfl rfl (by (try simp only [List.map_toArray, List.map_cons, List.map_nil]); first | done | rfl) ?_
           refine (product_For.calls 40 (some ⟨gl, 0, none⟩) co18 twoL 20 (some ⟨wa.heap.size, 0, none⟩) 2 [4, 1] [3] _ (Kd.C_below CL hS1b) lcl q1 (Nat.le_refl 2) for_v2).mono ?_
           rintro e wm ⟨v, rfl, hv, hd⟩
           obtain ⟨A37, c37, rfl⟩ := Kd.R_slice hv
           have hv2 := (Kd.R_reads' hv).2
           refine ⟨_, rfl, ?_⟩
           have hS2 := below_step hS1b hd
           refine hK.out _ _ hS2 (fun _ => ?_)
           clear hK K
           refine norm_ ?_ (hgo (.slice (some ⟨wa.heap.size, 0, none⟩) 2 2, .slice A37 1 c37, .slice (some ⟨wn.heap.size, 0, none⟩) 1 1) _ ⟨hS2, ⟨_, _, rfl⟩, ⟨_, _, rfl, hv2.1, hv2.2⟩, ⟨_, rfl, Kd.C_below q3b hd⟩⟩)
           simp only [putAll, Act.put, List.setIfInBounds_toArray, List.set_cons_zero, List.set_cons_succ]
           try rfl
         rintro ⟨_, _, _⟩ wj ⟨hSj, ⟨A36, c36, rfl⟩, ⟨A37, c37, rfl, lc37, C37⟩, ⟨A38, rfl, C38⟩⟩
         clear hS
         refine norm_ (a' := ?_) ?_ ?_
         rotate_left
         ·simp only [putAll, Act.put, List.setIfInBounds_toArray, List.set_cons_zero, List.set_cons_succ]
          rfl
         have hS := hSj
         clear hSj
         as_aux_lemma =>
          refine one_ (i := 25) (N := some 46) (bs82 67108863) rfl rfl (by kernel_rfl) (by decide) (fun K hK => ?_)
          refine goes_ (f := 24) Try.func24 (by kernel_rfl) rfl #[.slice A37 1 c37, .slice A38 1 1] (by rfl) rfl rfl (by (try simp only [List.map_toArray, List.map_cons, List.map_nil]); first | done | rfl) ?_
          refine (skiarearef22_SameInts.calls 40 A37 c37 [3] A38 1 [3] true _ C37 lc37 C38 (Nat.le_refl 1) si_v2).mono ?_
          rintro e wn ⟨rfl, hd⟩
          refine ⟨_, rfl, ?_⟩
          have hS2 := below_step hS hd.below
          refine hK.out _ _ hS2 (fun _ => ?_)
          clear hK K
          refine norm_ (a' := ?_) ?_ ?_
          rotate_left
          ·show Act.put _ (some 46) _ = _
           simp only [Act.put, List.setIfInBounds_toArray, List.set_cons_zero, List.set_cons_succ, i64_w, i32_w]
           rfl
          replace hS := hS2
          clear hS2 hd
          refine pure_ (i := 26) (N := some 47) (v := ?_) (a' := ?_) (bs82 134217727) rfl rfl (by kernel_rfl) (fun _ _ _ h => h) (Or.inl ⟨by rfl, ?_⟩) ?_ ?_
          rotate_left
          ·intro w'
           go_simp
           with_reducible rfl
          rotate_left
          ·simp only [Act.put, List.setIfInBounds_toArray, List.set_cons_zero, List.set_cons_succ, i64_w, i32_w]
           rfl
          refine pure_ (i := 27) (N := some 48) (v := ?_) (a' := ?_) (bs82 268435455) rfl rfl (by kernel_rfl) (fun _ _ _ h => h) (Or.inl ⟨by rfl, ?_⟩) ?_ ?_
          rotate_left
          ·intro w'
           go_simp
           with_reducible rfl
          rotate_left
          ·simp only [Act.put, List.setIfInBounds_toArray, List.set_cons_zero, List.set_cons_succ, i64_w, i32_w]
           rfl
          refine pure_ (i := 28) (N := some 49) (v := ?_) (a' := ?_) (bs82 536870911) rfl rfl (by kernel_rfl) (fun _ _ _ h => h) (Or.inl ⟨by rfl, ?_⟩) ?_ ?_
          rotate_left
          ·intro w'
           go_simp
           with_reducible rfl
          rotate_left
          ·simp only [Act.put, List.setIfInBounds_toArray, List.set_cons_zero, List.set_cons_succ, i64_w, i32_w]
           rfl
          as_aux_lemma =>
           refine join_ (σ := Value × Value × Value) 50 (bs82 4294967295) (fun s_ => [(50, s_.1), (51, s_.2.1), (52, s_.2.2)]) (fun s_ w' => Below wz.heap.size wz w' ∧ (∃ A c, s_.1 = .slice A 1 c) ∧ (∃ A c, s_.2.1 = .slice A 1 c ∧ 1 ≤ c ∧ Kd.C (Kd.int .i64) w' A 1 [5]) ∧ (∃ A, s_.2.2 = .slice A 1 1 ∧ Kd.C (Kd.int .i64) w' A 1 [5])) ?_ ?_
           rotate_left
           ·intro hgo
            refine two_ (i := 29) (j := 31) (Ni := some 50) (Nj := some 52) (bs82 1073741823) (bs82 2684354559) rfl rfl rfl rfl (by kernel_rfl) (by decide) (by decide) (fun K hK => ?_) (fun K hK => ?_)
            ·skip
             refine value_ (w1 := ?_) (v := ?_) (by rfl) rfl ?_ ?_
             rotate_left 2
             ·go_simp
              constructor
              ·rfl
              ·rfl
             have q1 := (C_of_blk (d := Kd.int .i64) (xs := [1]) (inner := [.int .i64 1]) (t := 3) (blk_new wn _) (by exact Reps.one rfl (Reps.none _ _)) (by decide))
             refine hK.out _ _ (below_alloc hS _) (fun hS1 => ?_)
             clear hK K
             refine norm_ (a' := ?_) ?_ ?_
             rotate_left
             ·show Act.put _ (some 50) _ = _
              simp only [Act.put, List.setIfInBounds_toArray, List.set_cons_zero, List.set_cons_succ, i64_w, i32_w]
              rfl
             generalize hwa : wn.alloc _ = wa at hS1 q1 ⊢
             refine two_ (i := 30) (j := 31) (Ni := some 51) (Nj := some 52) (bs82 2147483647) (bs82 3221225471) rfl rfl rfl rfl (by kernel_rfl) (by decide) (by decide) (fun K hK => ?_) (fun K hK => ?_)
             ·skip
              refine goes_ (f := 23) Try.func23 (by kernel_rfl) rfl #[.slice (some ⟨gl, 0, none⟩) 2 co18, .int .i64 10, .slice (some ⟨wn.heap.size, 0, none⟩) 1 1] (by rfl) rfl rfl (by (try simp only [List.map_toArray, List.map_cons, List.map_nil]); first | done | rfl) ?_
              refine (product_For.calls 40 (some ⟨gl, 0, none⟩) co18 twoL 10 (some ⟨wn.heap.size, 0, none⟩) 1 [1] [5] _ (Kd.C_below CL hS1) lcl q1 (Nat.le_refl 1) for_v3).mono ?_
              rintro e wm ⟨v, rfl, hv, hd⟩
              obtain ⟨A37, c37, rfl⟩ := Kd.R_slice hv
              have hv2 := (Kd.R_reads' hv).2
              refine ⟨_, rfl, ?_⟩
              have hS2 := below_step hS1 hd
              refine hK.out _ _ hS2 (fun _ => ?_)
              clear hK K
              refine norm_ (a' := ?_) ?_ ?_
              rotate_left
              ·show Act.put _ (some 51) _ = _
               simp only [Act.put, List.setIfInBounds_toArray, List.set_cons_zero, List.set_cons_succ, i64_w, i32_w]
               rfl
              refine one_ (i := 31) (N := some 52) (bs82 4294967295) rfl rfl (by kernel_rfl) (by decide) (fun K hK => ?_)
              refine value_ (w1 := ?_) (v := ?_) (by rfl) rfl ?_ ?_
              rotate_left 2
              ·go_simp
               constructor
               ·rfl
               ·rfl
              have q3 := (C_of_blk (d := Kd.int .i64) (xs := [5]) (inner := [.int .i64 5]) (t := 3) (blk_new wm _) (by exact Reps.one rfl (Reps.none _ _)) (by decide))
              refine hK.out _ _ (below_alloc hS2 _) (fun _ => ?_)
              clear hK K
              refine norm_ ?_ (hgo (.slice (some ⟨wn.heap.size, 0, none⟩) 1 1, .slice A37 1 c37, .slice (some ⟨wm.heap.size, 0, none⟩) 1 1) _ ⟨below_alloc hS2 _, ⟨_, _, rfl⟩, ⟨_, _, rfl, hv2.1, Kd.C_alloc hv2.2 _⟩, ⟨_, rfl, q3⟩⟩)
              simp only [putAll, Act.put, List.setIfInBounds_toArray, List.set_cons_zero, List.set_cons_succ]
              try rfl
             ·skip
              refine value_ (w1 := ?_) (v := ?_) (by rfl) rfl ?_ ?_
              rotate_left 2
              ·go_simp
               constructor
               ·rfl
               ·rfl
              have q3 := (C_of_blk (d := Kd.int .i64) (xs := [5]) (inner := [.int .i64 5]) (t := 3) (blk_new wa _) (by exact Reps.one rfl (Reps.none _ _)) (by decide))
              refine hK.out _ _ (below_alloc hS1 _) (fun _ => ?_)
              clear hK K
              refine norm_ (a' := ?_) ?_ ?_
              rotate_left
              ·show Act.put _ (some 52) _ = _
               simp only [Act.put, List.setIfInBounds_toArray, List.set_cons_zero, List.set_cons_succ, i64_w, i32_w]
               rfl
              have q1b := Kd.C_alloc q1 (.cells #[.int .i64 5] 3)
              have hS1b := below_alloc hS1 (.cells #[.int .i64 5] 3)
              generalize hwb : wa.alloc _ = wb at q3 q1b hS1b ⊢
              refine one_ (i := 30) (N := some 51) (bs82 4294967295) rfl rfl (by kernel_rfl) (by decide) (fun K hK => ?_)
              refine goes_ (f := 23) Try.func23 (by kernel_rfl) rfl #[.slice (some ⟨gl, 0, none⟩) 2 co18, .int .i64 10, .slice (some ⟨wn.heap.size, 0, none⟩) 1 1] (by rfl) rfl rfl (by (try simp only [List.map_toArray, List.map_cons, List.map_nil]); first | done | rfl) ?_
              refine (product_For.calls 40 (some ⟨gl, 0, none⟩) co18 twoL 10 (some ⟨wn.heap.size, 0, none⟩) 1 [1] [5] _ (Kd.C_below CL hS1b) lcl q1b (Nat.le_refl 1) for_v3).mono ?_
              rintro e wm ⟨v, rfl, hv, hd⟩
              obtain ⟨A37, c37, rfl⟩ := Kd.R_slice hv
              have hv2 := (Kd.R_reads' hv).2
              refine ⟨_, rfl, ?_⟩
              have hS2 := below_step hS1b hd
              refine hK.out _ _ hS2 (fun _ => ?_)
              clear hK K
              refine norm_ ?_ (hgo (.slice (some ⟨wn.heap.size, 0, none⟩) 1 1, .slice A37 1 c37, .slice (some ⟨wa.heap.size, 0, none⟩) 1 1) _ ⟨hS2, ⟨_, _, rfl⟩, ⟨_, _, rfl, hv2.1, hv2.2⟩, ⟨_, rfl, Kd.C_below q3 hd⟩⟩)
              simp only [putAll, Act.put, List.setIfInBounds_toArray, List.set_cons_zero, List.set_cons_succ]
              try rfl
            ·skip
             refine value_ (w1 := ?_) (v := ?_) (by rfl) rfl ?_ ?_
             rotate_left 2
             ·go_simp
              constructor
              ·rfl
              ·rfl
             have q3 := (C_of_blk (d := Kd.int .i64) (xs := [5]) (inner := [.int .i64 5]) (t := 3) (blk_new wn _) (by exact Reps.one rfl (Reps.none _ _)) (by decide))
             refine hK.out _ _ (below_alloc hS _) (fun hS1 => ?_)
             clear hK K
             refine norm_ (a' := ?_) ?_ ?_
             rotate_left
             ·show Act.put _ (some 52) _ = _
              simp only [Act.put, List.setIfInBounds_toArray, List.set_cons_zero, List.set_cons_succ, i64_w, i32_w]
              rfl
             generalize hwa : wn.alloc _ = wa at hS1 q3 ⊢
             refine one_ (i := 29) (N := some 50) (bs82 3221225471) rfl rfl (by kernel_rfl) (by decide) (fun K hK => ?_)
             refine value_ (w1 := ?_) (v := ?_) (by rfl) rfl ?_ ?_
             rotate_left 2
             ·go_simp
              constructor
              ·rfl
              ·rfl
             have q1 := (C_of_blk (d := Kd.int .i64) (xs := [1]) (inner := [.int .i64 1]) (t := 3) (blk_new wa _) (by exact Reps.one rfl (Reps.none _ _)) (by decide))
             refine hK.out _ _ (below_alloc hS1 _) (fun hS1b => ?_)
             clear hK K
             refine norm_ (a' := ?_) ?_ ?_
             rotate_left
             ·show Act.put _ (some 50) _ = _
              simp only [Act.put, List.setIfInBounds_toArray, List.set_cons_zero, List.set_cons_succ, i64_w, i32_w]
              rfl
             have q3b := Kd.C_alloc q3 (.cells #[.int .i64 1] 3)
             generalize hwb : wa.alloc _ = wb at hS1b q1 q3b ⊢
             refine one_ (i := 30) (N := some 51) (bs82 4294967295) rfl rfl (by kernel_rfl) (by decide) (fun K hK => ?_)
             refine goes_ (f := 23) Try.func23 (by kernel_rfl) rfl #[.slice (some ⟨gl, 0, none⟩) 2 co18, .int .i64 10, .slice (some ⟨wa.heap.size, 0, none⟩) 1 1] (by rfl) rfl rfl (by (try simp only [List.map_toArray, List.map_cons, List.map_nil]); first | done | rfl) ?_
             refine (product_For.calls 40 (some ⟨gl, 0, none⟩) co18 twoL 10 (some ⟨wa.heap.size, 0, none⟩) 1 [1] [5] _ (Kd.C_below CL hS1b) lcl q1 (Nat.le_refl 1) for_v3).mono ?_
             rintro e wm ⟨v, rfl, hv, hd⟩
             obtain ⟨A37, c37, rfl⟩ := Kd.R_slice hv
             have hv2 := (Kd.R_reads' hv).2
             refine ⟨_, rfl, ?_⟩
             have hS2 := below_step hS1b hd
             refine hK.out _ _ hS2 (fun _ => ?_)
             clear hK K
             refine norm_ ?_ (hgo (.slice (some ⟨wa.heap.size, 0, none⟩) 1 1, .slice A37 1 c37, .slice (some ⟨wn.heap.size, 0, none⟩) 1 1) _ ⟨hS2, ⟨_, _, rfl⟩, ⟨_, _, rfl, hv2.1, hv2.2⟩, ⟨_, rfl, Kd.C_below q3b hd⟩⟩)
             simp only [putAll, Act.put, List.setIfInBounds_toArray, List.set_cons_zero, List.set_cons_succ]
             try rfl
           rintro ⟨_, _, _⟩ wj ⟨hSj, ⟨A36, c36, rfl⟩, ⟨A37, c37, rfl, lc37, C37⟩, ⟨A38, rfl, C38⟩⟩
           clear hS
           refine norm_ (a' := ?_) ?_ ?_
           rotate_left
           ·simp only [putAll, Act.put, List.setIfInBounds_toArray, List.set_cons_zero, List.set_cons_succ]
            rfl
           have hS := hSj
           clear hSj
           as_aux_lemma =>
            refine one_ (i := 32) (N := some 53) (bs82 8589934591) rfl rfl (by kernel_rfl) (by decide) (fun K hK => ?_)
            refine goes_ (f := 24) Try.func24 (by kernel_rfl) rfl #[.slice A37 1 c37, .slice A38 1 1] (by rfl) rfl rfl (by (try simp only [List.map_toArray, List.map_cons, List.map_nil]); first | done | rfl) ?_
            refine (skiarearef22_SameInts.calls 40 A37 c37 [5] A38 1 [5] true _ C37 lc37 C38 (Nat.le_refl 1) si_v3).mono ?_
            rintro e wn ⟨rfl, hd⟩
            refine ⟨_, rfl, ?_⟩
            have hS2 := below_step hS hd.below
            refine hK.out _ _ hS2 (fun _ => ?_)
            clear hK K
            refine norm_ (a' := ?_) ?_ ?_
            rotate_left
            ·show Act.put _ (some 53) _ = _
             simp only [Act.put, List.setIfInBounds_toArray, List.set_cons_zero, List.set_cons_succ, i64_w, i32_w]
             rfl
            replace hS := hS2
            clear hS2 hd
            refine pure_ (i := 33) (N := some 54) (v := ?_) (a' := ?_) (bs82 17179869183) rfl rfl (by kernel_rfl) (fun _ _ _ h => h) (Or.inl ⟨by rfl, ?_⟩) ?_ ?_
            rotate_left
            ·intro w'
             go_simp
             with_reducible rfl
            rotate_left
            ·simp only [Act.put, List.setIfInBounds_toArray, List.set_cons_zero, List.set_cons_succ, i64_w, i32_w]
             rfl
            refine pure_ (i := 34) (N := some 55) (v := ?_) (a' := ?_) (bs82 34359738367) rfl rfl (by kernel_rfl) (fun _ _ _ h => h) (Or.inl ⟨by rfl, ?_⟩) ?_ ?_
            rotate_left
            ·intro w'
             go_simp
             with_reducible rfl
            rotate_left
            ·simp only [Act.put, List.setIfInBounds_toArray, List.set_cons_zero, List.set_cons_succ, i64_w, i32_w]
             rfl
            refine pure_ (i := 35) (N := some 56) (v := ?_) (a' := ?_) (bs82 68719476735) rfl rfl (by kernel_rfl) (fun _ _ _ h => h) (Or.inl ⟨by rfl, ?_⟩) ?_ ?_
            rotate_left
            ·intro w'
             go_simp
             with_reducible rfl
            rotate_left
            ·simp only [Act.put, List.setIfInBounds_toArray, List.set_cons_zero, List.set_cons_succ, i64_w, i32_w]
             rfl
            refine pure_ (i := 36) (N := some 57) (v := ?_) (a' := ?_) (bs82 137438953471) rfl rfl (by kernel_rfl) (fun _ _ _ h => h) (Or.inl ⟨by rfl, ?_⟩) ?_ ?_
            rotate_left
            ·intro w'
             go_simp
             with_reducible rfl
            rotate_left
            ·simp only [Act.put, List.setIfInBounds_toArray, List.set_cons_zero, List.set_cons_succ, i64_w, i32_w]
             rfl
            refine pure_ (i := 37) (N := some 58) (v := ?_) (a' := ?_) (bs82 274877906943) rfl rfl (by kernel_rfl) (fun _ _ _ h => h) (Or.inl ⟨by rfl, ?_⟩) ?_ ?_
            rotate_left
            ·intro w'
             go_simp
             with_reducible rfl
            rotate_left
            ·simp only [Act.put, List.setIfInBounds_toArray, List.set_cons_zero, List.set_cons_succ, i64_w, i32_w]
             rfl
            as_aux_lemma =>
             refine take_ (i := 38) (N := some 59) (v := ?_) (a' := ?_) (bs82 549755813887) rfl rfl (by kernel_rfl) (fun _ _ _ h => h) (Or.inl ⟨by rfl, ?_⟩) hS ?_ ?_
             rotate_left
             ·intro w' hS'
              have s0 := pw_cell_below hS' z0
              have s1 := pw_cell_below hS' z1
              have s2 := pw_cell_below hS' z2
              have s3 := pw_cell_below hS' z3
              have s4 := pw_cell_below hS' z4
              have s5 := pw_cell_below hS' z5
              have s6 := pw_cell_below hS' z6
              have s7 := pw_cell_below hS' z7
              have s8 := pw_cell_below hS' z8
              have s9 := pw_cell_below hS' z9
              go_simp
              with_reducible rfl
             rotate_left
             ·simp only [Act.put, List.setIfInBounds_toArray, List.set_cons_zero, List.set_cons_succ, i64_w, i32_w]
              rfl
             refine pure_ (i := 39) (N := some 60) (v := ?_) (a' := ?_) (bs82 1099511627775) rfl rfl (by kernel_rfl) (fun _ _ _ h => h) (Or.inl ⟨by rfl, ?_⟩) ?_ ?_
             rotate_left
             ·intro w'
              go_simp
              with_reducible rfl
             rotate_left
             ·simp only [Act.put, List.setIfInBounds_toArray, List.set_cons_zero, List.set_cons_succ, i64_w, i32_w]
              rfl
             refine pure_ (i := 40) (N := some 61) (v := ?_) (a' := ?_) (bs82 2199023255551) rfl rfl (by kernel_rfl) (fun _ _ _ h => h) (Or.inl ⟨by rfl, ?_⟩) ?_ ?_
             rotate_left
             ·intro w'
              go_simp
              with_reducible rfl
             rotate_left
             ·simp only [Act.put, List.setIfInBounds_toArray, List.set_cons_zero, List.set_cons_succ, i64_w, i32_w]
              rfl
             refine take_ (i := 41) (N := some 62) (v := ?_) (a' := ?_) (bs82 4398046511103) rfl rfl (by kernel_rfl) (fun _ _ _ h => h) (Or.inl ⟨by rfl, ?_⟩) hS ?_ ?_
             rotate_left
             ·intro w' hS'
              have s0 := pw_cell_below hS' x0
              have s1 := pw_cell_below hS' x1
              have s2 := pw_cell_below hS' x2
              have s3 := pw_cell_below hS' x3
              have s4 := pw_cell_below hS' x4
              have s5 := pw_cell_below hS' x5
              have s6 := pw_cell_below hS' x6
              have s7 := pw_cell_below hS' x7
              have s8 := pw_cell_below hS' x8
              have s9 := pw_cell_below hS' x9
              go_simp
              with_reducible rfl
             rotate_left
             ·simp only [Act.put, List.setIfInBounds_toArray, List.set_cons_zero, List.set_cons_succ, i64_w, i32_w]
              rfl
             as_aux_lemma =>
              refine one_ (i := 42) (N := some 63) (bs82 8796093022207) rfl rfl (by kernel_rfl) (by decide) (fun K hK => ?_)
              refine goes_ (f := 16) Try.func16 (by kernel_rfl) rfl #[.agg #[.int .i64 5, .int .i64 2, .int .i64 10, .int .i64 0, .int .i64 120, .slice Ao22 1 co22, .slice Ao23 1 co23, .int .i64 0, .int .i64 9000000, .int .i64 0], .agg #[.int .i64 5, .int .i64 2, .int .i64 10, .int .i64 0, .int .i64 120, .slice A5 1 c5, .slice A6 1 c6, .int .i64 0, .int .i64 9000000, .int .i64 0]] (by rfl) rfl rfl (by (try simp only [List.map_toArray, List.map_cons, List.map_nil]); first | done | rfl) ?_
              refine (skiarearef22_Same.calls 40 5 2 10 0 120 Ao22 co22 [1] Ao23 co23 ([⟨3, 28800, 61200⟩] : List S52) 0 9000000 0 5 2 10 0 120 A5 c5 [1] A6 c6 ([⟨3, 28800, 61200⟩] : List S52) 0 9000000 0 true _ (Kd.C_below CP5 hS) lp5 (Kd.C_below CP6 hS) lp6 (Kd.C_below g5 hS) l5 (Kd.C_below g6 hS) l6 same_v).mono ?_
              rintro e wn ⟨rfl, hd⟩
              refine ⟨_, rfl, ?_⟩
              have hS2 := below_step hS hd
              refine hK.out _ _ hS2 (fun _ => ?_)
              clear hK K
              refine norm_ (a' := ?_) ?_ ?_
              rotate_left
              ·show Act.put _ (some 63) _ = _
               simp only [Act.put, List.setIfInBounds_toArray, List.set_cons_zero, List.set_cons_succ, i64_w, i32_w]
               rfl
              replace hS := hS2
              clear hS2 hd
              refine pure_ (i := 43) (N := some 64) (v := ?_) (a' := ?_) (bs82 17592186044415) rfl rfl (by kernel_rfl) (fun _ _ _ h => h) (Or.inl ⟨by rfl, ?_⟩) ?_ ?_
              rotate_left
              ·intro w'
               go_simp
               with_reducible rfl
              rotate_left
              ·simp only [Act.put, List.setIfInBounds_toArray, List.set_cons_zero, List.set_cons_succ, i64_w, i32_w]
               rfl
              refine pure_ (i := 44) (N := some 65) (v := ?_) (a' := ?_) (bs82 35184372088831) rfl rfl (by kernel_rfl) (fun _ _ _ h => h) (Or.inl ⟨by rfl, ?_⟩) ?_ ?_
              rotate_left
              ·intro w'
               go_simp
               with_reducible rfl
              rotate_left
              ·simp only [Act.put, List.setIfInBounds_toArray, List.set_cons_zero, List.set_cons_succ, i64_w, i32_w]
               rfl
              refine take_ (i := 45) (N := some 66) (v := ?_) (a' := ?_) (bs82 70368744177663) rfl rfl (by kernel_rfl) (fun _ _ _ h => h) (Or.inl ⟨by rfl, ?_⟩) hS ?_ ?_
              rotate_left
              ·intro w' hS'
               have s0 := pw_cell_below hS' z0
               have s1 := pw_cell_below hS' z1
               have s2 := pw_cell_below hS' z2
               have s3 := pw_cell_below hS' z3
               have s4 := pw_cell_below hS' z4
               have s5 := pw_cell_below hS' z5
               have s6 := pw_cell_below hS' z6
               have s7 := pw_cell_below hS' z7
               have s8 := pw_cell_below hS' z8
               have s9 := pw_cell_below hS' z9
               go_simp
               with_reducible rfl
              rotate_left
              ·simp only [Act.put, List.setIfInBounds_toArray, List.set_cons_zero, List.set_cons_succ, i64_w, i32_w]
               rfl
              refine one_ (i := 46) (N := some 67) (bs82 140737488355327) rfl rfl (by kernel_rfl) (by decide) (fun K hK => ?_)
              refine goes_ (f := 21) Try.func21 (by kernel_rfl) rfl #[.agg #[.int .i64 5, .int .i64 2, .int .i64 10, .int .i64 0, .int .i64 120, .slice Ao22 1 co22, .slice Ao23 1 co23, .int .i64 0, .int .i64 9000000, .int .i64 0], .int .i64 28800] (by rfl) rfl rfl (by (try simp only [List.map_toArray, List.map_cons, List.map_nil]); first | done | rfl) ?_
              refine (product_Open.calls 40 5 2 10 0 120 Ao22 co22 [1] Ao23 co23 ([⟨3, 28800, 61200⟩] : List S52) 0 9000000 0 28800 true _ (Kd.C_below CP5 hS) lp5 (Kd.C_below CP6 hS) lp6 open_v1).mono ?_
              rintro e wn ⟨rfl, hd⟩
              refine ⟨_, rfl, ?_⟩
              have hS2 := below_step hS hd
              refine hK.out _ _ hS2 (fun _ => ?_)
              clear hK K
              refine norm_ (a' := ?_) ?_ ?_
              rotate_left
              ·show Act.put _ (some 67) _ = _
               simp only [Act.put, List.setIfInBounds_toArray, List.set_cons_zero, List.set_cons_succ, i64_w, i32_w]
               rfl
              replace hS := hS2
              clear hS2 hd
              refine pure_ (i := 47) (N := some 68) (v := ?_) (a' := ?_) (bs82 281474976710655) rfl rfl (by kernel_rfl) (fun _ _ _ h => h) (Or.inl ⟨by rfl, ?_⟩) ?_ ?_
              rotate_left
              ·intro w'
               go_simp
               with_reducible rfl
              rotate_left
              ·simp only [Act.put, List.setIfInBounds_toArray, List.set_cons_zero, List.set_cons_succ, i64_w, i32_w]
               rfl
              refine pure_ (i := 48) (N := some 69) (v := ?_) (a' := ?_) (bs82 562949953421311) rfl rfl (by kernel_rfl) (fun _ _ _ h => h) (Or.inl ⟨by rfl, ?_⟩) ?_ ?_
              rotate_left
              ·intro w'
               go_simp
               with_reducible rfl
              rotate_left
              ·simp only [Act.put, List.setIfInBounds_toArray, List.set_cons_zero, List.set_cons_succ, i64_w, i32_w]
               rfl
              as_aux_lemma =>
               refine take_ (i := 49) (N := some 70) (v := ?_) (a' := ?_) (bs82 1125899906842623) rfl rfl (by kernel_rfl) (fun _ _ _ h => h) (Or.inl ⟨by rfl, ?_⟩) hS ?_ ?_
               rotate_left
               ·intro w' hS'
                have s0 := pw_cell_below hS' z0
                have s1 := pw_cell_below hS' z1
                have s2 := pw_cell_below hS' z2
                have s3 := pw_cell_below hS' z3
                have s4 := pw_cell_below hS' z4
                have s5 := pw_cell_below hS' z5
                have s6 := pw_cell_below hS' z6
                have s7 := pw_cell_below hS' z7
                have s8 := pw_cell_below hS' z8
                have s9 := pw_cell_below hS' z9
                go_simp
                with_reducible rfl
               rotate_left
               ·simp only [Act.put, List.setIfInBounds_toArray, List.set_cons_zero, List.set_cons_succ, i64_w, i32_w]
                rfl
               refine one_ (i := 50) (N := some 71) (bs82 2251799813685247) rfl rfl (by kernel_rfl) (by decide) (fun K hK => ?_)
               refine goes_ (f := 21) Try.func21 (by kernel_rfl) rfl #[.agg #[.int .i64 5, .int .i64 2, .int .i64 10, .int .i64 0, .int .i64 120, .slice Ao22 1 co22, .slice Ao23 1 co23, .int .i64 0, .int .i64 9000000, .int .i64 0], .int .i64 61199] (by rfl) rfl rfl (by (try simp only [List.map_toArray, List.map_cons, List.map_nil]); first | done | rfl) ?_
               refine (product_Open.calls 40 5 2 10 0 120 Ao22 co22 [1] Ao23 co23 ([⟨3, 28800, 61200⟩] : List S52) 0 9000000 0 61199 true _ (Kd.C_below CP5 hS) lp5 (Kd.C_below CP6 hS) lp6 open_v2).mono ?_
               rintro e wn ⟨rfl, hd⟩
               refine ⟨_, rfl, ?_⟩
               have hS2 := below_step hS hd
               refine hK.out _ _ hS2 (fun _ => ?_)
               clear hK K
               refine norm_ (a' := ?_) ?_ ?_
               rotate_left
               ·show Act.put _ (some 71) _ = _
                simp only [Act.put, List.setIfInBounds_toArray, List.set_cons_zero, List.set_cons_succ, i64_w, i32_w]
                rfl
               replace hS := hS2
               clear hS2 hd
               refine pure_ (i := 51) (N := some 72) (v := ?_) (a' := ?_) (bs82 4503599627370495) rfl rfl (by kernel_rfl) (fun _ _ _ h => h) (Or.inl ⟨by rfl, ?_⟩) ?_ ?_
               rotate_left
               ·intro w'
                go_simp
                with_reducible rfl
               rotate_left
               ·simp only [Act.put, List.setIfInBounds_toArray, List.set_cons_zero, List.set_cons_succ, i64_w, i32_w]
                rfl
               refine pure_ (i := 52) (N := some 73) (v := ?_) (a' := ?_) (bs82 9007199254740991) rfl rfl (by kernel_rfl) (fun _ _ _ h => h) (Or.inl ⟨by rfl, ?_⟩) ?_ ?_
               rotate_left
               ·intro w'
                go_simp
                with_reducible rfl
               rotate_left
               ·simp only [Act.put, List.setIfInBounds_toArray, List.set_cons_zero, List.set_cons_succ, i64_w, i32_w]
                rfl
               as_aux_lemma =>
                refine take_ (i := 53) (N := some 74) (v := ?_) (a' := ?_) (bs82 18014398509481983) rfl rfl (by kernel_rfl) (fun _ _ _ h => h) (Or.inl ⟨by rfl, ?_⟩) hS ?_ ?_
                rotate_left
                ·intro w' hS'
                 have s0 := pw_cell_below hS' z0
                 have s1 := pw_cell_below hS' z1
                 have s2 := pw_cell_below hS' z2
                 have s3 := pw_cell_below hS' z3
                 have s4 := pw_cell_below hS' z4
                 have s5 := pw_cell_below hS' z5
                 have s6 := pw_cell_below hS' z6
                 have s7 := pw_cell_below hS' z7
                 have s8 := pw_cell_below hS' z8
                 have s9 := pw_cell_below hS' z9
                 go_simp
                 with_reducible rfl
                rotate_left
                ·simp only [Act.put, List.setIfInBounds_toArray, List.set_cons_zero, List.set_cons_succ, i64_w, i32_w]
                 rfl
                refine one_ (i := 54) (N := some 75) (bs82 36028797018963967) rfl rfl (by kernel_rfl) (by decide) (fun K hK => ?_)
                refine goes_ (f := 21) Try.func21 (by kernel_rfl) rfl #[.agg #[.int .i64 5, .int .i64 2, .int .i64 10, .int .i64 0, .int .i64 120, .slice Ao22 1 co22, .slice Ao23 1 co23, .int .i64 0, .int .i64 9000000, .int .i64 0], .int .i64 61200] (by rfl) rfl rfl (by (try simp only [List.map_toArray, List.map_cons, List.map_nil]); first | done | rfl) ?_
                refine (product_Open.calls 40 5 2 10 0 120 Ao22 co22 [1] Ao23 co23 ([⟨3, 28800, 61200⟩] : List S52) 0 9000000 0 61200 false _ (Kd.C_below CP5 hS) lp5 (Kd.C_below CP6 hS) lp6 open_v3).mono ?_
                rintro e wn ⟨rfl, hd⟩
                refine ⟨_, rfl, ?_⟩
                have hS2 := below_step hS hd
                refine hK.out _ _ hS2 (fun _ => ?_)
                clear hK K
                refine norm_ (a' := ?_) ?_ ?_
                rotate_left
                ·show Act.put _ (some 75) _ = _
                 simp only [Act.put, List.setIfInBounds_toArray, List.set_cons_zero, List.set_cons_succ, i64_w, i32_w]
                 rfl
                replace hS := hS2
                clear hS2 hd
                refine pure_ (i := 55) (N := some 76) (v := ?_) (a' := ?_) (bs82 72057594037927935) rfl rfl (by kernel_rfl) (fun _ _ _ h => h) (Or.inl ⟨by rfl, ?_⟩) ?_ ?_
                rotate_left
                ·intro w'
                 go_simp
                 with_reducible rfl
                rotate_left
                ·simp only [Act.put, List.setIfInBounds_toArray, List.set_cons_zero, List.set_cons_succ, i64_w, i32_w]
                 rfl
                refine pure_ (i := 56) (N := some 77) (v := ?_) (a' := ?_) (bs82 144115188075855871) rfl rfl (by kernel_rfl) (fun _ _ _ h => h) (Or.inl ⟨by rfl, ?_⟩) ?_ ?_
                rotate_left
                ·intro w'
                 go_simp
                 with_reducible rfl
                rotate_left
                ·simp only [Act.put, List.setIfInBounds_toArray, List.set_cons_zero, List.set_cons_succ, i64_w, i32_w]
                 rfl
                refine pure_ (i := 57) (N := some 78) (v := ?_) (a' := ?_) (bs82 288230376151711743) rfl rfl (by kernel_rfl) (fun _ _ _ h => h) (Or.inl ⟨by rfl, ?_⟩) ?_ ?_
                rotate_left
                ·intro w'
                 go_simp
                 with_reducible rfl
                rotate_left
                ·simp only [Act.put, List.setIfInBounds_toArray, List.set_cons_zero, List.set_cons_succ, i64_w, i32_w]
                 rfl
                as_aux_lemma =>
                 refine take_ (i := 58) (N := some 79) (v := ?_) (a' := ?_) (bs82 576460752303423487) rfl rfl (by kernel_rfl) (fun _ _ _ h => h) (Or.inl ⟨by rfl, ?_⟩) hS ?_ ?_
                 rotate_left
                 ·intro w' hS'
                  have s0 := pw_cell_below hS' z0
                  have s1 := pw_cell_below hS' z1
                  have s2 := pw_cell_below hS' z2
                  have s3 := pw_cell_below hS' z3
                  have s4 := pw_cell_below hS' z4
                  have s5 := pw_cell_below hS' z5
                  have s6 := pw_cell_below hS' z6
                  have s7 := pw_cell_below hS' z7
                  have s8 := pw_cell_below hS' z8
                  have s9 := pw_cell_below hS' z9
                  go_simp
                  with_reducible rfl
                 rotate_left
                 ·simp only [Act.put, List.setIfInBounds_toArray, List.set_cons_zero, List.set_cons_succ, i64_w, i32_w]
                  rfl
                 refine one_ (i := 59) (N := some 80) (bs82 1152921504606846975) rfl rfl (by kernel_rfl) (by decide) (fun K hK => ?_)
                 refine goes_ (f := 21) Try.func21 (by kernel_rfl) rfl #[.agg #[.int .i64 5, .int .i64 2, .int .i64 10, .int .i64 0, .int .i64 120, .slice Ao22 1 co22, .slice Ao23 1 co23, .int .i64 0, .int .i64 9000000, .int .i64 0], .int .i64 201600] (by rfl) rfl rfl (by (try simp only [List.map_toArray, List.map_cons, List.map_nil]); first | done | rfl) ?_
                 refine (product_Open.calls 40 5 2 10 0 120 Ao22 co22 [1] Ao23 co23 ([⟨3, 28800, 61200⟩] : List S52) 0 9000000 0 201600 false _ (Kd.C_below CP5 hS) lp5 (Kd.C_below CP6 hS) lp6 open_v4).mono ?_
                 rintro e wn ⟨rfl, hd⟩
                 refine ⟨_, rfl, ?_⟩
                 have hS2 := below_step hS hd
                 refine hK.out _ _ hS2 (fun _ => ?_)
                 clear hK K
                 refine norm_ (a' := ?_) ?_ ?_
                 rotate_left
                 ·show Act.put _ (some 80) _ = _
                  simp only [Act.put, List.setIfInBounds_toArray, List.set_cons_zero, List.set_cons_succ, i64_w, i32_w]
                  rfl
                 replace hS := hS2
                 clear hS2 hd
                 refine pure_ (i := 60) (N := some 81) (v := ?_) (a' := ?_) (bs82 2305843009213693951) rfl rfl (by kernel_rfl) (fun _ _ _ h => h) (Or.inl ⟨by rfl, ?_⟩) ?_ ?_
                 rotate_left
                 ·intro w'
                  go_simp
                  with_reducible rfl
                 rotate_left
                 ·simp only [Act.put, List.setIfInBounds_toArray, List.set_cons_zero, List.set_cons_succ, i64_w, i32_w]
                  rfl
                 refine pure_ (i := 61) (N := some 82) (v := ?_) (a' := ?_) (bs82 4611686018427387903) rfl rfl (by kernel_rfl) (fun _ _ _ h => h) (Or.inl ⟨by rfl, ?_⟩) ?_ ?_
                 rotate_left
                 ·intro w'
                  go_simp
                  with_reducible rfl
                 rotate_left
                 ·simp only [Act.put, List.setIfInBounds_toArray, List.set_cons_zero, List.set_cons_succ, i64_w, i32_w]
                  rfl
                 refine pure_ (i := 62) (N := some 83) (v := ?_) (a' := ?_) (bs82 9223372036854775807) rfl rfl (by kernel_rfl) (fun _ _ _ h => h) (Or.inl ⟨by rfl, ?_⟩) ?_ ?_
                 rotate_left
                 ·intro w'
                  go_simp
                  with_reducible rfl
                 rotate_left
                 ·simp only [Act.put, List.setIfInBounds_toArray, List.set_cons_zero, List.set_cons_succ, i64_w, i32_w]
                  rfl
                 refine pure_ (i := 63) (N := some 84) (v := ?_) (a' := ?_) (bs82 18446744073709551615) rfl rfl (by kernel_rfl) (fun _ _ _ h => h) (Or.inl ⟨by rfl, ?_⟩) ?_ ?_
                 rotate_left
                 ·intro w'
                  go_simp
                  with_reducible rfl
                 rotate_left
                 ·simp only [Act.put, List.setIfInBounds_toArray, List.set_cons_zero, List.set_cons_succ, i64_w, i32_w]
                  rfl
                 refine pure_ (i := 64) (N := some 85) (v := ?_) (a' := ?_) (bs82 36893488147419103231) rfl rfl (by kernel_rfl) (fun _ _ _ h => h) (Or.inl ⟨by rfl, ?_⟩) ?_ ?_
                 rotate_left
                 ·intro w'
                  go_simp
                  with_reducible rfl
                 rotate_left
                 ·simp only [Act.put, List.setIfInBounds_toArray, List.set_cons_zero, List.set_cons_succ, i64_w, i32_w]
                  rfl
                 as_aux_lemma =>
                  refine take_ (i := 65) (N := some 86) (v := ?_) (a' := ?_) (bs82 73786976294838206463) rfl rfl (by kernel_rfl) (fun _ _ _ h => h) (Or.inl ⟨by rfl, ?_⟩) hS ?_ ?_
                  rotate_left
                  ·intro w' hS'
                   have s0 := pw_cell_below hS' y0
                   have s1 := pw_cell_below hS' y1
                   have s2 := pw_cell_below hS' y2
                   have s3 := pw_cell_below hS' y3
                   have s4 := pw_cell_below hS' y4
                   have s5 := pw_cell_below hS' y5
                   have s6 := pw_cell_below hS' y6
                   have s7 := pw_cell_below hS' y7
                   have s8 := pw_cell_below hS' y8
                   have s9 := pw_cell_below hS' y9
                   go_simp
                   with_reducible rfl
                  rotate_left
                  ·simp only [Act.put, List.setIfInBounds_toArray, List.set_cons_zero, List.set_cons_succ, i64_w, i32_w]
                   rfl
                  refine one_ (i := 66) (N := some 87) (bs82 147573952589676412927) rfl rfl (by kernel_rfl) (by decide) (fun K hK => ?_)
                  refine goes_ (f := 21) Try.func21 (by kernel_rfl) rfl #[.agg #[.int .i64 3, .int .i64 1, .int .i64 3, .int .i64 16, .int .i64 64, .slice B5 2 d5, .slice B6 0 d6, .int .i64 0, .int .i64 9000000, .int .i64 0], .int .i64 5] (by rfl) rfl rfl (by (try simp only [List.map_toArray, List.map_cons, List.map_nil]); first | done | rfl) ?_
                  refine (product_Open.calls 40 3 1 3 16 64 B5 d5 [1, 4] B6 d6 ([] : List S52) 0 9000000 0 5 true _ (Kd.C_below CB5 hS) lb5 (Kd.C_below CB6 hS) lb6 open_v5).mono ?_
                  rintro e wn ⟨rfl, hd⟩
                  refine ⟨_, rfl, ?_⟩
                  have hS2 := below_step hS hd
                  refine hK.out _ _ hS2 (fun _ => ?_)
                  clear hK K
                  refine norm_ (a' := ?_) ?_ ?_
                  rotate_left
                  ·show Act.put _ (some 87) _ = _
                   simp only [Act.put, List.setIfInBounds_toArray, List.set_cons_zero, List.set_cons_succ, i64_w, i32_w]
                   rfl
                  replace hS := hS2
                  clear hS2 hd
                  refine pure_ (i := 67) (N := some 88) (v := ?_) (a' := ?_) (bs82 295147905179352825855) rfl rfl (by kernel_rfl) (fun _ _ _ h => h) (Or.inl ⟨by rfl, ?_⟩) ?_ ?_
                  rotate_left
                  ·intro w'
                   go_simp
                   with_reducible rfl
                  rotate_left
                  ·simp only [Act.put, List.setIfInBounds_toArray, List.set_cons_zero, List.set_cons_succ, i64_w, i32_w]
                   rfl
                  refine pure_ (i := 68) (N := some 89) (v := ?_) (a' := ?_) (bs82 590295810358705651711) rfl rfl (by kernel_rfl) (fun _ _ _ h => h) (Or.inl ⟨by rfl, ?_⟩) ?_ ?_
                  rotate_left
                  ·intro w'
                   go_simp
                   with_reducible rfl
                  rotate_left
                  ·simp only [Act.put, List.setIfInBounds_toArray, List.set_cons_zero, List.set_cons_succ, i64_w, i32_w]
                   rfl
                  refine pure_ (i := 69) (N := some 90) (v := ?_) (a' := ?_) (bs82 1180591620717411303423) rfl rfl (by kernel_rfl) (fun _ _ _ h => h) (Or.inl ⟨by rfl, ?_⟩) ?_ ?_
                  rotate_left
                  ·intro w'
                   go_simp
                   with_reducible rfl
                  rotate_left
                  ·simp only [Act.put, List.setIfInBounds_toArray, List.set_cons_zero, List.set_cons_succ, i64_w, i32_w]
                   rfl
                  refine pure_ (i := 70) (N := some 91) (v := ?_) (a' := ?_) (bs82 2361183241434822606847) rfl rfl (by kernel_rfl) (fun _ _ _ h => h) (Or.inl ⟨by rfl, ?_⟩) ?_ ?_
                  rotate_left
                  ·intro w'
                   go_simp
                   with_reducible rfl
                  rotate_left
                  ·simp only [Act.put, List.setIfInBounds_toArray, List.set_cons_zero, List.set_cons_succ, i64_w, i32_w]
                   rfl
                  as_aux_lemma =>
                   refine take_ (i := 71) (N := some 92) (v := ?_) (a' := ?_) (bs82 4722366482869645213695) rfl rfl (by kernel_rfl) (fun _ _ _ h => h) (Or.inl ⟨by rfl, ?_⟩) hS ?_ ?_
                   rotate_left
                   ·intro w' hS'
                    have s0 := pw_cell_below hS' y0
                    have s1 := pw_cell_below hS' y1
                    have s2 := pw_cell_below hS' y2
                    have s3 := pw_cell_below hS' y3
                    have s4 := pw_cell_below hS' y4
                    have s5 := pw_cell_below hS' y5
                    have s6 := pw_cell_below hS' y6
                    have s7 := pw_cell_below hS' y7
                    have s8 := pw_cell_below hS' y8
                    have s9 := pw_cell_below hS' y9
                    go_simp
                    with_reducible rfl
                   rotate_left
                   ·simp only [Act.put, List.setIfInBounds_toArray, List.set_cons_zero, List.set_cons_succ, i64_w, i32_w]
                    rfl
                   refine one_ (i := 72) (N := some 93) (bs82 9444732965739290427391) rfl rfl (by kernel_rfl) (by decide) (fun K hK => ?_)
                   refine goes_ (f := 17) Try.func17 (by kernel_rfl) rfl #[.agg #[.int .i64 3, .int .i64 1, .int .i64 3, .int .i64 16, .int .i64 64, .slice B5 2 d5, .slice B6 0 d6, .int .i64 0, .int .i64 9000000, .int .i64 0], .int .i64 64] (by rfl) rfl rfl (by (try simp only [List.map_toArray, List.map_cons, List.map_nil]); first | done | rfl) ?_
                   refine (product_Age.calls 3 1 3 16 64 B5 d5 [1, 4] B6 d6 ([] : List S52) 0 9000000 0 64 true _ (Kd.C_below CB5 hS) lb5 (Kd.C_below CB6 hS) lb6 age_v).mono ?_
                   rintro e wn ⟨rfl, hd⟩
                   refine ⟨_, rfl, ?_⟩
                   have hS2 := below_step hS hd
                   refine hK.out _ _ hS2 (fun _ => ?_)
                   clear hK K
                   refine norm_ (a' := ?_) ?_ ?_
                   rotate_left
                   ·show Act.put _ (some 93) _ = _
                    simp only [Act.put, List.setIfInBounds_toArray, List.set_cons_zero, List.set_cons_succ, i64_w, i32_w]
                    rfl
                   replace hS := hS2
                   clear hS2 hd
                   refine pure_ (i := 73) (N := some 94) (v := ?_) (a' := ?_) (bs82 18889465931478580854783) rfl rfl (by kernel_rfl) (fun _ _ _ h => h) (Or.inl ⟨by rfl, ?_⟩) ?_ ?_
                   rotate_left
                   ·intro w'
                    go_simp
                    with_reducible rfl
                   rotate_left
                   ·simp only [Act.put, List.setIfInBounds_toArray, List.set_cons_zero, List.set_cons_succ, i64_w, i32_w]
                    rfl
                   refine pure_ (i := 74) (N := some 95) (v := ?_) (a' := ?_) (bs82 37778931862957161709567) rfl rfl (by kernel_rfl) (fun _ _ _ h => h) (Or.inl ⟨by rfl, ?_⟩) ?_ ?_
                   rotate_left
                   ·intro w'
                    go_simp
                    with_reducible rfl
                   rotate_left
                   ·simp only [Act.put, List.setIfInBounds_toArray, List.set_cons_zero, List.set_cons_succ, i64_w, i32_w]
                    rfl
                   refine pure_ (i := 75) (N := some 96) (v := ?_) (a' := ?_) (bs82 75557863725914323419135) rfl rfl (by kernel_rfl) (fun _ _ _ h => h) (Or.inl ⟨by rfl, ?_⟩) ?_ ?_
                   rotate_left
                   ·intro w'
                    go_simp
                    with_reducible rfl
                   rotate_left
                   ·simp only [Act.put, List.setIfInBounds_toArray, List.set_cons_zero, List.set_cons_succ, i64_w, i32_w]
                    rfl
                   refine pure_ (i := 76) (N := some 97) (v := ?_) (a' := ?_) (bs82 151115727451828646838271) rfl rfl (by kernel_rfl) (fun _ _ _ h => h) (Or.inl ⟨by rfl, ?_⟩) ?_ ?_
                   rotate_left
                   ·intro w'
                    go_simp
                    with_reducible rfl
                   rotate_left
                   ·simp only [Act.put, List.setIfInBounds_toArray, List.set_cons_zero, List.set_cons_succ, i64_w, i32_w]
                    rfl
                   as_aux_lemma =>
                    refine take_ (i := 77) (N := some 98) (v := ?_) (a' := ?_) (bs82 302231454903657293676543) rfl rfl (by kernel_rfl) (fun _ _ _ h => h) (Or.inl ⟨by rfl, ?_⟩) hS ?_ ?_
                    rotate_left
                    ·intro w' hS'
                     have s0 := pw_cell_below hS' y0
                     have s1 := pw_cell_below hS' y1
                     have s2 := pw_cell_below hS' y2
                     have s3 := pw_cell_below hS' y3
                     have s4 := pw_cell_below hS' y4
                     have s5 := pw_cell_below hS' y5
                     have s6 := pw_cell_below hS' y6
                     have s7 := pw_cell_below hS' y7
                     have s8 := pw_cell_below hS' y8
                     have s9 := pw_cell_below hS' y9
                     go_simp
                     with_reducible rfl
                    rotate_left
                    ·simp only [Act.put, List.setIfInBounds_toArray, List.set_cons_zero, List.set_cons_succ, i64_w, i32_w]
                     rfl
                    refine one_ (i := 78) (N := some 99) (bs82 604462909807314587353087) rfl rfl (by kernel_rfl) (by decide) (fun K hK => ?_)
                    refine goes_ (f := 19) Try.func19 (by kernel_rfl) rfl #[.agg #[.int .i64 3, .int .i64 1, .int .i64 3, .int .i64 16, .int .i64 64, .slice B5 2 d5, .slice B6 0 d6, .int .i64 0, .int .i64 9000000, .int .i64 0], .int .i64 2] (by rfl) rfl rfl (by (try simp only [List.map_toArray, List.map_cons, List.map_nil]); first | done | rfl) ?_
                    refine (product_Area.calls 40 3 1 3 16 64 B5 d5 [1, 4] B6 d6 ([] : List S52) 0 9000000 0 2 false _ (Kd.C_below CB5 hS) lb5 (Kd.C_below CB6 hS) lb6 area_v).mono ?_
                    rintro e wn ⟨rfl, hd⟩
                    refine ⟨_, rfl, ?_⟩
                    have hS2 := below_step hS hd
                    refine hK.out _ _ hS2 (fun _ => ?_)
                    clear hK K
                    refine norm_ (a' := ?_) ?_ ?_
                    rotate_left
                    ·show Act.put _ (some 99) _ = _
                     simp only [Act.put, List.setIfInBounds_toArray, List.set_cons_zero, List.set_cons_succ, i64_w, i32_w]
                     rfl
                    replace hS := hS2
                    clear hS2 hd
                    refine pure_ (i := 79) (N := some 100) (v := ?_) (a' := ?_) (bs82 1208925819614629174706175) rfl rfl (by kernel_rfl) (fun _ _ _ h => h) (Or.inl ⟨by rfl, ?_⟩) ?_ ?_
                    rotate_left
                    ·intro w'
                     go_simp
                     with_reducible rfl
                    rotate_left
                    ·simp only [Act.put, List.setIfInBounds_toArray, List.set_cons_zero, List.set_cons_succ, i64_w, i32_w]
                     rfl
                    refine pure_ (i := 80) (N := some 101) (v := ?_) (a' := ?_) (bs82 2417851639229258349412351) rfl rfl (by kernel_rfl) (fun _ _ _ h => h) (Or.inl ⟨by rfl, ?_⟩) ?_ ?_
                    rotate_left
                    ·intro w'
                     go_simp
                     with_reducible rfl
                    rotate_left
                    ·simp only [Act.put, List.setIfInBounds_toArray, List.set_cons_zero, List.set_cons_succ, i64_w, i32_w]
                     rfl
                    refine pure_ (i := 81) (N := some 0) (v := ?_) (a' := ?_) (bs82 4835703278458516698824703) rfl rfl (by kernel_rfl) (fun _ _ _ h => h) (Or.inl ⟨by rfl, ?_⟩) ?_ ?_
                    rotate_left
                    ·intro w'
                     go_simp
                     with_reducible rfl
                    rotate_left
                    ·simp only [Act.put, List.setIfInBounds_toArray, List.set_cons_zero, List.set_cons_succ, i64_w, i32_w]
                     rfl
                    refine done_ (by kernel_rfl) ?_
                    go_wp2
                    go_ret
                    exact ⟨rfl, below_step HBZ hS⟩
  ·rw [if_neg c6] at H
   exact absurd H (by simp)
 ·rw [if_neg c4] at H
  exact absurd H (by simp)
set_option maxHeartbeats 400000 in
theorem skiarealaw22_alive.calls  (r : Bool) (w : World) (h : skiarealaw22_alive.f  = some r) :
  Calls Try.prog 10 #[] w fun e w' => e = .returned (.bool r) ∧ Below w.heap.size w w' := by
 have hr : r = true := by
  unfold skiarealaw22_alive.f at h
  exact (Option.some.inj h).symm
 subst hr
 exact alive_k 40 rfl true w alive_k_val

end Go.Proofs.Ytpojelbablofpaa.P
