-- Written by wip/fakeprint.py and wip/post.py of this claim's author, who used the kit's printer (print.py) on turned inputs.
import Derived.Test.YtpojelbablofpaaK
import Derived.Test.YtpojelbablofpaaF14
import Derived.Test.YtpojelbablofpaaFA
import Derived.Test.YtpojelbablofpaaFA
import Derived.Test.YtpojelbablofpaaFA
import Derived.Test.YtpojelbablofpaaF31
namespace Go.Proofs.Ytpojelbablofpaa.P
open Go.RowKit Go.Proofs.YtpojelbablofpaaW.PrintWords Go.Proofs.YtpojelbablofpaaW.PrintLast Go.Proofs.YtpojelbablofpaaW.PrintMore
attribute [local go_sem] max2_int min2_int max_two min_two max_three min_three max_four min_four   -- for this text's walks alone
attribute [local go_sem] max2_int min2_int max_two min_two
set_option linter.unusedVariables false
set_option linter.unusedSimpArgs false

def bs (n m : Nat) : Array Bool := ((List.range n).map fun i => m.testBit i).toArray
/-! ### product_Right: function 12 -/
mutual
def product_Right.l0 : Nat → List (S32) → List (S32) → Int → Int → Option (Int)
 | 0, _, _, _, _ => none
 | k + 1, x0, x10, x11, x12 => if x12 < x11 then (if 0 ≤ x12 then (if x12 < (x10.length : Int) then (if x12 ≤ (x0.length : Int) then ((product_Find.f k (x0.take (x12 : Int).toNat) ((rd_T32 x10 x12).f0)).bind fun bt163 => ((product_within.f ((rd_T32 x10 x12).f0) 1 9999).bind fun t179 => (if t179 = true then ((product_units.f ((rd_T32 x10 x12).f1)).bind fun t180 => ((product_within.f ((rd_T32 x10 x12).f2) 1 t180).bind fun t181 => (if t181 = true then ((product_within.f ((rd_T32 x10 x12).f3) 0 120).bind fun t182 => (if t182 = true then ((product_within.f ((rd_T32 x10 x12).f4) 0 120).bind fun t183 => (if t183 = true then ((product_within.f ((rd_T32 x10 x12).f8) 0 100000000).bind fun t184 => (product_Right.j1 k x0 bt163.2.2.2.2.2.2.2.2.2.2 x10 x11 x12 (!t184) ((rd_T32 x10 x12).f0) ((rd_T32 x10 x12).f1) ((rd_T32 x10 x12).f2) ((rd_T32 x10 x12).f3) ((rd_T32 x10 x12).f4) ((rd_T32 x10 x12).f5) ((rd_T32 x10 x12).f6) ((rd_T32 x10 x12).f7.f0) ((rd_T32 x10 x12).f7.f1) ((rd_T32 x10 x12).f8))) else (product_Right.j1 k x0 bt163.2.2.2.2.2.2.2.2.2.2 x10 x11 x12 true ((rd_T32 x10 x12).f0) ((rd_T32 x10 x12).f1) ((rd_T32 x10 x12).f2) ((rd_T32 x10 x12).f3) ((rd_T32 x10 x12).f4) ((rd_T32 x10 x12).f5) ((rd_T32 x10 x12).f6) ((rd_T32 x10 x12).f7.f0) ((rd_T32 x10 x12).f7.f1) ((rd_T32 x10 x12).f8)))) else (product_Right.j1 k x0 bt163.2.2.2.2.2.2.2.2.2.2 x10 x11 x12 true ((rd_T32 x10 x12).f0) ((rd_T32 x10 x12).f1) ((rd_T32 x10 x12).f2) ((rd_T32 x10 x12).f3) ((rd_T32 x10 x12).f4) ((rd_T32 x10 x12).f5) ((rd_T32 x10 x12).f6) ((rd_T32 x10 x12).f7.f0) ((rd_T32 x10 x12).f7.f1) ((rd_T32 x10 x12).f8)))) else (product_Right.j1 k x0 bt163.2.2.2.2.2.2.2.2.2.2 x10 x11 x12 true ((rd_T32 x10 x12).f0) ((rd_T32 x10 x12).f1) ((rd_T32 x10 x12).f2) ((rd_T32 x10 x12).f3) ((rd_T32 x10 x12).f4) ((rd_T32 x10 x12).f5) ((rd_T32 x10 x12).f6) ((rd_T32 x10 x12).f7.f0) ((rd_T32 x10 x12).f7.f1) ((rd_T32 x10 x12).f8))))) else (product_Right.j1 k x0 bt163.2.2.2.2.2.2.2.2.2.2 x10 x11 x12 true ((rd_T32 x10 x12).f0) ((rd_T32 x10 x12).f1) ((rd_T32 x10 x12).f2) ((rd_T32 x10 x12).f3) ((rd_T32 x10 x12).f4) ((rd_T32 x10 x12).f5) ((rd_T32 x10 x12).f6) ((rd_T32 x10 x12).f7.f0) ((rd_T32 x10 x12).f7.f1) ((rd_T32 x10 x12).f8))))) else (none)) else (none)) else (none)) else (some 0)
def product_Right.j1 : Nat → List (S32) → Bool → List (S32) → Int → Int → Bool → Int → Int → Int → Int → Int → List Int → List (S52) → Int → Int → Int → Option (Int)
 | 0, _, _, _, _, _, _, _, _, _, _, _, _, _, _, _, _ => none
 | k + 1, x0, x6, x10, x11, x12, x26, x159000, x159001, x159002, x159003, x159004, x159005, x159006, x159007, x159008, x159009 => if x26 = true then (some 2) else (if x6 = true then (some 7) else (if x159003 > x159004 then (some 11) else ((product_operators.f k x159005).bind fun t185 => (if t185 = true then ((clock_Right.f k x159006).bind fun t186 => (if t186 = true then (if x159007 < 0 then (some 1) else (if x159007 ≥ x159008 then (some 1) else (if x159008 > 20000000 then (some 1) else (product_Right.l0 k x0 x10 x11 (wrap64 (x12 + 1)))))) else (some 1))) else (some 1)))))
end
def product_Right.f (k : Nat) (l0 : List (S32)) : Option (Int) := if (l0.length : Int) > 64 then (some 4) else (product_Right.l0 k l0 l0 (l0.length : Int) 0)
theorem product_Right.mono_l : ∀ k, (∀ y0 y1 y2 y3, LeO (product_Right.l0 k y0 y1 y2 y3) (product_Right.l0 (k + 1) y0 y1 y2 y3)) ∧ (∀ y0 y1 y2 y3 y4 y5 y6 y7 y8 y9 y10 y11 y12 y13 y14 y15, LeO (product_Right.j1 k y0 y1 y2 y3 y4 y5 y6 y7 y8 y9 y10 y11 y12 y13 y14 y15) (product_Right.j1 (k + 1) y0 y1 y2 y3 y4 y5 y6 y7 y8 y9 y10 y11 y12 y13 y14 y15))
 | 0 => ⟨fun _ _ _ _ r h => by simp [product_Right.l0] at h, fun _ _ _ _ _ _ _ _ _ _ _ _ _ _ _ _ r h => by simp [product_Right.j1] at h⟩
 | k + 1 => by
  obtain ⟨ih0, ih1⟩ := product_Right.mono_l k
  refine ⟨?_, ?_⟩
  ·intro y0 y1 y2 y3
   unfold product_Right.l0
   repeat' first
   | (with_reducible exact ih0 _ _ _ _)
   | (with_reducible exact ih1 _ _ _ _ _ _ _ _ _ _ _ _ _ _ _ _)
   | (with_reducible exact clock_Right.mono _ _)
   | (with_reducible exact product_Find.mono _ _ _)
   | (with_reducible exact product_operators.mono _ _)
   | (with_reducible exact LeO.refl _)
   | (with_reducible exact LeO.none _)
   | (with_reducible refine LeO.ite ?_ ?_)
   | (with_reducible refine LeO.bind ?_ (fun _ => ?_))
   | exact ih0 _ _ _ _
   | exact ih1 _ _ _ _ _ _ _ _ _ _ _ _ _ _ _ _
   | exact clock_Right.mono _ _
   | exact product_Find.mono _ _ _
   | exact product_operators.mono _ _
   | exact LeO.none _
   | refine LeO.ite ?_ ?_
   | refine LeO.bind ?_ (fun _ => ?_)
  ·intro y0 y1 y2 y3 y4 y5 y6 y7 y8 y9 y10 y11 y12 y13 y14 y15
   unfold product_Right.j1
   repeat' first
   | (with_reducible exact ih0 _ _ _ _)
   | (with_reducible exact ih1 _ _ _ _ _ _ _ _ _ _ _ _ _ _ _ _)
   | (with_reducible exact clock_Right.mono _ _)
   | (with_reducible exact product_Find.mono _ _ _)
   | (with_reducible exact product_operators.mono _ _)
   | (with_reducible exact LeO.refl _)
   | (with_reducible exact LeO.none _)
   | (with_reducible refine LeO.ite ?_ ?_)
   | (with_reducible refine LeO.bind ?_ (fun _ => ?_))
   | exact ih0 _ _ _ _
   | exact ih1 _ _ _ _ _ _ _ _ _ _ _ _ _ _ _ _
   | exact clock_Right.mono _ _
   | exact product_Find.mono _ _ _
   | exact product_operators.mono _ _
   | exact LeO.none _
   | refine LeO.ite ?_ ?_
   | refine LeO.bind ?_ (fun _ => ?_)
theorem product_Right.mono : ∀ a0 k, LeO (product_Right.f k a0) (product_Right.f (k + 1) a0) := by
 intro a0 k
 obtain ⟨ih0, ih1⟩ := product_Right.mono_l k
 unfold product_Right.f
 repeat' first
   | (with_reducible exact ih0 _ _ _ _)
   | (with_reducible exact ih1 _ _ _ _ _ _ _ _ _ _ _ _ _ _ _ _)
   | (with_reducible exact clock_Right.mono _ _)
   | (with_reducible exact product_Find.mono _ _ _)
   | (with_reducible exact product_operators.mono _ _)
   | (with_reducible exact LeO.refl _)
   | (with_reducible exact LeO.none _)
   | (with_reducible refine LeO.ite ?_ ?_)
   | (with_reducible refine LeO.bind ?_ (fun _ => ?_))
   | exact ih0 _ _ _ _
   | exact ih1 _ _ _ _ _ _ _ _ _ _ _ _ _ _ _ _
   | exact clock_Right.mono _ _
   | exact product_Find.mono _ _ _
   | exact product_operators.mono _ _
   | exact LeO.none _
   | refine LeO.ite ?_ ?_
   | refine LeO.bind ?_ (fun _ => ?_)
def product_Right.T6 : Bool × List (List Nat × List Nat) := (true, [([], []), ([], []), ([0, 1], [0, 1]), ([], []), ([3], [3]), ([2, 4], [2, 4]), ([5], [5]), ([6], [6]), ([6], [6]), ([], []), ([9, 7, 5, 0, 1, 2, 3, 4, 5, 6, 7, 9], [7, 9]), ([8, 10, 0, 1, 2, 3, 4, 5, 6, 7, 8, 9, 10], [8])])
def product_Right.B6 : List Nat := [0, 0, 3, 0, 8, 31, 63, 127, 127, 0, 767, 2047]
theorem product_Right.tab6 : rtab .any (opsOf Try.f12 6) = product_Right.T6 := by kernel_rfl
theorem product_Right.bits6 : waitsOk product_Right.T6.2 product_Right.B6 = true := by kernel_rfl
def product_Right.T7 : Bool × List (List Nat × List Nat) := (true, [([], []), ([0], [0]), ([1], [1]), ([2], [2]), ([3, 2], [3]), ([4], [4]), ([5, 4], [4, 5]), ([4], [4]), ([7, 4], [4, 7]), ([8, 4, 4], [4, 8]), ([6, 9, 9, 4], [4, 6, 9]), ([10, 4], [4, 10]), ([4, 11], [4, 11]), ([12, 10], [12]), ([13], [13]), ([14, 13], [13, 14]), ([15, 13, 13], [13, 15]), ([16, 13], [13, 16]), ([13, 17], [13, 17]), ([18, 16], [18]), ([19], [19]), ([20, 19], [19, 20]), ([21, 19, 19], [19, 21]), ([22, 19], [19, 22]), ([19, 23], [19, 23]), ([24, 22], [24]), ([25], [25]), ([26, 25], [25, 26]), ([27, 25, 25], [25, 27]), ([28, 25], [25, 28]), ([25, 29], [25, 29]), ([30, 28], [30])])
def product_Right.B7 : List Nat := [0, 1, 3, 7, 15, 31, 63, 31, 159, 415, 1023, 2047, 4095, 8191, 16383, 32767, 65535, 131071, 262143, 524287, 1048575, 2097151, 4194303, 8388607, 16777215, 33554431, 67108863, 134217727, 268435455, 536870911, 1073741823, 2147483647]
theorem product_Right.tab7 : rtab .any (opsOf Try.f12 7) = product_Right.T7 := by kernel_rfl
theorem product_Right.bits7 : waitsOk product_Right.T7.2 product_Right.B7 = true := by kernel_rfl
theorem far10 {W : World} {a : Addr} {h j0 j1 j2 j3 j4 j5 j6 j7 j8 j9 : Nat} {v0 v1 v2 v3 v4 v5 v6 v7 v8 v9 : Value} (hne : a.block ≠ h) : ((((((((((W.setCell ⟨h, j0, none⟩ v0).setCell ⟨h, j1, none⟩ v1).setCell ⟨h, j2, none⟩ v2).setCell ⟨h, j3, none⟩ v3).setCell ⟨h, j4, none⟩ v4).setCell ⟨h, j5, none⟩ v5).setCell ⟨h, j6, none⟩ v6).setCell ⟨h, j7, none⟩ v7).setCell ⟨h, j8, none⟩ v8).setCell ⟨h, j9, none⟩ v9).cell? a = W.cell? a :=
 ((((((((((cell_far (p := ⟨h, j9, none⟩) hne _).trans (cell_far (p := ⟨h, j8, none⟩) hne _)).trans (cell_far (p := ⟨h, j7, none⟩) hne _)).trans (cell_far (p := ⟨h, j6, none⟩) hne _)).trans (cell_far (p := ⟨h, j5, none⟩) hne _)).trans (cell_far (p := ⟨h, j4, none⟩) hne _)).trans (cell_far (p := ⟨h, j3, none⟩) hne _)).trans (cell_far (p := ⟨h, j2, none⟩) hne _)).trans (cell_far (p := ⟨h, j1, none⟩) hne _)).trans (cell_far (p := ⟨h, j0, none⟩) hne _))
set_option maxHeartbeats 8000000 in
set_option maxRecDepth 100000 in
theorem product_Right.calls (k : Nat) (A0 : Option Addr) (c0 : Nat) (l0 : List (S32)) (r : Int) (w : World) (hr0 : Kd.C k32 w A0 l0.length l0) (hc0 : l0.length ≤ c0) (h : product_Right.f k l0 = some r) :
  Calls Try.prog 12 #[.slice A0 l0.length c0] w fun e w' => e = .returned (.int .i64 r) ∧ Below w.heap.size w w' := by
 have hu32 := Try.underlying32
 have HR0 := Aside0.mk hr0
 have HC0 := Aside0.mk hc0
 clear hr0 hc0
 have HB := Aside0.mk (Below.refl w.heap.size w)
 have H : (if (l0.length : Int) > 64 then (some 4) else (product_Right.l0 k l0 l0 (l0.length : Int) 0)) = some r := h
 clear h
 by_cases c2 : (l0.length : Int) > 64
 ·rw [if_pos c2] at H
  have c2b0 : decide (64 < (l0.length : Int)) = true := decide_eq_true c2
  have c2b1 : decide (64 < l0.length) = true := decide_eq_true (by omega)
  clear c2
  obtain rfl := Option.some.inj H
  go_enter Try.func12, Try.ntmps12
  go_wp2
  go_ret
  exact ⟨by first | rfl | (simp [errW_none, errW_some] <;> rfl) | (simp [*, errW_none, errW_some] <;> rfl), by repeat (first | (with_reducible first | exact HB.out | apply below_alloc | apply pw_below_drewN | apply below_drew1) | exact HB.out)⟩
 ·rw [if_neg c2] at H
  have c2b0 : decide (64 < (l0.length : Int)) = false := decide_eq_false c2
  have c2b1 : decide (64 < l0.length) = false := decide_eq_false (by omega)
  clear c2
  have H' := Aside0.mk H
  clear H
  go_enter Try.func12, Try.ntmps12
  go_wp2
  go_loopg [12] k (fun kq v12 w' => ∃ (x12_1 : Int), v12 = .int .i64 x12_1 ∧ Aside0 (product_Right.l0 kq l0 l0 (l0.length : Int) x12_1 = some r) ∧ Aside0 (kq ≤ k) ∧ Aside0 (Below w.heap.size w w'))
  case atStart => exact ⟨(0), (by first | rfl | (simp; done) | (simp [*]; done)), H', ⟨Nat.le_refl _⟩, ⟨by repeat (first | (with_reducible first | exact HB.out | apply below_alloc | apply pw_below_drewN | apply below_drew1) | exact HB.out)⟩⟩
  case round =>
   clear H'
   try clear c1
   try clear c2
   try clear c2b0
   try clear c2b1
   try clear p2
   obtain ⟨x12_1, rfl, HA, HK1, HB⟩ := hrel
   cases gk with
   | zero => exact absurd HA.out (by simp [product_Right.l0])
   | succ k1 =>
    have H := HA.out
    clear HA
    simp only [product_Right.l0] at H
    by_cases c3 : x12_1 < (l0.length : Int)
    ·rw [if_pos c3] at H
     have c3b0 : decide (x12_1 < (l0.length : Int)) = true := decide_eq_true c3
     clear c3
     by_cases c4 : 0 ≤ x12_1
     ·rw [if_pos c4] at H
      have c4b0 : decide (0 ≤ x12_1) = true := decide_eq_true c4
      clear c4
      by_cases c5 : x12_1 < (l0.length : Int)
      ·rw [if_pos c5] at H
       have c5b0 : decide (x12_1 < (l0.length : Int)) = true := decide_eq_true c5
       clear c5
       have c6b0 := eq_true (of_decide_eq_true (by first | (with_reducible assumption) | assumption) : 0 ≤ x12_1)
       by_cases c7 : x12_1 ≤ (l0.length : Int)
       ·rw [if_pos c7] at H
        have c7b0 := eq_true c7
        have c7b1 : decide (x12_1 ≤ (l0.length : Int)) = true := decide_eq_true c7
        clear c7
        obtain ⟨y159, hy159⟩ : ∃ y_ : List (S32), y_ = (l0.take (x12_1 : Int).toNat) := ⟨_, rfl⟩
        replace H : ((product_Find.f k1 y159 ((rd_T32 l0 x12_1).f0)).bind fun bt163 => ((product_within.f ((rd_T32 l0 x12_1).f0) 1 9999).bind fun t179 => (if t179 = true then ((product_units.f ((rd_T32 l0 x12_1).f1)).bind fun t180 => ((product_within.f ((rd_T32 l0 x12_1).f2) 1 t180).bind fun t181 => (if t181 = true then ((product_within.f ((rd_T32 l0 x12_1).f3) 0 120).bind fun t182 => (if t182 = true then ((product_within.f ((rd_T32 l0 x12_1).f4) 0 120).bind fun t183 => (if t183 = true then ((product_within.f ((rd_T32 l0 x12_1).f8) 0 100000000).bind fun t184 => (product_Right.j1 k1 l0 bt163.2.2.2.2.2.2.2.2.2.2 l0 (l0.length : Int) x12_1 (!t184) ((rd_T32 l0 x12_1).f0) ((rd_T32 l0 x12_1).f1) ((rd_T32 l0 x12_1).f2) ((rd_T32 l0 x12_1).f3) ((rd_T32 l0 x12_1).f4) ((rd_T32 l0 x12_1).f5) ((rd_T32 l0 x12_1).f6) ((rd_T32 l0 x12_1).f7.f0) ((rd_T32 l0 x12_1).f7.f1) ((rd_T32 l0 x12_1).f8))) else (product_Right.j1 k1 l0 bt163.2.2.2.2.2.2.2.2.2.2 l0 (l0.length : Int) x12_1 true ((rd_T32 l0 x12_1).f0) ((rd_T32 l0 x12_1).f1) ((rd_T32 l0 x12_1).f2) ((rd_T32 l0 x12_1).f3) ((rd_T32 l0 x12_1).f4) ((rd_T32 l0 x12_1).f5) ((rd_T32 l0 x12_1).f6) ((rd_T32 l0 x12_1).f7.f0) ((rd_T32 l0 x12_1).f7.f1) ((rd_T32 l0 x12_1).f8)))) else (product_Right.j1 k1 l0 bt163.2.2.2.2.2.2.2.2.2.2 l0 (l0.length : Int) x12_1 true ((rd_T32 l0 x12_1).f0) ((rd_T32 l0 x12_1).f1) ((rd_T32 l0 x12_1).f2) ((rd_T32 l0 x12_1).f3) ((rd_T32 l0 x12_1).f4) ((rd_T32 l0 x12_1).f5) ((rd_T32 l0 x12_1).f6) ((rd_T32 l0 x12_1).f7.f0) ((rd_T32 l0 x12_1).f7.f1) ((rd_T32 l0 x12_1).f8)))) else (product_Right.j1 k1 l0 bt163.2.2.2.2.2.2.2.2.2.2 l0 (l0.length : Int) x12_1 true ((rd_T32 l0 x12_1).f0) ((rd_T32 l0 x12_1).f1) ((rd_T32 l0 x12_1).f2) ((rd_T32 l0 x12_1).f3) ((rd_T32 l0 x12_1).f4) ((rd_T32 l0 x12_1).f5) ((rd_T32 l0 x12_1).f6) ((rd_T32 l0 x12_1).f7.f0) ((rd_T32 l0 x12_1).f7.f1) ((rd_T32 l0 x12_1).f8))))) else (product_Right.j1 k1 l0 bt163.2.2.2.2.2.2.2.2.2.2 l0 (l0.length : Int) x12_1 true ((rd_T32 l0 x12_1).f0) ((rd_T32 l0 x12_1).f1) ((rd_T32 l0 x12_1).f2) ((rd_T32 l0 x12_1).f3) ((rd_T32 l0 x12_1).f4) ((rd_T32 l0 x12_1).f5) ((rd_T32 l0 x12_1).f6) ((rd_T32 l0 x12_1).f7.f0) ((rd_T32 l0 x12_1).f7.f1) ((rd_T32 l0 x12_1).f8))))) = some r := by first | (rw [hy159]; with_reducible exact H) | (have H2_ := (Option.bind_some _ _).symm.trans H; rw [hy159]; with_reducible exact H2_) | (have H2_ := (Option.bind_some _ _).symm.trans H; with_reducible exact H2_) | with_reducible exact H | (rw [hy159]; exact H) | exact H
        have Ny159 := Aside0.mk hy159
        clear hy159
        replace H := Option.bind_eq_some_iff.mp H
        obtain ⟨⟨t163, t164, t165, t166, t167, t168, t171, t174, t175, t176, t177⟩, A80, H⟩ := H
        replace H : ((product_within.f ((rd_T32 l0 x12_1).f0) 1 9999).bind fun t179 => (if t179 = true then ((product_units.f ((rd_T32 l0 x12_1).f1)).bind fun t180 => ((product_within.f ((rd_T32 l0 x12_1).f2) 1 t180).bind fun t181 => (if t181 = true then ((product_within.f ((rd_T32 l0 x12_1).f3) 0 120).bind fun t182 => (if t182 = true then ((product_within.f ((rd_T32 l0 x12_1).f4) 0 120).bind fun t183 => (if t183 = true then ((product_within.f ((rd_T32 l0 x12_1).f8) 0 100000000).bind fun t184 => (product_Right.j1 k1 l0 t177 l0 (l0.length : Int) x12_1 (!t184) ((rd_T32 l0 x12_1).f0) ((rd_T32 l0 x12_1).f1) ((rd_T32 l0 x12_1).f2) ((rd_T32 l0 x12_1).f3) ((rd_T32 l0 x12_1).f4) ((rd_T32 l0 x12_1).f5) ((rd_T32 l0 x12_1).f6) ((rd_T32 l0 x12_1).f7.f0) ((rd_T32 l0 x12_1).f7.f1) ((rd_T32 l0 x12_1).f8))) else (product_Right.j1 k1 l0 t177 l0 (l0.length : Int) x12_1 true ((rd_T32 l0 x12_1).f0) ((rd_T32 l0 x12_1).f1) ((rd_T32 l0 x12_1).f2) ((rd_T32 l0 x12_1).f3) ((rd_T32 l0 x12_1).f4) ((rd_T32 l0 x12_1).f5) ((rd_T32 l0 x12_1).f6) ((rd_T32 l0 x12_1).f7.f0) ((rd_T32 l0 x12_1).f7.f1) ((rd_T32 l0 x12_1).f8)))) else (product_Right.j1 k1 l0 t177 l0 (l0.length : Int) x12_1 true ((rd_T32 l0 x12_1).f0) ((rd_T32 l0 x12_1).f1) ((rd_T32 l0 x12_1).f2) ((rd_T32 l0 x12_1).f3) ((rd_T32 l0 x12_1).f4) ((rd_T32 l0 x12_1).f5) ((rd_T32 l0 x12_1).f6) ((rd_T32 l0 x12_1).f7.f0) ((rd_T32 l0 x12_1).f7.f1) ((rd_T32 l0 x12_1).f8)))) else (product_Right.j1 k1 l0 t177 l0 (l0.length : Int) x12_1 true ((rd_T32 l0 x12_1).f0) ((rd_T32 l0 x12_1).f1) ((rd_T32 l0 x12_1).f2) ((rd_T32 l0 x12_1).f3) ((rd_T32 l0 x12_1).f4) ((rd_T32 l0 x12_1).f5) ((rd_T32 l0 x12_1).f6) ((rd_T32 l0 x12_1).f7.f0) ((rd_T32 l0 x12_1).f7.f1) ((rd_T32 l0 x12_1).f8))))) else (product_Right.j1 k1 l0 t177 l0 (l0.length : Int) x12_1 true ((rd_T32 l0 x12_1).f0) ((rd_T32 l0 x12_1).f1) ((rd_T32 l0 x12_1).f2) ((rd_T32 l0 x12_1).f3) ((rd_T32 l0 x12_1).f4) ((rd_T32 l0 x12_1).f5) ((rd_T32 l0 x12_1).f6) ((rd_T32 l0 x12_1).f7.f0) ((rd_T32 l0 x12_1).f7.f1) ((rd_T32 l0 x12_1).f8)))) = some r := H
        have A8 := Aside0.mk A80
        clear A80
        have HC9 := Aside0.mk H
        clear H
        have p157 : 0 ≤ (x12_1 : Int) := of_decide_eq_true (by first | (with_reducible assumption) | assumption)
        have q157 : x12_1 < (l0.length : Int) := of_decide_eq_true (by first | (with_reducible assumption) | assumption)
        obtain ⟨ad157, A157_5, c157_5, A157_6, c157_6, e157, hx157_0, hx157_1, hx157_2, hx157_3, hx157_4, hx157_5, hx157_6, hx157_7, hx157_8, hx157_9, hl157_5, hi157_5, hl157_6, hi157_6⟩ := at_T32 HR0.out x12_1 p157 q157
        cases e157
        replace hx157_0 := (HB.out.cell (World.block_lt_of_cell? w _ hx157_0)).trans hx157_0
        replace hx157_1 := (HB.out.cell (World.block_lt_of_cell? w _ hx157_1)).trans hx157_1
        replace hx157_2 := (HB.out.cell (World.block_lt_of_cell? w _ hx157_2)).trans hx157_2
        replace hx157_3 := (HB.out.cell (World.block_lt_of_cell? w _ hx157_3)).trans hx157_3
        replace hx157_4 := (HB.out.cell (World.block_lt_of_cell? w _ hx157_4)).trans hx157_4
        replace hx157_5 := (HB.out.cell (World.block_lt_of_cell? w _ hx157_5)).trans hx157_5
        replace hx157_6 := (HB.out.cell (World.block_lt_of_cell? w _ hx157_6)).trans hx157_6
        replace hx157_7 := (HB.out.cell (World.block_lt_of_cell? w _ hx157_7)).trans hx157_7
        replace hx157_8 := (HB.out.cell (World.block_lt_of_cell? w _ hx157_8)).trans hx157_8
        replace hx157_9 := (HB.out.cell (World.block_lt_of_cell? w _ hx157_9)).trans hx157_9
        have HR157_5 := Aside0.mk hi157_5
        have HC157_5 := Aside0.mk hl157_5
        clear hi157_5 hl157_5
        have HR157_6 := Aside0.mk hi157_6
        have HC157_6 := Aside0.mk hl157_6
        clear hi157_6 hl157_6
        replace p157 := eq_true p157
        replace q157 := eq_true q157
        try go_wp2_with (first | ((with_reducible refine gate_dst (N := 4) rfl ?_); refine box_event ?hg (N := 4) ?hd (cs := #[.int .i64 0, .int .i64 0, .int .i64 0, .int .i64 0, .int .i64 0, .slice none 0 0, .slice none 0 0, .int .i64 0, .int .i64 0, .int .i64 0]) (t := 32) ?hr ?_; (case hd => rfl); (case hg => rfl); (case hr => first | (go_simp; done) | (go_simp; rfl)); intro gb158 hg w10 hbox hb; have n0_ := Aside0.mk (below_step (by repeat (first | (with_reducible first | exact HB.out | apply below_alloc | apply pw_below_drewN | apply below_drew1) | exact HB.out)) hb); have n1_ := Aside0.mk (hbox); have n2_ := Aside0.mk ((by rw [hg]; exact (below_size (by repeat (first | (with_reducible first | exact HB.out | apply below_alloc | apply pw_below_drewN | apply below_drew1) | exact HB.out))) : w.heap.size ≤ gb158)); have n3_ := n2_; clear HB; have HB := n0_; have BK158 := n1_; have GW158 := n2_; have GE158 := n3_; clear n0_ n1_ n2_ n3_; clear hb hbox hg; obtain ⟨hcz11_0, hcz11_1, hcz11_2, hcz11_3, hcz11_4, hcz11_5, hcz11_6, hcz11_7, hcz11_8, hcz11_9, hfz11_0, hfz11_1, hfz11_2, hfz11_3, hfz11_4, hfz11_5, hfz11_6, hfz11_7, hfz11_8, hfz11_9⟩ := cells10 BK158.out))
        have n0_ : Aside0 (((((((((((w10.setCell ⟨gb158, 0, none⟩ (.int .i64 ((rd_T32 l0 x12_1).f0))).setCell ⟨gb158, 1, none⟩ (.int .i64 ((rd_T32 l0 x12_1).f1))).setCell ⟨gb158, 2, none⟩ (.int .i64 ((rd_T32 l0 x12_1).f2))).setCell ⟨gb158, 3, none⟩ (.int .i64 ((rd_T32 l0 x12_1).f3))).setCell ⟨gb158, 4, none⟩ (.int .i64 ((rd_T32 l0 x12_1).f4))).setCell ⟨gb158, 5, none⟩ (.slice A157_5 ((rd_T32 l0 x12_1).f5).length c157_5)).setCell ⟨gb158, 6, none⟩ (.slice A157_6 ((rd_T32 l0 x12_1).f6).length c157_6)).setCell ⟨gb158, 7, none⟩ (.int .i64 ((rd_T32 l0 x12_1).f7.f0))).setCell ⟨gb158, 8, none⟩ (.int .i64 ((rd_T32 l0 x12_1).f7.f1))).setCell ⟨gb158, 9, none⟩ (.int .i64 ((rd_T32 l0 x12_1).f8))).heap[gb158]? = some (.cells #[.int .i64 ((rd_T32 l0 x12_1).f0), .int .i64 ((rd_T32 l0 x12_1).f1), .int .i64 ((rd_T32 l0 x12_1).f2), .int .i64 ((rd_T32 l0 x12_1).f3), .int .i64 ((rd_T32 l0 x12_1).f4), .slice A157_5 ((rd_T32 l0 x12_1).f5).length c157_5, .slice A157_6 ((rd_T32 l0 x12_1).f6).length c157_6, .int .i64 ((rd_T32 l0 x12_1).f7.f0), .int .i64 ((rd_T32 l0 x12_1).f7.f1), .int .i64 ((rd_T32 l0 x12_1).f8)] 32 (0, 0))) := ⟨by (with_reducible repeat first|refine blk_drewN ?_ _|refine blk_drew ?_|refine blk_alloc ?_ _); refine blk_put (cs := #[.int .i64 ((rd_T32 l0 x12_1).f0), .int .i64 ((rd_T32 l0 x12_1).f1), .int .i64 ((rd_T32 l0 x12_1).f2), .int .i64 ((rd_T32 l0 x12_1).f3), .int .i64 ((rd_T32 l0 x12_1).f4), .slice A157_5 ((rd_T32 l0 x12_1).f5).length c157_5, .slice A157_6 ((rd_T32 l0 x12_1).f6).length c157_6, .int .i64 ((rd_T32 l0 x12_1).f7.f0), .int .i64 ((rd_T32 l0 x12_1).f7.f1), .int .i64 0]) ?_ 9 _ rfl; (with_reducible repeat first|refine blk_drewN ?_ _|refine blk_drew ?_|refine blk_alloc ?_ _); refine blk_put (cs := #[.int .i64 ((rd_T32 l0 x12_1).f0), .int .i64 ((rd_T32 l0 x12_1).f1), .int .i64 ((rd_T32 l0 x12_1).f2), .int .i64 ((rd_T32 l0 x12_1).f3), .int .i64 ((rd_T32 l0 x12_1).f4), .slice A157_5 ((rd_T32 l0 x12_1).f5).length c157_5, .slice A157_6 ((rd_T32 l0 x12_1).f6).length c157_6, .int .i64 ((rd_T32 l0 x12_1).f7.f0), .int .i64 0, .int .i64 0]) ?_ 8 _ rfl; (with_reducible repeat first|refine blk_drewN ?_ _|refine blk_drew ?_|refine blk_alloc ?_ _); refine blk_put (cs := #[.int .i64 ((rd_T32 l0 x12_1).f0), .int .i64 ((rd_T32 l0 x12_1).f1), .int .i64 ((rd_T32 l0 x12_1).f2), .int .i64 ((rd_T32 l0 x12_1).f3), .int .i64 ((rd_T32 l0 x12_1).f4), .slice A157_5 ((rd_T32 l0 x12_1).f5).length c157_5, .slice A157_6 ((rd_T32 l0 x12_1).f6).length c157_6, .int .i64 0, .int .i64 0, .int .i64 0]) ?_ 7 _ rfl; (with_reducible repeat first|refine blk_drewN ?_ _|refine blk_drew ?_|refine blk_alloc ?_ _); refine blk_put (cs := #[.int .i64 ((rd_T32 l0 x12_1).f0), .int .i64 ((rd_T32 l0 x12_1).f1), .int .i64 ((rd_T32 l0 x12_1).f2), .int .i64 ((rd_T32 l0 x12_1).f3), .int .i64 ((rd_T32 l0 x12_1).f4), .slice A157_5 ((rd_T32 l0 x12_1).f5).length c157_5, .slice none 0 0, .int .i64 0, .int .i64 0, .int .i64 0]) ?_ 6 _ rfl; (with_reducible repeat first|refine blk_drewN ?_ _|refine blk_drew ?_|refine blk_alloc ?_ _); refine blk_put (cs := #[.int .i64 ((rd_T32 l0 x12_1).f0), .int .i64 ((rd_T32 l0 x12_1).f1), .int .i64 ((rd_T32 l0 x12_1).f2), .int .i64 ((rd_T32 l0 x12_1).f3), .int .i64 ((rd_T32 l0 x12_1).f4), .slice none 0 0, .slice none 0 0, .int .i64 0, .int .i64 0, .int .i64 0]) ?_ 5 _ rfl; (with_reducible repeat first|refine blk_drewN ?_ _|refine blk_drew ?_|refine blk_alloc ?_ _); refine blk_put (cs := #[.int .i64 ((rd_T32 l0 x12_1).f0), .int .i64 ((rd_T32 l0 x12_1).f1), .int .i64 ((rd_T32 l0 x12_1).f2), .int .i64 ((rd_T32 l0 x12_1).f3), .int .i64 0, .slice none 0 0, .slice none 0 0, .int .i64 0, .int .i64 0, .int .i64 0]) ?_ 4 _ rfl; (with_reducible repeat first|refine blk_drewN ?_ _|refine blk_drew ?_|refine blk_alloc ?_ _); refine blk_put (cs := #[.int .i64 ((rd_T32 l0 x12_1).f0), .int .i64 ((rd_T32 l0 x12_1).f1), .int .i64 ((rd_T32 l0 x12_1).f2), .int .i64 0, .int .i64 0, .slice none 0 0, .slice none 0 0, .int .i64 0, .int .i64 0, .int .i64 0]) ?_ 3 _ rfl; (with_reducible repeat first|refine blk_drewN ?_ _|refine blk_drew ?_|refine blk_alloc ?_ _); refine blk_put (cs := #[.int .i64 ((rd_T32 l0 x12_1).f0), .int .i64 ((rd_T32 l0 x12_1).f1), .int .i64 0, .int .i64 0, .int .i64 0, .slice none 0 0, .slice none 0 0, .int .i64 0, .int .i64 0, .int .i64 0]) ?_ 2 _ rfl; (with_reducible repeat first|refine blk_drewN ?_ _|refine blk_drew ?_|refine blk_alloc ?_ _); refine blk_put (cs := #[.int .i64 ((rd_T32 l0 x12_1).f0), .int .i64 0, .int .i64 0, .int .i64 0, .int .i64 0, .slice none 0 0, .slice none 0 0, .int .i64 0, .int .i64 0, .int .i64 0]) ?_ 1 _ rfl; (with_reducible repeat first|refine blk_drewN ?_ _|refine blk_drew ?_|refine blk_alloc ?_ _); refine blk_put (cs := #[.int .i64 0, .int .i64 0, .int .i64 0, .int .i64 0, .int .i64 0, .slice none 0 0, .slice none 0 0, .int .i64 0, .int .i64 0, .int .i64 0]) ?_ 0 _ rfl; (with_reducible repeat first|refine blk_drewN ?_ _|refine blk_drew ?_|refine blk_alloc ?_ _); exact BK158.out⟩
        have n1_ : Aside0 (Below w.heap.size w ((((((((((w10.setCell ⟨gb158, 0, none⟩ (.int .i64 ((rd_T32 l0 x12_1).f0))).setCell ⟨gb158, 1, none⟩ (.int .i64 ((rd_T32 l0 x12_1).f1))).setCell ⟨gb158, 2, none⟩ (.int .i64 ((rd_T32 l0 x12_1).f2))).setCell ⟨gb158, 3, none⟩ (.int .i64 ((rd_T32 l0 x12_1).f3))).setCell ⟨gb158, 4, none⟩ (.int .i64 ((rd_T32 l0 x12_1).f4))).setCell ⟨gb158, 5, none⟩ (.slice A157_5 ((rd_T32 l0 x12_1).f5).length c157_5)).setCell ⟨gb158, 6, none⟩ (.slice A157_6 ((rd_T32 l0 x12_1).f6).length c157_6)).setCell ⟨gb158, 7, none⟩ (.int .i64 ((rd_T32 l0 x12_1).f7.f0))).setCell ⟨gb158, 8, none⟩ (.int .i64 ((rd_T32 l0 x12_1).f7.f1))).setCell ⟨gb158, 9, none⟩ (.int .i64 ((rd_T32 l0 x12_1).f8)))) := ⟨by repeat (first | (with_reducible first | exact HB.out | apply below_alloc | apply pw_below_drewN | apply below_drew1 | refine below_set ?_ GE158.out) | exact HB.out)⟩
        (try clear BK158)
        (try clear HB)
        generalize ((((((((((w10.setCell ⟨gb158, 0, none⟩ (.int .i64 ((rd_T32 l0 x12_1).f0))).setCell ⟨gb158, 1, none⟩ (.int .i64 ((rd_T32 l0 x12_1).f1))).setCell ⟨gb158, 2, none⟩ (.int .i64 ((rd_T32 l0 x12_1).f2))).setCell ⟨gb158, 3, none⟩ (.int .i64 ((rd_T32 l0 x12_1).f3))).setCell ⟨gb158, 4, none⟩ (.int .i64 ((rd_T32 l0 x12_1).f4))).setCell ⟨gb158, 5, none⟩ (.slice A157_5 ((rd_T32 l0 x12_1).f5).length c157_5)).setCell ⟨gb158, 6, none⟩ (.slice A157_6 ((rd_T32 l0 x12_1).f6).length c157_6)).setCell ⟨gb158, 7, none⟩ (.int .i64 ((rd_T32 l0 x12_1).f7.f0))).setCell ⟨gb158, 8, none⟩ (.int .i64 ((rd_T32 l0 x12_1).f7.f1))).setCell ⟨gb158, 9, none⟩ (.int .i64 ((rd_T32 l0 x12_1).f8))) = w12 at n0_ n1_ ⊢
        have BK158 := n0_
        have HB := n1_
        clear n0_ n1_
        have n0_ := Aside0.mk (blk_drew BK158.out)
        have n1_ := Aside0.mk (below_drew1 HB.out)
        clear BK158
        clear HB
        have BK158 := n0_
        have HB := n1_
        clear n0_ n1_
        have q14 : (x12_1 : Int) ≤ ((l0.length : Int) : Int) := of_decide_eq_true (by first | (with_reducible assumption) | assumption)
        obtain ⟨i014, hi014, _, hsz14, _⟩ := info_parts info32
        have hroom14 : l0.length ≤ c0 := HC0.out
        have hC14 : Kd.C k32 _ (some ad157) l0.length l0 := HR0.out
        have hcut14 := cut_to (P := Try.prog) 22 32 .i64 Try.underlying22 hi014 (some ad157) l0.length c0 x12_1 (of_decide_eq_true (by first | (with_reducible assumption) | assumption)) q14 hroom14
        have hr14 := Kd.C_take (m := (x12_1 : Int).toNat) hC14 (by omega)
        have hy14 : y159.length = (x12_1 : Int).toNat := (by rw [Ny159.out, List.length_take]; omega)
        rw [← Ny159.out] at hr14
        rw [← hy14] at hcut14
        have HR162 := Aside0.mk hr14
        have HC162 := Aside0.mk (show y159.length ≤ c0 from by omega)
        clear hr14 hC14 hroom14 hi014 hsz14
        have KY14 := Aside0.mk hy14
        clear hy14
        replace q14 := eq_true q14
        refine start_ (n := 12) (S := fun w' => w'.cell? ⟨gb158, 0, none⟩ = some (.int .i64 ((rd_T32 l0 x12_1).f0)) ∧ w'.cell? ⟨gb158, 1, none⟩ = some (.int .i64 ((rd_T32 l0 x12_1).f1)) ∧ w'.cell? ⟨gb158, 2, none⟩ = some (.int .i64 ((rd_T32 l0 x12_1).f2)) ∧ w'.cell? ⟨gb158, 3, none⟩ = some (.int .i64 ((rd_T32 l0 x12_1).f3)) ∧ w'.cell? ⟨gb158, 4, none⟩ = some (.int .i64 ((rd_T32 l0 x12_1).f4)) ∧ w'.cell? ⟨gb158, 5, none⟩ = some (.slice A157_5 ((rd_T32 l0 x12_1).f5).length c157_5) ∧ w'.cell? ⟨gb158, 6, none⟩ = some (.slice A157_6 ((rd_T32 l0 x12_1).f6).length c157_6) ∧ w'.cell? ⟨gb158, 7, none⟩ = some (.int .i64 ((rd_T32 l0 x12_1).f7.f0)) ∧ w'.cell? ⟨gb158, 8, none⟩ = some (.int .i64 ((rd_T32 l0 x12_1).f7.f1)) ∧ w'.cell? ⟨gb158, 9, none⟩ = some (.int .i64 ((rd_T32 l0 x12_1).f8))) (ds := []) (bs 12 0) (by kernel_rfl) rfl (by kernel_rfl) ⟨(blk_cell BK158.out 0).trans rfl, (blk_cell BK158.out 1).trans rfl, (blk_cell BK158.out 2).trans rfl, (blk_cell BK158.out 3).trans rfl, (blk_cell BK158.out 4).trans rfl, (blk_cell BK158.out 5).trans rfl, (blk_cell BK158.out 6).trans rfl, (blk_cell BK158.out 7).trans rfl, (blk_cell BK158.out 8).trans rfl, (blk_cell BK158.out 9).trans rfl⟩ (fun hHeld => ?_); refine with_tabW product_Right.tab6 product_Right.bits6 (fun HT_ HW_ => ?_)
        generalize w12.drew = w13 at BK158 HB HR162 hHeld ⊢
        refine pure_ (i := 0) (N := some 18) (v := ?_) (a' := ?_) (bs 12 1) rfl rfl (any_of HT_.out (by kernel_rfl)) (fun _ _ _ h => h) (Or.inl ⟨by rfl, ?_⟩) ?_ ?_
        rotate_left
        ·intro w'
         go_simp
         with_reducible rfl
        rotate_left
        ·simp only [Act.put, List.setIfInBounds_toArray, List.set_cons_zero, List.set_cons_succ, i64_w, i32_w]
         rfl
        refine pure_ (i := 1) (N := some 19) (v := ?_) (a' := ?_) (bs 12 3) rfl rfl (any_of HT_.out (by kernel_rfl)) (fun _ _ _ h => h) (Or.inl ⟨by rfl, ?_⟩) ?_ ?_
        rotate_left
        ·intro w'
         go_simp
         with_reducible rfl
        rotate_left
        ·simp only [Act.put, List.setIfInBounds_toArray, List.set_cons_zero, List.set_cons_succ, i64_w, i32_w]
         rfl
        refine pure_ (i := 2) (N := some 20) (v := ?_) (a' := ?_) (bs 12 7) rfl rfl (any_of HT_.out (by kernel_rfl)) (fun _ _ _ h => h) (Or.inl ⟨by rfl, ?_⟩) ?_ ?_
        rotate_left
        ·intro w'
         go_simp
         with_reducible rfl
        rotate_left
        ·simp only [Act.put, List.setIfInBounds_toArray, List.set_cons_zero, List.set_cons_succ, i64_w, i32_w]
         rfl
        refine pure_ (i := 3) (N := some 21) (v := ?_) (a' := ?_) (bs 12 15) rfl rfl (any_of HT_.out (by kernel_rfl)) (fun _ _ _ h => h) (Or.inl ⟨by rfl, ?_⟩) ?_ ?_
        rotate_left
        ·intro w'
         go_simp
         with_reducible rfl
        rotate_left
        ·simp only [Act.put, List.setIfInBounds_toArray, List.set_cons_zero, List.set_cons_succ, i64_w, i32_w]
         rfl
        refine take_ (i := 4) (N := some 22) (v := ?_) (a' := ?_) (bs 12 31) rfl rfl (take_ofW HT_.out HW_.out (by kernel_rfl)) (fun _ _ _ h => h) (Or.inl ⟨by rfl, ?_⟩) hHeld ?_ ?_
        rotate_left
        ·rintro w' ⟨s0, s1, s2, s3, s4, s5, s6, s7, s8, s9⟩
         go_simp
         with_reducible rfl
        rotate_left
        ·simp only [Act.put, List.setIfInBounds_toArray, List.set_cons_zero, List.set_cons_succ, i64_w, i32_w]
         rfl
        refine join_ (σ := Value × Value × Nat) 2 (bs 12 1023) (fun s_ => [(23, .tuple #[.agg #[.int .i64 t163, .int .i64 t164, .int .i64 t165, .int .i64 t166, .int .i64 t167, s_.1, s_.2.1, .int .i64 t174, .int .i64 t175, .int .i64 t176], .bool t177]), (5, .pointer (some ⟨s_.2.2, 0, none⟩)), (17, .tuple #[.agg #[.int .i64 t163, .int .i64 t164, .int .i64 t165, .int .i64 t166, .int .i64 t167, s_.1, s_.2.1, .int .i64 t174, .int .i64 t175, .int .i64 t176], .bool t177]), (24, .agg #[.int .i64 t163, .int .i64 t164, .int .i64 t165, .int .i64 t166, .int .i64 t167, s_.1, s_.2.1, .int .i64 t174, .int .i64 t175, .int .i64 t176]), (25, .bool t177)]) (fun s_ w' => (w'.cell? ⟨gb158, 0, none⟩ = some (.int .i64 ((rd_T32 l0 x12_1).f0)) ∧ w'.cell? ⟨gb158, 1, none⟩ = some (.int .i64 ((rd_T32 l0 x12_1).f1)) ∧ w'.cell? ⟨gb158, 2, none⟩ = some (.int .i64 ((rd_T32 l0 x12_1).f2)) ∧ w'.cell? ⟨gb158, 3, none⟩ = some (.int .i64 ((rd_T32 l0 x12_1).f3)) ∧ w'.cell? ⟨gb158, 4, none⟩ = some (.int .i64 ((rd_T32 l0 x12_1).f4)) ∧ w'.cell? ⟨gb158, 5, none⟩ = some (.slice A157_5 ((rd_T32 l0 x12_1).f5).length c157_5) ∧ w'.cell? ⟨gb158, 6, none⟩ = some (.slice A157_6 ((rd_T32 l0 x12_1).f6).length c157_6) ∧ w'.cell? ⟨gb158, 7, none⟩ = some (.int .i64 ((rd_T32 l0 x12_1).f7.f0)) ∧ w'.cell? ⟨gb158, 8, none⟩ = some (.int .i64 ((rd_T32 l0 x12_1).f7.f1)) ∧ w'.cell? ⟨gb158, 9, none⟩ = some (.int .i64 ((rd_T32 l0 x12_1).f8))) ∧ (Kd.R (Kd.int .i64) 3 w' w.heap.size (fun _ => True) s_.1 t168) ∧ (Kd.R k52 52 w' w.heap.size (fun _ => True) s_.2.1 t171) ∧ (w'.heap[gb158]? = some (.cells #[.int .i64 ((rd_T32 l0 x12_1).f0), .int .i64 ((rd_T32 l0 x12_1).f1), .int .i64 ((rd_T32 l0 x12_1).f2), .int .i64 ((rd_T32 l0 x12_1).f3), .int .i64 ((rd_T32 l0 x12_1).f4), .slice A157_5 ((rd_T32 l0 x12_1).f5).length c157_5, .slice A157_6 ((rd_T32 l0 x12_1).f6).length c157_6, .int .i64 ((rd_T32 l0 x12_1).f7.f0), .int .i64 ((rd_T32 l0 x12_1).f7.f1), .int .i64 ((rd_T32 l0 x12_1).f8)] 32 (0, 0))) ∧ (w'.heap[s_.2.2]? = some (.cells #[.int .i64 0, .int .i64 0, .int .i64 0, .int .i64 0, .int .i64 0, .slice none 0 0, .slice none 0 0, .int .i64 0, .int .i64 0, .int .i64 0] 32 (0, 0))) ∧ (w.heap.size ≤ s_.2.2) ∧ (w.heap.size ≤ s_.2.2) ∧ (gb158 ≠ s_.2.2) ∧ (s_.2.2 ≠ gb158) ∧ (Below w.heap.size w w')) ?_ ?_
        rotate_left
        ·intro hCont
         refine two_ (i := 5) (j := 9) (Ni := some 23) (Nj := some 5) (bs 12 63) (bs 12 543) rfl rfl rfl rfl (two_of HT_.out (by kernel_rfl)) (by decide) (by decide) (fun K hK => ?_) (fun K hK => ?_)
         ·skip
          refine goes_ Try.func14 (by kernel_rfl) rfl #[.slice (some ad157) y159.length c0, .int .i64 ((rd_T32 l0 x12_1).f0)] (by rfl) rfl rfl (by (try simp only [List.map_toArray, List.map_cons, List.map_nil]); first | done | rfl | (simp only [List.length_drop, List.length_take]; rfl)) ?_
          with_reducible refine (product_Find.calls k1 _ _ y159 ((rd_T32 l0 x12_1).f0) t163 t164 t165 t166 t167 t168 t171 t174 t175 t176 t177 _ ?side1 ?side2 A8.out).mono ?_
          (case side1 => repeat (first | exact (Kd.C_below HR162.out HB.out) | (with_reducible refine Kd.C_alloc ?_ _) | (with_reducible refine Kd.C_drewN ?_ _) | (with_reducible refine Kd.C_drew ?_)))
          (case side2 => exact HC162.out)
          rintro e w15 ⟨v169, v172, rfl, ho0, ho1, hb⟩
          refine ⟨_, rfl, ?_⟩
          have n0_ := Aside0.mk (Kd.R_lower ho0 (below_size (by repeat (first | (with_reducible first | exact HB.out | apply below_alloc | apply pw_below_drewN | apply below_drew1 | refine below_set ?_ GE158.out) | exact HB.out))))
          have n1_ := Aside0.mk (Kd.R_lower ho1 (below_size (by repeat (first | (with_reducible first | exact HB.out | apply below_alloc | apply pw_below_drewN | apply below_drew1 | refine below_set ?_ GE158.out) | exact HB.out))))
          have n2_ := Aside0.mk (blk_below (g := gb158) (by (with_reducible repeat first|refine blk_drewN ?_ _|refine blk_drew ?_|refine blk_alloc ?_ _); exact BK158.out) hb)
          have n3_ := Aside0.mk (below_step (by repeat (first | (with_reducible first | exact HB.out | apply below_alloc | apply pw_below_drewN | apply below_drew1 | refine below_set ?_ GE158.out) | exact HB.out)) hb)
          clear BK158
          clear HB
          have HO170 := n0_
          have HO173 := n1_
          have BK158 := n2_
          have HB := n3_
          clear n0_ n1_ n2_ n3_
          (try clear hb)
          (try clear hb2)
          (try clear hk)
          (try clear hi)
          (try clear ho0)
          (try clear ho1)
          refine hK.out _ _ ⟨(blk_cell BK158.out 0).trans rfl, (blk_cell BK158.out 1).trans rfl, (blk_cell BK158.out 2).trans rfl, (blk_cell BK158.out 3).trans rfl, (blk_cell BK158.out 4).trans rfl, (blk_cell BK158.out 5).trans rfl, (blk_cell BK158.out 6).trans rfl, (blk_cell BK158.out 7).trans rfl, (blk_cell BK158.out 8).trans rfl, (blk_cell BK158.out 9).trans rfl⟩ (fun hHeld => ?_)
          clear hK K
          refine norm_ (a' := ?_) ?_ ?_
          rotate_left
          ·show Act.put _ (some 23) _ = _
           simp only [Act.put, List.setIfInBounds_toArray, List.set_cons_zero, List.set_cons_succ, i64_w, i32_w]
           rfl
          refine pure_ (i := 6) (N := some 17) (v := ?_) (a' := ?_) (bs 12 127) rfl rfl (any_of HT_.out (by kernel_rfl)) (fun _ _ _ h => h) (Or.inl ⟨by rfl, ?_⟩) ?_ ?_
          rotate_left
          ·intro w'
           go_simp
           with_reducible rfl
          rotate_left
          ·simp only [Act.put, List.setIfInBounds_toArray, List.set_cons_zero, List.set_cons_succ, i64_w, i32_w]
           rfl
          refine pure_ (i := 7) (N := some 24) (v := ?_) (a' := ?_) (bs 12 255) rfl rfl (any_of HT_.out (by kernel_rfl)) (fun _ _ _ h => h) (Or.inl ⟨by rfl, ?_⟩) ?_ ?_
          rotate_left
          ·intro w'
           go_simp
           with_reducible rfl
          rotate_left
          ·simp only [Act.put, List.setIfInBounds_toArray, List.set_cons_zero, List.set_cons_succ, i64_w, i32_w]
           rfl
          refine pure_ (i := 8) (N := some 25) (v := ?_) (a' := ?_) (bs 12 511) rfl rfl (any_of HT_.out (by kernel_rfl)) (fun _ _ _ h => h) (Or.inl ⟨by rfl, ?_⟩) ?_ ?_
          rotate_left
          ·intro w'
           go_simp
           with_reducible rfl
          rotate_left
          ·simp only [Act.put, List.setIfInBounds_toArray, List.set_cons_zero, List.set_cons_succ, i64_w, i32_w]
           rfl
          refine one_ (i := 9) (N := some 5) (bs 12 1023) rfl rfl (one_of HT_.out (by kernel_rfl)) (by decide) (fun K hK => ?_)
          refine box_step ?hg (N := 5) ?hd (cs := #[.int .i64 0, .int .i64 0, .int .i64 0, .int .i64 0, .int .i64 0, .slice none 0 0, .slice none 0 0, .int .i64 0, .int .i64 0, .int .i64 0]) (t := 32) ?hr ?_; (case hd => rfl); (case hg => rfl); (case hr => first | (go_simp; done) | (go_simp; rfl))
          intro gb178 hg w16 hbox hb
          have n0_ := Aside0.mk (Kd.R_below (by (with_reducible repeat (first | apply Kd.R_alloc | apply Kd.R_drewN | apply Kd.R_drew)); exact HO170.out) hb)
          have n1_ := Aside0.mk (Kd.R_below (by (with_reducible repeat (first | apply Kd.R_alloc | apply Kd.R_drewN | apply Kd.R_drew)); exact HO173.out) hb)
          have n2_ := Aside0.mk (blk_below (g := gb158) (by (with_reducible repeat first|refine blk_drewN ?_ _|refine blk_drew ?_|refine blk_alloc ?_ _); exact BK158.out) hb)
          have n3_ := Aside0.mk (below_step (by repeat (first | (with_reducible first | exact HB.out | apply below_alloc | apply pw_below_drewN | apply below_drew1 | refine below_set ?_ GE158.out) | exact HB.out)) hb)
          have n4_ := Aside0.mk (hbox)
          have n5_ := Aside0.mk ((by rw [hg]; exact (below_size (by repeat (first | (with_reducible first | exact HB.out | apply below_alloc | apply pw_below_drewN | apply below_drew1 | refine below_set ?_ GE158.out) | exact HB.out))) : w.heap.size ≤ gb178))
          have n6_ := Aside0.mk ((by rw [hg]; exact (below_size (by repeat (first | (with_reducible first | exact HB.out | apply below_alloc | apply pw_below_drewN | apply below_drew1 | refine below_set ?_ GE158.out) | exact HB.out))) : w.heap.size ≤ gb178))
          have n7_ := Aside0.mk ((by rw [hg]; exact Nat.ne_of_lt (blk_lt (g := gb158) (by (with_reducible repeat first|refine blk_drewN ?_ _|refine blk_drew ?_|refine blk_alloc ?_ _); exact BK158.out)) : gb158 ≠ gb178))
          have n8_ := Aside0.mk ((by rw [hg]; exact Nat.ne_of_gt (blk_lt (g := gb158) (by (with_reducible repeat first|refine blk_drewN ?_ _|refine blk_drew ?_|refine blk_alloc ?_ _); exact BK158.out)) : gb178 ≠ gb158))
          clear HO170
          clear HO173
          clear BK158
          clear HB
          have HO170 := n0_
          have HO173 := n1_
          have BK158 := n2_
          have HB := n3_
          have BK178 := n4_
          have GW178 := n5_
          have GE178 := n6_
          have NB158_178 := n7_
          have NB178_158 := n8_
          clear n0_ n1_ n2_ n3_ n4_ n5_ n6_ n7_ n8_
          clear hb hbox hg
          refine hK.out _ _ ⟨(blk_cell BK158.out 0).trans rfl, (blk_cell BK158.out 1).trans rfl, (blk_cell BK158.out 2).trans rfl, (blk_cell BK158.out 3).trans rfl, (blk_cell BK158.out 4).trans rfl, (blk_cell BK158.out 5).trans rfl, (blk_cell BK158.out 6).trans rfl, (blk_cell BK158.out 7).trans rfl, (blk_cell BK158.out 8).trans rfl, (blk_cell BK158.out 9).trans rfl⟩ (fun hHeld => ?_)
          clear hK K
          refine norm_ (a' := ?_) ?_ ?_
          rotate_left
          ·show Act.put _ (some 5) _ = _
           simp only [Act.put, List.setIfInBounds_toArray, List.set_cons_zero, List.set_cons_succ, i64_w, i32_w]
           rfl
          exact norm_ (by simp only [putAll, Act.put, List.setIfInBounds_toArray, List.set_cons_zero, List.set_cons_succ]) (hCont (v169, v172, gb178) _ ⟨hHeld, (by (with_reducible repeat (first | apply Kd.R_alloc | apply Kd.R_drewN | apply Kd.R_drew)); exact HO170.out), (by (with_reducible repeat (first | apply Kd.R_alloc | apply Kd.R_drewN | apply Kd.R_drew)); exact HO173.out), (by (with_reducible repeat first|refine blk_drewN ?_ _|refine blk_drew ?_|refine blk_alloc ?_ _); exact BK158.out), (by (with_reducible repeat first|refine blk_drewN ?_ _|refine blk_drew ?_|refine blk_alloc ?_ _); exact BK178.out), GW178.out, GE178.out, NB158_178.out, NB178_158.out, (by repeat (first | (with_reducible first | exact HB.out | apply below_alloc | apply pw_below_drewN | apply below_drew1 | refine below_set ?_ GE158.out | refine below_set ?_ GE178.out) | exact HB.out))⟩)
         ·skip
          refine box_step ?hg (N := 5) ?hd (cs := #[.int .i64 0, .int .i64 0, .int .i64 0, .int .i64 0, .int .i64 0, .slice none 0 0, .slice none 0 0, .int .i64 0, .int .i64 0, .int .i64 0]) (t := 32) ?hr ?_; (case hd => rfl); (case hg => rfl); (case hr => first | (go_simp; done) | (go_simp; rfl))
          intro gb178 hg w15 hbox hb
          have n0_ := Aside0.mk (blk_below (g := gb158) (by (with_reducible repeat first|refine blk_drewN ?_ _|refine blk_drew ?_|refine blk_alloc ?_ _); exact BK158.out) hb)
          have n1_ := Aside0.mk (below_step (by repeat (first | (with_reducible first | exact HB.out | apply below_alloc | apply pw_below_drewN | apply below_drew1 | refine below_set ?_ GE158.out) | exact HB.out)) hb)
          have n2_ := Aside0.mk (hbox)
          have n3_ := Aside0.mk ((by rw [hg]; exact (below_size (by repeat (first | (with_reducible first | exact HB.out | apply below_alloc | apply pw_below_drewN | apply below_drew1 | refine below_set ?_ GE158.out) | exact HB.out))) : w.heap.size ≤ gb178))
          have n4_ := Aside0.mk ((by rw [hg]; exact (below_size (by repeat (first | (with_reducible first | exact HB.out | apply below_alloc | apply pw_below_drewN | apply below_drew1 | refine below_set ?_ GE158.out) | exact HB.out))) : w.heap.size ≤ gb178))
          have n5_ := Aside0.mk ((by rw [hg]; exact Nat.ne_of_lt (blk_lt (g := gb158) (by (with_reducible repeat first|refine blk_drewN ?_ _|refine blk_drew ?_|refine blk_alloc ?_ _); exact BK158.out)) : gb158 ≠ gb178))
          have n6_ := Aside0.mk ((by rw [hg]; exact Nat.ne_of_gt (blk_lt (g := gb158) (by (with_reducible repeat first|refine blk_drewN ?_ _|refine blk_drew ?_|refine blk_alloc ?_ _); exact BK158.out)) : gb178 ≠ gb158))
          clear BK158
          clear HB
          have BK158 := n0_
          have HB := n1_
          have BK178 := n2_
          have GW178 := n3_
          have GE178 := n4_
          have NB158_178 := n5_
          have NB178_158 := n6_
          clear n0_ n1_ n2_ n3_ n4_ n5_ n6_
          clear hb hbox hg
          refine hK.out _ _ ⟨(blk_cell BK158.out 0).trans rfl, (blk_cell BK158.out 1).trans rfl, (blk_cell BK158.out 2).trans rfl, (blk_cell BK158.out 3).trans rfl, (blk_cell BK158.out 4).trans rfl, (blk_cell BK158.out 5).trans rfl, (blk_cell BK158.out 6).trans rfl, (blk_cell BK158.out 7).trans rfl, (blk_cell BK158.out 8).trans rfl, (blk_cell BK158.out 9).trans rfl⟩ (fun hHeld => ?_)
          clear hK K
          refine norm_ (a' := ?_) ?_ ?_
          rotate_left
          ·show Act.put _ (some 5) _ = _
           simp only [Act.put, List.setIfInBounds_toArray, List.set_cons_zero, List.set_cons_succ, i64_w, i32_w]
           rfl
          refine one_ (i := 5) (N := some 23) (bs 12 575) rfl rfl (one_of HT_.out (by kernel_rfl)) (by decide) (fun K hK => ?_)
          refine goes_ Try.func14 (by kernel_rfl) rfl #[.slice (some ad157) y159.length c0, .int .i64 ((rd_T32 l0 x12_1).f0)] (by rfl) rfl rfl (by (try simp only [List.map_toArray, List.map_cons, List.map_nil]); first | done | rfl | (simp only [List.length_drop, List.length_take]; rfl)) ?_
          with_reducible refine (product_Find.calls k1 _ _ y159 ((rd_T32 l0 x12_1).f0) t163 t164 t165 t166 t167 t168 t171 t174 t175 t176 t177 _ ?side1 ?side2 A8.out).mono ?_
          (case side1 => repeat (first | exact (Kd.C_below HR162.out HB.out) | (with_reducible refine Kd.C_alloc ?_ _) | (with_reducible refine Kd.C_drewN ?_ _) | (with_reducible refine Kd.C_drew ?_)))
          (case side2 => exact HC162.out)
          rintro e w16 ⟨v169, v172, rfl, ho0, ho1, hb⟩
          refine ⟨_, rfl, ?_⟩
          have n0_ := Aside0.mk (Kd.R_lower ho0 (below_size (by repeat (first | (with_reducible first | exact HB.out | apply below_alloc | apply pw_below_drewN | apply below_drew1 | refine below_set ?_ GE158.out | refine below_set ?_ GE178.out) | exact HB.out))))
          have n1_ := Aside0.mk (Kd.R_lower ho1 (below_size (by repeat (first | (with_reducible first | exact HB.out | apply below_alloc | apply pw_below_drewN | apply below_drew1 | refine below_set ?_ GE158.out | refine below_set ?_ GE178.out) | exact HB.out))))
          have n2_ := Aside0.mk (blk_below (g := gb158) (by (with_reducible repeat first|refine blk_drewN ?_ _|refine blk_drew ?_|refine blk_alloc ?_ _); exact BK158.out) hb)
          have n3_ := Aside0.mk (blk_below (g := gb178) (by (with_reducible repeat first|refine blk_drewN ?_ _|refine blk_drew ?_|refine blk_alloc ?_ _); exact BK178.out) hb)
          have n4_ := Aside0.mk (below_step (by repeat (first | (with_reducible first | exact HB.out | apply below_alloc | apply pw_below_drewN | apply below_drew1 | refine below_set ?_ GE158.out | refine below_set ?_ GE178.out) | exact HB.out)) hb)
          clear BK158
          clear BK178
          clear HB
          have HO170 := n0_
          have HO173 := n1_
          have BK158 := n2_
          have BK178 := n3_
          have HB := n4_
          clear n0_ n1_ n2_ n3_ n4_
          (try clear hb)
          (try clear hb2)
          (try clear hk)
          (try clear hi)
          (try clear ho0)
          (try clear ho1)
          refine hK.out _ _ ⟨(blk_cell BK158.out 0).trans rfl, (blk_cell BK158.out 1).trans rfl, (blk_cell BK158.out 2).trans rfl, (blk_cell BK158.out 3).trans rfl, (blk_cell BK158.out 4).trans rfl, (blk_cell BK158.out 5).trans rfl, (blk_cell BK158.out 6).trans rfl, (blk_cell BK158.out 7).trans rfl, (blk_cell BK158.out 8).trans rfl, (blk_cell BK158.out 9).trans rfl⟩ (fun hHeld => ?_)
          clear hK K
          refine norm_ (a' := ?_) ?_ ?_
          rotate_left
          ·show Act.put _ (some 23) _ = _
           simp only [Act.put, List.setIfInBounds_toArray, List.set_cons_zero, List.set_cons_succ, i64_w, i32_w]
           rfl
          refine pure_ (i := 6) (N := some 17) (v := ?_) (a' := ?_) (bs 12 639) rfl rfl (any_of HT_.out (by kernel_rfl)) (fun _ _ _ h => h) (Or.inl ⟨by rfl, ?_⟩) ?_ ?_
          rotate_left
          ·intro w'
           go_simp
           with_reducible rfl
          rotate_left
          ·simp only [Act.put, List.setIfInBounds_toArray, List.set_cons_zero, List.set_cons_succ, i64_w, i32_w]
           rfl
          refine pure_ (i := 7) (N := some 24) (v := ?_) (a' := ?_) (bs 12 767) rfl rfl (any_of HT_.out (by kernel_rfl)) (fun _ _ _ h => h) (Or.inl ⟨by rfl, ?_⟩) ?_ ?_
          rotate_left
          ·intro w'
           go_simp
           with_reducible rfl
          rotate_left
          ·simp only [Act.put, List.setIfInBounds_toArray, List.set_cons_zero, List.set_cons_succ, i64_w, i32_w]
           rfl
          refine pure_ (i := 8) (N := some 25) (v := ?_) (a' := ?_) (bs 12 1023) rfl rfl (any_of HT_.out (by kernel_rfl)) (fun _ _ _ h => h) (Or.inl ⟨by rfl, ?_⟩) ?_ ?_
          rotate_left
          ·intro w'
           go_simp
           with_reducible rfl
          rotate_left
          ·simp only [Act.put, List.setIfInBounds_toArray, List.set_cons_zero, List.set_cons_succ, i64_w, i32_w]
           rfl
          exact norm_ (by simp only [putAll, Act.put, List.setIfInBounds_toArray, List.set_cons_zero, List.set_cons_succ]) (hCont (v169, v172, gb178) _ ⟨hHeld, (by (with_reducible repeat (first | apply Kd.R_alloc | apply Kd.R_drewN | apply Kd.R_drew)); exact HO170.out), (by (with_reducible repeat (first | apply Kd.R_alloc | apply Kd.R_drewN | apply Kd.R_drew)); exact HO173.out), (by (with_reducible repeat first|refine blk_drewN ?_ _|refine blk_drew ?_|refine blk_alloc ?_ _); exact BK158.out), (by (with_reducible repeat first|refine blk_drewN ?_ _|refine blk_drew ?_|refine blk_alloc ?_ _); exact BK178.out), GW178.out, GE178.out, NB158_178.out, NB178_158.out, (by repeat (first | (with_reducible first | exact HB.out | apply below_alloc | apply pw_below_drewN | apply below_drew1 | refine below_set ?_ GE158.out | refine below_set ?_ GE178.out) | exact HB.out))⟩)
        rintro ⟨v169, v172, gb178⟩ w17 ⟨hS_, h0_, h1_, h2_, h3_, h4_, h5_, h6_, h7_, h8_⟩
        have n0_ : Aside0 (Kd.R (Kd.int .i64) 3 w17 w.heap.size (fun _ => True) v169 t168) := ⟨h0_⟩
        have n1_ : Aside0 (Kd.R k52 52 w17 w.heap.size (fun _ => True) v172 t171) := ⟨h1_⟩
        have n2_ : Aside0 (w17.heap[gb158]? = some (.cells #[.int .i64 ((rd_T32 l0 x12_1).f0), .int .i64 ((rd_T32 l0 x12_1).f1), .int .i64 ((rd_T32 l0 x12_1).f2), .int .i64 ((rd_T32 l0 x12_1).f3), .int .i64 ((rd_T32 l0 x12_1).f4), .slice A157_5 ((rd_T32 l0 x12_1).f5).length c157_5, .slice A157_6 ((rd_T32 l0 x12_1).f6).length c157_6, .int .i64 ((rd_T32 l0 x12_1).f7.f0), .int .i64 ((rd_T32 l0 x12_1).f7.f1), .int .i64 ((rd_T32 l0 x12_1).f8)] 32 (0, 0))) := ⟨h2_⟩
        have n3_ : Aside0 (w17.heap[gb178]? = some (.cells #[.int .i64 0, .int .i64 0, .int .i64 0, .int .i64 0, .int .i64 0, .slice none 0 0, .slice none 0 0, .int .i64 0, .int .i64 0, .int .i64 0] 32 (0, 0))) := ⟨h3_⟩
        have n4_ : Aside0 (w.heap.size ≤ gb178) := ⟨h4_⟩
        have n5_ : Aside0 (w.heap.size ≤ gb178) := ⟨h5_⟩
        have n6_ : Aside0 (gb158 ≠ gb178) := ⟨h6_⟩
        have n7_ : Aside0 (gb178 ≠ gb158) := ⟨h7_⟩
        have n8_ : Aside0 (Below w.heap.size w w17) := ⟨h8_⟩
        clear BK158
        clear HB
        clear h0_ h1_ h2_ h3_ h4_ h5_ h6_ h7_ h8_
        have HO170 := n0_
        have HO173 := n1_
        have BK158 := n2_
        have BK178 := n3_
        have GW178 := n4_
        have GE178 := n5_
        have NB158_178 := n6_
        have NB178_158 := n7_
        have HB := n8_
        clear n0_ n1_ n2_ n3_ n4_ n5_ n6_ n7_ n8_
        have hHeld : w17.cell? ⟨gb158, 0, none⟩ = some (.int .i64 ((rd_T32 l0 x12_1).f0)) ∧ w17.cell? ⟨gb158, 1, none⟩ = some (.int .i64 ((rd_T32 l0 x12_1).f1)) ∧ w17.cell? ⟨gb158, 2, none⟩ = some (.int .i64 ((rd_T32 l0 x12_1).f2)) ∧ w17.cell? ⟨gb158, 3, none⟩ = some (.int .i64 ((rd_T32 l0 x12_1).f3)) ∧ w17.cell? ⟨gb158, 4, none⟩ = some (.int .i64 ((rd_T32 l0 x12_1).f4)) ∧ w17.cell? ⟨gb158, 5, none⟩ = some (.slice A157_5 ((rd_T32 l0 x12_1).f5).length c157_5) ∧ w17.cell? ⟨gb158, 6, none⟩ = some (.slice A157_6 ((rd_T32 l0 x12_1).f6).length c157_6) ∧ w17.cell? ⟨gb158, 7, none⟩ = some (.int .i64 ((rd_T32 l0 x12_1).f7.f0)) ∧ w17.cell? ⟨gb158, 8, none⟩ = some (.int .i64 ((rd_T32 l0 x12_1).f7.f1)) ∧ w17.cell? ⟨gb158, 9, none⟩ = some (.int .i64 ((rd_T32 l0 x12_1).f8)) := hS_
        obtain ⟨Ao23, co23, eo23⟩ := Kd.R_slice HO170.out
        (first | subst eo23 | (injection eo23 with f1_ f2_ f3_; have f4_ := f1_.symm; have f5_ := f3_.symm; clear f1_ f2_ f3_; subst f4_; subst f5_))
        obtain ⟨Ao25, co25, eo25⟩ := Kd.R_slice HO173.out
        (first | subst eo25 | (injection eo25 with f1_ f2_ f3_; have f4_ := f1_.symm; have f5_ := f3_.symm; clear f1_ f2_ f3_; subst f4_; subst f5_))
        refine norm_ (a' := ?_) ?_ ?_
        rotate_left
        ·simp only [putAll, Act.put, List.setIfInBounds_toArray, List.set_cons_zero, List.set_cons_succ]
         rfl
        refine one_ (i := 10) (N := none) (bs 12 2047) rfl rfl (one_of HT_.out (by kernel_rfl)) (by decide) (fun K hK => ?_)
        have hs18 : w17.cell? ⟨gb178, 0, none⟩ = some (.int .i64 0) := (blk_cell BK178.out 0).trans rfl
        have hfs18 := blk_frozen BK178.out 0
        have hns18_0 := NB158_178.out
        have hms18_0 := NB178_158.out
        have hs19 : w17.cell? ⟨gb178, 1, none⟩ = some (.int .i64 0) := (blk_cell BK178.out 1).trans rfl
        have hfs19 := blk_frozen BK178.out 1
        have hns19_0 := NB158_178.out
        have hms19_0 := NB178_158.out
        have hs20 : w17.cell? ⟨gb178, 2, none⟩ = some (.int .i64 0) := (blk_cell BK178.out 2).trans rfl
        have hfs20 := blk_frozen BK178.out 2
        have hns20_0 := NB158_178.out
        have hms20_0 := NB178_158.out
        have hs21 : w17.cell? ⟨gb178, 3, none⟩ = some (.int .i64 0) := (blk_cell BK178.out 3).trans rfl
        have hfs21 := blk_frozen BK178.out 3
        have hns21_0 := NB158_178.out
        have hms21_0 := NB178_158.out
        have hs22 : w17.cell? ⟨gb178, 4, none⟩ = some (.int .i64 0) := (blk_cell BK178.out 4).trans rfl
        have hfs22 := blk_frozen BK178.out 4
        have hns22_0 := NB158_178.out
        have hms22_0 := NB178_158.out
        have hs24 : w17.cell? ⟨gb178, 5, none⟩ = some (.slice none 0 0) := (blk_cell BK178.out 5).trans rfl
        have hfs24 := blk_frozen BK178.out 5
        have hns24_0 := NB158_178.out
        have hms24_0 := NB178_158.out
        have hs26 : w17.cell? ⟨gb178, 6, none⟩ = some (.slice none 0 0) := (blk_cell BK178.out 6).trans rfl
        have hfs26 := blk_frozen BK178.out 6
        have hns26_0 := NB158_178.out
        have hms26_0 := NB178_158.out
        have hs27 : w17.cell? ⟨gb178, 7, none⟩ = some (.int .i64 0) := (blk_cell BK178.out 7).trans rfl
        have hfs27 := blk_frozen BK178.out 7
        have hns27_0 := NB158_178.out
        have hms27_0 := NB178_158.out
        have hs28 : w17.cell? ⟨gb178, 8, none⟩ = some (.int .i64 0) := (blk_cell BK178.out 8).trans rfl
        have hfs28 := blk_frozen BK178.out 8
        have hns28_0 := NB158_178.out
        have hms28_0 := NB178_158.out
        have hs29 : w17.cell? ⟨gb178, 9, none⟩ = some (.int .i64 0) := (blk_cell BK178.out 9).trans rfl
        have hfs29 := blk_frozen BK178.out 9
        have hns29_0 := NB158_178.out
        have hms29_0 := NB178_158.out
        refine skip_ (w1 := ?_) (by rfl) rfl ?_ ?_
        rotate_left
        ·go_simp
         rfl
        refine hK.out _ _ ⟨((far10 (h := gb178) NB158_178.out).trans (hHeld.1)), ((far10 (h := gb178) NB158_178.out).trans (hHeld.2.1)), ((far10 (h := gb178) NB158_178.out).trans (hHeld.2.2.1)), ((far10 (h := gb178) NB158_178.out).trans (hHeld.2.2.2.1)), ((far10 (h := gb178) NB158_178.out).trans (hHeld.2.2.2.2.1)), ((far10 (h := gb178) NB158_178.out).trans (hHeld.2.2.2.2.2.1)), ((far10 (h := gb178) NB158_178.out).trans (hHeld.2.2.2.2.2.2.1)), ((far10 (h := gb178) NB158_178.out).trans (hHeld.2.2.2.2.2.2.2.1)), ((far10 (h := gb178) NB158_178.out).trans (hHeld.2.2.2.2.2.2.2.2.1)), ((far10 (h := gb178) NB158_178.out).trans (hHeld.2.2.2.2.2.2.2.2.2))⟩ (fun hHeld => ?_)
        clear hK K
        refine pure_ (i := 11) (N := some 6) (v := ?_) (a' := ?_) (bs 12 4095) rfl rfl (any_of HT_.out (by kernel_rfl)) (fun _ _ _ h => h) (Or.inl ⟨by rfl, ?_⟩) ?_ ?_
        rotate_left
        ·intro w'
         go_simp
         with_reducible rfl
        rotate_left
        ·simp only [Act.put, List.setIfInBounds_toArray, List.set_cons_zero, List.set_cons_succ, i64_w, i32_w]
         rfl
        refine done_ (done_of HT_.out (by kernel_rfl)) ?_
        go_upto_region 7 with (fail)
        go_cut [26] (fun v26 wc => ∃ (kq : Nat) (x26_8 : Bool), v26 = .bool x26_8 ∧ Aside0 (product_Right.j1 kq l0 t177 l0 (l0.length : Int) x12_1 x26_8 ((rd_T32 l0 x12_1).f0) ((rd_T32 l0 x12_1).f1) ((rd_T32 l0 x12_1).f2) ((rd_T32 l0 x12_1).f3) ((rd_T32 l0 x12_1).f4) ((rd_T32 l0 x12_1).f5) ((rd_T32 l0 x12_1).f6) ((rd_T32 l0 x12_1).f7.f0) ((rd_T32 l0 x12_1).f7.f1) ((rd_T32 l0 x12_1).f8) = some r) ∧ Aside0 (kq ≤ k1) ∧ Aside0 (Kd.R (Kd.int .i64) 3 wc w.heap.size (fun _ => True) (.slice Ao23 t168.length co23) t168) ∧ Aside0 (Kd.R k52 52 wc w.heap.size (fun _ => True) (.slice Ao25 t171.length co25) t171) ∧ Aside0 (wc.heap[gb158]? = some (.cells #[.int .i64 ((rd_T32 l0 x12_1).f0), .int .i64 ((rd_T32 l0 x12_1).f1), .int .i64 ((rd_T32 l0 x12_1).f2), .int .i64 ((rd_T32 l0 x12_1).f3), .int .i64 ((rd_T32 l0 x12_1).f4), (.slice A157_5 ((rd_T32 l0 x12_1).f5).length c157_5), (.slice A157_6 ((rd_T32 l0 x12_1).f6).length c157_6), .int .i64 ((rd_T32 l0 x12_1).f7.f0), .int .i64 ((rd_T32 l0 x12_1).f7.f1), .int .i64 ((rd_T32 l0 x12_1).f8)] 32 (0, 0))) ∧ Aside0 (wc.heap[gb178]? = some (.cells #[.int .i64 t163, .int .i64 t164, .int .i64 t165, .int .i64 t166, .int .i64 t167, (.slice Ao23 t168.length co23), (.slice Ao25 t171.length co25), .int .i64 t174, .int .i64 t175, .int .i64 t176] 32 (0, 0))) ∧ Aside0 (Below w.heap.size w wc))
        case first =>
         have H := HC9.out
         clear HC9
         replace H := Option.bind_eq_some_iff.mp H
         obtain ⟨t179, A300, H⟩ := H
         replace H : (if t179 = true then ((product_units.f ((rd_T32 l0 x12_1).f1)).bind fun t180 => ((product_within.f ((rd_T32 l0 x12_1).f2) 1 t180).bind fun t181 => (if t181 = true then ((product_within.f ((rd_T32 l0 x12_1).f3) 0 120).bind fun t182 => (if t182 = true then ((product_within.f ((rd_T32 l0 x12_1).f4) 0 120).bind fun t183 => (if t183 = true then ((product_within.f ((rd_T32 l0 x12_1).f8) 0 100000000).bind fun t184 => (product_Right.j1 k1 l0 t177 l0 (l0.length : Int) x12_1 (!t184) ((rd_T32 l0 x12_1).f0) ((rd_T32 l0 x12_1).f1) ((rd_T32 l0 x12_1).f2) ((rd_T32 l0 x12_1).f3) ((rd_T32 l0 x12_1).f4) ((rd_T32 l0 x12_1).f5) ((rd_T32 l0 x12_1).f6) ((rd_T32 l0 x12_1).f7.f0) ((rd_T32 l0 x12_1).f7.f1) ((rd_T32 l0 x12_1).f8))) else (product_Right.j1 k1 l0 t177 l0 (l0.length : Int) x12_1 true ((rd_T32 l0 x12_1).f0) ((rd_T32 l0 x12_1).f1) ((rd_T32 l0 x12_1).f2) ((rd_T32 l0 x12_1).f3) ((rd_T32 l0 x12_1).f4) ((rd_T32 l0 x12_1).f5) ((rd_T32 l0 x12_1).f6) ((rd_T32 l0 x12_1).f7.f0) ((rd_T32 l0 x12_1).f7.f1) ((rd_T32 l0 x12_1).f8)))) else (product_Right.j1 k1 l0 t177 l0 (l0.length : Int) x12_1 true ((rd_T32 l0 x12_1).f0) ((rd_T32 l0 x12_1).f1) ((rd_T32 l0 x12_1).f2) ((rd_T32 l0 x12_1).f3) ((rd_T32 l0 x12_1).f4) ((rd_T32 l0 x12_1).f5) ((rd_T32 l0 x12_1).f6) ((rd_T32 l0 x12_1).f7.f0) ((rd_T32 l0 x12_1).f7.f1) ((rd_T32 l0 x12_1).f8)))) else (product_Right.j1 k1 l0 t177 l0 (l0.length : Int) x12_1 true ((rd_T32 l0 x12_1).f0) ((rd_T32 l0 x12_1).f1) ((rd_T32 l0 x12_1).f2) ((rd_T32 l0 x12_1).f3) ((rd_T32 l0 x12_1).f4) ((rd_T32 l0 x12_1).f5) ((rd_T32 l0 x12_1).f6) ((rd_T32 l0 x12_1).f7.f0) ((rd_T32 l0 x12_1).f7.f1) ((rd_T32 l0 x12_1).f8))))) else (product_Right.j1 k1 l0 t177 l0 (l0.length : Int) x12_1 true ((rd_T32 l0 x12_1).f0) ((rd_T32 l0 x12_1).f1) ((rd_T32 l0 x12_1).f2) ((rd_T32 l0 x12_1).f3) ((rd_T32 l0 x12_1).f4) ((rd_T32 l0 x12_1).f5) ((rd_T32 l0 x12_1).f6) ((rd_T32 l0 x12_1).f7.f0) ((rd_T32 l0 x12_1).f7.f1) ((rd_T32 l0 x12_1).f8))) = some r := H
         have A30 := Aside0.mk A300
         clear A300
         have HQ_ := Aside0.mk H
         clear H
         try go_wp2
         have n0_ : Aside0 (Kd.R (Kd.int .i64) 3 ((((((((((w17.setCell ⟨gb178, 0, none⟩ (.int .i64 t163)).setCell ⟨gb178, 1, none⟩ (.int .i64 t164)).setCell ⟨gb178, 2, none⟩ (.int .i64 t165)).setCell ⟨gb178, 3, none⟩ (.int .i64 t166)).setCell ⟨gb178, 4, none⟩ (.int .i64 t167)).setCell ⟨gb178, 5, none⟩ (.slice Ao23 t168.length co23)).setCell ⟨gb178, 6, none⟩ (.slice Ao25 t171.length co25)).setCell ⟨gb178, 7, none⟩ (.int .i64 t174)).setCell ⟨gb178, 8, none⟩ (.int .i64 t175)).setCell ⟨gb178, 9, none⟩ (.int .i64 t176)) w.heap.size (fun _ => True) (.slice Ao23 t168.length co23) t168) := ⟨by (with_reducible repeat (first | apply Kd.R_alloc | apply Kd.R_drewN | apply Kd.R_drew)); exact Kd.R_mono (Kd.R_far (p := ⟨gb178, 9, none⟩) (Kd.R_far (p := ⟨gb178, 8, none⟩) (Kd.R_far (p := ⟨gb178, 7, none⟩) (Kd.R_far (p := ⟨gb178, 6, none⟩) (Kd.R_far (p := ⟨gb178, 5, none⟩) (Kd.R_far (p := ⟨gb178, 4, none⟩) (Kd.R_far (p := ⟨gb178, 3, none⟩) (Kd.R_far (p := ⟨gb178, 2, none⟩) (Kd.R_far (p := ⟨gb178, 1, none⟩) (Kd.R_far (p := ⟨gb178, 0, none⟩) (Kd.R_types HO170.out BK178.out (by decide)) (fun _ hk => hk.2) (.int .i64 t163)) (fun _ hk => hk.2) (.int .i64 t164)) (fun _ hk => hk.2) (.int .i64 t165)) (fun _ hk => hk.2) (.int .i64 t166)) (fun _ hk => hk.2) (.int .i64 t167)) (fun _ hk => hk.2) (.slice Ao23 t168.length co23)) (fun _ hk => hk.2) (.slice Ao25 t171.length co25)) (fun _ hk => hk.2) (.int .i64 t174)) (fun _ hk => hk.2) (.int .i64 t175)) (fun _ hk => hk.2) (.int .i64 t176)) (fun _ hk => trivial)⟩
         have n1_ : Aside0 (Kd.R k52 52 ((((((((((w17.setCell ⟨gb178, 0, none⟩ (.int .i64 t163)).setCell ⟨gb178, 1, none⟩ (.int .i64 t164)).setCell ⟨gb178, 2, none⟩ (.int .i64 t165)).setCell ⟨gb178, 3, none⟩ (.int .i64 t166)).setCell ⟨gb178, 4, none⟩ (.int .i64 t167)).setCell ⟨gb178, 5, none⟩ (.slice Ao23 t168.length co23)).setCell ⟨gb178, 6, none⟩ (.slice Ao25 t171.length co25)).setCell ⟨gb178, 7, none⟩ (.int .i64 t174)).setCell ⟨gb178, 8, none⟩ (.int .i64 t175)).setCell ⟨gb178, 9, none⟩ (.int .i64 t176)) w.heap.size (fun _ => True) (.slice Ao25 t171.length co25) t171) := ⟨by (with_reducible repeat (first | apply Kd.R_alloc | apply Kd.R_drewN | apply Kd.R_drew)); exact Kd.R_mono (Kd.R_far (p := ⟨gb178, 9, none⟩) (Kd.R_far (p := ⟨gb178, 8, none⟩) (Kd.R_far (p := ⟨gb178, 7, none⟩) (Kd.R_far (p := ⟨gb178, 6, none⟩) (Kd.R_far (p := ⟨gb178, 5, none⟩) (Kd.R_far (p := ⟨gb178, 4, none⟩) (Kd.R_far (p := ⟨gb178, 3, none⟩) (Kd.R_far (p := ⟨gb178, 2, none⟩) (Kd.R_far (p := ⟨gb178, 1, none⟩) (Kd.R_far (p := ⟨gb178, 0, none⟩) (Kd.R_types HO173.out BK178.out (by decide)) (fun _ hk => hk.2) (.int .i64 t163)) (fun _ hk => hk.2) (.int .i64 t164)) (fun _ hk => hk.2) (.int .i64 t165)) (fun _ hk => hk.2) (.int .i64 t166)) (fun _ hk => hk.2) (.int .i64 t167)) (fun _ hk => hk.2) (.slice Ao23 t168.length co23)) (fun _ hk => hk.2) (.slice Ao25 t171.length co25)) (fun _ hk => hk.2) (.int .i64 t174)) (fun _ hk => hk.2) (.int .i64 t175)) (fun _ hk => hk.2) (.int .i64 t176)) (fun _ hk => trivial)⟩
         have n2_ : Aside0 (((((((((((w17.setCell ⟨gb178, 0, none⟩ (.int .i64 t163)).setCell ⟨gb178, 1, none⟩ (.int .i64 t164)).setCell ⟨gb178, 2, none⟩ (.int .i64 t165)).setCell ⟨gb178, 3, none⟩ (.int .i64 t166)).setCell ⟨gb178, 4, none⟩ (.int .i64 t167)).setCell ⟨gb178, 5, none⟩ (.slice Ao23 t168.length co23)).setCell ⟨gb178, 6, none⟩ (.slice Ao25 t171.length co25)).setCell ⟨gb178, 7, none⟩ (.int .i64 t174)).setCell ⟨gb178, 8, none⟩ (.int .i64 t175)).setCell ⟨gb178, 9, none⟩ (.int .i64 t176)).heap[gb158]? = some (.cells #[.int .i64 ((rd_T32 l0 x12_1).f0), .int .i64 ((rd_T32 l0 x12_1).f1), .int .i64 ((rd_T32 l0 x12_1).f2), .int .i64 ((rd_T32 l0 x12_1).f3), .int .i64 ((rd_T32 l0 x12_1).f4), .slice A157_5 ((rd_T32 l0 x12_1).f5).length c157_5, .slice A157_6 ((rd_T32 l0 x12_1).f6).length c157_6, .int .i64 ((rd_T32 l0 x12_1).f7.f0), .int .i64 ((rd_T32 l0 x12_1).f7.f1), .int .i64 ((rd_T32 l0 x12_1).f8)] 32 (0, 0))) := ⟨by (with_reducible repeat first|refine blk_drewN ?_ _|refine blk_drew ?_|refine blk_alloc ?_ _); refine blk_far ?_ NB158_178.out _; (with_reducible repeat first|refine blk_drewN ?_ _|refine blk_drew ?_|refine blk_alloc ?_ _); refine blk_far ?_ NB158_178.out _; (with_reducible repeat first|refine blk_drewN ?_ _|refine blk_drew ?_|refine blk_alloc ?_ _); refine blk_far ?_ NB158_178.out _; (with_reducible repeat first|refine blk_drewN ?_ _|refine blk_drew ?_|refine blk_alloc ?_ _); refine blk_far ?_ NB158_178.out _; (with_reducible repeat first|refine blk_drewN ?_ _|refine blk_drew ?_|refine blk_alloc ?_ _); refine blk_far ?_ NB158_178.out _; (with_reducible repeat first|refine blk_drewN ?_ _|refine blk_drew ?_|refine blk_alloc ?_ _); refine blk_far ?_ NB158_178.out _; (with_reducible repeat first|refine blk_drewN ?_ _|refine blk_drew ?_|refine blk_alloc ?_ _); refine blk_far ?_ NB158_178.out _; (with_reducible repeat first|refine blk_drewN ?_ _|refine blk_drew ?_|refine blk_alloc ?_ _); refine blk_far ?_ NB158_178.out _; (with_reducible repeat first|refine blk_drewN ?_ _|refine blk_drew ?_|refine blk_alloc ?_ _); refine blk_far ?_ NB158_178.out _; (with_reducible repeat first|refine blk_drewN ?_ _|refine blk_drew ?_|refine blk_alloc ?_ _); refine blk_far ?_ NB158_178.out _; (with_reducible repeat first|refine blk_drewN ?_ _|refine blk_drew ?_|refine blk_alloc ?_ _); exact BK158.out⟩
         have n3_ : Aside0 (((((((((((w17.setCell ⟨gb178, 0, none⟩ (.int .i64 t163)).setCell ⟨gb178, 1, none⟩ (.int .i64 t164)).setCell ⟨gb178, 2, none⟩ (.int .i64 t165)).setCell ⟨gb178, 3, none⟩ (.int .i64 t166)).setCell ⟨gb178, 4, none⟩ (.int .i64 t167)).setCell ⟨gb178, 5, none⟩ (.slice Ao23 t168.length co23)).setCell ⟨gb178, 6, none⟩ (.slice Ao25 t171.length co25)).setCell ⟨gb178, 7, none⟩ (.int .i64 t174)).setCell ⟨gb178, 8, none⟩ (.int .i64 t175)).setCell ⟨gb178, 9, none⟩ (.int .i64 t176)).heap[gb178]? = some (.cells #[.int .i64 t163, .int .i64 t164, .int .i64 t165, .int .i64 t166, .int .i64 t167, .slice Ao23 t168.length co23, .slice Ao25 t171.length co25, .int .i64 t174, .int .i64 t175, .int .i64 t176] 32 (0, 0))) := ⟨by (with_reducible repeat first|refine blk_drewN ?_ _|refine blk_drew ?_|refine blk_alloc ?_ _); refine blk_put (cs := #[.int .i64 t163, .int .i64 t164, .int .i64 t165, .int .i64 t166, .int .i64 t167, .slice Ao23 t168.length co23, .slice Ao25 t171.length co25, .int .i64 t174, .int .i64 t175, .int .i64 0]) ?_ 9 _ rfl; (with_reducible repeat first|refine blk_drewN ?_ _|refine blk_drew ?_|refine blk_alloc ?_ _); refine blk_put (cs := #[.int .i64 t163, .int .i64 t164, .int .i64 t165, .int .i64 t166, .int .i64 t167, .slice Ao23 t168.length co23, .slice Ao25 t171.length co25, .int .i64 t174, .int .i64 0, .int .i64 0]) ?_ 8 _ rfl; (with_reducible repeat first|refine blk_drewN ?_ _|refine blk_drew ?_|refine blk_alloc ?_ _); refine blk_put (cs := #[.int .i64 t163, .int .i64 t164, .int .i64 t165, .int .i64 t166, .int .i64 t167, .slice Ao23 t168.length co23, .slice Ao25 t171.length co25, .int .i64 0, .int .i64 0, .int .i64 0]) ?_ 7 _ rfl; (with_reducible repeat first|refine blk_drewN ?_ _|refine blk_drew ?_|refine blk_alloc ?_ _); refine blk_put (cs := #[.int .i64 t163, .int .i64 t164, .int .i64 t165, .int .i64 t166, .int .i64 t167, .slice Ao23 t168.length co23, .slice none 0 0, .int .i64 0, .int .i64 0, .int .i64 0]) ?_ 6 _ rfl; (with_reducible repeat first|refine blk_drewN ?_ _|refine blk_drew ?_|refine blk_alloc ?_ _); refine blk_put (cs := #[.int .i64 t163, .int .i64 t164, .int .i64 t165, .int .i64 t166, .int .i64 t167, .slice none 0 0, .slice none 0 0, .int .i64 0, .int .i64 0, .int .i64 0]) ?_ 5 _ rfl; (with_reducible repeat first|refine blk_drewN ?_ _|refine blk_drew ?_|refine blk_alloc ?_ _); refine blk_put (cs := #[.int .i64 t163, .int .i64 t164, .int .i64 t165, .int .i64 t166, .int .i64 0, .slice none 0 0, .slice none 0 0, .int .i64 0, .int .i64 0, .int .i64 0]) ?_ 4 _ rfl; (with_reducible repeat first|refine blk_drewN ?_ _|refine blk_drew ?_|refine blk_alloc ?_ _); refine blk_put (cs := #[.int .i64 t163, .int .i64 t164, .int .i64 t165, .int .i64 0, .int .i64 0, .slice none 0 0, .slice none 0 0, .int .i64 0, .int .i64 0, .int .i64 0]) ?_ 3 _ rfl; (with_reducible repeat first|refine blk_drewN ?_ _|refine blk_drew ?_|refine blk_alloc ?_ _); refine blk_put (cs := #[.int .i64 t163, .int .i64 t164, .int .i64 0, .int .i64 0, .int .i64 0, .slice none 0 0, .slice none 0 0, .int .i64 0, .int .i64 0, .int .i64 0]) ?_ 2 _ rfl; (with_reducible repeat first|refine blk_drewN ?_ _|refine blk_drew ?_|refine blk_alloc ?_ _); refine blk_put (cs := #[.int .i64 t163, .int .i64 0, .int .i64 0, .int .i64 0, .int .i64 0, .slice none 0 0, .slice none 0 0, .int .i64 0, .int .i64 0, .int .i64 0]) ?_ 1 _ rfl; (with_reducible repeat first|refine blk_drewN ?_ _|refine blk_drew ?_|refine blk_alloc ?_ _); refine blk_put (cs := #[.int .i64 0, .int .i64 0, .int .i64 0, .int .i64 0, .int .i64 0, .slice none 0 0, .slice none 0 0, .int .i64 0, .int .i64 0, .int .i64 0]) ?_ 0 _ rfl; (with_reducible repeat first|refine blk_drewN ?_ _|refine blk_drew ?_|refine blk_alloc ?_ _); exact BK178.out⟩
         have n4_ : Aside0 (Below w.heap.size w ((((((((((w17.setCell ⟨gb178, 0, none⟩ (.int .i64 t163)).setCell ⟨gb178, 1, none⟩ (.int .i64 t164)).setCell ⟨gb178, 2, none⟩ (.int .i64 t165)).setCell ⟨gb178, 3, none⟩ (.int .i64 t166)).setCell ⟨gb178, 4, none⟩ (.int .i64 t167)).setCell ⟨gb178, 5, none⟩ (.slice Ao23 t168.length co23)).setCell ⟨gb178, 6, none⟩ (.slice Ao25 t171.length co25)).setCell ⟨gb178, 7, none⟩ (.int .i64 t174)).setCell ⟨gb178, 8, none⟩ (.int .i64 t175)).setCell ⟨gb178, 9, none⟩ (.int .i64 t176))) := ⟨by repeat (first | (with_reducible first | exact HB.out | apply below_alloc | apply pw_below_drewN | apply below_drew1 | refine below_set ?_ GE158.out | refine below_set ?_ GE178.out) | exact HB.out)⟩
         (try clear HO170)
         (try clear HO173)
         (try clear BK158)
         (try clear BK178)
         (try clear HB)
         generalize ((((((((((w17.setCell ⟨gb178, 0, none⟩ (.int .i64 t163)).setCell ⟨gb178, 1, none⟩ (.int .i64 t164)).setCell ⟨gb178, 2, none⟩ (.int .i64 t165)).setCell ⟨gb178, 3, none⟩ (.int .i64 t166)).setCell ⟨gb178, 4, none⟩ (.int .i64 t167)).setCell ⟨gb178, 5, none⟩ (.slice Ao23 t168.length co23)).setCell ⟨gb178, 6, none⟩ (.slice Ao25 t171.length co25)).setCell ⟨gb178, 7, none⟩ (.int .i64 t174)).setCell ⟨gb178, 8, none⟩ (.int .i64 t175)).setCell ⟨gb178, 9, none⟩ (.int .i64 t176)) = w40 at n0_ n1_ n2_ n3_ n4_ ⊢
         have HO170 := n0_
         have HO173 := n1_
         have BK158 := n2_
         have BK178 := n3_
         have HB := n4_
         clear n0_ n1_ n2_ n3_ n4_
         have n0_ := Aside0.mk (Kd.R_drew HO170.out)
         have n1_ := Aside0.mk (Kd.R_drew HO173.out)
         have n2_ := Aside0.mk (blk_drew BK158.out)
         have n3_ := Aside0.mk (blk_drew BK178.out)
         have n4_ := Aside0.mk (below_drew1 HB.out)
         clear HO170
         clear HO173
         clear BK158
         clear BK178
         clear HB
         have HO170 := n0_
         have HO173 := n1_
         have BK158 := n2_
         have BK178 := n3_
         have HB := n4_
         clear n0_ n1_ n2_ n3_ n4_
         refine start_ (n := 32) (S := fun w' => w'.cell? ⟨gb158, 0, none⟩ = some (.int .i64 ((rd_T32 l0 x12_1).f0)) ∧ w'.cell? ⟨gb158, 1, none⟩ = some (.int .i64 ((rd_T32 l0 x12_1).f1)) ∧ w'.cell? ⟨gb158, 2, none⟩ = some (.int .i64 ((rd_T32 l0 x12_1).f2)) ∧ w'.cell? ⟨gb158, 3, none⟩ = some (.int .i64 ((rd_T32 l0 x12_1).f3)) ∧ w'.cell? ⟨gb158, 4, none⟩ = some (.int .i64 ((rd_T32 l0 x12_1).f4)) ∧ w'.cell? ⟨gb158, 5, none⟩ = some (.slice A157_5 ((rd_T32 l0 x12_1).f5).length c157_5) ∧ w'.cell? ⟨gb158, 6, none⟩ = some (.slice A157_6 ((rd_T32 l0 x12_1).f6).length c157_6) ∧ w'.cell? ⟨gb158, 7, none⟩ = some (.int .i64 ((rd_T32 l0 x12_1).f7.f0)) ∧ w'.cell? ⟨gb158, 8, none⟩ = some (.int .i64 ((rd_T32 l0 x12_1).f7.f1)) ∧ w'.cell? ⟨gb158, 9, none⟩ = some (.int .i64 ((rd_T32 l0 x12_1).f8))) (ds := []) (bs 32 0) (by kernel_rfl) rfl (by kernel_rfl) ⟨(blk_cell BK158.out 0).trans rfl, (blk_cell BK158.out 1).trans rfl, (blk_cell BK158.out 2).trans rfl, (blk_cell BK158.out 3).trans rfl, (blk_cell BK158.out 4).trans rfl, (blk_cell BK158.out 5).trans rfl, (blk_cell BK158.out 6).trans rfl, (blk_cell BK158.out 7).trans rfl, (blk_cell BK158.out 8).trans rfl, (blk_cell BK158.out 9).trans rfl⟩ (fun hHeld => ?_); refine with_tabW product_Right.tab7 product_Right.bits7 (fun HT_ HW_ => ?_)
         generalize w40.drew = w41 at HO170 HO173 BK158 BK178 HB hHeld ⊢
         refine pure_ (i := 0) (N := some 27) (v := ?_) (a' := ?_) (bs 32 1) rfl rfl (any_of HT_.out (by kernel_rfl)) (fun _ _ _ h => h) (Or.inl ⟨by rfl, ?_⟩) ?_ ?_
         rotate_left
         ·intro w'
          go_simp
          with_reducible rfl
         rotate_left
         ·simp only [Act.put, List.setIfInBounds_toArray, List.set_cons_zero, List.set_cons_succ, i64_w, i32_w]
          rfl
         refine take_ (i := 1) (N := some 28) (v := ?_) (a' := ?_) (bs 32 3) rfl rfl (take_ofW HT_.out HW_.out (by kernel_rfl)) (fun _ _ _ h => h) (Or.inl ⟨by rfl, ?_⟩) hHeld ?_ ?_
         rotate_left
         ·rintro w' ⟨s0, s1, s2, s3, s4, s5, s6, s7, s8, s9⟩
          go_simp
          with_reducible rfl
         rotate_left
         ·simp only [Act.put, List.setIfInBounds_toArray, List.set_cons_zero, List.set_cons_succ, i64_w, i32_w]
          rfl
         refine one_ (i := 2) (N := some 29) (bs 32 7) rfl rfl (one_of HT_.out (by kernel_rfl)) (by decide) (fun K hK => ?_)
         refine goes_ Try.func28 (by kernel_rfl) rfl #[.int .i64 ((rd_T32 l0 x12_1).f0), .int .i64 1, .int .i64 9999] (by rfl) rfl rfl (by (try simp only [List.map_toArray, List.map_cons, List.map_nil]); first | done | rfl | (simp only [List.length_drop, List.length_take]; rfl)) ?_
         have H := HQ_.out
         clear HQ_
         by_cases c31 : t179 = true
         ·subst c31
          have H1 : ((product_units.f ((rd_T32 l0 x12_1).f1)).bind fun t180 => ((product_within.f ((rd_T32 l0 x12_1).f2) 1 t180).bind fun t181 => (if t181 = true then ((product_within.f ((rd_T32 l0 x12_1).f3) 0 120).bind fun t182 => (if t182 = true then ((product_within.f ((rd_T32 l0 x12_1).f4) 0 120).bind fun t183 => (if t183 = true then ((product_within.f ((rd_T32 l0 x12_1).f8) 0 100000000).bind fun t184 => (product_Right.j1 k1 l0 t177 l0 (l0.length : Int) x12_1 (!t184) ((rd_T32 l0 x12_1).f0) ((rd_T32 l0 x12_1).f1) ((rd_T32 l0 x12_1).f2) ((rd_T32 l0 x12_1).f3) ((rd_T32 l0 x12_1).f4) ((rd_T32 l0 x12_1).f5) ((rd_T32 l0 x12_1).f6) ((rd_T32 l0 x12_1).f7.f0) ((rd_T32 l0 x12_1).f7.f1) ((rd_T32 l0 x12_1).f8))) else (product_Right.j1 k1 l0 t177 l0 (l0.length : Int) x12_1 true ((rd_T32 l0 x12_1).f0) ((rd_T32 l0 x12_1).f1) ((rd_T32 l0 x12_1).f2) ((rd_T32 l0 x12_1).f3) ((rd_T32 l0 x12_1).f4) ((rd_T32 l0 x12_1).f5) ((rd_T32 l0 x12_1).f6) ((rd_T32 l0 x12_1).f7.f0) ((rd_T32 l0 x12_1).f7.f1) ((rd_T32 l0 x12_1).f8)))) else (product_Right.j1 k1 l0 t177 l0 (l0.length : Int) x12_1 true ((rd_T32 l0 x12_1).f0) ((rd_T32 l0 x12_1).f1) ((rd_T32 l0 x12_1).f2) ((rd_T32 l0 x12_1).f3) ((rd_T32 l0 x12_1).f4) ((rd_T32 l0 x12_1).f5) ((rd_T32 l0 x12_1).f6) ((rd_T32 l0 x12_1).f7.f0) ((rd_T32 l0 x12_1).f7.f1) ((rd_T32 l0 x12_1).f8)))) else (product_Right.j1 k1 l0 t177 l0 (l0.length : Int) x12_1 true ((rd_T32 l0 x12_1).f0) ((rd_T32 l0 x12_1).f1) ((rd_T32 l0 x12_1).f2) ((rd_T32 l0 x12_1).f3) ((rd_T32 l0 x12_1).f4) ((rd_T32 l0 x12_1).f5) ((rd_T32 l0 x12_1).f6) ((rd_T32 l0 x12_1).f7.f0) ((rd_T32 l0 x12_1).f7.f1) ((rd_T32 l0 x12_1).f8))))) = some r := by rw [if_pos rfl] at H; exact H
          clear H
          have H := H1
          clear H1
          replace H := Option.bind_eq_some_iff.mp H
          obtain ⟨t180, A320, H⟩ := H
          replace H : ((product_within.f ((rd_T32 l0 x12_1).f2) 1 t180).bind fun t181 => (if t181 = true then ((product_within.f ((rd_T32 l0 x12_1).f3) 0 120).bind fun t182 => (if t182 = true then ((product_within.f ((rd_T32 l0 x12_1).f4) 0 120).bind fun t183 => (if t183 = true then ((product_within.f ((rd_T32 l0 x12_1).f8) 0 100000000).bind fun t184 => (product_Right.j1 k1 l0 t177 l0 (l0.length : Int) x12_1 (!t184) ((rd_T32 l0 x12_1).f0) ((rd_T32 l0 x12_1).f1) ((rd_T32 l0 x12_1).f2) ((rd_T32 l0 x12_1).f3) ((rd_T32 l0 x12_1).f4) ((rd_T32 l0 x12_1).f5) ((rd_T32 l0 x12_1).f6) ((rd_T32 l0 x12_1).f7.f0) ((rd_T32 l0 x12_1).f7.f1) ((rd_T32 l0 x12_1).f8))) else (product_Right.j1 k1 l0 t177 l0 (l0.length : Int) x12_1 true ((rd_T32 l0 x12_1).f0) ((rd_T32 l0 x12_1).f1) ((rd_T32 l0 x12_1).f2) ((rd_T32 l0 x12_1).f3) ((rd_T32 l0 x12_1).f4) ((rd_T32 l0 x12_1).f5) ((rd_T32 l0 x12_1).f6) ((rd_T32 l0 x12_1).f7.f0) ((rd_T32 l0 x12_1).f7.f1) ((rd_T32 l0 x12_1).f8)))) else (product_Right.j1 k1 l0 t177 l0 (l0.length : Int) x12_1 true ((rd_T32 l0 x12_1).f0) ((rd_T32 l0 x12_1).f1) ((rd_T32 l0 x12_1).f2) ((rd_T32 l0 x12_1).f3) ((rd_T32 l0 x12_1).f4) ((rd_T32 l0 x12_1).f5) ((rd_T32 l0 x12_1).f6) ((rd_T32 l0 x12_1).f7.f0) ((rd_T32 l0 x12_1).f7.f1) ((rd_T32 l0 x12_1).f8)))) else (product_Right.j1 k1 l0 t177 l0 (l0.length : Int) x12_1 true ((rd_T32 l0 x12_1).f0) ((rd_T32 l0 x12_1).f1) ((rd_T32 l0 x12_1).f2) ((rd_T32 l0 x12_1).f3) ((rd_T32 l0 x12_1).f4) ((rd_T32 l0 x12_1).f5) ((rd_T32 l0 x12_1).f6) ((rd_T32 l0 x12_1).f7.f0) ((rd_T32 l0 x12_1).f7.f1) ((rd_T32 l0 x12_1).f8)))) = some r := H
          have A32 := Aside0.mk A320
          clear A320
          replace H := Option.bind_eq_some_iff.mp H
          obtain ⟨t181, A330, H⟩ := H
          replace H : (if t181 = true then ((product_within.f ((rd_T32 l0 x12_1).f3) 0 120).bind fun t182 => (if t182 = true then ((product_within.f ((rd_T32 l0 x12_1).f4) 0 120).bind fun t183 => (if t183 = true then ((product_within.f ((rd_T32 l0 x12_1).f8) 0 100000000).bind fun t184 => (product_Right.j1 k1 l0 t177 l0 (l0.length : Int) x12_1 (!t184) ((rd_T32 l0 x12_1).f0) ((rd_T32 l0 x12_1).f1) ((rd_T32 l0 x12_1).f2) ((rd_T32 l0 x12_1).f3) ((rd_T32 l0 x12_1).f4) ((rd_T32 l0 x12_1).f5) ((rd_T32 l0 x12_1).f6) ((rd_T32 l0 x12_1).f7.f0) ((rd_T32 l0 x12_1).f7.f1) ((rd_T32 l0 x12_1).f8))) else (product_Right.j1 k1 l0 t177 l0 (l0.length : Int) x12_1 true ((rd_T32 l0 x12_1).f0) ((rd_T32 l0 x12_1).f1) ((rd_T32 l0 x12_1).f2) ((rd_T32 l0 x12_1).f3) ((rd_T32 l0 x12_1).f4) ((rd_T32 l0 x12_1).f5) ((rd_T32 l0 x12_1).f6) ((rd_T32 l0 x12_1).f7.f0) ((rd_T32 l0 x12_1).f7.f1) ((rd_T32 l0 x12_1).f8)))) else (product_Right.j1 k1 l0 t177 l0 (l0.length : Int) x12_1 true ((rd_T32 l0 x12_1).f0) ((rd_T32 l0 x12_1).f1) ((rd_T32 l0 x12_1).f2) ((rd_T32 l0 x12_1).f3) ((rd_T32 l0 x12_1).f4) ((rd_T32 l0 x12_1).f5) ((rd_T32 l0 x12_1).f6) ((rd_T32 l0 x12_1).f7.f0) ((rd_T32 l0 x12_1).f7.f1) ((rd_T32 l0 x12_1).f8)))) else (product_Right.j1 k1 l0 t177 l0 (l0.length : Int) x12_1 true ((rd_T32 l0 x12_1).f0) ((rd_T32 l0 x12_1).f1) ((rd_T32 l0 x12_1).f2) ((rd_T32 l0 x12_1).f3) ((rd_T32 l0 x12_1).f4) ((rd_T32 l0 x12_1).f5) ((rd_T32 l0 x12_1).f6) ((rd_T32 l0 x12_1).f7.f0) ((rd_T32 l0 x12_1).f7.f1) ((rd_T32 l0 x12_1).f8))) = some r := H
          have A33 := Aside0.mk A330
          clear A330
          have HQ_ := Aside0.mk H
          clear H
          with_reducible refine (product_within.calls ((rd_T32 l0 x12_1).f0) 1 9999 true _ A30.out).mono ?_
          rintro e w' ⟨rfl, ⟨nd, rfl⟩⟩
          refine ⟨_, rfl, ?_⟩
          refine hK.out _ _ ⟨Eq.trans (World.cell?_drewN ..) (hHeld.1), Eq.trans (World.cell?_drewN ..) (hHeld.2.1), Eq.trans (World.cell?_drewN ..) (hHeld.2.2.1), Eq.trans (World.cell?_drewN ..) (hHeld.2.2.2.1), Eq.trans (World.cell?_drewN ..) (hHeld.2.2.2.2.1), Eq.trans (World.cell?_drewN ..) (hHeld.2.2.2.2.2.1), Eq.trans (World.cell?_drewN ..) (hHeld.2.2.2.2.2.2.1), Eq.trans (World.cell?_drewN ..) (hHeld.2.2.2.2.2.2.2.1), Eq.trans (World.cell?_drewN ..) (hHeld.2.2.2.2.2.2.2.2.1), Eq.trans (World.cell?_drewN ..) (hHeld.2.2.2.2.2.2.2.2.2)⟩ (fun hHeld => ?_)
          clear hK K
          refine norm_ (a' := ?_) ?_ ?_
          rotate_left
          ·show Act.put _ (some 29) _ = _
           simp only [Act.put, List.setIfInBounds_toArray, List.set_cons_zero, List.set_cons_succ, i64_w, i32_w]
           rfl
          refine pure_ (i := 3) (N := some 30) (v := ?_) (a' := ?_) (bs 32 15) rfl rfl (any_of HT_.out (by kernel_rfl)) (fun _ _ _ h => h) (Or.inl ⟨by rfl, ?_⟩) ?_ ?_
          rotate_left
          ·intro w'
           go_simp
           with_reducible rfl
          rotate_left
          ·simp only [Act.put, List.setIfInBounds_toArray, List.set_cons_zero, List.set_cons_succ, i64_w, i32_w]
           rfl
          refine pure_ (i := 4) (N := some 31) (v := ?_) (a' := ?_) (bs 32 31) rfl rfl (any_of HT_.out (by kernel_rfl)) (fun _ _ _ h => h) (Or.inl ⟨by rfl, ?_⟩) ?_ ?_
          rotate_left
          ·intro w'
           go_simp
           with_reducible rfl
          rotate_left
          ·simp only [Act.put, List.setIfInBounds_toArray, List.set_cons_zero, List.set_cons_succ, i64_w, i32_w]
           rfl
          refine pure_ (i := 5) (N := some 32) (v := ?_) (a' := ?_) (bs 32 63) rfl rfl (any_of HT_.out (by kernel_rfl)) (fun _ _ _ h => h) (Or.inl ⟨by rfl, ?_⟩) ?_ ?_
          rotate_left
          ·intro w'
           go_simp
           with_reducible rfl
          rotate_left
          ·simp only [Act.put, List.setIfInBounds_toArray, List.set_cons_zero, List.set_cons_succ, i64_w, i32_w]
           rfl
          refine pure_ (i := 7) (N := some 34) (v := ?_) (a' := ?_) (bs 32 191) rfl rfl (any_of HT_.out (by kernel_rfl)) (fun _ _ _ h => h) (Or.inl ⟨by rfl, ?_⟩) ?_ ?_
          rotate_left
          ·intro w'
           go_simp
           with_reducible rfl
          rotate_left
          ·simp only [Act.put, List.setIfInBounds_toArray, List.set_cons_zero, List.set_cons_succ, i64_w, i32_w]
           rfl
          refine take_ (i := 6) (N := some 33) (v := ?_) (a' := ?_) (bs 32 255) rfl rfl (take_ofW HT_.out HW_.out (by kernel_rfl)) (fun _ _ _ h => h) (Or.inl ⟨by rfl, ?_⟩) hHeld ?_ ?_
          rotate_left
          ·rintro w' ⟨s0, s1, s2, s3, s4, s5, s6, s7, s8, s9⟩
           go_simp
           with_reducible rfl
          rotate_left
          ·simp only [Act.put, List.setIfInBounds_toArray, List.set_cons_zero, List.set_cons_succ, i64_w, i32_w]
           rfl
          refine take_ (i := 8) (N := some 35) (v := ?_) (a' := ?_) (bs 32 511) rfl rfl (take_ofW HT_.out HW_.out (by kernel_rfl)) (fun _ _ _ h => h) (Or.inl ⟨by rfl, ?_⟩) hHeld ?_ ?_
          rotate_left
          ·rintro w' ⟨s0, s1, s2, s3, s4, s5, s6, s7, s8, s9⟩
           go_simp
           with_reducible rfl
          rotate_left
          ·simp only [Act.put, List.setIfInBounds_toArray, List.set_cons_zero, List.set_cons_succ, i64_w, i32_w]
           rfl
          refine one_ (i := 9) (N := some 36) (bs 32 1023) rfl rfl (one_of HT_.out (by kernel_rfl)) (by decide) (fun K hK => ?_)
          refine goes_ Try.func29 (by kernel_rfl) rfl #[.int .i64 ((rd_T32 l0 x12_1).f1)] (by rfl) rfl rfl (by (try simp only [List.map_toArray, List.map_cons, List.map_nil]); first | done | rfl | (simp only [List.length_drop, List.length_take]; rfl)) ?_
          with_reducible refine (product_units.calls ((rd_T32 l0 x12_1).f1) t180 _ A32.out).mono ?_
          rintro e w' ⟨rfl, ⟨nd, rfl⟩⟩
          refine ⟨_, rfl, ?_⟩
          refine hK.out _ _ ⟨Eq.trans (World.cell?_drewN ..) (hHeld.1), Eq.trans (World.cell?_drewN ..) (hHeld.2.1), Eq.trans (World.cell?_drewN ..) (hHeld.2.2.1), Eq.trans (World.cell?_drewN ..) (hHeld.2.2.2.1), Eq.trans (World.cell?_drewN ..) (hHeld.2.2.2.2.1), Eq.trans (World.cell?_drewN ..) (hHeld.2.2.2.2.2.1), Eq.trans (World.cell?_drewN ..) (hHeld.2.2.2.2.2.2.1), Eq.trans (World.cell?_drewN ..) (hHeld.2.2.2.2.2.2.2.1), Eq.trans (World.cell?_drewN ..) (hHeld.2.2.2.2.2.2.2.2.1), Eq.trans (World.cell?_drewN ..) (hHeld.2.2.2.2.2.2.2.2.2)⟩ (fun hHeld => ?_)
          clear hK K
          refine norm_ (a' := ?_) ?_ ?_
          rotate_left
          ·show Act.put _ (some 36) _ = _
           simp only [Act.put, List.setIfInBounds_toArray, List.set_cons_zero, List.set_cons_succ, i64_w, i32_w]
           rfl
          refine one_ (i := 10) (N := some 37) (bs 32 2047) rfl rfl (one_of HT_.out (by kernel_rfl)) (by decide) (fun K hK => ?_)
          refine goes_ Try.func28 (by kernel_rfl) rfl #[.int .i64 ((rd_T32 l0 x12_1).f2), .int .i64 1, .int .i64 t180] (by rfl) rfl rfl (by (try simp only [List.map_toArray, List.map_cons, List.map_nil]); first | done | rfl | (simp only [List.length_drop, List.length_take]; rfl)) ?_
          have H := HQ_.out
          clear HQ_
          by_cases c34 : t181 = true
          ·subst c34
           have H1 : ((product_within.f ((rd_T32 l0 x12_1).f3) 0 120).bind fun t182 => (if t182 = true then ((product_within.f ((rd_T32 l0 x12_1).f4) 0 120).bind fun t183 => (if t183 = true then ((product_within.f ((rd_T32 l0 x12_1).f8) 0 100000000).bind fun t184 => (product_Right.j1 k1 l0 t177 l0 (l0.length : Int) x12_1 (!t184) ((rd_T32 l0 x12_1).f0) ((rd_T32 l0 x12_1).f1) ((rd_T32 l0 x12_1).f2) ((rd_T32 l0 x12_1).f3) ((rd_T32 l0 x12_1).f4) ((rd_T32 l0 x12_1).f5) ((rd_T32 l0 x12_1).f6) ((rd_T32 l0 x12_1).f7.f0) ((rd_T32 l0 x12_1).f7.f1) ((rd_T32 l0 x12_1).f8))) else (product_Right.j1 k1 l0 t177 l0 (l0.length : Int) x12_1 true ((rd_T32 l0 x12_1).f0) ((rd_T32 l0 x12_1).f1) ((rd_T32 l0 x12_1).f2) ((rd_T32 l0 x12_1).f3) ((rd_T32 l0 x12_1).f4) ((rd_T32 l0 x12_1).f5) ((rd_T32 l0 x12_1).f6) ((rd_T32 l0 x12_1).f7.f0) ((rd_T32 l0 x12_1).f7.f1) ((rd_T32 l0 x12_1).f8)))) else (product_Right.j1 k1 l0 t177 l0 (l0.length : Int) x12_1 true ((rd_T32 l0 x12_1).f0) ((rd_T32 l0 x12_1).f1) ((rd_T32 l0 x12_1).f2) ((rd_T32 l0 x12_1).f3) ((rd_T32 l0 x12_1).f4) ((rd_T32 l0 x12_1).f5) ((rd_T32 l0 x12_1).f6) ((rd_T32 l0 x12_1).f7.f0) ((rd_T32 l0 x12_1).f7.f1) ((rd_T32 l0 x12_1).f8)))) = some r := by rw [if_pos rfl] at H; exact H
           clear H
           have H := H1
           clear H1
           replace H := Option.bind_eq_some_iff.mp H
           obtain ⟨t182, A350, H⟩ := H
           replace H : (if t182 = true then ((product_within.f ((rd_T32 l0 x12_1).f4) 0 120).bind fun t183 => (if t183 = true then ((product_within.f ((rd_T32 l0 x12_1).f8) 0 100000000).bind fun t184 => (product_Right.j1 k1 l0 t177 l0 (l0.length : Int) x12_1 (!t184) ((rd_T32 l0 x12_1).f0) ((rd_T32 l0 x12_1).f1) ((rd_T32 l0 x12_1).f2) ((rd_T32 l0 x12_1).f3) ((rd_T32 l0 x12_1).f4) ((rd_T32 l0 x12_1).f5) ((rd_T32 l0 x12_1).f6) ((rd_T32 l0 x12_1).f7.f0) ((rd_T32 l0 x12_1).f7.f1) ((rd_T32 l0 x12_1).f8))) else (product_Right.j1 k1 l0 t177 l0 (l0.length : Int) x12_1 true ((rd_T32 l0 x12_1).f0) ((rd_T32 l0 x12_1).f1) ((rd_T32 l0 x12_1).f2) ((rd_T32 l0 x12_1).f3) ((rd_T32 l0 x12_1).f4) ((rd_T32 l0 x12_1).f5) ((rd_T32 l0 x12_1).f6) ((rd_T32 l0 x12_1).f7.f0) ((rd_T32 l0 x12_1).f7.f1) ((rd_T32 l0 x12_1).f8)))) else (product_Right.j1 k1 l0 t177 l0 (l0.length : Int) x12_1 true ((rd_T32 l0 x12_1).f0) ((rd_T32 l0 x12_1).f1) ((rd_T32 l0 x12_1).f2) ((rd_T32 l0 x12_1).f3) ((rd_T32 l0 x12_1).f4) ((rd_T32 l0 x12_1).f5) ((rd_T32 l0 x12_1).f6) ((rd_T32 l0 x12_1).f7.f0) ((rd_T32 l0 x12_1).f7.f1) ((rd_T32 l0 x12_1).f8))) = some r := H
           have A35 := Aside0.mk A350
           clear A350
           have HQ_ := Aside0.mk H
           clear H
           with_reducible refine (product_within.calls ((rd_T32 l0 x12_1).f2) 1 t180 true _ A33.out).mono ?_
           rintro e w' ⟨rfl, ⟨nd, rfl⟩⟩
           refine ⟨_, rfl, ?_⟩
           refine hK.out _ _ ⟨Eq.trans (World.cell?_drewN ..) (hHeld.1), Eq.trans (World.cell?_drewN ..) (hHeld.2.1), Eq.trans (World.cell?_drewN ..) (hHeld.2.2.1), Eq.trans (World.cell?_drewN ..) (hHeld.2.2.2.1), Eq.trans (World.cell?_drewN ..) (hHeld.2.2.2.2.1), Eq.trans (World.cell?_drewN ..) (hHeld.2.2.2.2.2.1), Eq.trans (World.cell?_drewN ..) (hHeld.2.2.2.2.2.2.1), Eq.trans (World.cell?_drewN ..) (hHeld.2.2.2.2.2.2.2.1), Eq.trans (World.cell?_drewN ..) (hHeld.2.2.2.2.2.2.2.2.1), Eq.trans (World.cell?_drewN ..) (hHeld.2.2.2.2.2.2.2.2.2)⟩ (fun hHeld => ?_)
           clear hK K
           refine norm_ (a' := ?_) ?_ ?_
           rotate_left
           ·show Act.put _ (some 37) _ = _
            simp only [Act.put, List.setIfInBounds_toArray, List.set_cons_zero, List.set_cons_succ, i64_w, i32_w]
            rfl
           refine pure_ (i := 11) (N := some 38) (v := ?_) (a' := ?_) (bs 32 4095) rfl rfl (any_of HT_.out (by kernel_rfl)) (fun _ _ _ h => h) (Or.inl ⟨by rfl, ?_⟩) ?_ ?_
           rotate_left
           ·intro w'
            go_simp
            with_reducible rfl
           rotate_left
           ·simp only [Act.put, List.setIfInBounds_toArray, List.set_cons_zero, List.set_cons_succ, i64_w, i32_w]
            rfl
           refine pure_ (i := 12) (N := some 39) (v := ?_) (a' := ?_) (bs 32 8191) rfl rfl (any_of HT_.out (by kernel_rfl)) (fun _ _ _ h => h) (Or.inl ⟨by rfl, ?_⟩) ?_ ?_
           rotate_left
           ·intro w'
            go_simp
            with_reducible rfl
           rotate_left
           ·simp only [Act.put, List.setIfInBounds_toArray, List.set_cons_zero, List.set_cons_succ, i64_w, i32_w]
            rfl
           refine pure_ (i := 13) (N := some 40) (v := ?_) (a' := ?_) (bs 32 16383) rfl rfl (any_of HT_.out (by kernel_rfl)) (fun _ _ _ h => h) (Or.inl ⟨by rfl, ?_⟩) ?_ ?_
           rotate_left
           ·intro w'
            go_simp
            with_reducible rfl
           rotate_left
           ·simp only [Act.put, List.setIfInBounds_toArray, List.set_cons_zero, List.set_cons_succ, i64_w, i32_w]
            rfl
           refine pure_ (i := 14) (N := some 41) (v := ?_) (a' := ?_) (bs 32 32767) rfl rfl (any_of HT_.out (by kernel_rfl)) (fun _ _ _ h => h) (Or.inl ⟨by rfl, ?_⟩) ?_ ?_
           rotate_left
           ·intro w'
            go_simp
            with_reducible rfl
           rotate_left
           ·simp only [Act.put, List.setIfInBounds_toArray, List.set_cons_zero, List.set_cons_succ, i64_w, i32_w]
            rfl
           refine take_ (i := 15) (N := some 42) (v := ?_) (a' := ?_) (bs 32 65535) rfl rfl (take_ofW HT_.out HW_.out (by kernel_rfl)) (fun _ _ _ h => h) (Or.inl ⟨by rfl, ?_⟩) hHeld ?_ ?_
           rotate_left
           ·rintro w' ⟨s0, s1, s2, s3, s4, s5, s6, s7, s8, s9⟩
            go_simp
            with_reducible rfl
           rotate_left
           ·simp only [Act.put, List.setIfInBounds_toArray, List.set_cons_zero, List.set_cons_succ, i64_w, i32_w]
            rfl
           refine one_ (i := 16) (N := some 43) (bs 32 131071) rfl rfl (one_of HT_.out (by kernel_rfl)) (by decide) (fun K hK => ?_)
           refine goes_ Try.func28 (by kernel_rfl) rfl #[.int .i64 ((rd_T32 l0 x12_1).f3), .int .i64 0, .int .i64 120] (by rfl) rfl rfl (by (try simp only [List.map_toArray, List.map_cons, List.map_nil]); first | done | rfl | (simp only [List.length_drop, List.length_take]; rfl)) ?_
           have H := HQ_.out
           clear HQ_
           by_cases c36 : t182 = true
           ·subst c36
            have H1 : ((product_within.f ((rd_T32 l0 x12_1).f4) 0 120).bind fun t183 => (if t183 = true then ((product_within.f ((rd_T32 l0 x12_1).f8) 0 100000000).bind fun t184 => (product_Right.j1 k1 l0 t177 l0 (l0.length : Int) x12_1 (!t184) ((rd_T32 l0 x12_1).f0) ((rd_T32 l0 x12_1).f1) ((rd_T32 l0 x12_1).f2) ((rd_T32 l0 x12_1).f3) ((rd_T32 l0 x12_1).f4) ((rd_T32 l0 x12_1).f5) ((rd_T32 l0 x12_1).f6) ((rd_T32 l0 x12_1).f7.f0) ((rd_T32 l0 x12_1).f7.f1) ((rd_T32 l0 x12_1).f8))) else (product_Right.j1 k1 l0 t177 l0 (l0.length : Int) x12_1 true ((rd_T32 l0 x12_1).f0) ((rd_T32 l0 x12_1).f1) ((rd_T32 l0 x12_1).f2) ((rd_T32 l0 x12_1).f3) ((rd_T32 l0 x12_1).f4) ((rd_T32 l0 x12_1).f5) ((rd_T32 l0 x12_1).f6) ((rd_T32 l0 x12_1).f7.f0) ((rd_T32 l0 x12_1).f7.f1) ((rd_T32 l0 x12_1).f8)))) = some r := by rw [if_pos rfl] at H; exact H
            clear H
            have H := H1
            clear H1
            replace H := Option.bind_eq_some_iff.mp H
            obtain ⟨t183, A370, H⟩ := H
            replace H : (if t183 = true then ((product_within.f ((rd_T32 l0 x12_1).f8) 0 100000000).bind fun t184 => (product_Right.j1 k1 l0 t177 l0 (l0.length : Int) x12_1 (!t184) ((rd_T32 l0 x12_1).f0) ((rd_T32 l0 x12_1).f1) ((rd_T32 l0 x12_1).f2) ((rd_T32 l0 x12_1).f3) ((rd_T32 l0 x12_1).f4) ((rd_T32 l0 x12_1).f5) ((rd_T32 l0 x12_1).f6) ((rd_T32 l0 x12_1).f7.f0) ((rd_T32 l0 x12_1).f7.f1) ((rd_T32 l0 x12_1).f8))) else (product_Right.j1 k1 l0 t177 l0 (l0.length : Int) x12_1 true ((rd_T32 l0 x12_1).f0) ((rd_T32 l0 x12_1).f1) ((rd_T32 l0 x12_1).f2) ((rd_T32 l0 x12_1).f3) ((rd_T32 l0 x12_1).f4) ((rd_T32 l0 x12_1).f5) ((rd_T32 l0 x12_1).f6) ((rd_T32 l0 x12_1).f7.f0) ((rd_T32 l0 x12_1).f7.f1) ((rd_T32 l0 x12_1).f8))) = some r := H
            have A37 := Aside0.mk A370
            clear A370
            have HQ_ := Aside0.mk H
            clear H
            with_reducible refine (product_within.calls ((rd_T32 l0 x12_1).f3) 0 120 true _ A35.out).mono ?_
            rintro e w' ⟨rfl, ⟨nd, rfl⟩⟩
            refine ⟨_, rfl, ?_⟩
            refine hK.out _ _ ⟨Eq.trans (World.cell?_drewN ..) (hHeld.1), Eq.trans (World.cell?_drewN ..) (hHeld.2.1), Eq.trans (World.cell?_drewN ..) (hHeld.2.2.1), Eq.trans (World.cell?_drewN ..) (hHeld.2.2.2.1), Eq.trans (World.cell?_drewN ..) (hHeld.2.2.2.2.1), Eq.trans (World.cell?_drewN ..) (hHeld.2.2.2.2.2.1), Eq.trans (World.cell?_drewN ..) (hHeld.2.2.2.2.2.2.1), Eq.trans (World.cell?_drewN ..) (hHeld.2.2.2.2.2.2.2.1), Eq.trans (World.cell?_drewN ..) (hHeld.2.2.2.2.2.2.2.2.1), Eq.trans (World.cell?_drewN ..) (hHeld.2.2.2.2.2.2.2.2.2)⟩ (fun hHeld => ?_)
            clear hK K
            refine norm_ (a' := ?_) ?_ ?_
            rotate_left
            ·show Act.put _ (some 43) _ = _
             simp only [Act.put, List.setIfInBounds_toArray, List.set_cons_zero, List.set_cons_succ, i64_w, i32_w]
             rfl
            refine pure_ (i := 17) (N := some 44) (v := ?_) (a' := ?_) (bs 32 262143) rfl rfl (any_of HT_.out (by kernel_rfl)) (fun _ _ _ h => h) (Or.inl ⟨by rfl, ?_⟩) ?_ ?_
            rotate_left
            ·intro w'
             go_simp
             with_reducible rfl
            rotate_left
            ·simp only [Act.put, List.setIfInBounds_toArray, List.set_cons_zero, List.set_cons_succ, i64_w, i32_w]
             rfl
            refine pure_ (i := 18) (N := some 45) (v := ?_) (a' := ?_) (bs 32 524287) rfl rfl (any_of HT_.out (by kernel_rfl)) (fun _ _ _ h => h) (Or.inl ⟨by rfl, ?_⟩) ?_ ?_
            rotate_left
            ·intro w'
             go_simp
             with_reducible rfl
            rotate_left
            ·simp only [Act.put, List.setIfInBounds_toArray, List.set_cons_zero, List.set_cons_succ, i64_w, i32_w]
             rfl
            refine pure_ (i := 19) (N := some 46) (v := ?_) (a' := ?_) (bs 32 1048575) rfl rfl (any_of HT_.out (by kernel_rfl)) (fun _ _ _ h => h) (Or.inl ⟨by rfl, ?_⟩) ?_ ?_
            rotate_left
            ·intro w'
             go_simp
             with_reducible rfl
            rotate_left
            ·simp only [Act.put, List.setIfInBounds_toArray, List.set_cons_zero, List.set_cons_succ, i64_w, i32_w]
             rfl
            refine pure_ (i := 20) (N := some 47) (v := ?_) (a' := ?_) (bs 32 2097151) rfl rfl (any_of HT_.out (by kernel_rfl)) (fun _ _ _ h => h) (Or.inl ⟨by rfl, ?_⟩) ?_ ?_
            rotate_left
            ·intro w'
             go_simp
             with_reducible rfl
            rotate_left
            ·simp only [Act.put, List.setIfInBounds_toArray, List.set_cons_zero, List.set_cons_succ, i64_w, i32_w]
             rfl
            refine take_ (i := 21) (N := some 48) (v := ?_) (a' := ?_) (bs 32 4194303) rfl rfl (take_ofW HT_.out HW_.out (by kernel_rfl)) (fun _ _ _ h => h) (Or.inl ⟨by rfl, ?_⟩) hHeld ?_ ?_
            rotate_left
            ·rintro w' ⟨s0, s1, s2, s3, s4, s5, s6, s7, s8, s9⟩
             go_simp
             with_reducible rfl
            rotate_left
            ·simp only [Act.put, List.setIfInBounds_toArray, List.set_cons_zero, List.set_cons_succ, i64_w, i32_w]
             rfl
            refine one_ (i := 22) (N := some 49) (bs 32 8388607) rfl rfl (one_of HT_.out (by kernel_rfl)) (by decide) (fun K hK => ?_)
            refine goes_ Try.func28 (by kernel_rfl) rfl #[.int .i64 ((rd_T32 l0 x12_1).f4), .int .i64 0, .int .i64 120] (by rfl) rfl rfl (by (try simp only [List.map_toArray, List.map_cons, List.map_nil]); first | done | rfl | (simp only [List.length_drop, List.length_take]; rfl)) ?_
            have H := HQ_.out
            clear HQ_
            by_cases c38 : t183 = true
            ·subst c38
             have H1 : ((product_within.f ((rd_T32 l0 x12_1).f8) 0 100000000).bind fun t184 => (product_Right.j1 k1 l0 t177 l0 (l0.length : Int) x12_1 (!t184) ((rd_T32 l0 x12_1).f0) ((rd_T32 l0 x12_1).f1) ((rd_T32 l0 x12_1).f2) ((rd_T32 l0 x12_1).f3) ((rd_T32 l0 x12_1).f4) ((rd_T32 l0 x12_1).f5) ((rd_T32 l0 x12_1).f6) ((rd_T32 l0 x12_1).f7.f0) ((rd_T32 l0 x12_1).f7.f1) ((rd_T32 l0 x12_1).f8))) = some r := by rw [if_pos rfl] at H; exact H
             clear H
             have H := H1
             clear H1
             replace H := Option.bind_eq_some_iff.mp H
             obtain ⟨t184, A390, H⟩ := H
             replace H : (product_Right.j1 k1 l0 t177 l0 (l0.length : Int) x12_1 (!t184) ((rd_T32 l0 x12_1).f0) ((rd_T32 l0 x12_1).f1) ((rd_T32 l0 x12_1).f2) ((rd_T32 l0 x12_1).f3) ((rd_T32 l0 x12_1).f4) ((rd_T32 l0 x12_1).f5) ((rd_T32 l0 x12_1).f6) ((rd_T32 l0 x12_1).f7.f0) ((rd_T32 l0 x12_1).f7.f1) ((rd_T32 l0 x12_1).f8)) = some r := H
             have A39 := Aside0.mk A390
             clear A390
             have H' := Aside0.mk H
             clear H
             with_reducible refine (product_within.calls ((rd_T32 l0 x12_1).f4) 0 120 true _ A37.out).mono ?_
             rintro e w' ⟨rfl, ⟨nd, rfl⟩⟩
             refine ⟨_, rfl, ?_⟩
             refine hK.out _ _ ⟨Eq.trans (World.cell?_drewN ..) (hHeld.1), Eq.trans (World.cell?_drewN ..) (hHeld.2.1), Eq.trans (World.cell?_drewN ..) (hHeld.2.2.1), Eq.trans (World.cell?_drewN ..) (hHeld.2.2.2.1), Eq.trans (World.cell?_drewN ..) (hHeld.2.2.2.2.1), Eq.trans (World.cell?_drewN ..) (hHeld.2.2.2.2.2.1), Eq.trans (World.cell?_drewN ..) (hHeld.2.2.2.2.2.2.1), Eq.trans (World.cell?_drewN ..) (hHeld.2.2.2.2.2.2.2.1), Eq.trans (World.cell?_drewN ..) (hHeld.2.2.2.2.2.2.2.2.1), Eq.trans (World.cell?_drewN ..) (hHeld.2.2.2.2.2.2.2.2.2)⟩ (fun hHeld => ?_)
             clear hK K
             refine norm_ (a' := ?_) ?_ ?_
             rotate_left
             ·show Act.put _ (some 49) _ = _
              simp only [Act.put, List.setIfInBounds_toArray, List.set_cons_zero, List.set_cons_succ, i64_w, i32_w]
              rfl
             refine pure_ (i := 23) (N := some 50) (v := ?_) (a' := ?_) (bs 32 16777215) rfl rfl (any_of HT_.out (by kernel_rfl)) (fun _ _ _ h => h) (Or.inl ⟨by rfl, ?_⟩) ?_ ?_
             rotate_left
             ·intro w'
              go_simp
              with_reducible rfl
             rotate_left
             ·simp only [Act.put, List.setIfInBounds_toArray, List.set_cons_zero, List.set_cons_succ, i64_w, i32_w]
              rfl
             refine pure_ (i := 24) (N := some 51) (v := ?_) (a' := ?_) (bs 32 33554431) rfl rfl (any_of HT_.out (by kernel_rfl)) (fun _ _ _ h => h) (Or.inl ⟨by rfl, ?_⟩) ?_ ?_
             rotate_left
             ·intro w'
              go_simp
              with_reducible rfl
             rotate_left
             ·simp only [Act.put, List.setIfInBounds_toArray, List.set_cons_zero, List.set_cons_succ, i64_w, i32_w]
              rfl
             refine pure_ (i := 25) (N := some 52) (v := ?_) (a' := ?_) (bs 32 67108863) rfl rfl (any_of HT_.out (by kernel_rfl)) (fun _ _ _ h => h) (Or.inl ⟨by rfl, ?_⟩) ?_ ?_
             rotate_left
             ·intro w'
              go_simp
              with_reducible rfl
             rotate_left
             ·simp only [Act.put, List.setIfInBounds_toArray, List.set_cons_zero, List.set_cons_succ, i64_w, i32_w]
              rfl
             refine pure_ (i := 26) (N := some 53) (v := ?_) (a' := ?_) (bs 32 134217727) rfl rfl (any_of HT_.out (by kernel_rfl)) (fun _ _ _ h => h) (Or.inl ⟨by rfl, ?_⟩) ?_ ?_
             rotate_left
             ·intro w'
              go_simp
              with_reducible rfl
             rotate_left
             ·simp only [Act.put, List.setIfInBounds_toArray, List.set_cons_zero, List.set_cons_succ, i64_w, i32_w]
              rfl
             refine take_ (i := 27) (N := some 54) (v := ?_) (a' := ?_) (bs 32 268435455) rfl rfl (take_ofW HT_.out HW_.out (by kernel_rfl)) (fun _ _ _ h => h) (Or.inl ⟨by rfl, ?_⟩) hHeld ?_ ?_
             rotate_left
             ·rintro w' ⟨s0, s1, s2, s3, s4, s5, s6, s7, s8, s9⟩
              go_simp
              with_reducible rfl
             rotate_left
             ·simp only [Act.put, List.setIfInBounds_toArray, List.set_cons_zero, List.set_cons_succ, i64_w, i32_w]
              rfl
             refine one_ (i := 28) (N := some 55) (bs 32 536870911) rfl rfl (one_of HT_.out (by kernel_rfl)) (by decide) (fun K hK => ?_)
             refine goes_ Try.func28 (by kernel_rfl) rfl #[.int .i64 ((rd_T32 l0 x12_1).f8), .int .i64 0, .int .i64 100000000] (by rfl) rfl rfl (by (try simp only [List.map_toArray, List.map_cons, List.map_nil]); first | done | rfl | (simp only [List.length_drop, List.length_take]; rfl)) ?_
             with_reducible refine (product_within.calls ((rd_T32 l0 x12_1).f8) 0 100000000 t184 _ A39.out).mono ?_
             rintro e w' ⟨rfl, ⟨nd, rfl⟩⟩
             refine ⟨_, rfl, ?_⟩
             refine hK.out _ _ ⟨Eq.trans (World.cell?_drewN ..) (hHeld.1), Eq.trans (World.cell?_drewN ..) (hHeld.2.1), Eq.trans (World.cell?_drewN ..) (hHeld.2.2.1), Eq.trans (World.cell?_drewN ..) (hHeld.2.2.2.1), Eq.trans (World.cell?_drewN ..) (hHeld.2.2.2.2.1), Eq.trans (World.cell?_drewN ..) (hHeld.2.2.2.2.2.1), Eq.trans (World.cell?_drewN ..) (hHeld.2.2.2.2.2.2.1), Eq.trans (World.cell?_drewN ..) (hHeld.2.2.2.2.2.2.2.1), Eq.trans (World.cell?_drewN ..) (hHeld.2.2.2.2.2.2.2.2.1), Eq.trans (World.cell?_drewN ..) (hHeld.2.2.2.2.2.2.2.2.2)⟩ (fun hHeld => ?_)
             clear hK K
             refine norm_ (a' := ?_) ?_ ?_
             rotate_left
             ·show Act.put _ (some 55) _ = _
              simp only [Act.put, List.setIfInBounds_toArray, List.set_cons_zero, List.set_cons_succ, i64_w, i32_w]
              rfl
             refine pure_ (i := 29) (N := some 56) (v := ?_) (a' := ?_) (bs 32 1073741823) rfl rfl (any_of HT_.out (by kernel_rfl)) (fun _ _ _ h => h) (Or.inl ⟨by rfl, ?_⟩) ?_ ?_
             rotate_left
             ·intro w'
              go_simp
              with_reducible rfl
             rotate_left
             ·simp only [Act.put, List.setIfInBounds_toArray, List.set_cons_zero, List.set_cons_succ, i64_w, i32_w]
              rfl
             refine pure_ (i := 30) (N := some 57) (v := ?_) (a' := ?_) (bs 32 2147483647) rfl rfl (any_of HT_.out (by kernel_rfl)) (fun _ _ _ h => h) (Or.inl ⟨by rfl, ?_⟩) ?_ ?_
             rotate_left
             ·intro w'
              go_simp
              with_reducible rfl
             rotate_left
             ·simp only [Act.put, List.setIfInBounds_toArray, List.set_cons_zero, List.set_cons_succ, i64_w, i32_w]
              rfl
             refine pure_ (i := 31) (N := some 26) (v := ?_) (a' := ?_) (bs 32 4294967295) rfl rfl (any_of HT_.out (by kernel_rfl)) (fun _ _ _ h => h) (Or.inl ⟨by rfl, ?_⟩) ?_ ?_
             rotate_left
             ·intro w'
              go_simp
              with_reducible rfl
             rotate_left
             ·simp only [Act.put, List.setIfInBounds_toArray, List.set_cons_zero, List.set_cons_succ, i64_w, i32_w]
              rfl
             refine done_ (done_of HT_.out (by kernel_rfl)) ?_
             try go_wp2
             go_meet
             case rel => exact ⟨_, (!t184), (by first | rfl | (simp; done) | (simp [*]; done)), H', ⟨by have := HK1.out; first | omega | exact Nat.le_refl _⟩, ⟨by (with_reducible repeat (first | apply Kd.R_alloc | apply Kd.R_drewN | apply Kd.R_drew)); exact HO170.out⟩, ⟨by (with_reducible repeat (first | apply Kd.R_alloc | apply Kd.R_drewN | apply Kd.R_drew)); exact HO173.out⟩, ⟨by (with_reducible repeat first|refine blk_drewN ?_ _|refine blk_drew ?_|refine blk_alloc ?_ _); exact BK158.out⟩, ⟨by (with_reducible repeat first|refine blk_drewN ?_ _|refine blk_drew ?_|refine blk_alloc ?_ _); exact BK178.out⟩, ⟨by repeat (first | (with_reducible first | exact HB.out | apply below_alloc | apply pw_below_drewN | apply below_drew1 | refine below_set ?_ GE158.out | refine below_set ?_ GE178.out) | exact HB.out)⟩⟩
            ·replace c38 := Bool.eq_false_iff.mpr c38
             subst c38
             have H1 : (product_Right.j1 k1 l0 t177 l0 (l0.length : Int) x12_1 true ((rd_T32 l0 x12_1).f0) ((rd_T32 l0 x12_1).f1) ((rd_T32 l0 x12_1).f2) ((rd_T32 l0 x12_1).f3) ((rd_T32 l0 x12_1).f4) ((rd_T32 l0 x12_1).f5) ((rd_T32 l0 x12_1).f6) ((rd_T32 l0 x12_1).f7.f0) ((rd_T32 l0 x12_1).f7.f1) ((rd_T32 l0 x12_1).f8)) = some r := by rw [if_neg (show ¬ (false = true) by decide)] at H; exact H
             clear H
             have H := H1
             clear H1
             have H' := Aside0.mk H
             clear H
             with_reducible refine (product_within.calls ((rd_T32 l0 x12_1).f4) 0 120 false _ A37.out).mono ?_
             rintro e w' ⟨rfl, ⟨nd, rfl⟩⟩
             refine ⟨_, rfl, ?_⟩
             refine hK.out _ _ ⟨Eq.trans (World.cell?_drewN ..) (hHeld.1), Eq.trans (World.cell?_drewN ..) (hHeld.2.1), Eq.trans (World.cell?_drewN ..) (hHeld.2.2.1), Eq.trans (World.cell?_drewN ..) (hHeld.2.2.2.1), Eq.trans (World.cell?_drewN ..) (hHeld.2.2.2.2.1), Eq.trans (World.cell?_drewN ..) (hHeld.2.2.2.2.2.1), Eq.trans (World.cell?_drewN ..) (hHeld.2.2.2.2.2.2.1), Eq.trans (World.cell?_drewN ..) (hHeld.2.2.2.2.2.2.2.1), Eq.trans (World.cell?_drewN ..) (hHeld.2.2.2.2.2.2.2.2.1), Eq.trans (World.cell?_drewN ..) (hHeld.2.2.2.2.2.2.2.2.2)⟩ (fun hHeld => ?_)
             clear hK K
             refine norm_ (a' := ?_) ?_ ?_
             rotate_left
             ·show Act.put _ (some 49) _ = _
              simp only [Act.put, List.setIfInBounds_toArray, List.set_cons_zero, List.set_cons_succ, i64_w, i32_w]
              rfl
             refine pure_ (i := 23) (N := some 50) (v := ?_) (a' := ?_) (bs 32 16777215) rfl rfl (any_of HT_.out (by kernel_rfl)) (fun _ _ _ h => h) (Or.inl ⟨by rfl, ?_⟩) ?_ ?_
             rotate_left
             ·intro w'
              go_simp
              with_reducible rfl
             rotate_left
             ·simp only [Act.put, List.setIfInBounds_toArray, List.set_cons_zero, List.set_cons_succ, i64_w, i32_w]
              rfl
             refine pure_ (i := 24) (N := some 51) (v := ?_) (a' := ?_) (bs 32 33554431) rfl rfl (any_of HT_.out (by kernel_rfl)) (fun _ _ _ h => h) (Or.inl ⟨by rfl, ?_⟩) ?_ ?_
             rotate_left
             ·intro w'
              go_simp
              with_reducible rfl
             rotate_left
             ·simp only [Act.put, List.setIfInBounds_toArray, List.set_cons_zero, List.set_cons_succ, i64_w, i32_w]
              rfl
             refine pure_ (i := 25) (N := some 52) (v := ?_) (a' := ?_) (bs 32 67108863) rfl rfl (any_of HT_.out (by kernel_rfl)) (fun _ _ _ h => h) (Or.inl ⟨by rfl, ?_⟩) ?_ ?_
             rotate_left
             ·intro w'
              go_simp
              with_reducible rfl
             rotate_left
             ·simp only [Act.put, List.setIfInBounds_toArray, List.set_cons_zero, List.set_cons_succ, i64_w, i32_w]
              rfl
             refine pure_ (i := 26) (N := some 53) (v := undef) (a' := ?_) (bs 32 134217727) rfl rfl (any_of HT_.out (by kernel_rfl)) (fun _ _ _ h => h) (Or.inr ⟨by rfl, rfl⟩) ?_ ?_
             rotate_left
             ·simp only [Act.put, List.setIfInBounds_toArray, List.set_cons_zero, List.set_cons_succ, i64_w, i32_w]
              rfl
             refine pure_ (i := 27) (N := some 54) (v := undef) (a' := ?_) (bs 32 268435455) rfl rfl (any_of HT_.out (by kernel_rfl)) (fun _ _ _ h => h) (Or.inr ⟨by rfl, rfl⟩) ?_ ?_
             rotate_left
             ·simp only [Act.put, List.setIfInBounds_toArray, List.set_cons_zero, List.set_cons_succ, i64_w, i32_w]
              rfl
             refine pure_ (i := 28) (N := some 55) (v := undef) (a' := ?_) (bs 32 536870911) rfl rfl (any_of HT_.out (by kernel_rfl)) (fun _ _ _ h => h) (Or.inr ⟨by rfl, rfl⟩) ?_ ?_
             rotate_left
             ·simp only [Act.put, List.setIfInBounds_toArray, List.set_cons_zero, List.set_cons_succ, i64_w, i32_w]
              rfl
             refine pure_ (i := 29) (N := some 56) (v := undef) (a' := ?_) (bs 32 1073741823) rfl rfl (any_of HT_.out (by kernel_rfl)) (fun _ _ _ h => h) (Or.inr ⟨by rfl, rfl⟩) ?_ ?_
             rotate_left
             ·simp only [Act.put, List.setIfInBounds_toArray, List.set_cons_zero, List.set_cons_succ, i64_w, i32_w]
              rfl
             refine pure_ (i := 30) (N := some 57) (v := ?_) (a' := ?_) (bs 32 2147483647) rfl rfl (any_of HT_.out (by kernel_rfl)) (fun _ _ _ h => h) (Or.inl ⟨by rfl, ?_⟩) ?_ ?_
             rotate_left
             ·intro w'
              go_simp
              with_reducible rfl
             rotate_left
             ·simp only [Act.put, List.setIfInBounds_toArray, List.set_cons_zero, List.set_cons_succ, i64_w, i32_w]
              rfl
             refine pure_ (i := 31) (N := some 26) (v := ?_) (a' := ?_) (bs 32 4294967295) rfl rfl (any_of HT_.out (by kernel_rfl)) (fun _ _ _ h => h) (Or.inl ⟨by rfl, ?_⟩) ?_ ?_
             rotate_left
             ·intro w'
              go_simp
              with_reducible rfl
             rotate_left
             ·simp only [Act.put, List.setIfInBounds_toArray, List.set_cons_zero, List.set_cons_succ, i64_w, i32_w]
              rfl
             refine done_ (done_of HT_.out (by kernel_rfl)) ?_
             try go_wp2
             go_meet
             case rel => exact ⟨_, (true), (by first | rfl | (simp; done) | (simp [*]; done)), H', ⟨by have := HK1.out; first | omega | exact Nat.le_refl _⟩, ⟨by (with_reducible repeat (first | apply Kd.R_alloc | apply Kd.R_drewN | apply Kd.R_drew)); exact HO170.out⟩, ⟨by (with_reducible repeat (first | apply Kd.R_alloc | apply Kd.R_drewN | apply Kd.R_drew)); exact HO173.out⟩, ⟨by (with_reducible repeat first|refine blk_drewN ?_ _|refine blk_drew ?_|refine blk_alloc ?_ _); exact BK158.out⟩, ⟨by (with_reducible repeat first|refine blk_drewN ?_ _|refine blk_drew ?_|refine blk_alloc ?_ _); exact BK178.out⟩, ⟨by repeat (first | (with_reducible first | exact HB.out | apply below_alloc | apply pw_below_drewN | apply below_drew1 | refine below_set ?_ GE158.out | refine below_set ?_ GE178.out) | exact HB.out)⟩⟩
           ·replace c36 := Bool.eq_false_iff.mpr c36
            subst c36
            have H1 : (product_Right.j1 k1 l0 t177 l0 (l0.length : Int) x12_1 true ((rd_T32 l0 x12_1).f0) ((rd_T32 l0 x12_1).f1) ((rd_T32 l0 x12_1).f2) ((rd_T32 l0 x12_1).f3) ((rd_T32 l0 x12_1).f4) ((rd_T32 l0 x12_1).f5) ((rd_T32 l0 x12_1).f6) ((rd_T32 l0 x12_1).f7.f0) ((rd_T32 l0 x12_1).f7.f1) ((rd_T32 l0 x12_1).f8)) = some r := by rw [if_neg (show ¬ (false = true) by decide)] at H; exact H
            clear H
            have H := H1
            clear H1
            have H' := Aside0.mk H
            clear H
            with_reducible refine (product_within.calls ((rd_T32 l0 x12_1).f3) 0 120 false _ A35.out).mono ?_
            rintro e w' ⟨rfl, ⟨nd, rfl⟩⟩
            refine ⟨_, rfl, ?_⟩
            refine hK.out _ _ ⟨Eq.trans (World.cell?_drewN ..) (hHeld.1), Eq.trans (World.cell?_drewN ..) (hHeld.2.1), Eq.trans (World.cell?_drewN ..) (hHeld.2.2.1), Eq.trans (World.cell?_drewN ..) (hHeld.2.2.2.1), Eq.trans (World.cell?_drewN ..) (hHeld.2.2.2.2.1), Eq.trans (World.cell?_drewN ..) (hHeld.2.2.2.2.2.1), Eq.trans (World.cell?_drewN ..) (hHeld.2.2.2.2.2.2.1), Eq.trans (World.cell?_drewN ..) (hHeld.2.2.2.2.2.2.2.1), Eq.trans (World.cell?_drewN ..) (hHeld.2.2.2.2.2.2.2.2.1), Eq.trans (World.cell?_drewN ..) (hHeld.2.2.2.2.2.2.2.2.2)⟩ (fun hHeld => ?_)
            clear hK K
            refine norm_ (a' := ?_) ?_ ?_
            rotate_left
            ·show Act.put _ (some 43) _ = _
             simp only [Act.put, List.setIfInBounds_toArray, List.set_cons_zero, List.set_cons_succ, i64_w, i32_w]
             rfl
            refine pure_ (i := 17) (N := some 44) (v := ?_) (a' := ?_) (bs 32 262143) rfl rfl (any_of HT_.out (by kernel_rfl)) (fun _ _ _ h => h) (Or.inl ⟨by rfl, ?_⟩) ?_ ?_
            rotate_left
            ·intro w'
             go_simp
             with_reducible rfl
            rotate_left
            ·simp only [Act.put, List.setIfInBounds_toArray, List.set_cons_zero, List.set_cons_succ, i64_w, i32_w]
             rfl
            refine pure_ (i := 18) (N := some 45) (v := ?_) (a' := ?_) (bs 32 524287) rfl rfl (any_of HT_.out (by kernel_rfl)) (fun _ _ _ h => h) (Or.inl ⟨by rfl, ?_⟩) ?_ ?_
            rotate_left
            ·intro w'
             go_simp
             with_reducible rfl
            rotate_left
            ·simp only [Act.put, List.setIfInBounds_toArray, List.set_cons_zero, List.set_cons_succ, i64_w, i32_w]
             rfl
            refine pure_ (i := 19) (N := some 46) (v := ?_) (a' := ?_) (bs 32 1048575) rfl rfl (any_of HT_.out (by kernel_rfl)) (fun _ _ _ h => h) (Or.inl ⟨by rfl, ?_⟩) ?_ ?_
            rotate_left
            ·intro w'
             go_simp
             with_reducible rfl
            rotate_left
            ·simp only [Act.put, List.setIfInBounds_toArray, List.set_cons_zero, List.set_cons_succ, i64_w, i32_w]
             rfl
            refine pure_ (i := 20) (N := some 47) (v := undef) (a' := ?_) (bs 32 2097151) rfl rfl (any_of HT_.out (by kernel_rfl)) (fun _ _ _ h => h) (Or.inr ⟨by rfl, rfl⟩) ?_ ?_
            rotate_left
            ·simp only [Act.put, List.setIfInBounds_toArray, List.set_cons_zero, List.set_cons_succ, i64_w, i32_w]
             rfl
            refine pure_ (i := 21) (N := some 48) (v := undef) (a' := ?_) (bs 32 4194303) rfl rfl (any_of HT_.out (by kernel_rfl)) (fun _ _ _ h => h) (Or.inr ⟨by rfl, rfl⟩) ?_ ?_
            rotate_left
            ·simp only [Act.put, List.setIfInBounds_toArray, List.set_cons_zero, List.set_cons_succ, i64_w, i32_w]
             rfl
            refine pure_ (i := 22) (N := some 49) (v := undef) (a' := ?_) (bs 32 8388607) rfl rfl (any_of HT_.out (by kernel_rfl)) (fun _ _ _ h => h) (Or.inr ⟨by rfl, rfl⟩) ?_ ?_
            rotate_left
            ·simp only [Act.put, List.setIfInBounds_toArray, List.set_cons_zero, List.set_cons_succ, i64_w, i32_w]
             rfl
            refine pure_ (i := 23) (N := some 50) (v := undef) (a' := ?_) (bs 32 16777215) rfl rfl (any_of HT_.out (by kernel_rfl)) (fun _ _ _ h => h) (Or.inr ⟨by rfl, rfl⟩) ?_ ?_
            rotate_left
            ·simp only [Act.put, List.setIfInBounds_toArray, List.set_cons_zero, List.set_cons_succ, i64_w, i32_w]
             rfl
            refine pure_ (i := 24) (N := some 51) (v := ?_) (a' := ?_) (bs 32 33554431) rfl rfl (any_of HT_.out (by kernel_rfl)) (fun _ _ _ h => h) (Or.inl ⟨by rfl, ?_⟩) ?_ ?_
            rotate_left
            ·intro w'
             go_simp
             with_reducible rfl
            rotate_left
            ·simp only [Act.put, List.setIfInBounds_toArray, List.set_cons_zero, List.set_cons_succ, i64_w, i32_w]
             rfl
            refine pure_ (i := 25) (N := some 52) (v := ?_) (a' := ?_) (bs 32 67108863) rfl rfl (any_of HT_.out (by kernel_rfl)) (fun _ _ _ h => h) (Or.inl ⟨by rfl, ?_⟩) ?_ ?_
            rotate_left
            ·intro w'
             go_simp
             with_reducible rfl
            rotate_left
            ·simp only [Act.put, List.setIfInBounds_toArray, List.set_cons_zero, List.set_cons_succ, i64_w, i32_w]
             rfl
            refine pure_ (i := 26) (N := some 53) (v := undef) (a' := ?_) (bs 32 134217727) rfl rfl (any_of HT_.out (by kernel_rfl)) (fun _ _ _ h => h) (Or.inr ⟨by rfl, rfl⟩) ?_ ?_
            rotate_left
            ·simp only [Act.put, List.setIfInBounds_toArray, List.set_cons_zero, List.set_cons_succ, i64_w, i32_w]
             rfl
            refine pure_ (i := 27) (N := some 54) (v := undef) (a' := ?_) (bs 32 268435455) rfl rfl (any_of HT_.out (by kernel_rfl)) (fun _ _ _ h => h) (Or.inr ⟨by rfl, rfl⟩) ?_ ?_
            rotate_left
            ·simp only [Act.put, List.setIfInBounds_toArray, List.set_cons_zero, List.set_cons_succ, i64_w, i32_w]
             rfl
            refine pure_ (i := 28) (N := some 55) (v := undef) (a' := ?_) (bs 32 536870911) rfl rfl (any_of HT_.out (by kernel_rfl)) (fun _ _ _ h => h) (Or.inr ⟨by rfl, rfl⟩) ?_ ?_
            rotate_left
            ·simp only [Act.put, List.setIfInBounds_toArray, List.set_cons_zero, List.set_cons_succ, i64_w, i32_w]
             rfl
            refine pure_ (i := 29) (N := some 56) (v := undef) (a' := ?_) (bs 32 1073741823) rfl rfl (any_of HT_.out (by kernel_rfl)) (fun _ _ _ h => h) (Or.inr ⟨by rfl, rfl⟩) ?_ ?_
            rotate_left
            ·simp only [Act.put, List.setIfInBounds_toArray, List.set_cons_zero, List.set_cons_succ, i64_w, i32_w]
             rfl
            refine pure_ (i := 30) (N := some 57) (v := ?_) (a' := ?_) (bs 32 2147483647) rfl rfl (any_of HT_.out (by kernel_rfl)) (fun _ _ _ h => h) (Or.inl ⟨by rfl, ?_⟩) ?_ ?_
            rotate_left
            ·intro w'
             go_simp
             with_reducible rfl
            rotate_left
            ·simp only [Act.put, List.setIfInBounds_toArray, List.set_cons_zero, List.set_cons_succ, i64_w, i32_w]
             rfl
            refine pure_ (i := 31) (N := some 26) (v := ?_) (a' := ?_) (bs 32 4294967295) rfl rfl (any_of HT_.out (by kernel_rfl)) (fun _ _ _ h => h) (Or.inl ⟨by rfl, ?_⟩) ?_ ?_
            rotate_left
            ·intro w'
             go_simp
             with_reducible rfl
            rotate_left
            ·simp only [Act.put, List.setIfInBounds_toArray, List.set_cons_zero, List.set_cons_succ, i64_w, i32_w]
             rfl
            refine done_ (done_of HT_.out (by kernel_rfl)) ?_
            try go_wp2
            go_meet
            case rel => exact ⟨_, (true), (by first | rfl | (simp; done) | (simp [*]; done)), H', ⟨by have := HK1.out; first | omega | exact Nat.le_refl _⟩, ⟨by (with_reducible repeat (first | apply Kd.R_alloc | apply Kd.R_drewN | apply Kd.R_drew)); exact HO170.out⟩, ⟨by (with_reducible repeat (first | apply Kd.R_alloc | apply Kd.R_drewN | apply Kd.R_drew)); exact HO173.out⟩, ⟨by (with_reducible repeat first|refine blk_drewN ?_ _|refine blk_drew ?_|refine blk_alloc ?_ _); exact BK158.out⟩, ⟨by (with_reducible repeat first|refine blk_drewN ?_ _|refine blk_drew ?_|refine blk_alloc ?_ _); exact BK178.out⟩, ⟨by repeat (first | (with_reducible first | exact HB.out | apply below_alloc | apply pw_below_drewN | apply below_drew1 | refine below_set ?_ GE158.out | refine below_set ?_ GE178.out) | exact HB.out)⟩⟩
          ·replace c34 := Bool.eq_false_iff.mpr c34
           subst c34
           have H1 : (product_Right.j1 k1 l0 t177 l0 (l0.length : Int) x12_1 true ((rd_T32 l0 x12_1).f0) ((rd_T32 l0 x12_1).f1) ((rd_T32 l0 x12_1).f2) ((rd_T32 l0 x12_1).f3) ((rd_T32 l0 x12_1).f4) ((rd_T32 l0 x12_1).f5) ((rd_T32 l0 x12_1).f6) ((rd_T32 l0 x12_1).f7.f0) ((rd_T32 l0 x12_1).f7.f1) ((rd_T32 l0 x12_1).f8)) = some r := by rw [if_neg (show ¬ (false = true) by decide)] at H; exact H
           clear H
           have H := H1
           clear H1
           have H' := Aside0.mk H
           clear H
           with_reducible refine (product_within.calls ((rd_T32 l0 x12_1).f2) 1 t180 false _ A33.out).mono ?_
           rintro e w' ⟨rfl, ⟨nd, rfl⟩⟩
           refine ⟨_, rfl, ?_⟩
           refine hK.out _ _ ⟨Eq.trans (World.cell?_drewN ..) (hHeld.1), Eq.trans (World.cell?_drewN ..) (hHeld.2.1), Eq.trans (World.cell?_drewN ..) (hHeld.2.2.1), Eq.trans (World.cell?_drewN ..) (hHeld.2.2.2.1), Eq.trans (World.cell?_drewN ..) (hHeld.2.2.2.2.1), Eq.trans (World.cell?_drewN ..) (hHeld.2.2.2.2.2.1), Eq.trans (World.cell?_drewN ..) (hHeld.2.2.2.2.2.2.1), Eq.trans (World.cell?_drewN ..) (hHeld.2.2.2.2.2.2.2.1), Eq.trans (World.cell?_drewN ..) (hHeld.2.2.2.2.2.2.2.2.1), Eq.trans (World.cell?_drewN ..) (hHeld.2.2.2.2.2.2.2.2.2)⟩ (fun hHeld => ?_)
           clear hK K
           refine norm_ (a' := ?_) ?_ ?_
           rotate_left
           ·show Act.put _ (some 37) _ = _
            simp only [Act.put, List.setIfInBounds_toArray, List.set_cons_zero, List.set_cons_succ, i64_w, i32_w]
            rfl
           refine pure_ (i := 11) (N := some 38) (v := ?_) (a' := ?_) (bs 32 4095) rfl rfl (any_of HT_.out (by kernel_rfl)) (fun _ _ _ h => h) (Or.inl ⟨by rfl, ?_⟩) ?_ ?_
           rotate_left
           ·intro w'
            go_simp
            with_reducible rfl
           rotate_left
           ·simp only [Act.put, List.setIfInBounds_toArray, List.set_cons_zero, List.set_cons_succ, i64_w, i32_w]
            rfl
           refine pure_ (i := 12) (N := some 39) (v := ?_) (a' := ?_) (bs 32 8191) rfl rfl (any_of HT_.out (by kernel_rfl)) (fun _ _ _ h => h) (Or.inl ⟨by rfl, ?_⟩) ?_ ?_
           rotate_left
           ·intro w'
            go_simp
            with_reducible rfl
           rotate_left
           ·simp only [Act.put, List.setIfInBounds_toArray, List.set_cons_zero, List.set_cons_succ, i64_w, i32_w]
            rfl
           refine pure_ (i := 13) (N := some 40) (v := ?_) (a' := ?_) (bs 32 16383) rfl rfl (any_of HT_.out (by kernel_rfl)) (fun _ _ _ h => h) (Or.inl ⟨by rfl, ?_⟩) ?_ ?_
           rotate_left
           ·intro w'
            go_simp
            with_reducible rfl
           rotate_left
           ·simp only [Act.put, List.setIfInBounds_toArray, List.set_cons_zero, List.set_cons_succ, i64_w, i32_w]
            rfl
           refine pure_ (i := 14) (N := some 41) (v := undef) (a' := ?_) (bs 32 32767) rfl rfl (any_of HT_.out (by kernel_rfl)) (fun _ _ _ h => h) (Or.inr ⟨by rfl, rfl⟩) ?_ ?_
           rotate_left
           ·simp only [Act.put, List.setIfInBounds_toArray, List.set_cons_zero, List.set_cons_succ, i64_w, i32_w]
            rfl
           refine pure_ (i := 15) (N := some 42) (v := undef) (a' := ?_) (bs 32 65535) rfl rfl (any_of HT_.out (by kernel_rfl)) (fun _ _ _ h => h) (Or.inr ⟨by rfl, rfl⟩) ?_ ?_
           rotate_left
           ·simp only [Act.put, List.setIfInBounds_toArray, List.set_cons_zero, List.set_cons_succ, i64_w, i32_w]
            rfl
           refine pure_ (i := 16) (N := some 43) (v := undef) (a' := ?_) (bs 32 131071) rfl rfl (any_of HT_.out (by kernel_rfl)) (fun _ _ _ h => h) (Or.inr ⟨by rfl, rfl⟩) ?_ ?_
           rotate_left
           ·simp only [Act.put, List.setIfInBounds_toArray, List.set_cons_zero, List.set_cons_succ, i64_w, i32_w]
            rfl
           refine pure_ (i := 17) (N := some 44) (v := undef) (a' := ?_) (bs 32 262143) rfl rfl (any_of HT_.out (by kernel_rfl)) (fun _ _ _ h => h) (Or.inr ⟨by rfl, rfl⟩) ?_ ?_
           rotate_left
           ·simp only [Act.put, List.setIfInBounds_toArray, List.set_cons_zero, List.set_cons_succ, i64_w, i32_w]
            rfl
           refine pure_ (i := 18) (N := some 45) (v := ?_) (a' := ?_) (bs 32 524287) rfl rfl (any_of HT_.out (by kernel_rfl)) (fun _ _ _ h => h) (Or.inl ⟨by rfl, ?_⟩) ?_ ?_
           rotate_left
           ·intro w'
            go_simp
            with_reducible rfl
           rotate_left
           ·simp only [Act.put, List.setIfInBounds_toArray, List.set_cons_zero, List.set_cons_succ, i64_w, i32_w]
            rfl
           refine pure_ (i := 19) (N := some 46) (v := ?_) (a' := ?_) (bs 32 1048575) rfl rfl (any_of HT_.out (by kernel_rfl)) (fun _ _ _ h => h) (Or.inl ⟨by rfl, ?_⟩) ?_ ?_
           rotate_left
           ·intro w'
            go_simp
            with_reducible rfl
           rotate_left
           ·simp only [Act.put, List.setIfInBounds_toArray, List.set_cons_zero, List.set_cons_succ, i64_w, i32_w]
            rfl
           refine pure_ (i := 20) (N := some 47) (v := undef) (a' := ?_) (bs 32 2097151) rfl rfl (any_of HT_.out (by kernel_rfl)) (fun _ _ _ h => h) (Or.inr ⟨by rfl, rfl⟩) ?_ ?_
           rotate_left
           ·simp only [Act.put, List.setIfInBounds_toArray, List.set_cons_zero, List.set_cons_succ, i64_w, i32_w]
            rfl
           refine pure_ (i := 21) (N := some 48) (v := undef) (a' := ?_) (bs 32 4194303) rfl rfl (any_of HT_.out (by kernel_rfl)) (fun _ _ _ h => h) (Or.inr ⟨by rfl, rfl⟩) ?_ ?_
           rotate_left
           ·simp only [Act.put, List.setIfInBounds_toArray, List.set_cons_zero, List.set_cons_succ, i64_w, i32_w]
            rfl
           refine pure_ (i := 22) (N := some 49) (v := undef) (a' := ?_) (bs 32 8388607) rfl rfl (any_of HT_.out (by kernel_rfl)) (fun _ _ _ h => h) (Or.inr ⟨by rfl, rfl⟩) ?_ ?_
           rotate_left
           ·simp only [Act.put, List.setIfInBounds_toArray, List.set_cons_zero, List.set_cons_succ, i64_w, i32_w]
            rfl
           refine pure_ (i := 23) (N := some 50) (v := undef) (a' := ?_) (bs 32 16777215) rfl rfl (any_of HT_.out (by kernel_rfl)) (fun _ _ _ h => h) (Or.inr ⟨by rfl, rfl⟩) ?_ ?_
           rotate_left
           ·simp only [Act.put, List.setIfInBounds_toArray, List.set_cons_zero, List.set_cons_succ, i64_w, i32_w]
            rfl
           refine pure_ (i := 24) (N := some 51) (v := ?_) (a' := ?_) (bs 32 33554431) rfl rfl (any_of HT_.out (by kernel_rfl)) (fun _ _ _ h => h) (Or.inl ⟨by rfl, ?_⟩) ?_ ?_
           rotate_left
           ·intro w'
            go_simp
            with_reducible rfl
           rotate_left
           ·simp only [Act.put, List.setIfInBounds_toArray, List.set_cons_zero, List.set_cons_succ, i64_w, i32_w]
            rfl
           refine pure_ (i := 25) (N := some 52) (v := ?_) (a' := ?_) (bs 32 67108863) rfl rfl (any_of HT_.out (by kernel_rfl)) (fun _ _ _ h => h) (Or.inl ⟨by rfl, ?_⟩) ?_ ?_
           rotate_left
           ·intro w'
            go_simp
            with_reducible rfl
           rotate_left
           ·simp only [Act.put, List.setIfInBounds_toArray, List.set_cons_zero, List.set_cons_succ, i64_w, i32_w]
            rfl
           refine pure_ (i := 26) (N := some 53) (v := undef) (a' := ?_) (bs 32 134217727) rfl rfl (any_of HT_.out (by kernel_rfl)) (fun _ _ _ h => h) (Or.inr ⟨by rfl, rfl⟩) ?_ ?_
           rotate_left
           ·simp only [Act.put, List.setIfInBounds_toArray, List.set_cons_zero, List.set_cons_succ, i64_w, i32_w]
            rfl
           refine pure_ (i := 27) (N := some 54) (v := undef) (a' := ?_) (bs 32 268435455) rfl rfl (any_of HT_.out (by kernel_rfl)) (fun _ _ _ h => h) (Or.inr ⟨by rfl, rfl⟩) ?_ ?_
           rotate_left
           ·simp only [Act.put, List.setIfInBounds_toArray, List.set_cons_zero, List.set_cons_succ, i64_w, i32_w]
            rfl
           refine pure_ (i := 28) (N := some 55) (v := undef) (a' := ?_) (bs 32 536870911) rfl rfl (any_of HT_.out (by kernel_rfl)) (fun _ _ _ h => h) (Or.inr ⟨by rfl, rfl⟩) ?_ ?_
           rotate_left
           ·simp only [Act.put, List.setIfInBounds_toArray, List.set_cons_zero, List.set_cons_succ, i64_w, i32_w]
            rfl
           refine pure_ (i := 29) (N := some 56) (v := undef) (a' := ?_) (bs 32 1073741823) rfl rfl (any_of HT_.out (by kernel_rfl)) (fun _ _ _ h => h) (Or.inr ⟨by rfl, rfl⟩) ?_ ?_
           rotate_left
           ·simp only [Act.put, List.setIfInBounds_toArray, List.set_cons_zero, List.set_cons_succ, i64_w, i32_w]
            rfl
           refine pure_ (i := 30) (N := some 57) (v := ?_) (a' := ?_) (bs 32 2147483647) rfl rfl (any_of HT_.out (by kernel_rfl)) (fun _ _ _ h => h) (Or.inl ⟨by rfl, ?_⟩) ?_ ?_
           rotate_left
           ·intro w'
            go_simp
            with_reducible rfl
           rotate_left
           ·simp only [Act.put, List.setIfInBounds_toArray, List.set_cons_zero, List.set_cons_succ, i64_w, i32_w]
            rfl
           refine pure_ (i := 31) (N := some 26) (v := ?_) (a' := ?_) (bs 32 4294967295) rfl rfl (any_of HT_.out (by kernel_rfl)) (fun _ _ _ h => h) (Or.inl ⟨by rfl, ?_⟩) ?_ ?_
           rotate_left
           ·intro w'
            go_simp
            with_reducible rfl
           rotate_left
           ·simp only [Act.put, List.setIfInBounds_toArray, List.set_cons_zero, List.set_cons_succ, i64_w, i32_w]
            rfl
           refine done_ (done_of HT_.out (by kernel_rfl)) ?_
           try go_wp2
           go_meet
           case rel => exact ⟨_, (true), (by first | rfl | (simp; done) | (simp [*]; done)), H', ⟨by have := HK1.out; first | omega | exact Nat.le_refl _⟩, ⟨by (with_reducible repeat (first | apply Kd.R_alloc | apply Kd.R_drewN | apply Kd.R_drew)); exact HO170.out⟩, ⟨by (with_reducible repeat (first | apply Kd.R_alloc | apply Kd.R_drewN | apply Kd.R_drew)); exact HO173.out⟩, ⟨by (with_reducible repeat first|refine blk_drewN ?_ _|refine blk_drew ?_|refine blk_alloc ?_ _); exact BK158.out⟩, ⟨by (with_reducible repeat first|refine blk_drewN ?_ _|refine blk_drew ?_|refine blk_alloc ?_ _); exact BK178.out⟩, ⟨by repeat (first | (with_reducible first | exact HB.out | apply below_alloc | apply pw_below_drewN | apply below_drew1 | refine below_set ?_ GE158.out | refine below_set ?_ GE178.out) | exact HB.out)⟩⟩
         ·replace c31 := Bool.eq_false_iff.mpr c31
          subst c31
          have H1 : (product_Right.j1 k1 l0 t177 l0 (l0.length : Int) x12_1 true ((rd_T32 l0 x12_1).f0) ((rd_T32 l0 x12_1).f1) ((rd_T32 l0 x12_1).f2) ((rd_T32 l0 x12_1).f3) ((rd_T32 l0 x12_1).f4) ((rd_T32 l0 x12_1).f5) ((rd_T32 l0 x12_1).f6) ((rd_T32 l0 x12_1).f7.f0) ((rd_T32 l0 x12_1).f7.f1) ((rd_T32 l0 x12_1).f8)) = some r := by rw [if_neg (show ¬ (false = true) by decide)] at H; exact H
          clear H
          have H := H1
          clear H1
          have H' := Aside0.mk H
          clear H
          with_reducible refine (product_within.calls ((rd_T32 l0 x12_1).f0) 1 9999 false _ A30.out).mono ?_
          rintro e w' ⟨rfl, ⟨nd, rfl⟩⟩
          refine ⟨_, rfl, ?_⟩
          refine hK.out _ _ ⟨Eq.trans (World.cell?_drewN ..) (hHeld.1), Eq.trans (World.cell?_drewN ..) (hHeld.2.1), Eq.trans (World.cell?_drewN ..) (hHeld.2.2.1), Eq.trans (World.cell?_drewN ..) (hHeld.2.2.2.1), Eq.trans (World.cell?_drewN ..) (hHeld.2.2.2.2.1), Eq.trans (World.cell?_drewN ..) (hHeld.2.2.2.2.2.1), Eq.trans (World.cell?_drewN ..) (hHeld.2.2.2.2.2.2.1), Eq.trans (World.cell?_drewN ..) (hHeld.2.2.2.2.2.2.2.1), Eq.trans (World.cell?_drewN ..) (hHeld.2.2.2.2.2.2.2.2.1), Eq.trans (World.cell?_drewN ..) (hHeld.2.2.2.2.2.2.2.2.2)⟩ (fun hHeld => ?_)
          clear hK K
          refine norm_ (a' := ?_) ?_ ?_
          rotate_left
          ·show Act.put _ (some 29) _ = _
           simp only [Act.put, List.setIfInBounds_toArray, List.set_cons_zero, List.set_cons_succ, i64_w, i32_w]
           rfl
          refine pure_ (i := 3) (N := some 30) (v := ?_) (a' := ?_) (bs 32 15) rfl rfl (any_of HT_.out (by kernel_rfl)) (fun _ _ _ h => h) (Or.inl ⟨by rfl, ?_⟩) ?_ ?_
          rotate_left
          ·intro w'
           go_simp
           with_reducible rfl
          rotate_left
          ·simp only [Act.put, List.setIfInBounds_toArray, List.set_cons_zero, List.set_cons_succ, i64_w, i32_w]
           rfl
          refine pure_ (i := 4) (N := some 31) (v := ?_) (a' := ?_) (bs 32 31) rfl rfl (any_of HT_.out (by kernel_rfl)) (fun _ _ _ h => h) (Or.inl ⟨by rfl, ?_⟩) ?_ ?_
          rotate_left
          ·intro w'
           go_simp
           with_reducible rfl
          rotate_left
          ·simp only [Act.put, List.setIfInBounds_toArray, List.set_cons_zero, List.set_cons_succ, i64_w, i32_w]
           rfl
          refine pure_ (i := 5) (N := some 32) (v := undef) (a' := ?_) (bs 32 63) rfl rfl (any_of HT_.out (by kernel_rfl)) (fun _ _ _ h => h) (Or.inr ⟨by rfl, rfl⟩) ?_ ?_
          rotate_left
          ·simp only [Act.put, List.setIfInBounds_toArray, List.set_cons_zero, List.set_cons_succ, i64_w, i32_w]
           rfl
          refine pure_ (i := 6) (N := some 33) (v := undef) (a' := ?_) (bs 32 127) rfl rfl (any_of HT_.out (by kernel_rfl)) (fun _ _ _ h => h) (Or.inr ⟨by rfl, rfl⟩) ?_ ?_
          rotate_left
          ·simp only [Act.put, List.setIfInBounds_toArray, List.set_cons_zero, List.set_cons_succ, i64_w, i32_w]
           rfl
          refine pure_ (i := 7) (N := some 34) (v := undef) (a' := ?_) (bs 32 255) rfl rfl (any_of HT_.out (by kernel_rfl)) (fun _ _ _ h => h) (Or.inr ⟨by rfl, rfl⟩) ?_ ?_
          rotate_left
          ·simp only [Act.put, List.setIfInBounds_toArray, List.set_cons_zero, List.set_cons_succ, i64_w, i32_w]
           rfl
          refine pure_ (i := 8) (N := some 35) (v := undef) (a' := ?_) (bs 32 511) rfl rfl (any_of HT_.out (by kernel_rfl)) (fun _ _ _ h => h) (Or.inr ⟨by rfl, rfl⟩) ?_ ?_
          rotate_left
          ·simp only [Act.put, List.setIfInBounds_toArray, List.set_cons_zero, List.set_cons_succ, i64_w, i32_w]
           rfl
          refine pure_ (i := 9) (N := some 36) (v := undef) (a' := ?_) (bs 32 1023) rfl rfl (any_of HT_.out (by kernel_rfl)) (fun _ _ _ h => h) (Or.inr ⟨by rfl, rfl⟩) ?_ ?_
          rotate_left
          ·simp only [Act.put, List.setIfInBounds_toArray, List.set_cons_zero, List.set_cons_succ, i64_w, i32_w]
           rfl
          refine pure_ (i := 10) (N := some 37) (v := undef) (a' := ?_) (bs 32 2047) rfl rfl (any_of HT_.out (by kernel_rfl)) (fun _ _ _ h => h) (Or.inr ⟨by rfl, rfl⟩) ?_ ?_
          rotate_left
          ·simp only [Act.put, List.setIfInBounds_toArray, List.set_cons_zero, List.set_cons_succ, i64_w, i32_w]
           rfl
          refine pure_ (i := 11) (N := some 38) (v := undef) (a' := ?_) (bs 32 4095) rfl rfl (any_of HT_.out (by kernel_rfl)) (fun _ _ _ h => h) (Or.inr ⟨by rfl, rfl⟩) ?_ ?_
          rotate_left
          ·simp only [Act.put, List.setIfInBounds_toArray, List.set_cons_zero, List.set_cons_succ, i64_w, i32_w]
           rfl
          refine pure_ (i := 12) (N := some 39) (v := ?_) (a' := ?_) (bs 32 8191) rfl rfl (any_of HT_.out (by kernel_rfl)) (fun _ _ _ h => h) (Or.inl ⟨by rfl, ?_⟩) ?_ ?_
          rotate_left
          ·intro w'
           go_simp
           with_reducible rfl
          rotate_left
          ·simp only [Act.put, List.setIfInBounds_toArray, List.set_cons_zero, List.set_cons_succ, i64_w, i32_w]
           rfl
          refine pure_ (i := 13) (N := some 40) (v := ?_) (a' := ?_) (bs 32 16383) rfl rfl (any_of HT_.out (by kernel_rfl)) (fun _ _ _ h => h) (Or.inl ⟨by rfl, ?_⟩) ?_ ?_
          rotate_left
          ·intro w'
           go_simp
           with_reducible rfl
          rotate_left
          ·simp only [Act.put, List.setIfInBounds_toArray, List.set_cons_zero, List.set_cons_succ, i64_w, i32_w]
           rfl
          refine pure_ (i := 14) (N := some 41) (v := undef) (a' := ?_) (bs 32 32767) rfl rfl (any_of HT_.out (by kernel_rfl)) (fun _ _ _ h => h) (Or.inr ⟨by rfl, rfl⟩) ?_ ?_
          rotate_left
          ·simp only [Act.put, List.setIfInBounds_toArray, List.set_cons_zero, List.set_cons_succ, i64_w, i32_w]
           rfl
          refine pure_ (i := 15) (N := some 42) (v := undef) (a' := ?_) (bs 32 65535) rfl rfl (any_of HT_.out (by kernel_rfl)) (fun _ _ _ h => h) (Or.inr ⟨by rfl, rfl⟩) ?_ ?_
          rotate_left
          ·simp only [Act.put, List.setIfInBounds_toArray, List.set_cons_zero, List.set_cons_succ, i64_w, i32_w]
           rfl
          refine pure_ (i := 16) (N := some 43) (v := undef) (a' := ?_) (bs 32 131071) rfl rfl (any_of HT_.out (by kernel_rfl)) (fun _ _ _ h => h) (Or.inr ⟨by rfl, rfl⟩) ?_ ?_
          rotate_left
          ·simp only [Act.put, List.setIfInBounds_toArray, List.set_cons_zero, List.set_cons_succ, i64_w, i32_w]
           rfl
          refine pure_ (i := 17) (N := some 44) (v := undef) (a' := ?_) (bs 32 262143) rfl rfl (any_of HT_.out (by kernel_rfl)) (fun _ _ _ h => h) (Or.inr ⟨by rfl, rfl⟩) ?_ ?_
          rotate_left
          ·simp only [Act.put, List.setIfInBounds_toArray, List.set_cons_zero, List.set_cons_succ, i64_w, i32_w]
           rfl
          refine pure_ (i := 18) (N := some 45) (v := ?_) (a' := ?_) (bs 32 524287) rfl rfl (any_of HT_.out (by kernel_rfl)) (fun _ _ _ h => h) (Or.inl ⟨by rfl, ?_⟩) ?_ ?_
          rotate_left
          ·intro w'
           go_simp
           with_reducible rfl
          rotate_left
          ·simp only [Act.put, List.setIfInBounds_toArray, List.set_cons_zero, List.set_cons_succ, i64_w, i32_w]
           rfl
          refine pure_ (i := 19) (N := some 46) (v := ?_) (a' := ?_) (bs 32 1048575) rfl rfl (any_of HT_.out (by kernel_rfl)) (fun _ _ _ h => h) (Or.inl ⟨by rfl, ?_⟩) ?_ ?_
          rotate_left
          ·intro w'
           go_simp
           with_reducible rfl
          rotate_left
          ·simp only [Act.put, List.setIfInBounds_toArray, List.set_cons_zero, List.set_cons_succ, i64_w, i32_w]
           rfl
          refine pure_ (i := 20) (N := some 47) (v := undef) (a' := ?_) (bs 32 2097151) rfl rfl (any_of HT_.out (by kernel_rfl)) (fun _ _ _ h => h) (Or.inr ⟨by rfl, rfl⟩) ?_ ?_
          rotate_left
          ·simp only [Act.put, List.setIfInBounds_toArray, List.set_cons_zero, List.set_cons_succ, i64_w, i32_w]
           rfl
          refine pure_ (i := 21) (N := some 48) (v := undef) (a' := ?_) (bs 32 4194303) rfl rfl (any_of HT_.out (by kernel_rfl)) (fun _ _ _ h => h) (Or.inr ⟨by rfl, rfl⟩) ?_ ?_
          rotate_left
          ·simp only [Act.put, List.setIfInBounds_toArray, List.set_cons_zero, List.set_cons_succ, i64_w, i32_w]
           rfl
          refine pure_ (i := 22) (N := some 49) (v := undef) (a' := ?_) (bs 32 8388607) rfl rfl (any_of HT_.out (by kernel_rfl)) (fun _ _ _ h => h) (Or.inr ⟨by rfl, rfl⟩) ?_ ?_
          rotate_left
          ·simp only [Act.put, List.setIfInBounds_toArray, List.set_cons_zero, List.set_cons_succ, i64_w, i32_w]
           rfl
          refine pure_ (i := 23) (N := some 50) (v := undef) (a' := ?_) (bs 32 16777215) rfl rfl (any_of HT_.out (by kernel_rfl)) (fun _ _ _ h => h) (Or.inr ⟨by rfl, rfl⟩) ?_ ?_
          rotate_left
          ·simp only [Act.put, List.setIfInBounds_toArray, List.set_cons_zero, List.set_cons_succ, i64_w, i32_w]
           rfl
          refine pure_ (i := 24) (N := some 51) (v := ?_) (a' := ?_) (bs 32 33554431) rfl rfl (any_of HT_.out (by kernel_rfl)) (fun _ _ _ h => h) (Or.inl ⟨by rfl, ?_⟩) ?_ ?_
          rotate_left
          ·intro w'
           go_simp
           with_reducible rfl
          rotate_left
          ·simp only [Act.put, List.setIfInBounds_toArray, List.set_cons_zero, List.set_cons_succ, i64_w, i32_w]
           rfl
          refine pure_ (i := 25) (N := some 52) (v := ?_) (a' := ?_) (bs 32 67108863) rfl rfl (any_of HT_.out (by kernel_rfl)) (fun _ _ _ h => h) (Or.inl ⟨by rfl, ?_⟩) ?_ ?_
          rotate_left
          ·intro w'
           go_simp
           with_reducible rfl
          rotate_left
          ·simp only [Act.put, List.setIfInBounds_toArray, List.set_cons_zero, List.set_cons_succ, i64_w, i32_w]
           rfl
          refine pure_ (i := 26) (N := some 53) (v := undef) (a' := ?_) (bs 32 134217727) rfl rfl (any_of HT_.out (by kernel_rfl)) (fun _ _ _ h => h) (Or.inr ⟨by rfl, rfl⟩) ?_ ?_
          rotate_left
          ·simp only [Act.put, List.setIfInBounds_toArray, List.set_cons_zero, List.set_cons_succ, i64_w, i32_w]
           rfl
          refine pure_ (i := 27) (N := some 54) (v := undef) (a' := ?_) (bs 32 268435455) rfl rfl (any_of HT_.out (by kernel_rfl)) (fun _ _ _ h => h) (Or.inr ⟨by rfl, rfl⟩) ?_ ?_
          rotate_left
          ·simp only [Act.put, List.setIfInBounds_toArray, List.set_cons_zero, List.set_cons_succ, i64_w, i32_w]
           rfl
          refine pure_ (i := 28) (N := some 55) (v := undef) (a' := ?_) (bs 32 536870911) rfl rfl (any_of HT_.out (by kernel_rfl)) (fun _ _ _ h => h) (Or.inr ⟨by rfl, rfl⟩) ?_ ?_
          rotate_left
          ·simp only [Act.put, List.setIfInBounds_toArray, List.set_cons_zero, List.set_cons_succ, i64_w, i32_w]
           rfl
          refine pure_ (i := 29) (N := some 56) (v := undef) (a' := ?_) (bs 32 1073741823) rfl rfl (any_of HT_.out (by kernel_rfl)) (fun _ _ _ h => h) (Or.inr ⟨by rfl, rfl⟩) ?_ ?_
          rotate_left
          ·simp only [Act.put, List.setIfInBounds_toArray, List.set_cons_zero, List.set_cons_succ, i64_w, i32_w]
           rfl
          refine pure_ (i := 30) (N := some 57) (v := ?_) (a' := ?_) (bs 32 2147483647) rfl rfl (any_of HT_.out (by kernel_rfl)) (fun _ _ _ h => h) (Or.inl ⟨by rfl, ?_⟩) ?_ ?_
          rotate_left
          ·intro w'
           go_simp
           with_reducible rfl
          rotate_left
          ·simp only [Act.put, List.setIfInBounds_toArray, List.set_cons_zero, List.set_cons_succ, i64_w, i32_w]
           rfl
          refine pure_ (i := 31) (N := some 26) (v := ?_) (a' := ?_) (bs 32 4294967295) rfl rfl (any_of HT_.out (by kernel_rfl)) (fun _ _ _ h => h) (Or.inl ⟨by rfl, ?_⟩) ?_ ?_
          rotate_left
          ·intro w'
           go_simp
           with_reducible rfl
          rotate_left
          ·simp only [Act.put, List.setIfInBounds_toArray, List.set_cons_zero, List.set_cons_succ, i64_w, i32_w]
           rfl
          refine done_ (done_of HT_.out (by kernel_rfl)) ?_
          try go_wp2
          go_meet
          case rel => exact ⟨_, (true), (by first | rfl | (simp; done) | (simp [*]; done)), H', ⟨by have := HK1.out; first | omega | exact Nat.le_refl _⟩, ⟨by (with_reducible repeat (first | apply Kd.R_alloc | apply Kd.R_drewN | apply Kd.R_drew)); exact HO170.out⟩, ⟨by (with_reducible repeat (first | apply Kd.R_alloc | apply Kd.R_drewN | apply Kd.R_drew)); exact HO173.out⟩, ⟨by (with_reducible repeat first|refine blk_drewN ?_ _|refine blk_drew ?_|refine blk_alloc ?_ _); exact BK158.out⟩, ⟨by (with_reducible repeat first|refine blk_drewN ?_ _|refine blk_drew ?_|refine blk_alloc ?_ _); exact BK178.out⟩, ⟨by repeat (first | (with_reducible first | exact HB.out | apply below_alloc | apply pw_below_drewN | apply below_drew1 | refine below_set ?_ GE158.out | refine below_set ?_ GE178.out) | exact HB.out)⟩⟩
        case rest =>
         clear HC9
         try clear c1
         try clear c2
         try clear p2
         try clear c3
         try clear c15
         try clear c28
         try clear c29
         try clear c31
         try clear c34
         obtain ⟨kq, x26_8, rfl, HA, HJ8, HO_179005, HO_179006, BK158, BK178, HB⟩ := hcut
         cases kq with
         | zero => exact absurd HA.out (by simp [product_Right.j1])
         | succ kj8 =>
          have H := HA.out
          clear HA
          simp only [product_Right.j1] at H
          by_cases c50 : x26_8 = true
          ·subst c50
           have H1 : (some 2) = some r := by rw [if_pos rfl] at H; exact H
           clear H
           have H := H1
           clear H1
           obtain rfl := Option.some.inj H
           go_wp2
           go_ret
           exact ⟨by first | rfl | (simp [errW_none, errW_some] <;> rfl) | (simp [*, errW_none, errW_some] <;> rfl), by repeat (first | (with_reducible first | exact HB.out | apply below_alloc | apply pw_below_drewN | apply below_drew1 | refine below_set ?_ GE158.out | refine below_set ?_ GE178.out) | exact HB.out)⟩
          ·replace c50 := Bool.eq_false_iff.mpr c50
           subst c50
           have H1 : (if t177 = true then (some 7) else (if ((rd_T32 l0 x12_1).f3) > ((rd_T32 l0 x12_1).f4) then (some 11) else ((product_operators.f kj8 ((rd_T32 l0 x12_1).f5)).bind fun t185 => (if t185 = true then ((clock_Right.f kj8 ((rd_T32 l0 x12_1).f6)).bind fun t186 => (if t186 = true then (if ((rd_T32 l0 x12_1).f7.f0) < 0 then (some 1) else (if ((rd_T32 l0 x12_1).f7.f0) ≥ ((rd_T32 l0 x12_1).f7.f1) then (some 1) else (if ((rd_T32 l0 x12_1).f7.f1) > 20000000 then (some 1) else (product_Right.l0 kj8 l0 l0 (l0.length : Int) (wrap64 (x12_1 + 1)))))) else (some 1))) else (some 1))))) = some r := by rw [if_neg (show ¬ (false = true) by decide)] at H; exact H
           clear H
           have H := H1
           clear H1
           by_cases c51 : t177 = true
           ·subst c51
            have H1 : (some 7) = some r := by rw [if_pos rfl] at H; exact H
            clear H
            have H := H1
            clear H1
            obtain rfl := Option.some.inj H
            go_wp2
            go_ret
            exact ⟨by first | rfl | (simp [errW_none, errW_some] <;> rfl) | (simp [*, errW_none, errW_some] <;> rfl), by repeat (first | (with_reducible first | exact HB.out | apply below_alloc | apply pw_below_drewN | apply below_drew1 | refine below_set ?_ GE158.out | refine below_set ?_ GE178.out) | exact HB.out)⟩
           ·replace c51 := Bool.eq_false_iff.mpr c51
            subst c51
            have H1 : (if ((rd_T32 l0 x12_1).f3) > ((rd_T32 l0 x12_1).f4) then (some 11) else ((product_operators.f kj8 ((rd_T32 l0 x12_1).f5)).bind fun t185 => (if t185 = true then ((clock_Right.f kj8 ((rd_T32 l0 x12_1).f6)).bind fun t186 => (if t186 = true then (if ((rd_T32 l0 x12_1).f7.f0) < 0 then (some 1) else (if ((rd_T32 l0 x12_1).f7.f0) ≥ ((rd_T32 l0 x12_1).f7.f1) then (some 1) else (if ((rd_T32 l0 x12_1).f7.f1) > 20000000 then (some 1) else (product_Right.l0 kj8 l0 l0 (l0.length : Int) (wrap64 (x12_1 + 1)))))) else (some 1))) else (some 1)))) = some r := by rw [if_neg (show ¬ (false = true) by decide)] at H; exact H
            clear H
            have H := H1
            clear H1
            by_cases c52 : ((rd_T32 l0 x12_1).f3) > ((rd_T32 l0 x12_1).f4)
            ·rw [if_pos c52] at H
             have c52b0 : decide (((rd_T32 l0 x12_1).f4) < ((rd_T32 l0 x12_1).f3)) = true := decide_eq_true c52
             clear c52
             obtain rfl := Option.some.inj H
             have hnb53 := NB158_178.out
             have hnc53 := NB178_158.out
             obtain ⟨hcz54_0, hcz54_1, hcz54_2, hcz54_3, hcz54_4, hcz54_5, hcz54_6, hcz54_7, hcz54_8, hcz54_9, hfz54_0, hfz54_1, hfz54_2, hfz54_3, hfz54_4, hfz54_5, hfz54_6, hfz54_7, hfz54_8, hfz54_9⟩ := cells10 BK158.out
             go_wp2
             go_ret
             exact ⟨by first | rfl | (simp [errW_none, errW_some] <;> rfl) | (simp [*, errW_none, errW_some] <;> rfl), by repeat (first | (with_reducible first | exact HB.out | apply below_alloc | apply pw_below_drewN | apply below_drew1 | refine below_set ?_ GE158.out | refine below_set ?_ GE178.out) | exact HB.out)⟩
            ·rw [if_neg c52] at H
             have c52b0 : decide (((rd_T32 l0 x12_1).f4) < ((rd_T32 l0 x12_1).f3)) = false := decide_eq_false c52
             clear c52
             replace H := Option.bind_eq_some_iff.mp H
             obtain ⟨t185, A550, H⟩ := H
             replace H : (if t185 = true then ((clock_Right.f kj8 ((rd_T32 l0 x12_1).f6)).bind fun t186 => (if t186 = true then (if ((rd_T32 l0 x12_1).f7.f0) < 0 then (some 1) else (if ((rd_T32 l0 x12_1).f7.f0) ≥ ((rd_T32 l0 x12_1).f7.f1) then (some 1) else (if ((rd_T32 l0 x12_1).f7.f1) > 20000000 then (some 1) else (product_Right.l0 kj8 l0 l0 (l0.length : Int) (wrap64 (x12_1 + 1)))))) else (some 1))) else (some 1)) = some r := H
             have A55 := Aside0.mk A550
             clear A550
             by_cases c56 : t185 = true
             ·subst c56
              have H1 : ((clock_Right.f kj8 ((rd_T32 l0 x12_1).f6)).bind fun t186 => (if t186 = true then (if ((rd_T32 l0 x12_1).f7.f0) < 0 then (some 1) else (if ((rd_T32 l0 x12_1).f7.f0) ≥ ((rd_T32 l0 x12_1).f7.f1) then (some 1) else (if ((rd_T32 l0 x12_1).f7.f1) > 20000000 then (some 1) else (product_Right.l0 kj8 l0 l0 (l0.length : Int) (wrap64 (x12_1 + 1)))))) else (some 1))) = some r := by rw [if_pos rfl] at H; exact H
              clear H
              have H := H1
              clear H1
              replace H := Option.bind_eq_some_iff.mp H
              obtain ⟨t186, A570, H⟩ := H
              replace H : (if t186 = true then (if ((rd_T32 l0 x12_1).f7.f0) < 0 then (some 1) else (if ((rd_T32 l0 x12_1).f7.f0) ≥ ((rd_T32 l0 x12_1).f7.f1) then (some 1) else (if ((rd_T32 l0 x12_1).f7.f1) > 20000000 then (some 1) else (product_Right.l0 kj8 l0 l0 (l0.length : Int) (wrap64 (x12_1 + 1)))))) else (some 1)) = some r := H
              have A57 := Aside0.mk A570
              clear A570
              by_cases c58 : t186 = true
              ·subst c58
               have H1 : (if ((rd_T32 l0 x12_1).f7.f0) < 0 then (some 1) else (if ((rd_T32 l0 x12_1).f7.f0) ≥ ((rd_T32 l0 x12_1).f7.f1) then (some 1) else (if ((rd_T32 l0 x12_1).f7.f1) > 20000000 then (some 1) else (product_Right.l0 kj8 l0 l0 (l0.length : Int) (wrap64 (x12_1 + 1)))))) = some r := by rw [if_pos rfl] at H; exact H
               clear H
               have H := H1
               clear H1
               by_cases c59 : ((rd_T32 l0 x12_1).f7.f0) < 0
               ·rw [if_pos c59] at H
                have c59b0 : decide (((rd_T32 l0 x12_1).f7.f0) < 0) = true := decide_eq_true c59
                clear c59
                obtain rfl := Option.some.inj H
                have hnb60 := NB158_178.out
                have hnc60 := NB178_158.out
                obtain ⟨hcz61_0, hcz61_1, hcz61_2, hcz61_3, hcz61_4, hcz61_5, hcz61_6, hcz61_7, hcz61_8, hcz61_9, hfz61_0, hfz61_1, hfz61_2, hfz61_3, hfz61_4, hfz61_5, hfz61_6, hfz61_7, hfz61_8, hfz61_9⟩ := cells10 BK158.out
                go_wp2_with (first | ((with_reducible refine gate_callee (f := 30) rfl ?_); refine goesL_ (some 69) rfl rfl Try.func30 (by kernel_rfl) rfl #[.slice A157_5 ((rd_T32 l0 x12_1).f5).length c157_5] rfl (by (try simp only [List.map_toArray, List.map_cons, List.map_nil]); first | done | rfl | (simp only [List.length_drop, List.length_take]; rfl)) ?_; (with_reducible refine (product_operators.calls kj8 _ _ ((rd_T32 l0 x12_1).f5) true _ ?side1 ?side2 A55.out).mono ?_); (case side1 => repeat (first | exact (Kd.C_below HR157_5.out HB.out) | (with_reducible refine Kd.C_alloc ?_ _) | (with_reducible refine Kd.C_drewN ?_ _) | (with_reducible refine Kd.C_drew ?_))); (case side2 => exact HC157_5.out); rintro e w' ⟨rfl, ⟨nd, rfl⟩⟩; refine ⟨_, rfl, ?_⟩) | (go_at_call 31; (with_reducible refine (clock_Right.calls kj8 _ _ ((rd_T32 l0 x12_1).f6) true _ ?side1 ?side2 A57.out).mono ?_); (case side1 => repeat (first | exact (Kd.C_below HR157_6.out (by repeat (first | (with_reducible first | exact HB.out | apply below_alloc | apply pw_below_drewN | apply below_drew1 | refine below_set ?_ GE158.out | refine below_set ?_ GE178.out) | exact HB.out))) | (with_reducible refine Kd.C_alloc ?_ _) | (with_reducible refine Kd.C_drewN ?_ _) | (with_reducible refine Kd.C_drew ?_))); (case side2 => exact HC157_6.out); rintro e w62 ⟨rfl, hb⟩; have n0_ := Aside0.mk (Kd.R_below (by (with_reducible repeat (first | apply Kd.R_alloc | apply Kd.R_drewN | apply Kd.R_drew)); exact HO_179005.out) hb); have n1_ := Aside0.mk (Kd.R_below (by (with_reducible repeat (first | apply Kd.R_alloc | apply Kd.R_drewN | apply Kd.R_drew)); exact HO_179006.out) hb); have n2_ := Aside0.mk (blk_below (g := gb158) (by first | exact blk_drewN BK158.out _ | exact BK158.out) hb); have n3_ := Aside0.mk (blk_below (g := gb178) (by first | exact blk_drewN BK178.out _ | exact BK178.out) hb); have n4_ := Aside0.mk (below_step (by repeat (first | (with_reducible first | exact HB.out | apply below_alloc | apply pw_below_drewN | apply below_drew1 | refine below_set ?_ GE158.out | refine below_set ?_ GE178.out) | exact HB.out)) hb); clear HO_179005; clear HO_179006; clear BK158; clear BK178; clear HB; have HO_179005 := n0_; have HO_179006 := n1_; have BK158 := n2_; have BK178 := n3_; have HB := n4_; clear n0_ n1_ n2_ n3_ n4_; (try clear hb); (try clear hb2); (try clear hk); (try clear hi); obtain ⟨hcz63_0, hcz63_1, hcz63_2, hcz63_3, hcz63_4, hcz63_5, hcz63_6, hcz63_7, hcz63_8, hcz63_9, hfz63_0, hfz63_1, hfz63_2, hfz63_3, hfz63_4, hfz63_5, hfz63_6, hfz63_7, hfz63_8, hfz63_9⟩ := cells10 BK158.out))
                go_ret
                exact ⟨by first | rfl | (simp [errW_none, errW_some] <;> rfl) | (simp [*, errW_none, errW_some] <;> rfl), by repeat (first | (with_reducible first | exact HB.out | apply below_alloc | apply pw_below_drewN | apply below_drew1 | refine below_set ?_ GE158.out | refine below_set ?_ GE178.out) | exact HB.out)⟩
               ·rw [if_neg c59] at H
                have c59b0 : decide (((rd_T32 l0 x12_1).f7.f0) < 0) = false := decide_eq_false c59
                clear c59
                by_cases c64 : ((rd_T32 l0 x12_1).f7.f0) ≥ ((rd_T32 l0 x12_1).f7.f1)
                ·rw [if_pos c64] at H
                 have c64b0 : decide (((rd_T32 l0 x12_1).f7.f1) ≤ ((rd_T32 l0 x12_1).f7.f0)) = true := decide_eq_true c64
                 clear c64
                 obtain rfl := Option.some.inj H
                 have hnb65 := NB158_178.out
                 have hnc65 := NB178_158.out
                 obtain ⟨hcz66_0, hcz66_1, hcz66_2, hcz66_3, hcz66_4, hcz66_5, hcz66_6, hcz66_7, hcz66_8, hcz66_9, hfz66_0, hfz66_1, hfz66_2, hfz66_3, hfz66_4, hfz66_5, hfz66_6, hfz66_7, hfz66_8, hfz66_9⟩ := cells10 BK158.out
                 go_wp2_with (first | ((with_reducible refine gate_callee (f := 30) rfl ?_); refine goesL_ (some 69) rfl rfl Try.func30 (by kernel_rfl) rfl #[.slice A157_5 ((rd_T32 l0 x12_1).f5).length c157_5] rfl (by (try simp only [List.map_toArray, List.map_cons, List.map_nil]); first | done | rfl | (simp only [List.length_drop, List.length_take]; rfl)) ?_; (with_reducible refine (product_operators.calls kj8 _ _ ((rd_T32 l0 x12_1).f5) true _ ?side1 ?side2 A55.out).mono ?_); (case side1 => repeat (first | exact (Kd.C_below HR157_5.out HB.out) | (with_reducible refine Kd.C_alloc ?_ _) | (with_reducible refine Kd.C_drewN ?_ _) | (with_reducible refine Kd.C_drew ?_))); (case side2 => exact HC157_5.out); rintro e w' ⟨rfl, ⟨nd, rfl⟩⟩; refine ⟨_, rfl, ?_⟩) | (go_at_call 31; (with_reducible refine (clock_Right.calls kj8 _ _ ((rd_T32 l0 x12_1).f6) true _ ?side1 ?side2 A57.out).mono ?_); (case side1 => repeat (first | exact (Kd.C_below HR157_6.out (by repeat (first | (with_reducible first | exact HB.out | apply below_alloc | apply pw_below_drewN | apply below_drew1 | refine below_set ?_ GE158.out | refine below_set ?_ GE178.out) | exact HB.out))) | (with_reducible refine Kd.C_alloc ?_ _) | (with_reducible refine Kd.C_drewN ?_ _) | (with_reducible refine Kd.C_drew ?_))); (case side2 => exact HC157_6.out); rintro e w67 ⟨rfl, hb⟩; have n0_ := Aside0.mk (Kd.R_below (by (with_reducible repeat (first | apply Kd.R_alloc | apply Kd.R_drewN | apply Kd.R_drew)); exact HO_179005.out) hb); have n1_ := Aside0.mk (Kd.R_below (by (with_reducible repeat (first | apply Kd.R_alloc | apply Kd.R_drewN | apply Kd.R_drew)); exact HO_179006.out) hb); have n2_ := Aside0.mk (blk_below (g := gb158) (by first | exact blk_drewN BK158.out _ | exact BK158.out) hb); have n3_ := Aside0.mk (blk_below (g := gb178) (by first | exact blk_drewN BK178.out _ | exact BK178.out) hb); have n4_ := Aside0.mk (below_step (by repeat (first | (with_reducible first | exact HB.out | apply below_alloc | apply pw_below_drewN | apply below_drew1 | refine below_set ?_ GE158.out | refine below_set ?_ GE178.out) | exact HB.out)) hb); clear HO_179005; clear HO_179006; clear BK158; clear BK178; clear HB; have HO_179005 := n0_; have HO_179006 := n1_; have BK158 := n2_; have BK178 := n3_; have HB := n4_; clear n0_ n1_ n2_ n3_ n4_; (try clear hb); (try clear hb2); (try clear hk); (try clear hi); obtain ⟨hcz68_0, hcz68_1, hcz68_2, hcz68_3, hcz68_4, hcz68_5, hcz68_6, hcz68_7, hcz68_8, hcz68_9, hfz68_0, hfz68_1, hfz68_2, hfz68_3, hfz68_4, hfz68_5, hfz68_6, hfz68_7, hfz68_8, hfz68_9⟩ := cells10 BK158.out))
                 go_ret
                 exact ⟨by first | rfl | (simp [errW_none, errW_some] <;> rfl) | (simp [*, errW_none, errW_some] <;> rfl), by repeat (first | (with_reducible first | exact HB.out | apply below_alloc | apply pw_below_drewN | apply below_drew1 | refine below_set ?_ GE158.out | refine below_set ?_ GE178.out) | exact HB.out)⟩
                ·rw [if_neg c64] at H
                 have c64b0 : decide (((rd_T32 l0 x12_1).f7.f1) ≤ ((rd_T32 l0 x12_1).f7.f0)) = false := decide_eq_false c64
                 clear c64
                 by_cases c69 : ((rd_T32 l0 x12_1).f7.f1) > 20000000
                 ·rw [if_pos c69] at H
                  have c69b0 : decide (20000000 < ((rd_T32 l0 x12_1).f7.f1)) = true := decide_eq_true c69
                  clear c69
                  obtain rfl := Option.some.inj H
                  have hnb70 := NB158_178.out
                  have hnc70 := NB178_158.out
                  obtain ⟨hcz71_0, hcz71_1, hcz71_2, hcz71_3, hcz71_4, hcz71_5, hcz71_6, hcz71_7, hcz71_8, hcz71_9, hfz71_0, hfz71_1, hfz71_2, hfz71_3, hfz71_4, hfz71_5, hfz71_6, hfz71_7, hfz71_8, hfz71_9⟩ := cells10 BK158.out
                  go_wp2_with (first | ((with_reducible refine gate_callee (f := 30) rfl ?_); refine goesL_ (some 69) rfl rfl Try.func30 (by kernel_rfl) rfl #[.slice A157_5 ((rd_T32 l0 x12_1).f5).length c157_5] rfl (by (try simp only [List.map_toArray, List.map_cons, List.map_nil]); first | done | rfl | (simp only [List.length_drop, List.length_take]; rfl)) ?_; (with_reducible refine (product_operators.calls kj8 _ _ ((rd_T32 l0 x12_1).f5) true _ ?side1 ?side2 A55.out).mono ?_); (case side1 => repeat (first | exact (Kd.C_below HR157_5.out HB.out) | (with_reducible refine Kd.C_alloc ?_ _) | (with_reducible refine Kd.C_drewN ?_ _) | (with_reducible refine Kd.C_drew ?_))); (case side2 => exact HC157_5.out); rintro e w' ⟨rfl, ⟨nd, rfl⟩⟩; refine ⟨_, rfl, ?_⟩) | (go_at_call 31; (with_reducible refine (clock_Right.calls kj8 _ _ ((rd_T32 l0 x12_1).f6) true _ ?side1 ?side2 A57.out).mono ?_); (case side1 => repeat (first | exact (Kd.C_below HR157_6.out (by repeat (first | (with_reducible first | exact HB.out | apply below_alloc | apply pw_below_drewN | apply below_drew1 | refine below_set ?_ GE158.out | refine below_set ?_ GE178.out) | exact HB.out))) | (with_reducible refine Kd.C_alloc ?_ _) | (with_reducible refine Kd.C_drewN ?_ _) | (with_reducible refine Kd.C_drew ?_))); (case side2 => exact HC157_6.out); rintro e w72 ⟨rfl, hb⟩; have n0_ := Aside0.mk (Kd.R_below (by (with_reducible repeat (first | apply Kd.R_alloc | apply Kd.R_drewN | apply Kd.R_drew)); exact HO_179005.out) hb); have n1_ := Aside0.mk (Kd.R_below (by (with_reducible repeat (first | apply Kd.R_alloc | apply Kd.R_drewN | apply Kd.R_drew)); exact HO_179006.out) hb); have n2_ := Aside0.mk (blk_below (g := gb158) (by first | exact blk_drewN BK158.out _ | exact BK158.out) hb); have n3_ := Aside0.mk (blk_below (g := gb178) (by first | exact blk_drewN BK178.out _ | exact BK178.out) hb); have n4_ := Aside0.mk (below_step (by repeat (first | (with_reducible first | exact HB.out | apply below_alloc | apply pw_below_drewN | apply below_drew1 | refine below_set ?_ GE158.out | refine below_set ?_ GE178.out) | exact HB.out)) hb); clear HO_179005; clear HO_179006; clear BK158; clear BK178; clear HB; have HO_179005 := n0_; have HO_179006 := n1_; have BK158 := n2_; have BK178 := n3_; have HB := n4_; clear n0_ n1_ n2_ n3_ n4_; (try clear hb); (try clear hb2); (try clear hk); (try clear hi); obtain ⟨hcz73_0, hcz73_1, hcz73_2, hcz73_3, hcz73_4, hcz73_5, hcz73_6, hcz73_7, hcz73_8, hcz73_9, hfz73_0, hfz73_1, hfz73_2, hfz73_3, hfz73_4, hfz73_5, hfz73_6, hfz73_7, hfz73_8, hfz73_9⟩ := cells10 BK158.out))
                  go_ret
                  exact ⟨by first | rfl | (simp [errW_none, errW_some] <;> rfl) | (simp [*, errW_none, errW_some] <;> rfl), by repeat (first | (with_reducible first | exact HB.out | apply below_alloc | apply pw_below_drewN | apply below_drew1 | refine below_set ?_ GE158.out | refine below_set ?_ GE178.out) | exact HB.out)⟩
                 ·rw [if_neg c69] at H
                  have c69b0 : decide (20000000 < ((rd_T32 l0 x12_1).f7.f1)) = false := decide_eq_false c69
                  clear c69
                  have H' := Aside0.mk H
                  clear H
                  have hnb74 := NB158_178.out
                  have hnc74 := NB178_158.out
                  obtain ⟨hcz75_0, hcz75_1, hcz75_2, hcz75_3, hcz75_4, hcz75_5, hcz75_6, hcz75_7, hcz75_8, hcz75_9, hfz75_0, hfz75_1, hfz75_2, hfz75_3, hfz75_4, hfz75_5, hfz75_6, hfz75_7, hfz75_8, hfz75_9⟩ := cells10 BK158.out
                  go_wp2_with (first | ((with_reducible refine gate_callee (f := 30) rfl ?_); refine goesL_ (some 69) rfl rfl Try.func30 (by kernel_rfl) rfl #[.slice A157_5 ((rd_T32 l0 x12_1).f5).length c157_5] rfl (by (try simp only [List.map_toArray, List.map_cons, List.map_nil]); first | done | rfl | (simp only [List.length_drop, List.length_take]; rfl)) ?_; (with_reducible refine (product_operators.calls kj8 _ _ ((rd_T32 l0 x12_1).f5) true _ ?side1 ?side2 A55.out).mono ?_); (case side1 => repeat (first | exact (Kd.C_below HR157_5.out HB.out) | (with_reducible refine Kd.C_alloc ?_ _) | (with_reducible refine Kd.C_drewN ?_ _) | (with_reducible refine Kd.C_drew ?_))); (case side2 => exact HC157_5.out); rintro e w' ⟨rfl, ⟨nd, rfl⟩⟩; refine ⟨_, rfl, ?_⟩) | (go_at_call 31; (with_reducible refine (clock_Right.calls kj8 _ _ ((rd_T32 l0 x12_1).f6) true _ ?side1 ?side2 A57.out).mono ?_); (case side1 => repeat (first | exact (Kd.C_below HR157_6.out (by repeat (first | (with_reducible first | exact HB.out | apply below_alloc | apply pw_below_drewN | apply below_drew1 | refine below_set ?_ GE158.out | refine below_set ?_ GE178.out) | exact HB.out))) | (with_reducible refine Kd.C_alloc ?_ _) | (with_reducible refine Kd.C_drewN ?_ _) | (with_reducible refine Kd.C_drew ?_))); (case side2 => exact HC157_6.out); rintro e w76 ⟨rfl, hb⟩; have n0_ := Aside0.mk (Kd.R_below (by (with_reducible repeat (first | apply Kd.R_alloc | apply Kd.R_drewN | apply Kd.R_drew)); exact HO_179005.out) hb); have n1_ := Aside0.mk (Kd.R_below (by (with_reducible repeat (first | apply Kd.R_alloc | apply Kd.R_drewN | apply Kd.R_drew)); exact HO_179006.out) hb); have n2_ := Aside0.mk (blk_below (g := gb158) (by first | exact blk_drewN BK158.out _ | exact BK158.out) hb); have n3_ := Aside0.mk (blk_below (g := gb178) (by first | exact blk_drewN BK178.out _ | exact BK178.out) hb); have n4_ := Aside0.mk (below_step (by repeat (first | (with_reducible first | exact HB.out | apply below_alloc | apply pw_below_drewN | apply below_drew1 | refine below_set ?_ GE158.out | refine below_set ?_ GE178.out) | exact HB.out)) hb); clear HO_179005; clear HO_179006; clear BK158; clear BK178; clear HB; have HO_179005 := n0_; have HO_179006 := n1_; have BK158 := n2_; have BK178 := n3_; have HB := n4_; clear n0_ n1_ n2_ n3_ n4_; (try clear hb); (try clear hb2); (try clear hk); (try clear hi); obtain ⟨hcz77_0, hcz77_1, hcz77_2, hcz77_3, hcz77_4, hcz77_5, hcz77_6, hcz77_7, hcz77_8, hcz77_9, hfz77_0, hfz77_1, hfz77_2, hfz77_3, hfz77_4, hfz77_5, hfz77_6, hfz77_7, hfz77_8, hfz77_9⟩ := cells10 BK158.out))
                  go_roundg kj8
                  case measure => have := HK1.out; have := HJ8.out; omega
                  case rel => exact ⟨(wrap64 (x12_1 + 1)), (by first | rfl | (simp; done) | (simp [*]; done)), H', ⟨by have := HK1.out; have := HJ8.out; omega⟩, ⟨by repeat (first | (with_reducible first | exact HB.out | apply below_alloc | apply pw_below_drewN | apply below_drew1 | refine below_set ?_ GE158.out | refine below_set ?_ GE178.out) | exact HB.out)⟩⟩
              ·replace c58 := Bool.eq_false_iff.mpr c58
               subst c58
               have H1 : (some 1) = some r := by rw [if_neg (show ¬ (false = true) by decide)] at H; exact H
               clear H
               have H := H1
               clear H1
               obtain rfl := Option.some.inj H
               have hnb78 := NB158_178.out
               have hnc78 := NB178_158.out
               obtain ⟨hcz79_0, hcz79_1, hcz79_2, hcz79_3, hcz79_4, hcz79_5, hcz79_6, hcz79_7, hcz79_8, hcz79_9, hfz79_0, hfz79_1, hfz79_2, hfz79_3, hfz79_4, hfz79_5, hfz79_6, hfz79_7, hfz79_8, hfz79_9⟩ := cells10 BK158.out
               go_wp2_with (first | ((with_reducible refine gate_callee (f := 30) rfl ?_); refine goesL_ (some 69) rfl rfl Try.func30 (by kernel_rfl) rfl #[.slice A157_5 ((rd_T32 l0 x12_1).f5).length c157_5] rfl (by (try simp only [List.map_toArray, List.map_cons, List.map_nil]); first | done | rfl | (simp only [List.length_drop, List.length_take]; rfl)) ?_; (with_reducible refine (product_operators.calls kj8 _ _ ((rd_T32 l0 x12_1).f5) true _ ?side1 ?side2 A55.out).mono ?_); (case side1 => repeat (first | exact (Kd.C_below HR157_5.out HB.out) | (with_reducible refine Kd.C_alloc ?_ _) | (with_reducible refine Kd.C_drewN ?_ _) | (with_reducible refine Kd.C_drew ?_))); (case side2 => exact HC157_5.out); rintro e w' ⟨rfl, ⟨nd, rfl⟩⟩; refine ⟨_, rfl, ?_⟩) | (go_at_call 31; (with_reducible refine (clock_Right.calls kj8 _ _ ((rd_T32 l0 x12_1).f6) false _ ?side1 ?side2 A57.out).mono ?_); (case side1 => repeat (first | exact (Kd.C_below HR157_6.out (by repeat (first | (with_reducible first | exact HB.out | apply below_alloc | apply pw_below_drewN | apply below_drew1 | refine below_set ?_ GE158.out | refine below_set ?_ GE178.out) | exact HB.out))) | (with_reducible refine Kd.C_alloc ?_ _) | (with_reducible refine Kd.C_drewN ?_ _) | (with_reducible refine Kd.C_drew ?_))); (case side2 => exact HC157_6.out); rintro e w80 ⟨rfl, hb⟩; have n0_ := Aside0.mk (Kd.R_below (by (with_reducible repeat (first | apply Kd.R_alloc | apply Kd.R_drewN | apply Kd.R_drew)); exact HO_179005.out) hb); have n1_ := Aside0.mk (Kd.R_below (by (with_reducible repeat (first | apply Kd.R_alloc | apply Kd.R_drewN | apply Kd.R_drew)); exact HO_179006.out) hb); have n2_ := Aside0.mk (blk_below (g := gb158) (by first | exact blk_drewN BK158.out _ | exact BK158.out) hb); have n3_ := Aside0.mk (blk_below (g := gb178) (by first | exact blk_drewN BK178.out _ | exact BK178.out) hb); have n4_ := Aside0.mk (below_step (by repeat (first | (with_reducible first | exact HB.out | apply below_alloc | apply pw_below_drewN | apply below_drew1 | refine below_set ?_ GE158.out | refine below_set ?_ GE178.out) | exact HB.out)) hb); clear HO_179005; clear HO_179006; clear BK158; clear BK178; clear HB; have HO_179005 := n0_; have HO_179006 := n1_; have BK158 := n2_; have BK178 := n3_; have HB := n4_; clear n0_ n1_ n2_ n3_ n4_; (try clear hb); (try clear hb2); (try clear hk); (try clear hi)))
               go_ret
               exact ⟨by first | rfl | (simp [errW_none, errW_some] <;> rfl) | (simp [*, errW_none, errW_some] <;> rfl), by repeat (first | (with_reducible first | exact HB.out | apply below_alloc | apply pw_below_drewN | apply below_drew1 | refine below_set ?_ GE158.out | refine below_set ?_ GE178.out) | exact HB.out)⟩
             ·replace c56 := Bool.eq_false_iff.mpr c56
              subst c56
              have H1 : (some 1) = some r := by rw [if_neg (show ¬ (false = true) by decide)] at H; exact H
              clear H
              have H := H1
              clear H1
              obtain rfl := Option.some.inj H
              have hnb81 := NB158_178.out
              have hnc81 := NB178_158.out
              obtain ⟨hcz82_0, hcz82_1, hcz82_2, hcz82_3, hcz82_4, hcz82_5, hcz82_6, hcz82_7, hcz82_8, hcz82_9, hfz82_0, hfz82_1, hfz82_2, hfz82_3, hfz82_4, hfz82_5, hfz82_6, hfz82_7, hfz82_8, hfz82_9⟩ := cells10 BK158.out
              go_wp2_with (first | ((with_reducible refine gate_callee (f := 30) rfl ?_); refine goesL_ (some 69) rfl rfl Try.func30 (by kernel_rfl) rfl #[.slice A157_5 ((rd_T32 l0 x12_1).f5).length c157_5] rfl (by (try simp only [List.map_toArray, List.map_cons, List.map_nil]); first | done | rfl | (simp only [List.length_drop, List.length_take]; rfl)) ?_; (with_reducible refine (product_operators.calls kj8 _ _ ((rd_T32 l0 x12_1).f5) false _ ?side1 ?side2 A55.out).mono ?_); (case side1 => repeat (first | exact (Kd.C_below HR157_5.out HB.out) | (with_reducible refine Kd.C_alloc ?_ _) | (with_reducible refine Kd.C_drewN ?_ _) | (with_reducible refine Kd.C_drew ?_))); (case side2 => exact HC157_5.out); rintro e w' ⟨rfl, ⟨nd, rfl⟩⟩; refine ⟨_, rfl, ?_⟩))
              go_ret
              exact ⟨by first | rfl | (simp [errW_none, errW_some] <;> rfl) | (simp [*, errW_none, errW_some] <;> rfl), by repeat (first | (with_reducible first | exact HB.out | apply below_alloc | apply pw_below_drewN | apply below_drew1 | refine below_set ?_ GE158.out | refine below_set ?_ GE178.out) | exact HB.out)⟩
       ·rw [if_neg c7] at H
        exact absurd H (by simp)
      ·rw [if_neg c5] at H
       exact absurd H (by simp)
     ·rw [if_neg c4] at H
      exact absurd H (by simp)
    ·rw [if_neg c3] at H
     have c3b0 : decide (x12_1 < (l0.length : Int)) = false := decide_eq_false c3
     clear c3
     obtain rfl := Option.some.inj H
     go_wp2
     go_ret
     exact ⟨by first | rfl | (simp [errW_none, errW_some] <;> rfl) | (simp [*, errW_none, errW_some] <;> rfl), by repeat (first | (with_reducible first | exact HB.out | apply below_alloc | apply pw_below_drewN | apply below_drew1) | exact HB.out)⟩

end Go.Proofs.Ytpojelbablofpaa.P
