-- Written by wip/fakeprint.py and wip/post.py of this claim's author, who used the kit's printer (print.py) on turned inputs.
import Derived.Test.YtpojelbablofpaaK
import Derived.Test.YtpojelbablofpaaF10
import Derived.Test.YtpojelbablofpaaF11
import Derived.Test.YtpojelbablofpaaF14
import Derived.Test.YtpojelbablofpaaF12
import Derived.Test.YtpojelbablofpaaF17
import Derived.Test.YtpojelbablofpaaF19
import Derived.Test.YtpojelbablofpaaF23
namespace Go.Proofs.Ytpojelbablofpaa.P
open Go.RowKit Go.Proofs.YtpojelbablofpaaW.PrintWords Go.Proofs.YtpojelbablofpaaW.PrintLast Go.Proofs.YtpojelbablofpaaW.PrintMore
attribute [local go_sem] max2_int min2_int max_two min_two max_three min_three max_four min_four   -- for this text's walks alone
attribute [local go_sem] max2_int min2_int max_two min_two
set_option linter.unusedVariables false
set_option linter.unusedSimpArgs false

/-! ### skiarealaw22_ProductLess: function 7 -/
mutual
def skiarealaw22_ProductLess.j0 : Nat → List (S32) → Int → List Int → Int → Bool → Option (Bool)
 | 0, _, _, _, _, _ => none
 | k + 1, x0, x1, x2, x3, x29 => if x29 = true then (some true) else ((product_For.f k x0 x1 x2).bind fun t361 => ((some (([] : List Int) : List Int)).bind fun y364 => (if y364.length + x2.length < 17592186044416 then ((some (y364 ++ x2 : List Int)).bind fun y367 => (if y367.length < 17592186044416 then ((product_For.f k x0 x1 (y367 ++ [x3])).bind fun t373 => (skiarealaw22_ProductLess.l0 k x0 x1 x3 t361 t373 0 0)) else (none))) else (none))))
def skiarealaw22_ProductLess.l0 : Nat → List (S32) → Int → Int → List Int → List Int → Int → Int → Option (Bool)
 | 0, _, _, _, _, _, _, _ => none
 | k + 1, x0, x1, x3, x9, x10, x11, x12 => if x12 < (x9.length : Int) then (if 0 ≤ x12 then ((product_Find.f k x0 (rd x9 x12)).bind fun bt377 => (if bt377.2.2.2.2.2.2.2.2.2.2 = true then (if bt377.1 = (rd x9 x12) then ((product_Age.f bt377.1 bt377.2.1 bt377.2.2.1 bt377.2.2.2.1 bt377.2.2.2.2.1 bt377.2.2.2.2.2.1 bt377.2.2.2.2.2.2.1 bt377.2.2.2.2.2.2.2.1 bt377.2.2.2.2.2.2.2.2.1 bt377.2.2.2.2.2.2.2.2.2.1 x1).bind fun t394 => (skiarealaw22_ProductLess.j2 k x0 x1 x3 x9 x10 x11 x12 (!t394) bt377.1 bt377.2.1 bt377.2.2.1 bt377.2.2.2.1 bt377.2.2.2.2.1 bt377.2.2.2.2.2.1 bt377.2.2.2.2.2.2.1 bt377.2.2.2.2.2.2.2.1 bt377.2.2.2.2.2.2.2.2.1 bt377.2.2.2.2.2.2.2.2.2.1)) else (skiarealaw22_ProductLess.j2 k x0 x1 x3 x9 x10 x11 x12 true bt377.1 bt377.2.1 bt377.2.2.1 bt377.2.2.2.1 bt377.2.2.2.2.1 bt377.2.2.2.2.2.1 bt377.2.2.2.2.2.2.1 bt377.2.2.2.2.2.2.2.1 bt377.2.2.2.2.2.2.2.2.1 bt377.2.2.2.2.2.2.2.2.2.1)) else (skiarealaw22_ProductLess.j2 k x0 x1 x3 x9 x10 x11 x12 true bt377.1 bt377.2.1 bt377.2.2.1 bt377.2.2.2.1 bt377.2.2.2.2.1 bt377.2.2.2.2.2.1 bt377.2.2.2.2.2.2.1 bt377.2.2.2.2.2.2.2.1 bt377.2.2.2.2.2.2.2.2.1 bt377.2.2.2.2.2.2.2.2.2.1))) else (none)) else (some (x11 == (x10.length : Int)))
def skiarealaw22_ProductLess.j2 : Nat → List (S32) → Int → Int → List Int → List Int → Int → Int → Bool → Int → Int → Int → Int → Int → List Int → List (S52) → Int → Int → Int → Option (Bool)
 | 0, _, _, _, _, _, _, _, _, _, _, _, _, _, _, _, _, _, _ => none
 | k + 1, x0, x1, x3, x9, x10, x11, x12, x74, x393000, x393001, x393002, x393003, x393004, x393005, x393006, x393007, x393008, x393009 => if x74 = true then none else (if x11 < (x10.length : Int) then (if 0 ≤ x11 then (if 0 ≤ x12 then (if x12 < (x9.length : Int) then (skiarealaw22_ProductLess.j3 k x0 x1 x3 x9 x10 x11 x12 ((rd x10 x11) == (rd x9 x12)) x393000 x393001 x393002 x393003 x393004 x393005 x393006 x393007 x393008 x393009) else (none)) else (none)) else (none)) else (skiarealaw22_ProductLess.j3 k x0 x1 x3 x9 x10 x11 x12 false x393000 x393001 x393002 x393003 x393004 x393005 x393006 x393007 x393008 x393009))
def skiarealaw22_ProductLess.j3 : Nat → List (S32) → Int → Int → List Int → List Int → Int → Int → Bool → Int → Int → Int → Int → Int → List Int → List (S52) → Int → Int → Int → Option (Bool)
 | 0, _, _, _, _, _, _, _, _, _, _, _, _, _, _, _, _, _, _ => none
 | k + 1, x0, x1, x3, x9, x10, x11, x12, x89, x393000, x393001, x393002, x393003, x393004, x393005, x393006, x393007, x393008, x393009 => if x89 = true then ((product_Area.f k x393000 x393001 x393002 x393003 x393004 x393005 x393006 x393007 x393008 x393009 x3).bind fun t397 => (if t397 = true then (skiarealaw22_ProductLess.l0 k x0 x1 x3 x9 x10 (wrap64 (x11 + 1)) (wrap64 (x12 + 1))) else none)) else ((product_Area.f k x393000 x393001 x393002 x393003 x393004 x393005 x393006 x393007 x393008 x393009 x3).bind fun t398 => (if t398 = true then none else (skiarealaw22_ProductLess.l0 k x0 x1 x3 x9 x10 x11 (wrap64 (x12 + 1)))))
end
def skiarealaw22_ProductLess.f (k : Nat) (l0 : List (S32)) (a1 : Int) (l2 : List Int) (a3 : Int) : Option (Bool) := (skiarealaw22_alive.f).bind fun t358 => (if t358 = true then ((skiarealaw22_small.f k l0).bind fun t359 => (if t359 = true then (if (l2.length : Int) > 40 then (skiarealaw22_ProductLess.j0 k l0 a1 l2 a3 true) else ((product_Right.f k l0).bind fun t360 => (skiarealaw22_ProductLess.j0 k l0 a1 l2 a3 (t360 != 0)))) else (skiarealaw22_ProductLess.j0 k l0 a1 l2 a3 true))) else none)
theorem skiarealaw22_ProductLess.mono_l : ∀ k, (∀ y0 y1 y2 y3 y4, LeO (skiarealaw22_ProductLess.j0 k y0 y1 y2 y3 y4) (skiarealaw22_ProductLess.j0 (k + 1) y0 y1 y2 y3 y4)) ∧ (∀ y0 y1 y2 y3 y4 y5 y6, LeO (skiarealaw22_ProductLess.l0 k y0 y1 y2 y3 y4 y5 y6) (skiarealaw22_ProductLess.l0 (k + 1) y0 y1 y2 y3 y4 y5 y6)) ∧ (∀ y0 y1 y2 y3 y4 y5 y6 y7 y8 y9 y10 y11 y12 y13 y14 y15 y16 y17, LeO (skiarealaw22_ProductLess.j2 k y0 y1 y2 y3 y4 y5 y6 y7 y8 y9 y10 y11 y12 y13 y14 y15 y16 y17) (skiarealaw22_ProductLess.j2 (k + 1) y0 y1 y2 y3 y4 y5 y6 y7 y8 y9 y10 y11 y12 y13 y14 y15 y16 y17)) ∧ (∀ y0 y1 y2 y3 y4 y5 y6 y7 y8 y9 y10 y11 y12 y13 y14 y15 y16 y17, LeO (skiarealaw22_ProductLess.j3 k y0 y1 y2 y3 y4 y5 y6 y7 y8 y9 y10 y11 y12 y13 y14 y15 y16 y17) (skiarealaw22_ProductLess.j3 (k + 1) y0 y1 y2 y3 y4 y5 y6 y7 y8 y9 y10 y11 y12 y13 y14 y15 y16 y17))
 | 0 => ⟨fun _ _ _ _ _ r h => by simp [skiarealaw22_ProductLess.j0] at h, fun _ _ _ _ _ _ _ r h => by simp [skiarealaw22_ProductLess.l0] at h, fun _ _ _ _ _ _ _ _ _ _ _ _ _ _ _ _ _ _ r h => by simp [skiarealaw22_ProductLess.j2] at h, fun _ _ _ _ _ _ _ _ _ _ _ _ _ _ _ _ _ _ r h => by simp [skiarealaw22_ProductLess.j3] at h⟩
 | k + 1 => by
  obtain ⟨ih0, ih1, ih2, ih3⟩ := skiarealaw22_ProductLess.mono_l k
  refine ⟨?_, ?_, ?_, ?_⟩
  ·intro y0 y1 y2 y3 y4
   unfold skiarealaw22_ProductLess.j0
   repeat' first
   | (with_reducible exact ih0 _ _ _ _ _)
   | (with_reducible exact ih1 _ _ _ _ _ _ _)
   | (with_reducible exact ih2 _ _ _ _ _ _ _ _ _ _ _ _ _ _ _ _ _ _)
   | (with_reducible exact ih3 _ _ _ _ _ _ _ _ _ _ _ _ _ _ _ _ _ _)
   | (with_reducible exact product_Area.mono _ _ _ _ _ _ _ _ _ _ _ _)
   | (with_reducible exact product_Find.mono _ _ _)
   | (with_reducible exact product_For.mono _ _ _ _)
   | (with_reducible exact product_Right.mono _ _)
   | (with_reducible exact skiarealaw22_small.mono _ _)
   | (with_reducible exact LeO.refl _)
   | (with_reducible exact LeO.none _)
   | (with_reducible refine LeO.ite ?_ ?_)
   | (with_reducible refine LeO.bind ?_ (fun _ => ?_))
   | exact ih0 _ _ _ _ _
   | exact ih1 _ _ _ _ _ _ _
   | exact ih2 _ _ _ _ _ _ _ _ _ _ _ _ _ _ _ _ _ _
   | exact ih3 _ _ _ _ _ _ _ _ _ _ _ _ _ _ _ _ _ _
   | exact product_Area.mono _ _ _ _ _ _ _ _ _ _ _ _
   | exact product_Find.mono _ _ _
   | exact product_For.mono _ _ _ _
   | exact product_Right.mono _ _
   | exact skiarealaw22_small.mono _ _
   | exact LeO.none _
   | refine LeO.ite ?_ ?_
   | refine LeO.bind ?_ (fun _ => ?_)
  ·intro y0 y1 y2 y3 y4 y5 y6
   unfold skiarealaw22_ProductLess.l0
   repeat' first
   | (with_reducible exact ih0 _ _ _ _ _)
   | (with_reducible exact ih1 _ _ _ _ _ _ _)
   | (with_reducible exact ih2 _ _ _ _ _ _ _ _ _ _ _ _ _ _ _ _ _ _)
   | (with_reducible exact ih3 _ _ _ _ _ _ _ _ _ _ _ _ _ _ _ _ _ _)
   | (with_reducible exact product_Area.mono _ _ _ _ _ _ _ _ _ _ _ _)
   | (with_reducible exact product_Find.mono _ _ _)
   | (with_reducible exact product_For.mono _ _ _ _)
   | (with_reducible exact product_Right.mono _ _)
   | (with_reducible exact skiarealaw22_small.mono _ _)
   | (with_reducible exact LeO.refl _)
   | (with_reducible exact LeO.none _)
   | (with_reducible refine LeO.ite ?_ ?_)
   | (with_reducible refine LeO.bind ?_ (fun _ => ?_))
   | exact ih0 _ _ _ _ _
   | exact ih1 _ _ _ _ _ _ _
   | exact ih2 _ _ _ _ _ _ _ _ _ _ _ _ _ _ _ _ _ _
   | exact ih3 _ _ _ _ _ _ _ _ _ _ _ _ _ _ _ _ _ _
   | exact product_Area.mono _ _ _ _ _ _ _ _ _ _ _ _
   | exact product_Find.mono _ _ _
   | exact product_For.mono _ _ _ _
   | exact product_Right.mono _ _
   | exact skiarealaw22_small.mono _ _
   | exact LeO.none _
   | refine LeO.ite ?_ ?_
   | refine LeO.bind ?_ (fun _ => ?_)
  ·intro y0 y1 y2 y3 y4 y5 y6 y7 y8 y9 y10 y11 y12 y13 y14 y15 y16 y17
   unfold skiarealaw22_ProductLess.j2
   repeat' first
   | (with_reducible exact ih0 _ _ _ _ _)
   | (with_reducible exact ih1 _ _ _ _ _ _ _)
   | (with_reducible exact ih2 _ _ _ _ _ _ _ _ _ _ _ _ _ _ _ _ _ _)
   | (with_reducible exact ih3 _ _ _ _ _ _ _ _ _ _ _ _ _ _ _ _ _ _)
   | (with_reducible exact product_Area.mono _ _ _ _ _ _ _ _ _ _ _ _)
   | (with_reducible exact product_Find.mono _ _ _)
   | (with_reducible exact product_For.mono _ _ _ _)
   | (with_reducible exact product_Right.mono _ _)
   | (with_reducible exact skiarealaw22_small.mono _ _)
   | (with_reducible exact LeO.refl _)
   | (with_reducible exact LeO.none _)
   | (with_reducible refine LeO.ite ?_ ?_)
   | (with_reducible refine LeO.bind ?_ (fun _ => ?_))
   | exact ih0 _ _ _ _ _
   | exact ih1 _ _ _ _ _ _ _
   | exact ih2 _ _ _ _ _ _ _ _ _ _ _ _ _ _ _ _ _ _
   | exact ih3 _ _ _ _ _ _ _ _ _ _ _ _ _ _ _ _ _ _
   | exact product_Area.mono _ _ _ _ _ _ _ _ _ _ _ _
   | exact product_Find.mono _ _ _
   | exact product_For.mono _ _ _ _
   | exact product_Right.mono _ _
   | exact skiarealaw22_small.mono _ _
   | exact LeO.none _
   | refine LeO.ite ?_ ?_
   | refine LeO.bind ?_ (fun _ => ?_)
  ·intro y0 y1 y2 y3 y4 y5 y6 y7 y8 y9 y10 y11 y12 y13 y14 y15 y16 y17
   unfold skiarealaw22_ProductLess.j3
   repeat' first
   | (with_reducible exact ih0 _ _ _ _ _)
   | (with_reducible exact ih1 _ _ _ _ _ _ _)
   | (with_reducible exact ih2 _ _ _ _ _ _ _ _ _ _ _ _ _ _ _ _ _ _)
   | (with_reducible exact ih3 _ _ _ _ _ _ _ _ _ _ _ _ _ _ _ _ _ _)
   | (with_reducible exact product_Area.mono _ _ _ _ _ _ _ _ _ _ _ _)
   | (with_reducible exact product_Find.mono _ _ _)
   | (with_reducible exact product_For.mono _ _ _ _)
   | (with_reducible exact product_Right.mono _ _)
   | (with_reducible exact skiarealaw22_small.mono _ _)
   | (with_reducible exact LeO.refl _)
   | (with_reducible exact LeO.none _)
   | (with_reducible refine LeO.ite ?_ ?_)
   | (with_reducible refine LeO.bind ?_ (fun _ => ?_))
   | exact ih0 _ _ _ _ _
   | exact ih1 _ _ _ _ _ _ _
   | exact ih2 _ _ _ _ _ _ _ _ _ _ _ _ _ _ _ _ _ _
   | exact ih3 _ _ _ _ _ _ _ _ _ _ _ _ _ _ _ _ _ _
   | exact product_Area.mono _ _ _ _ _ _ _ _ _ _ _ _
   | exact product_Find.mono _ _ _
   | exact product_For.mono _ _ _ _
   | exact product_Right.mono _ _
   | exact skiarealaw22_small.mono _ _
   | exact LeO.none _
   | refine LeO.ite ?_ ?_
   | refine LeO.bind ?_ (fun _ => ?_)
theorem skiarealaw22_ProductLess.mono : ∀ a0 a1 a2 a3 k, LeO (skiarealaw22_ProductLess.f k a0 a1 a2 a3) (skiarealaw22_ProductLess.f (k + 1) a0 a1 a2 a3) := by
 intro a0 a1 a2 a3 k
 obtain ⟨ih0, ih1, ih2, ih3⟩ := skiarealaw22_ProductLess.mono_l k
 unfold skiarealaw22_ProductLess.f
 repeat' first
   | (with_reducible exact ih0 _ _ _ _ _)
   | (with_reducible exact ih1 _ _ _ _ _ _ _)
   | (with_reducible exact ih2 _ _ _ _ _ _ _ _ _ _ _ _ _ _ _ _ _ _)
   | (with_reducible exact ih3 _ _ _ _ _ _ _ _ _ _ _ _ _ _ _ _ _ _)
   | (with_reducible exact product_Area.mono _ _ _ _ _ _ _ _ _ _ _ _)
   | (with_reducible exact product_Find.mono _ _ _)
   | (with_reducible exact product_For.mono _ _ _ _)
   | (with_reducible exact product_Right.mono _ _)
   | (with_reducible exact skiarealaw22_small.mono _ _)
   | (with_reducible exact LeO.refl _)
   | (with_reducible exact LeO.none _)
   | (with_reducible refine LeO.ite ?_ ?_)
   | (with_reducible refine LeO.bind ?_ (fun _ => ?_))
   | exact ih0 _ _ _ _ _
   | exact ih1 _ _ _ _ _ _ _
   | exact ih2 _ _ _ _ _ _ _ _ _ _ _ _ _ _ _ _ _ _
   | exact ih3 _ _ _ _ _ _ _ _ _ _ _ _ _ _ _ _ _ _
   | exact product_Area.mono _ _ _ _ _ _ _ _ _ _ _ _
   | exact product_Find.mono _ _ _
   | exact product_For.mono _ _ _ _
   | exact product_Right.mono _ _
   | exact skiarealaw22_small.mono _ _
   | exact LeO.none _
   | refine LeO.ite ?_ ?_
   | refine LeO.bind ?_ (fun _ => ?_)
def skiarealaw22_ProductLess.T12 : Bool × List (List Nat × List Nat) := (true, [([], []), ([0], [0]), ([1], [1]), ([2], [2]), ([3, 2], [2, 3]), ([2], [2]), ([2], [2]), ([5, 6, 2], [2, 5, 6]), ([7, 2], [2, 7]), ([4, 8, 2], [2, 4, 8]), ([2, 9], [2, 9]), ([10, 2], [10]), ([11], [11]), ([11], [11]), ([12, 13, 11, 11], [11, 12, 13]), ([14, 11], [11, 14]), ([11, 15], [11, 15])])
def skiarealaw22_ProductLess.B12 : List Nat := [0, 1, 3, 7, 15, 7, 7, 103, 231, 511, 1023, 2047, 4095, 4095, 16383, 32767, 65535]
theorem skiarealaw22_ProductLess.tab12 : rtab .any (opsOf Try.f7 12) = skiarealaw22_ProductLess.T12 := by kernel_rfl
theorem skiarealaw22_ProductLess.bits12 : waitsOk skiarealaw22_ProductLess.T12.2 skiarealaw22_ProductLess.B12 = true := by kernel_rfl
def skiarealaw22_ProductLess.T14 : Bool × List (List Nat × List Nat) := (true, [([], []), ([], []), ([1], [1]), ([0, 2], [0, 2]), ([3], [3]), ([4], [4]), ([4], [4]), ([5, 6, 4], [4, 5, 6]), ([7, 4], [4, 7]), ([4], [4]), ([4], [4]), ([9, 10, 4], [4, 9, 10]), ([11, 4], [4, 11]), ([8, 12, 4], [4, 8, 12]), ([4, 13], [4, 13])])
def skiarealaw22_ProductLess.B14 : List Nat := [0, 0, 2, 7, 15, 31, 31, 127, 255, 31, 31, 1567, 3615, 8191, 16383]
theorem skiarealaw22_ProductLess.tab14 : rtab .any (opsOf Try.f7 14) = skiarealaw22_ProductLess.T14 := by kernel_rfl
theorem skiarealaw22_ProductLess.bits14 : waitsOk skiarealaw22_ProductLess.T14.2 skiarealaw22_ProductLess.B14 = true := by kernel_rfl
set_option maxHeartbeats 8000000 in
set_option maxRecDepth 100000 in
theorem skiarealaw22_ProductLess.calls (k : Nat) (A0 : Option Addr) (c0 : Nat) (l0 : List (S32)) (a1 : Int) (A2 : Option Addr) (c2 : Nat) (l2 : List Int) (a3 : Int) (r : Bool) (w : World) (hr0 : Kd.C k32 w A0 l0.length l0) (hc0 : l0.length ≤ c0) (hr2 : Kd.C (Kd.int .i64) w A2 l2.length l2) (hc2 : l2.length ≤ c2) (h : skiarealaw22_ProductLess.f k l0 a1 l2 a3 = some r) :
  Calls Try.prog 7 #[.slice A0 l0.length c0, .int .i64 a1, .slice A2 l2.length c2, .int .i64 a3] w fun e w' => e = .returned (.bool r) ∧ Below w.heap.size w w' := by
 have hu32 := Try.underlying32
 have HR0 := Aside0.mk hr0
 have HC0 := Aside0.mk hc0
 clear hr0 hc0
 have HR2 := Aside0.mk hr2
 have HC2 := Aside0.mk hc2
 clear hr2 hc2
 have HB := Aside0.mk (Below.refl w.heap.size w)
 have H : ((skiarealaw22_alive.f).bind fun t358 => (if t358 = true then ((skiarealaw22_small.f k l0).bind fun t359 => (if t359 = true then (if (l2.length : Int) > 40 then (skiarealaw22_ProductLess.j0 k l0 a1 l2 a3 true) else ((product_Right.f k l0).bind fun t360 => (skiarealaw22_ProductLess.j0 k l0 a1 l2 a3 (t360 != 0)))) else (skiarealaw22_ProductLess.j0 k l0 a1 l2 a3 true))) else none)) = some r := h
 clear h
 replace H := Option.bind_eq_some_iff.mp H
 obtain ⟨t358, A50, H⟩ := H
 replace H : (if t358 = true then ((skiarealaw22_small.f k l0).bind fun t359 => (if t359 = true then (if (l2.length : Int) > 40 then (skiarealaw22_ProductLess.j0 k l0 a1 l2 a3 true) else ((product_Right.f k l0).bind fun t360 => (skiarealaw22_ProductLess.j0 k l0 a1 l2 a3 (t360 != 0)))) else (skiarealaw22_ProductLess.j0 k l0 a1 l2 a3 true))) else none) = some r := H
 have A5 := Aside0.mk A50
 clear A50
 by_cases c6 : t358 = true
 ·subst c6
  have H1 : ((skiarealaw22_small.f k l0).bind fun t359 => (if t359 = true then (if (l2.length : Int) > 40 then (skiarealaw22_ProductLess.j0 k l0 a1 l2 a3 true) else ((product_Right.f k l0).bind fun t360 => (skiarealaw22_ProductLess.j0 k l0 a1 l2 a3 (t360 != 0)))) else (skiarealaw22_ProductLess.j0 k l0 a1 l2 a3 true))) = some r := by rw [if_pos rfl] at H; exact H
  clear H
  have H := H1
  clear H1
  have HC7 := Aside0.mk H
  clear H
  go_enter Try.func7, Try.ntmps7
  go_upto_region 3 with (first | ((with_reducible refine gate_callee (f := 10) rfl ?_); refine goesL_ (some 15) rfl rfl Try.func10 (by kernel_rfl) rfl #[] rfl (by (try simp only [List.map_toArray, List.map_cons, List.map_nil]); first | done | rfl | (simp only [List.length_drop, List.length_take]; rfl)) ?_; (with_reducible refine (skiarealaw22_alive.calls  true _ A5.out).mono ?_); rintro e w8 ⟨rfl, hb⟩; refine ⟨_, rfl, ?_⟩; have n0_ := Aside0.mk (below_step (by repeat (first | (with_reducible first | exact HB.out | apply below_alloc | apply pw_below_drewN | apply below_drew1) | exact HB.out)) hb); clear HB; have HB := n0_; clear n0_; (try clear hb); (try clear hb2); (try clear hk); (try clear hi)))
  (try simp only [Act.put, List.setIfInBounds_toArray, List.set_cons_zero, List.set_cons_succ])
  go_cut [29] (fun v29 wc => ∃ (kq : Nat) (x29_6 : Bool), v29 = .bool x29_6 ∧ Aside0 (skiarealaw22_ProductLess.j0 kq l0 a1 l2 a3 x29_6 = some r) ∧ Aside0 (kq ≤ k) ∧ Aside0 (Below w.heap.size w wc))
  case first =>
   have H := HC7.out
   clear HC7
   replace H := Option.bind_eq_some_iff.mp H
   obtain ⟨t359, A90, H⟩ := H
   replace H : (if t359 = true then (if (l2.length : Int) > 40 then (skiarealaw22_ProductLess.j0 k l0 a1 l2 a3 true) else ((product_Right.f k l0).bind fun t360 => (skiarealaw22_ProductLess.j0 k l0 a1 l2 a3 (t360 != 0)))) else (skiarealaw22_ProductLess.j0 k l0 a1 l2 a3 true)) = some r := H
   have A9 := Aside0.mk A90
   clear A90
   by_cases c10 : t359 = true
   ·subst c10
    have H1 : (if (l2.length : Int) > 40 then (skiarealaw22_ProductLess.j0 k l0 a1 l2 a3 true) else ((product_Right.f k l0).bind fun t360 => (skiarealaw22_ProductLess.j0 k l0 a1 l2 a3 (t360 != 0)))) = some r := by rw [if_pos rfl] at H; exact H
    clear H
    have H := H1
    clear H1
    by_cases c11 : (l2.length : Int) > 40
    ·rw [if_pos c11] at H
     have c11b0 : decide (40 < (l2.length : Int)) = true := decide_eq_true c11
     have c11b1 : decide (40 < l2.length) = true := decide_eq_true (by omega)
     clear c11
     (first | rw [c11b0] | (simp only [i64_w, i32_w]; rw [c11b0]) | skip)
     have H' := Aside0.mk H
     clear H
     go_wp2_with (first | ((with_reducible refine gate_callee (f := 11) rfl ?_); refine goesL_ (some 18) rfl rfl Try.func11 (by kernel_rfl) rfl #[.slice A0 l0.length c0] rfl (by (try simp only [List.map_toArray, List.map_cons, List.map_nil]); first | done | rfl | (simp only [List.length_drop, List.length_take]; rfl)) ?_; (with_reducible refine (skiarealaw22_small.calls k _ _ l0 true _ ?side1 ?side2 A9.out).mono ?_); (case side1 => repeat (first | exact (Kd.C_below HR0.out HB.out) | (with_reducible refine Kd.C_alloc ?_ _) | (with_reducible refine Kd.C_drewN ?_ _) | (with_reducible refine Kd.C_drew ?_))); (case side2 => exact HC0.out); rintro e w' ⟨rfl, ⟨nd, rfl⟩⟩; refine ⟨_, rfl, ?_⟩))
     go_meet
     case rel => exact ⟨_, (true), (by first | rfl | (simp; done) | (simp [*]; done)), H', ⟨by first | omega | exact Nat.le_refl _⟩, ⟨by repeat (first | (with_reducible first | exact HB.out | apply below_alloc | apply pw_below_drewN | apply below_drew1) | exact HB.out)⟩⟩
    ·rw [if_neg c11] at H
     have c11b0 : decide (40 < (l2.length : Int)) = false := decide_eq_false c11
     have c11b1 : decide (40 < l2.length) = false := decide_eq_false (by omega)
     clear c11
     (first | rw [c11b0] | (simp only [i64_w, i32_w]; rw [c11b0]) | skip)
     replace H := Option.bind_eq_some_iff.mp H
     obtain ⟨t360, A120, H⟩ := H
     replace H : (skiarealaw22_ProductLess.j0 k l0 a1 l2 a3 (t360 != 0)) = some r := H
     have A12 := Aside0.mk A120
     clear A120
     have H' := Aside0.mk H
     clear H
     go_wp2_with (first | ((with_reducible refine gate_callee (f := 11) rfl ?_); refine goesL_ (some 18) rfl rfl Try.func11 (by kernel_rfl) rfl #[.slice A0 l0.length c0] rfl (by (try simp only [List.map_toArray, List.map_cons, List.map_nil]); first | done | rfl | (simp only [List.length_drop, List.length_take]; rfl)) ?_; (with_reducible refine (skiarealaw22_small.calls k _ _ l0 true _ ?side1 ?side2 A9.out).mono ?_); (case side1 => repeat (first | exact (Kd.C_below HR0.out HB.out) | (with_reducible refine Kd.C_alloc ?_ _) | (with_reducible refine Kd.C_drewN ?_ _) | (with_reducible refine Kd.C_drew ?_))); (case side2 => exact HC0.out); rintro e w' ⟨rfl, ⟨nd, rfl⟩⟩; refine ⟨_, rfl, ?_⟩) | (go_at_call 12; (with_reducible refine (product_Right.calls k _ _ l0 t360 _ ?side1 ?side2 A12.out).mono ?_); (case side1 => repeat (first | exact (Kd.C_below HR0.out (by repeat (first | (with_reducible first | exact HB.out | apply below_alloc | apply pw_below_drewN | apply below_drew1) | exact HB.out))) | (with_reducible refine Kd.C_alloc ?_ _) | (with_reducible refine Kd.C_drewN ?_ _) | (with_reducible refine Kd.C_drew ?_))); (case side2 => exact HC0.out); rintro e w13 ⟨rfl, hb⟩; have n0_ := Aside0.mk (below_step (by repeat (first | (with_reducible first | exact HB.out | apply below_alloc | apply pw_below_drewN | apply below_drew1) | exact HB.out)) hb); clear HB; have HB := n0_; clear n0_; (try clear hb); (try clear hb2); (try clear hk); (try clear hi)))
     go_meet
     case rel => exact ⟨_, ((t360 != 0)), (by first | rfl | (simp; done) | (simp [*]; done)), H', ⟨by first | omega | exact Nat.le_refl _⟩, ⟨by repeat (first | (with_reducible first | exact HB.out | apply below_alloc | apply pw_below_drewN | apply below_drew1) | exact HB.out)⟩⟩
   ·replace c10 := Bool.eq_false_iff.mpr c10
    subst c10
    have H1 : (skiarealaw22_ProductLess.j0 k l0 a1 l2 a3 true) = some r := by rw [if_neg (show ¬ (false = true) by decide)] at H; exact H
    clear H
    have H := H1
    clear H1
    have H' := Aside0.mk H
    clear H
    go_wp2_with (first | ((with_reducible refine gate_callee (f := 11) rfl ?_); refine goesL_ (some 18) rfl rfl Try.func11 (by kernel_rfl) rfl #[.slice A0 l0.length c0] rfl (by (try simp only [List.map_toArray, List.map_cons, List.map_nil]); first | done | rfl | (simp only [List.length_drop, List.length_take]; rfl)) ?_; (with_reducible refine (skiarealaw22_small.calls k _ _ l0 false _ ?side1 ?side2 A9.out).mono ?_); (case side1 => repeat (first | exact (Kd.C_below HR0.out HB.out) | (with_reducible refine Kd.C_alloc ?_ _) | (with_reducible refine Kd.C_drewN ?_ _) | (with_reducible refine Kd.C_drew ?_))); (case side2 => exact HC0.out); rintro e w' ⟨rfl, ⟨nd, rfl⟩⟩; refine ⟨_, rfl, ?_⟩))
    go_meet
    case rel => exact ⟨_, (true), (by first | rfl | (simp; done) | (simp [*]; done)), H', ⟨by first | omega | exact Nat.le_refl _⟩, ⟨by repeat (first | (with_reducible first | exact HB.out | apply below_alloc | apply pw_below_drewN | apply below_drew1) | exact HB.out)⟩⟩
  case rest =>
   clear HC7
   try clear c1
   try clear c2
   try clear p2
   try clear c6
   try clear c7
   try clear c10
   try clear c11
   try clear c11b0
   try clear c11b1
   obtain ⟨kq, x29_6, rfl, HA, HJ6, HB⟩ := hcut
   cases kq with
   | zero => exact absurd HA.out (by simp [skiarealaw22_ProductLess.j0])
   | succ kj6 =>
    have H := HA.out
    clear HA
    simp only [skiarealaw22_ProductLess.j0] at H
    by_cases c14 : x29_6 = true
    ·subst c14
     have H1 : (some true) = some r := by rw [if_pos rfl] at H; exact H
     clear H
     have H := H1
     clear H1
     obtain rfl := Option.some.inj H
     go_wp2
     go_ret
     exact ⟨by first | rfl | (simp [errW_none, errW_some] <;> rfl) | (simp [*, errW_none, errW_some] <;> rfl), by repeat (first | (with_reducible first | exact HB.out | apply below_alloc | apply pw_below_drewN | apply below_drew1) | exact HB.out)⟩
    ·replace c14 := Bool.eq_false_iff.mpr c14
     subst c14
     have H1 : ((product_For.f kj6 l0 a1 l2).bind fun t361 => ((some (([] : List Int) : List Int)).bind fun y364 => (if y364.length + l2.length < 17592186044416 then ((some (y364 ++ l2 : List Int)).bind fun y367 => (if y367.length < 17592186044416 then ((product_For.f kj6 l0 a1 (y367 ++ [a3])).bind fun t373 => (skiarealaw22_ProductLess.l0 kj6 l0 a1 a3 t361 t373 0 0)) else (none))) else (none)))) = some r := by rw [if_neg (show ¬ (false = true) by decide)] at H; exact H
     clear H
     have H := H1
     clear H1
     replace H := Option.bind_eq_some_iff.mp H
     obtain ⟨t361, A150, H⟩ := H
     replace H : ((some (([] : List Int) : List Int)).bind fun y364 => (if y364.length + l2.length < 17592186044416 then ((some (y364 ++ l2 : List Int)).bind fun y367 => (if y367.length < 17592186044416 then ((product_For.f kj6 l0 a1 (y367 ++ [a3])).bind fun t373 => (skiarealaw22_ProductLess.l0 kj6 l0 a1 a3 t361 t373 0 0)) else (none))) else (none))) = some r := H
     have A15 := Aside0.mk A150
     clear A150
     obtain ⟨y364, hy364⟩ : ∃ y_ : List Int, y_ = (([] : List Int)) := ⟨_, rfl⟩
     replace H : (if y364.length + l2.length < 17592186044416 then ((some (y364 ++ l2 : List Int)).bind fun y367 => (if y367.length < 17592186044416 then ((product_For.f kj6 l0 a1 (y367 ++ [a3])).bind fun t373 => (skiarealaw22_ProductLess.l0 kj6 l0 a1 a3 t361 t373 0 0)) else (none))) else (none)) = some r := by first | (rw [hy364]; with_reducible exact H) | (have H2_ := (Option.bind_some _ _).symm.trans H; rw [hy364]; with_reducible exact H2_) | (have H2_ := (Option.bind_some _ _).symm.trans H; with_reducible exact H2_) | with_reducible exact H | (rw [hy364]; exact H) | exact H
     have Ny364 := Aside0.mk hy364
     clear hy364
     by_cases c16 : y364.length + l2.length < 17592186044416
     ·rw [if_pos c16] at H
      have LMc16 := Aside0.mk c16
      clear c16
      obtain ⟨y367, hy367⟩ : ∃ y_ : List Int, y_ = (y364 ++ l2) := ⟨_, rfl⟩
      replace H : (if y367.length < 17592186044416 then ((product_For.f kj6 l0 a1 (y367 ++ [a3])).bind fun t373 => (skiarealaw22_ProductLess.l0 kj6 l0 a1 a3 t361 t373 0 0)) else (none)) = some r := by first | (rw [hy367]; with_reducible exact H) | (have H2_ := (Option.bind_some _ _).symm.trans H; rw [hy367]; with_reducible exact H2_) | (have H2_ := (Option.bind_some _ _).symm.trans H; with_reducible exact H2_) | with_reducible exact H | (rw [hy367]; exact H) | exact H
      have Ny367 := Aside0.mk hy367
      clear hy367
      by_cases c17 : y367.length < 17592186044416
      ·rw [if_pos c17] at H
       have LMc17 := Aside0.mk c17
       clear c17
       obtain ⟨y370, hy370⟩ : ∃ y_ : List Int, y_ = (y367 ++ [a3]) := ⟨_, rfl⟩
       replace H : ((product_For.f kj6 l0 a1 y370).bind fun t373 => (skiarealaw22_ProductLess.l0 kj6 l0 a1 a3 t361 t373 0 0)) = some r := by first | (rw [hy370]; with_reducible exact H) | (have H2_ := (Option.bind_some _ _).symm.trans H; rw [hy370]; with_reducible exact H2_) | (have H2_ := (Option.bind_some _ _).symm.trans H; with_reducible exact H2_) | with_reducible exact H | (rw [hy370]; exact H) | exact H
       have Ny370 := Aside0.mk hy370
       clear hy370
       replace H := Option.bind_eq_some_iff.mp H
       obtain ⟨t373, A180, H⟩ := H
       replace H : (skiarealaw22_ProductLess.l0 kj6 l0 a1 a3 t361 t373 0 0) = some r := H
       have A18 := Aside0.mk A180
       clear A180
       have H' := Aside0.mk H
       clear H
       go_wp2_with (first | ((with_reducible refine gate_callee (f := 23) rfl ?_); refine goesL_ (some 33) rfl rfl Try.func23 (by kernel_rfl) rfl #[.slice A0 l0.length c0, .int .i64 a1, .slice A2 l2.length c2] rfl (by (try simp only [List.map_toArray, List.map_cons, List.map_nil]); first | done | rfl | (simp only [List.length_drop, List.length_take]; rfl)) ?_; (with_reducible refine (product_For.calls kj6 _ _ l0 a1 _ _ l2 t361 _ ?side1 ?side2 ?side3 ?side4 A15.out).mono ?_); (case side1 => repeat (first | exact (Kd.C_below HR0.out HB.out) | (with_reducible refine Kd.C_alloc ?_ _) | (with_reducible refine Kd.C_drewN ?_ _) | (with_reducible refine Kd.C_drew ?_))); (case side2 => exact HC0.out); (case side3 => repeat (first | exact (Kd.C_below HR2.out HB.out) | (with_reducible refine Kd.C_alloc ?_ _) | (with_reducible refine Kd.C_drewN ?_ _) | (with_reducible refine Kd.C_drew ?_))); (case side4 => exact HC2.out); rintro e w19 ⟨v362, rfl, ho0, hb⟩; refine ⟨_, rfl, ?_⟩; have n0_ := Aside0.mk (Kd.R_lower ho0 (below_size (by repeat (first | (with_reducible first | exact HB.out | apply below_alloc | apply pw_below_drewN | apply below_drew1) | exact HB.out)))); have n1_ := Aside0.mk (below_step (by repeat (first | (with_reducible first | exact HB.out | apply below_alloc | apply pw_below_drewN | apply below_drew1) | exact HB.out)) hb); clear HB; have HO363 := n0_; have HB := n1_; clear n0_ n1_; (try clear hb); (try clear hb2); (try clear hk); (try clear hi); (try clear ho0)) | ((with_reducible refine gate_dst (N := 36) rfl ?_); refine Kd.R_lit (Kd.int .i64) _ 3 ?hg (N := 36) ?hd (xs := ([] : List Int)) (inner := []) (ok := fun _ => True) (okp := fun _ => True) ?hr ?hp (fun _ hk => hk) trivial (Below.refl _ _) (Nat.le_refl _) (by simp) ?_; (case hd => rfl); (case hg => rfl); (case hr => first | (go_simp; done) | (go_simp; rfl)); (case hp => exact (Reps.none _ _)); intro v365 w20 ho21 hb hg_ hnew_; clear hg_ hnew_; (first | rw [← Ny364.out] at ho21 | (simp only [Int.reduceToNat] at ho21; rw [← Ny364.out] at ho21)); have n0_ := Aside0.mk (Kd.R_elder' (by (with_reducible repeat (first | apply Kd.R_alloc | apply Kd.R_drewN | apply Kd.R_drew)); exact HO363.out) (Kd.R_base ho21) hb); have n1_ := Aside0.mk (Kd.R_lower (Kd.R_new' ho21 (Kd.R_lt (by (with_reducible repeat (first | apply Kd.R_alloc | apply Kd.R_drewN | apply Kd.R_drew)); exact HO363.out))) (below_size (by repeat (first | (with_reducible first | exact HB.out | apply below_alloc | apply pw_below_drewN | apply below_drew1) | exact HB.out)))); have n2_ := Aside0.mk (below_step (by repeat (first | (with_reducible first | exact HB.out | apply below_alloc | apply pw_below_drewN | apply below_drew1) | exact HB.out)) hb); clear HO363; clear HB; have HO363 := n0_; have HO366 := n1_; have HB := n2_; clear n0_ n1_ n2_; clear hb ho21) | ((with_reducible refine gate_builtin (b := .append) (xs := #[.tmp 36, .tmp 37]) rfl ?_); at_builtin; refine Kd.R_append_rows (Kd.int .i64) (w0 := w) w.heap.size rfl (.tmp 36) (.tmp 37) 27 3 (.int .i64 0) 8 rfl Try.underlying27 info3 rfl (by decide) (by omega) v365 y364 l2 _ _ _ (fun k_ => some k_ ≠ (v362 : Value).ownBlock) (fun _ => False) rfl rfl ?aO ?aR (fun _ _ h => h) (fun _ h => h.elim) ?aF ?aB ?aS ?aL ?_; (case aR => repeat (first | exact (Kd.C_below HR2.out HB.out) | (with_reducible refine Kd.C_alloc ?_ _) | (with_reducible refine Kd.C_drewN ?_ _) | (with_reducible refine Kd.C_drew ?_))); (case aB => exact (by repeat (first | (with_reducible first | exact HB.out | apply below_alloc | apply pw_below_drewN | apply below_drew1) | exact HB.out))); (case aF => exact (fun k_ hk => Kd.fresh' (Kd.R_lt (by (with_reducible repeat (first | apply Kd.R_alloc | apply Kd.R_drewN | apply Kd.R_drew)); exact HO363.out)) k_ hk)); (case aO => exact (by (with_reducible repeat (first | apply Kd.R_alloc | apply Kd.R_drewN | apply Kd.R_drew)); exact Kd.R_mono HO366.out (fun _ hk => hk.2))); (case aS => exact (below_size (by repeat (first | (with_reducible first | exact HB.out | apply below_alloc | apply pw_below_drewN | apply below_drew1) | exact HB.out)))); (case aL => have := LMc16.out; omega); intro v368 w22 ho hb hg hat; rw [← Ny367.out] at ho; have n0_ := Aside0.mk (Kd.R_after (ok := (fun _ => True)) (by (with_reducible repeat (first | apply Kd.R_alloc | apply Kd.R_drewN | apply Kd.R_drew)); exact HO363.out) hg hat); have n1_ := Aside0.mk (hb); have n2_ := Aside0.mk (ho); clear HO363; clear HB; clear HO366; have HO363 := n0_; have HB := n1_; have HO369 := n2_; clear n0_ n1_ n2_; clear ho hb hg hat) | ((with_reducible refine gate_builtin (b := .append) (xs := #[.tmp 38, .tmp 40]) rfl ?_); at_builtin; refine Kd.R_append (Kd.int .i64) (w0 := w) w.heap.size rfl (.tmp 38) (.tmp 40) 27 3 (.int .i64 0) 8 rfl Try.underlying27 info3 rfl (by decide) (by omega) v368 y367 a3 [.int .i64 a3] (fun k_ => some k_ ≠ (v362 : Value).ownBlock) (fun _ => False) rfl rfl ?aP (fun _ hk => hk.elim) ?aF ?aO ?aB ?aS ?aL ?_; (case aP => exact rfl); (case aB => exact (by repeat (first | (with_reducible first | exact HB.out | apply below_alloc | apply pw_below_drewN | apply below_drew1) | exact HB.out))); (case aF => exact (fun k_ hk => Kd.fresh' (Kd.R_lt (by (with_reducible repeat (first | apply Kd.R_alloc | apply Kd.R_drewN | apply Kd.R_drew)); exact HO363.out)) k_ hk)); (case aO => exact (by (with_reducible repeat (first | apply Kd.R_alloc | apply Kd.R_drewN | apply Kd.R_drew)); exact HO369.out)); (case aS => exact (below_size (by repeat (first | (with_reducible first | exact HB.out | apply below_alloc | apply pw_below_drewN | apply below_drew1) | exact HB.out)))); (case aL => have := LMc17.out; omega); intro v371 w23 ho hb hg hat; rw [← Ny370.out] at ho; have n0_ := Aside0.mk (Kd.R_after (ok := (fun _ => True)) (by (with_reducible repeat (first | apply Kd.R_alloc | apply Kd.R_drewN | apply Kd.R_drew)); exact HO363.out) hg hat); have n1_ := Aside0.mk (hb); have n2_ := Aside0.mk (ho); clear HO363; clear HB; clear HO369; have HO363 := n0_; have HB := n1_; have HO372 := n2_; clear n0_ n1_ n2_; clear ho hb hg hat; obtain ⟨Ao24, co24, eo24⟩ := Kd.R_slice HO372.out; subst eo24) | ((with_reducible refine gate_callee (f := 23) rfl ?_); refine goesL_ (some 42) rfl rfl Try.func23 (by kernel_rfl) rfl #[.slice A0 l0.length c0, .int .i64 a1, .slice Ao24 y370.length co24] rfl (by (try simp only [List.map_toArray, List.map_cons, List.map_nil]); first | done | rfl | (simp only [List.length_drop, List.length_take]; rfl)) ?_; (with_reducible refine (product_For.calls kj6 _ _ l0 a1 _ _ y370 t373 _ ?side1 ?side2 ?side3 ?side4 A18.out).mono ?_); (case side1 => repeat (first | exact (Kd.C_below HR0.out HB.out) | (with_reducible refine Kd.C_alloc ?_ _) | (with_reducible refine Kd.C_drewN ?_ _) | (with_reducible refine Kd.C_drew ?_))); (case side2 => exact HC0.out); (case side3 => repeat (first | exact (Kd.R_reads' HO372.out).2.2 | (with_reducible refine Kd.C_alloc ?_ _) | (with_reducible refine Kd.C_drewN ?_ _) | (with_reducible refine Kd.C_drew ?_))); (case side4 => exact (Kd.R_reads' HO372.out).2.1); rintro e w25 ⟨v374, rfl, ho0, hb⟩; refine ⟨_, rfl, ?_⟩; have n0_ := Aside0.mk (Kd.R_elder' (by (with_reducible repeat (first | apply Kd.R_alloc | apply Kd.R_drewN | apply Kd.R_drew)); exact HO363.out) (Kd.R_base ho0) hb); have n1_ := Aside0.mk (Kd.R_elder' (by (with_reducible repeat (first | apply Kd.R_alloc | apply Kd.R_drewN | apply Kd.R_drew)); exact HO372.out) (Kd.R_base ho0) hb); have n2_ := Aside0.mk (Kd.R_lower (Kd.R_new' (Kd.R_new' ho0 (Kd.R_lt (by (with_reducible repeat (first | apply Kd.R_alloc | apply Kd.R_drewN | apply Kd.R_drew)); exact HO363.out))) (Kd.R_lt (by (with_reducible repeat (first | apply Kd.R_alloc | apply Kd.R_drewN | apply Kd.R_drew)); exact HO372.out))) (below_size (by repeat (first | (with_reducible first | exact HB.out | apply below_alloc | apply pw_below_drewN | apply below_drew1) | exact HB.out)))); have n3_ := Aside0.mk (below_step (by repeat (first | (with_reducible first | exact HB.out | apply below_alloc | apply pw_below_drewN | apply below_drew1) | exact HB.out)) hb); clear HO363; clear HO372; clear HB; have HO363 := n0_; have HO372 := n1_; have HO375 := n2_; have HB := n3_; clear n0_ n1_ n2_ n3_; (try clear hb); (try clear hb2); (try clear hk); (try clear hi); (try clear ho0)))
       go_loopg [11, 12] kj6 (fun kq v11 v12 w' => ∃ (x11_2 : Int) (x12_2 : Int), v11 = .int .i64 x11_2 ∧ v12 = .int .i64 x12_2 ∧ Aside0 (skiarealaw22_ProductLess.l0 kq l0 a1 a3 t361 t373 x11_2 x12_2 = some r) ∧ Aside0 (kq ≤ kj6) ∧ Aside0 (Kd.R (Kd.int .i64) 3 w' w.heap.size (fun k_ => some k_ ≠ (v374 : Value).ownBlock) v362 t361) ∧ Aside0 (Kd.R (Kd.int .i64) 3 w' w.heap.size (fun k_ => some k_ ≠ (v362 : Value).ownBlock) v374 t373) ∧ Aside0 (Below w.heap.size w w'))
       case atStart => exact ⟨(0), (0), (by first | rfl | (simp; done) | (simp [*]; done)), (by first | rfl | (simp; done) | (simp [*]; done)), H', ⟨Nat.le_refl _⟩, ⟨by (with_reducible repeat (first | apply Kd.R_alloc | apply Kd.R_drewN | apply Kd.R_drew)); exact Kd.R_mono HO363.out (fun _ hk => hk.2)⟩, ⟨by (with_reducible repeat (first | apply Kd.R_alloc | apply Kd.R_drewN | apply Kd.R_drew)); exact Kd.R_mono HO375.out (fun _ hk => hk.1.2)⟩, ⟨by repeat (first | (with_reducible first | exact HB.out | apply below_alloc | apply pw_below_drewN | apply below_drew1) | exact HB.out)⟩⟩
       case round =>
        clear H'
        try clear c1
        try clear c2
        try clear p2
        try clear c6
        try clear c7
        try clear c10
        try clear c11
        try clear c11b0
        try clear c11b1
        try clear c14
        try clear c16
        try clear c17
        try clear c23
        try clear p2
        obtain ⟨x11_2, x12_2, rfl, rfl, HA, HK2, HO_9, HO_10, HB⟩ := hrel
        cases gk with
        | zero => exact absurd HA.out (by simp [skiarealaw22_ProductLess.l0])
        | succ k2 =>
         have H := HA.out
         clear HA
         simp only [skiarealaw22_ProductLess.l0] at H
         by_cases c26 : x12_2 < (t361.length : Int)
         ·rw [if_pos c26] at H
          have c26b0 : decide (x12_2 < (t361.length : Int)) = true := decide_eq_true c26
          clear c26
          by_cases c27 : 0 ≤ x12_2
          ·rw [if_pos c27] at H
           have c27b0 : decide (0 ≤ x12_2) = true := decide_eq_true c27
           clear c27
           replace H := Option.bind_eq_some_iff.mp H
           obtain ⟨⟨t377, t378, t379, t380, t381, t382, t385, t388, t389, t390, t391⟩, A280, H⟩ := H
           replace H : (if t391 = true then (if t377 = (rd t361 x12_2) then ((product_Age.f t377 t378 t379 t380 t381 t382 t385 t388 t389 t390 a1).bind fun t394 => (skiarealaw22_ProductLess.j2 k2 l0 a1 a3 t361 t373 x11_2 x12_2 (!t394) t377 t378 t379 t380 t381 t382 t385 t388 t389 t390)) else (skiarealaw22_ProductLess.j2 k2 l0 a1 a3 t361 t373 x11_2 x12_2 true t377 t378 t379 t380 t381 t382 t385 t388 t389 t390)) else (skiarealaw22_ProductLess.j2 k2 l0 a1 a3 t361 t373 x11_2 x12_2 true t377 t378 t379 t380 t381 t382 t385 t388 t389 t390)) = some r := H
           have A28 := Aside0.mk A280
           clear A280
           have HC29 := Aside0.mk H
           clear H
           obtain ⟨Ao30, co30, eo30⟩ := Kd.R_slice HO_9.out
           subst eo30
           have p376 : 0 ≤ (x12_2 : Int) := of_decide_eq_true (by first | (with_reducible assumption) | assumption)
           have q376 : x12_2 < (t361.length : Int) := of_decide_eq_true (by first | (with_reducible assumption) | assumption)
           obtain ⟨ad376, e376, hx376_0⟩ := Kd.at_int (Kd.R_reads' HO_9.out).2.2 x12_2 p376 q376
           cases e376
           replace p376 := eq_true p376
           replace q376 := eq_true q376
           go_upto_region 12 with (first | ((with_reducible refine gate_callee (f := 14) rfl ?_); refine goesL_ (some 55) rfl rfl Try.func14 (by kernel_rfl) rfl #[.slice A0 l0.length c0, .int .i64 (rd t361 x12_2)] rfl (by (try simp only [List.map_toArray, List.map_cons, List.map_nil]); first | done | rfl | (simp only [List.length_drop, List.length_take]; rfl)) ?_; (with_reducible refine (product_Find.calls k2 _ _ l0 (rd t361 x12_2) t377 t378 t379 t380 t381 t382 t385 t388 t389 t390 t391 _ ?side1 ?side2 A28.out).mono ?_); (case side1 => repeat (first | exact (Kd.C_below HR0.out HB.out) | (with_reducible refine Kd.C_alloc ?_ _) | (with_reducible refine Kd.C_drewN ?_ _) | (with_reducible refine Kd.C_drew ?_))); (case side2 => exact HC0.out); rintro e w31 ⟨v383, v386, rfl, ho0, ho1, hb⟩; refine ⟨_, rfl, ?_⟩; have n0_ := Aside0.mk (Kd.R_elder' (by (with_reducible repeat (first | apply Kd.R_alloc | apply Kd.R_drewN | apply Kd.R_drew)); exact HO_9.out) (Kd.R_base ho0) hb); have n1_ := Aside0.mk (Kd.R_elder' (by (with_reducible repeat (first | apply Kd.R_alloc | apply Kd.R_drewN | apply Kd.R_drew)); exact HO_10.out) (Kd.R_base ho0) hb); have n2_ := Aside0.mk (Kd.R_lower (Kd.R_new' (Kd.R_new' ho0 (Kd.R_lt (by (with_reducible repeat (first | apply Kd.R_alloc | apply Kd.R_drewN | apply Kd.R_drew)); exact HO_9.out))) (Kd.R_lt (by (with_reducible repeat (first | apply Kd.R_alloc | apply Kd.R_drewN | apply Kd.R_drew)); exact HO_10.out))) (below_size (by repeat (first | (with_reducible first | exact HB.out | apply below_alloc | apply pw_below_drewN | apply below_drew1) | exact HB.out)))); have n3_ := Aside0.mk (Kd.R_lower ho1 (below_size (by repeat (first | (with_reducible first | exact HB.out | apply below_alloc | apply pw_below_drewN | apply below_drew1) | exact HB.out)))); have n4_ := Aside0.mk (below_step (by repeat (first | (with_reducible first | exact HB.out | apply below_alloc | apply pw_below_drewN | apply below_drew1) | exact HB.out)) hb); clear HO_9; clear HO_10; clear HB; have HO_9 := n0_; have HO_10 := n1_; have HO384 := n2_; have HO387 := n3_; have HB := n4_; clear n0_ n1_ n2_ n3_ n4_; (try clear hb); (try clear hb2); (try clear hk); (try clear hi); (try clear ho0); (try clear ho1)) | ((with_reducible refine gate_dst (N := 13) rfl ?_); refine box_event ?hg (N := 13) ?hd (cs := #[.int .i64 0, .int .i64 0, .int .i64 0, .int .i64 0, .int .i64 0, .slice none 0 0, .slice none 0 0, .int .i64 0, .int .i64 0, .int .i64 0]) (t := 32) ?hr ?_; (case hd => rfl); (case hg => rfl); (case hr => first | (go_simp; done) | (go_simp; rfl)); intro gb392 hg w32 hbox hb; have n0_ := Aside0.mk (Kd.R_below (by (with_reducible repeat (first | apply Kd.R_alloc | apply Kd.R_drewN | apply Kd.R_drew)); exact HO_9.out) hb); have n1_ := Aside0.mk (Kd.R_below (by (with_reducible repeat (first | apply Kd.R_alloc | apply Kd.R_drewN | apply Kd.R_drew)); exact HO_10.out) hb); have n2_ := Aside0.mk (Kd.R_below (by (with_reducible repeat (first | apply Kd.R_alloc | apply Kd.R_drewN | apply Kd.R_drew)); exact HO384.out) hb); have n3_ := Aside0.mk (Kd.R_below (by (with_reducible repeat (first | apply Kd.R_alloc | apply Kd.R_drewN | apply Kd.R_drew)); exact HO387.out) hb); have n4_ := Aside0.mk (below_step (by repeat (first | (with_reducible first | exact HB.out | apply below_alloc | apply pw_below_drewN | apply below_drew1) | exact HB.out)) hb); have n5_ := Aside0.mk (hbox); have n6_ := Aside0.mk ((by rw [hg]; exact (below_size (by repeat (first | (with_reducible first | exact HB.out | apply below_alloc | apply pw_below_drewN | apply below_drew1) | exact HB.out))) : w.heap.size ≤ gb392)); have n7_ := n6_; clear HO_9; clear HO_10; clear HO384; clear HO387; clear HB; have HO_9 := n0_; have HO_10 := n1_; have HO384 := n2_; have HO387 := n3_; have HB := n4_; have BK392 := n5_; have GW392 := n6_; have GE392 := n7_; clear n0_ n1_ n2_ n3_ n4_ n5_ n6_ n7_; clear hb hbox hg; obtain ⟨hcz33_0, hcz33_1, hcz33_2, hcz33_3, hcz33_4, hcz33_5, hcz33_6, hcz33_7, hcz33_8, hcz33_9, hfz33_0, hfz33_1, hfz33_2, hfz33_3, hfz33_4, hfz33_5, hfz33_6, hfz33_7, hfz33_8, hfz33_9⟩ := cells10 BK392.out; obtain ⟨Ao34, co34, eo34⟩ := Kd.R_slice HO384.out; subst eo34; obtain ⟨Ao35, co35, eo35⟩ := Kd.R_slice HO387.out; subst eo35))
           (try simp only [Act.put, List.setIfInBounds_toArray, List.set_cons_zero, List.set_cons_succ])
           go_cut [74] (fun v74 wc => ∃ (kq : Nat) (x74_28 : Bool), v74 = .bool x74_28 ∧ Aside0 (skiarealaw22_ProductLess.j2 kq l0 a1 a3 t361 t373 x11_2 x12_2 x74_28 t377 t378 t379 t380 t381 t382 t385 t388 t389 t390 = some r) ∧ Aside0 (kq ≤ k2) ∧ Aside0 (Kd.R (Kd.int .i64) 3 wc w.heap.size (fun k_ => some k_ ≠ (v374 : Value).ownBlock ∧ some k_ ≠ ((.slice Ao34 t382.length co34) : Value).ownBlock) (.slice (some ad376) t361.length co30) t361) ∧ Aside0 (Kd.R (Kd.int .i64) 3 wc w.heap.size (fun k_ => some k_ ≠ ((.slice (some ad376) t361.length co30) : Value).ownBlock ∧ some k_ ≠ ((.slice Ao34 t382.length co34) : Value).ownBlock) v374 t373) ∧ Aside0 (Kd.R (Kd.int .i64) 3 wc w.heap.size (fun k_ => some k_ ≠ ((.slice (some ad376) t361.length co30) : Value).ownBlock ∧ some k_ ≠ (v374 : Value).ownBlock) (.slice Ao34 t382.length co34) t382) ∧ Aside0 (Kd.R k52 52 wc w.heap.size (fun _ => True) (.slice Ao35 t385.length co35) t385) ∧ Aside0 (wc.heap[gb392]? = some (.cells #[.int .i64 t377, .int .i64 t378, .int .i64 t379, .int .i64 t380, .int .i64 t381, (.slice Ao34 t382.length co34), (.slice Ao35 t385.length co35), .int .i64 t388, .int .i64 t389, .int .i64 t390] 32 (0, 0))) ∧ Aside0 (Below w.heap.size w wc))
           case first =>
            have H := HC29.out
            clear HC29
            by_cases c36 : t391 = true
            ·subst c36
             have H1 : (if t377 = (rd t361 x12_2) then ((product_Age.f t377 t378 t379 t380 t381 t382 t385 t388 t389 t390 a1).bind fun t394 => (skiarealaw22_ProductLess.j2 k2 l0 a1 a3 t361 t373 x11_2 x12_2 (!t394) t377 t378 t379 t380 t381 t382 t385 t388 t389 t390)) else (skiarealaw22_ProductLess.j2 k2 l0 a1 a3 t361 t373 x11_2 x12_2 true t377 t378 t379 t380 t381 t382 t385 t388 t389 t390)) = some r := by rw [if_pos rfl] at H; exact H
             clear H
             have H := H1
             clear H1
             by_cases c37 : t377 = (rd t361 x12_2)
             ·rw [if_pos c37] at H
              have c37b0 : (t377 == (rd t361 x12_2)) = true := beq_iff_eq.mpr c37
              have c37b1 : (t377 != (rd t361 x12_2)) = false := bne_eq_false_iff_eq.mpr c37
              clear c37
              (first | rw [c37b0] | (simp only [i64_w, i32_w]; rw [c37b0]) | skip)
              replace H := Option.bind_eq_some_iff.mp H
              obtain ⟨t394, A380, H⟩ := H
              replace H : (skiarealaw22_ProductLess.j2 k2 l0 a1 a3 t361 t373 x11_2 x12_2 (!t394) t377 t378 t379 t380 t381 t382 t385 t388 t389 t390) = some r := H
              have A38 := Aside0.mk A380
              clear A380
              have H' := Aside0.mk H
              clear H
              try go_wp2
              have n0_ : Aside0 (Kd.R (Kd.int .i64) 3 ((((((((((w32.setCell ⟨gb392, 0, none⟩ (.int .i64 t377)).setCell ⟨gb392, 1, none⟩ (.int .i64 t378)).setCell ⟨gb392, 2, none⟩ (.int .i64 t379)).setCell ⟨gb392, 3, none⟩ (.int .i64 t380)).setCell ⟨gb392, 4, none⟩ (.int .i64 t381)).setCell ⟨gb392, 5, none⟩ (.slice Ao34 t382.length co34)).setCell ⟨gb392, 6, none⟩ (.slice Ao35 t385.length co35)).setCell ⟨gb392, 7, none⟩ (.int .i64 t388)).setCell ⟨gb392, 8, none⟩ (.int .i64 t389)).setCell ⟨gb392, 9, none⟩ (.int .i64 t390)) w.heap.size (fun k_ => some k_ ≠ (v374 : Value).ownBlock ∧ some k_ ≠ (.slice Ao34 t382.length co34 : Value).ownBlock) (.slice (some ad376) t361.length co30) t361) := ⟨by (with_reducible repeat (first | apply Kd.R_alloc | apply Kd.R_drewN | apply Kd.R_drew)); exact Kd.R_mono (Kd.R_far (p := ⟨gb392, 9, none⟩) (Kd.R_far (p := ⟨gb392, 8, none⟩) (Kd.R_far (p := ⟨gb392, 7, none⟩) (Kd.R_far (p := ⟨gb392, 6, none⟩) (Kd.R_far (p := ⟨gb392, 5, none⟩) (Kd.R_far (p := ⟨gb392, 4, none⟩) (Kd.R_far (p := ⟨gb392, 3, none⟩) (Kd.R_far (p := ⟨gb392, 2, none⟩) (Kd.R_far (p := ⟨gb392, 1, none⟩) (Kd.R_far (p := ⟨gb392, 0, none⟩) (Kd.R_types HO_9.out BK392.out (by decide)) (fun _ hk => hk.2) (.int .i64 t377)) (fun _ hk => hk.2) (.int .i64 t378)) (fun _ hk => hk.2) (.int .i64 t379)) (fun _ hk => hk.2) (.int .i64 t380)) (fun _ hk => hk.2) (.int .i64 t381)) (fun _ hk => hk.2) (.slice Ao34 t382.length co34)) (fun _ hk => hk.2) (.slice Ao35 t385.length co35)) (fun _ hk => hk.2) (.int .i64 t388)) (fun _ hk => hk.2) (.int .i64 t389)) (fun _ hk => hk.2) (.int .i64 t390)) (fun _ hk => ⟨hk.1.1, hk.1.2⟩)⟩
              have n1_ : Aside0 (Kd.R (Kd.int .i64) 3 ((((((((((w32.setCell ⟨gb392, 0, none⟩ (.int .i64 t377)).setCell ⟨gb392, 1, none⟩ (.int .i64 t378)).setCell ⟨gb392, 2, none⟩ (.int .i64 t379)).setCell ⟨gb392, 3, none⟩ (.int .i64 t380)).setCell ⟨gb392, 4, none⟩ (.int .i64 t381)).setCell ⟨gb392, 5, none⟩ (.slice Ao34 t382.length co34)).setCell ⟨gb392, 6, none⟩ (.slice Ao35 t385.length co35)).setCell ⟨gb392, 7, none⟩ (.int .i64 t388)).setCell ⟨gb392, 8, none⟩ (.int .i64 t389)).setCell ⟨gb392, 9, none⟩ (.int .i64 t390)) w.heap.size (fun k_ => some k_ ≠ (.slice (some ad376) t361.length co30 : Value).ownBlock ∧ some k_ ≠ (.slice Ao34 t382.length co34 : Value).ownBlock) v374 t373) := ⟨by (with_reducible repeat (first | apply Kd.R_alloc | apply Kd.R_drewN | apply Kd.R_drew)); exact Kd.R_mono (Kd.R_far (p := ⟨gb392, 9, none⟩) (Kd.R_far (p := ⟨gb392, 8, none⟩) (Kd.R_far (p := ⟨gb392, 7, none⟩) (Kd.R_far (p := ⟨gb392, 6, none⟩) (Kd.R_far (p := ⟨gb392, 5, none⟩) (Kd.R_far (p := ⟨gb392, 4, none⟩) (Kd.R_far (p := ⟨gb392, 3, none⟩) (Kd.R_far (p := ⟨gb392, 2, none⟩) (Kd.R_far (p := ⟨gb392, 1, none⟩) (Kd.R_far (p := ⟨gb392, 0, none⟩) (Kd.R_types HO_10.out BK392.out (by decide)) (fun _ hk => hk.2) (.int .i64 t377)) (fun _ hk => hk.2) (.int .i64 t378)) (fun _ hk => hk.2) (.int .i64 t379)) (fun _ hk => hk.2) (.int .i64 t380)) (fun _ hk => hk.2) (.int .i64 t381)) (fun _ hk => hk.2) (.slice Ao34 t382.length co34)) (fun _ hk => hk.2) (.slice Ao35 t385.length co35)) (fun _ hk => hk.2) (.int .i64 t388)) (fun _ hk => hk.2) (.int .i64 t389)) (fun _ hk => hk.2) (.int .i64 t390)) (fun _ hk => ⟨hk.1.1, hk.1.2⟩)⟩
              have n2_ : Aside0 (Kd.R (Kd.int .i64) 3 ((((((((((w32.setCell ⟨gb392, 0, none⟩ (.int .i64 t377)).setCell ⟨gb392, 1, none⟩ (.int .i64 t378)).setCell ⟨gb392, 2, none⟩ (.int .i64 t379)).setCell ⟨gb392, 3, none⟩ (.int .i64 t380)).setCell ⟨gb392, 4, none⟩ (.int .i64 t381)).setCell ⟨gb392, 5, none⟩ (.slice Ao34 t382.length co34)).setCell ⟨gb392, 6, none⟩ (.slice Ao35 t385.length co35)).setCell ⟨gb392, 7, none⟩ (.int .i64 t388)).setCell ⟨gb392, 8, none⟩ (.int .i64 t389)).setCell ⟨gb392, 9, none⟩ (.int .i64 t390)) w.heap.size (fun k_ => some k_ ≠ (.slice (some ad376) t361.length co30 : Value).ownBlock ∧ some k_ ≠ (v374 : Value).ownBlock) (.slice Ao34 t382.length co34) t382) := ⟨by (with_reducible repeat (first | apply Kd.R_alloc | apply Kd.R_drewN | apply Kd.R_drew)); exact Kd.R_mono (Kd.R_far (p := ⟨gb392, 9, none⟩) (Kd.R_far (p := ⟨gb392, 8, none⟩) (Kd.R_far (p := ⟨gb392, 7, none⟩) (Kd.R_far (p := ⟨gb392, 6, none⟩) (Kd.R_far (p := ⟨gb392, 5, none⟩) (Kd.R_far (p := ⟨gb392, 4, none⟩) (Kd.R_far (p := ⟨gb392, 3, none⟩) (Kd.R_far (p := ⟨gb392, 2, none⟩) (Kd.R_far (p := ⟨gb392, 1, none⟩) (Kd.R_far (p := ⟨gb392, 0, none⟩) (Kd.R_types HO384.out BK392.out (by decide)) (fun _ hk => hk.2) (.int .i64 t377)) (fun _ hk => hk.2) (.int .i64 t378)) (fun _ hk => hk.2) (.int .i64 t379)) (fun _ hk => hk.2) (.int .i64 t380)) (fun _ hk => hk.2) (.int .i64 t381)) (fun _ hk => hk.2) (.slice Ao34 t382.length co34)) (fun _ hk => hk.2) (.slice Ao35 t385.length co35)) (fun _ hk => hk.2) (.int .i64 t388)) (fun _ hk => hk.2) (.int .i64 t389)) (fun _ hk => hk.2) (.int .i64 t390)) (fun _ hk => ⟨hk.1.1.2, hk.1.2⟩)⟩
              have n3_ : Aside0 (Kd.R k52 52 ((((((((((w32.setCell ⟨gb392, 0, none⟩ (.int .i64 t377)).setCell ⟨gb392, 1, none⟩ (.int .i64 t378)).setCell ⟨gb392, 2, none⟩ (.int .i64 t379)).setCell ⟨gb392, 3, none⟩ (.int .i64 t380)).setCell ⟨gb392, 4, none⟩ (.int .i64 t381)).setCell ⟨gb392, 5, none⟩ (.slice Ao34 t382.length co34)).setCell ⟨gb392, 6, none⟩ (.slice Ao35 t385.length co35)).setCell ⟨gb392, 7, none⟩ (.int .i64 t388)).setCell ⟨gb392, 8, none⟩ (.int .i64 t389)).setCell ⟨gb392, 9, none⟩ (.int .i64 t390)) w.heap.size (fun _ => True) (.slice Ao35 t385.length co35) t385) := ⟨by (with_reducible repeat (first | apply Kd.R_alloc | apply Kd.R_drewN | apply Kd.R_drew)); exact Kd.R_mono (Kd.R_far (p := ⟨gb392, 9, none⟩) (Kd.R_far (p := ⟨gb392, 8, none⟩) (Kd.R_far (p := ⟨gb392, 7, none⟩) (Kd.R_far (p := ⟨gb392, 6, none⟩) (Kd.R_far (p := ⟨gb392, 5, none⟩) (Kd.R_far (p := ⟨gb392, 4, none⟩) (Kd.R_far (p := ⟨gb392, 3, none⟩) (Kd.R_far (p := ⟨gb392, 2, none⟩) (Kd.R_far (p := ⟨gb392, 1, none⟩) (Kd.R_far (p := ⟨gb392, 0, none⟩) (Kd.R_types HO387.out BK392.out (by decide)) (fun _ hk => hk.2) (.int .i64 t377)) (fun _ hk => hk.2) (.int .i64 t378)) (fun _ hk => hk.2) (.int .i64 t379)) (fun _ hk => hk.2) (.int .i64 t380)) (fun _ hk => hk.2) (.int .i64 t381)) (fun _ hk => hk.2) (.slice Ao34 t382.length co34)) (fun _ hk => hk.2) (.slice Ao35 t385.length co35)) (fun _ hk => hk.2) (.int .i64 t388)) (fun _ hk => hk.2) (.int .i64 t389)) (fun _ hk => hk.2) (.int .i64 t390)) (fun _ hk => trivial)⟩
              have n4_ : Aside0 (((((((((((w32.setCell ⟨gb392, 0, none⟩ (.int .i64 t377)).setCell ⟨gb392, 1, none⟩ (.int .i64 t378)).setCell ⟨gb392, 2, none⟩ (.int .i64 t379)).setCell ⟨gb392, 3, none⟩ (.int .i64 t380)).setCell ⟨gb392, 4, none⟩ (.int .i64 t381)).setCell ⟨gb392, 5, none⟩ (.slice Ao34 t382.length co34)).setCell ⟨gb392, 6, none⟩ (.slice Ao35 t385.length co35)).setCell ⟨gb392, 7, none⟩ (.int .i64 t388)).setCell ⟨gb392, 8, none⟩ (.int .i64 t389)).setCell ⟨gb392, 9, none⟩ (.int .i64 t390)).heap[gb392]? = some (.cells #[.int .i64 t377, .int .i64 t378, .int .i64 t379, .int .i64 t380, .int .i64 t381, .slice Ao34 t382.length co34, .slice Ao35 t385.length co35, .int .i64 t388, .int .i64 t389, .int .i64 t390] 32 (0, 0))) := ⟨by (with_reducible repeat first|refine blk_drewN ?_ _|refine blk_drew ?_|refine blk_alloc ?_ _); refine blk_put (cs := #[.int .i64 t377, .int .i64 t378, .int .i64 t379, .int .i64 t380, .int .i64 t381, .slice Ao34 t382.length co34, .slice Ao35 t385.length co35, .int .i64 t388, .int .i64 t389, .int .i64 0]) ?_ 9 _ rfl; (with_reducible repeat first|refine blk_drewN ?_ _|refine blk_drew ?_|refine blk_alloc ?_ _); refine blk_put (cs := #[.int .i64 t377, .int .i64 t378, .int .i64 t379, .int .i64 t380, .int .i64 t381, .slice Ao34 t382.length co34, .slice Ao35 t385.length co35, .int .i64 t388, .int .i64 0, .int .i64 0]) ?_ 8 _ rfl; (with_reducible repeat first|refine blk_drewN ?_ _|refine blk_drew ?_|refine blk_alloc ?_ _); refine blk_put (cs := #[.int .i64 t377, .int .i64 t378, .int .i64 t379, .int .i64 t380, .int .i64 t381, .slice Ao34 t382.length co34, .slice Ao35 t385.length co35, .int .i64 0, .int .i64 0, .int .i64 0]) ?_ 7 _ rfl; (with_reducible repeat first|refine blk_drewN ?_ _|refine blk_drew ?_|refine blk_alloc ?_ _); refine blk_put (cs := #[.int .i64 t377, .int .i64 t378, .int .i64 t379, .int .i64 t380, .int .i64 t381, .slice Ao34 t382.length co34, .slice none 0 0, .int .i64 0, .int .i64 0, .int .i64 0]) ?_ 6 _ rfl; (with_reducible repeat first|refine blk_drewN ?_ _|refine blk_drew ?_|refine blk_alloc ?_ _); refine blk_put (cs := #[.int .i64 t377, .int .i64 t378, .int .i64 t379, .int .i64 t380, .int .i64 t381, .slice none 0 0, .slice none 0 0, .int .i64 0, .int .i64 0, .int .i64 0]) ?_ 5 _ rfl; (with_reducible repeat first|refine blk_drewN ?_ _|refine blk_drew ?_|refine blk_alloc ?_ _); refine blk_put (cs := #[.int .i64 t377, .int .i64 t378, .int .i64 t379, .int .i64 t380, .int .i64 0, .slice none 0 0, .slice none 0 0, .int .i64 0, .int .i64 0, .int .i64 0]) ?_ 4 _ rfl; (with_reducible repeat first|refine blk_drewN ?_ _|refine blk_drew ?_|refine blk_alloc ?_ _); refine blk_put (cs := #[.int .i64 t377, .int .i64 t378, .int .i64 t379, .int .i64 0, .int .i64 0, .slice none 0 0, .slice none 0 0, .int .i64 0, .int .i64 0, .int .i64 0]) ?_ 3 _ rfl; (with_reducible repeat first|refine blk_drewN ?_ _|refine blk_drew ?_|refine blk_alloc ?_ _); refine blk_put (cs := #[.int .i64 t377, .int .i64 t378, .int .i64 0, .int .i64 0, .int .i64 0, .slice none 0 0, .slice none 0 0, .int .i64 0, .int .i64 0, .int .i64 0]) ?_ 2 _ rfl; (with_reducible repeat first|refine blk_drewN ?_ _|refine blk_drew ?_|refine blk_alloc ?_ _); refine blk_put (cs := #[.int .i64 t377, .int .i64 0, .int .i64 0, .int .i64 0, .int .i64 0, .slice none 0 0, .slice none 0 0, .int .i64 0, .int .i64 0, .int .i64 0]) ?_ 1 _ rfl; (with_reducible repeat first|refine blk_drewN ?_ _|refine blk_drew ?_|refine blk_alloc ?_ _); refine blk_put (cs := #[.int .i64 0, .int .i64 0, .int .i64 0, .int .i64 0, .int .i64 0, .slice none 0 0, .slice none 0 0, .int .i64 0, .int .i64 0, .int .i64 0]) ?_ 0 _ rfl; (with_reducible repeat first|refine blk_drewN ?_ _|refine blk_drew ?_|refine blk_alloc ?_ _); exact BK392.out⟩
              have n5_ : Aside0 (Below w.heap.size w ((((((((((w32.setCell ⟨gb392, 0, none⟩ (.int .i64 t377)).setCell ⟨gb392, 1, none⟩ (.int .i64 t378)).setCell ⟨gb392, 2, none⟩ (.int .i64 t379)).setCell ⟨gb392, 3, none⟩ (.int .i64 t380)).setCell ⟨gb392, 4, none⟩ (.int .i64 t381)).setCell ⟨gb392, 5, none⟩ (.slice Ao34 t382.length co34)).setCell ⟨gb392, 6, none⟩ (.slice Ao35 t385.length co35)).setCell ⟨gb392, 7, none⟩ (.int .i64 t388)).setCell ⟨gb392, 8, none⟩ (.int .i64 t389)).setCell ⟨gb392, 9, none⟩ (.int .i64 t390))) := ⟨by repeat (first | (with_reducible first | exact HB.out | apply below_alloc | apply pw_below_drewN | apply below_drew1 | refine below_set ?_ GE392.out) | exact HB.out)⟩
              (try clear HO_9)
              (try clear HO_10)
              (try clear HO384)
              (try clear HO387)
              (try clear BK392)
              (try clear HB)
              generalize ((((((((((w32.setCell ⟨gb392, 0, none⟩ (.int .i64 t377)).setCell ⟨gb392, 1, none⟩ (.int .i64 t378)).setCell ⟨gb392, 2, none⟩ (.int .i64 t379)).setCell ⟨gb392, 3, none⟩ (.int .i64 t380)).setCell ⟨gb392, 4, none⟩ (.int .i64 t381)).setCell ⟨gb392, 5, none⟩ (.slice Ao34 t382.length co34)).setCell ⟨gb392, 6, none⟩ (.slice Ao35 t385.length co35)).setCell ⟨gb392, 7, none⟩ (.int .i64 t388)).setCell ⟨gb392, 8, none⟩ (.int .i64 t389)).setCell ⟨gb392, 9, none⟩ (.int .i64 t390)) = w39 at n0_ n1_ n2_ n3_ n4_ n5_ ⊢
              have HO_9 := n0_
              have HO_10 := n1_
              have HO384 := n2_
              have HO387 := n3_
              have BK392 := n4_
              have HB := n5_
              clear n0_ n1_ n2_ n3_ n4_ n5_
              have n0_ := Aside0.mk (Kd.R_drew HO_9.out)
              have n1_ := Aside0.mk (Kd.R_drew HO_10.out)
              have n2_ := Aside0.mk (Kd.R_drew HO384.out)
              have n3_ := Aside0.mk (Kd.R_drew HO387.out)
              have n4_ := Aside0.mk (blk_drew BK392.out)
              have n5_ := Aside0.mk (below_drew1 HB.out)
              clear HO_9
              clear HO_10
              clear HO384
              clear HO387
              clear BK392
              clear HB
              have HO_9 := n0_
              have HO_10 := n1_
              have HO384 := n2_
              have HO387 := n3_
              have BK392 := n4_
              have HB := n5_
              clear n0_ n1_ n2_ n3_ n4_ n5_
              have p393 : 0 ≤ (x12_2 : Int) := of_decide_eq_true (by first | (with_reducible assumption) | assumption)
              have q393 : x12_2 < (t361.length : Int) := of_decide_eq_true (by first | (with_reducible assumption) | assumption)
              obtain ⟨ad393, e393, hx393_0⟩ := Kd.at_int (Kd.R_reads' HO_9.out).2.2 x12_2 p393 q393
              obtain rfl : ad376 = ad393 := (by injection e393)
              replace p393 := eq_true p393
              replace q393 := eq_true q393
              refine start_ (n := 17) (S := fun w' => w'.cell? ⟨gb392, 0, none⟩ = some (.int .i64 t377) ∧ w'.cell? ⟨gb392, 1, none⟩ = some (.int .i64 t378) ∧ w'.cell? ⟨gb392, 2, none⟩ = some (.int .i64 t379) ∧ w'.cell? ⟨gb392, 3, none⟩ = some (.int .i64 t380) ∧ w'.cell? ⟨gb392, 4, none⟩ = some (.int .i64 t381) ∧ w'.cell? ⟨gb392, 5, none⟩ = some (.slice Ao34 t382.length co34) ∧ w'.cell? ⟨gb392, 6, none⟩ = some (.slice Ao35 t385.length co35) ∧ w'.cell? ⟨gb392, 7, none⟩ = some (.int .i64 t388) ∧ w'.cell? ⟨gb392, 8, none⟩ = some (.int .i64 t389) ∧ w'.cell? ⟨gb392, 9, none⟩ = some (.int .i64 t390) ∧ w'.cell? (ad376.add (x12_2).toNat) = some (.int .i64 (rd t361 x12_2))) (ds := []) #[false, false, false, false, false, false, false, false, false, false, false, false, false, false, false, false, false] (by kernel_rfl) rfl rfl ⟨(blk_cell BK392.out 0).trans rfl, (blk_cell BK392.out 1).trans rfl, (blk_cell BK392.out 2).trans rfl, (blk_cell BK392.out 3).trans rfl, (blk_cell BK392.out 4).trans rfl, (blk_cell BK392.out 5).trans rfl, (blk_cell BK392.out 6).trans rfl, (blk_cell BK392.out 7).trans rfl, (blk_cell BK392.out 8).trans rfl, (blk_cell BK392.out 9).trans rfl, hx393_0⟩ (fun hHeld => ?_); refine with_tabW skiarealaw22_ProductLess.tab12 skiarealaw22_ProductLess.bits12 (fun HT_ HW_ => ?_)
              generalize w39.drew = w40 at HO_9 HO_10 HO384 HO387 BK392 HB hx393_0 hHeld ⊢
              refine pure_ (i := 0) (N := some 58) (v := ?_) (a' := ?_) #[true, false, false, false, false, false, false, false, false, false, false, false, false, false, false, false, false] rfl rfl (any_of HT_.out (by kernel_rfl)) (fun _ _ _ h => h) (Or.inl ⟨by rfl, ?_⟩) ?_ ?_
              rotate_left
              ·intro w'
               go_simp
               with_reducible rfl
              rotate_left
              ·simp only [Act.put, List.setIfInBounds_toArray, List.set_cons_zero, List.set_cons_succ, i64_w, i32_w]
               rfl
              refine pure_ (i := 1) (N := some 59) (v := ?_) (a' := ?_) #[true, true, false, false, false, false, false, false, false, false, false, false, false, false, false, false, false] rfl rfl (any_of HT_.out (by kernel_rfl)) (fun _ _ _ h => h) (Or.inl ⟨by rfl, ?_⟩) ?_ ?_
              rotate_left
              ·intro w'
               go_simp
               with_reducible rfl
              rotate_left
              ·simp only [Act.put, List.setIfInBounds_toArray, List.set_cons_zero, List.set_cons_succ, i64_w, i32_w]
               rfl
              refine pure_ (i := 2) (N := some 60) (v := ?_) (a' := ?_) #[true, true, true, false, false, false, false, false, false, false, false, false, false, false, false, false, false] rfl rfl (any_of HT_.out (by kernel_rfl)) (fun _ _ _ h => h) (Or.inl ⟨by rfl, ?_⟩) ?_ ?_
              rotate_left
              ·intro w'
               go_simp
               with_reducible rfl
              rotate_left
              ·simp only [Act.put, List.setIfInBounds_toArray, List.set_cons_zero, List.set_cons_succ, i64_w, i32_w]
               rfl
              refine pure_ (i := 3) (N := some 61) (v := ?_) (a' := ?_) #[true, true, true, true, false, false, false, false, false, false, false, false, false, false, false, false, false] rfl rfl (any_of HT_.out (by kernel_rfl)) (fun _ _ _ h => h) (Or.inl ⟨by rfl, ?_⟩) ?_ ?_
              rotate_left
              ·intro w'
               go_simp
               with_reducible rfl
              rotate_left
              ·simp only [Act.put, List.setIfInBounds_toArray, List.set_cons_zero, List.set_cons_succ, i64_w, i32_w]
               rfl
              refine pure_ (i := 5) (N := some 63) (v := ?_) (a' := ?_) #[true, true, true, true, false, true, false, false, false, false, false, false, false, false, false, false, false] rfl rfl (any_of HT_.out (by kernel_rfl)) (fun _ _ _ h => h) (Or.inl ⟨by rfl, ?_⟩) ?_ ?_
              rotate_left
              ·intro w'
               go_simp
               with_reducible rfl
              rotate_left
              ·simp only [Act.put, List.setIfInBounds_toArray, List.set_cons_zero, List.set_cons_succ, i64_w, i32_w]
               rfl
              refine pure_ (i := 6) (N := some 64) (v := ?_) (a' := ?_) #[true, true, true, true, false, true, true, false, false, false, false, false, false, false, false, false, false] rfl rfl (any_of HT_.out (by kernel_rfl)) (fun _ _ _ h => h) (Or.inl ⟨by rfl, ?_⟩) ?_ ?_
              rotate_left
              ·intro w'
               go_simp
               with_reducible rfl
              rotate_left
              ·simp only [Act.put, List.setIfInBounds_toArray, List.set_cons_zero, List.set_cons_succ, i64_w, i32_w]
               rfl
              refine pure_ (i := 7) (N := some 65) (v := ?_) (a' := ?_) #[true, true, true, true, false, true, true, true, false, false, false, false, false, false, false, false, false] rfl rfl (any_of HT_.out (by kernel_rfl)) (fun _ _ _ h => h) (Or.inl ⟨by rfl, ?_⟩) ?_ ?_
              rotate_left
              ·intro w'
               go_simp
               with_reducible rfl
              rotate_left
              ·simp only [Act.put, List.setIfInBounds_toArray, List.set_cons_zero, List.set_cons_succ, i64_w, i32_w]
               rfl
              refine take_ (i := 4) (N := some 62) (v := ?_) (a' := ?_) #[true, true, true, true, true, true, true, true, false, false, false, false, false, false, false, false, false] rfl rfl (take_ofW HT_.out HW_.out (by kernel_rfl)) (fun _ _ _ h => h) (Or.inl ⟨by rfl, ?_⟩) hHeld ?_ ?_
              rotate_left
              ·rintro w' ⟨s0, s1, s2, s3, s4, s5, s6, s7, s8, s9, s10⟩
               go_simp
               with_reducible rfl
              rotate_left
              ·simp only [Act.put, List.setIfInBounds_toArray, List.set_cons_zero, List.set_cons_succ, i64_w, i32_w]
               rfl
              refine take_ (i := 8) (N := some 66) (v := ?_) (a' := ?_) #[true, true, true, true, true, true, true, true, true, false, false, false, false, false, false, false, false] rfl rfl (take_ofW HT_.out HW_.out (by kernel_rfl)) (fun _ _ _ h => h) (Or.inl ⟨by rfl, ?_⟩) hHeld ?_ ?_
              rotate_left
              ·rintro w' ⟨s0, s1, s2, s3, s4, s5, s6, s7, s8, s9, s10⟩
               go_simp
               with_reducible rfl
              rotate_left
              ·simp only [Act.put, List.setIfInBounds_toArray, List.set_cons_zero, List.set_cons_succ, i64_w, i32_w]
               rfl
              refine pure_ (i := 9) (N := some 67) (v := ?_) (a' := ?_) #[true, true, true, true, true, true, true, true, true, true, false, false, false, false, false, false, false] rfl rfl (any_of HT_.out (by kernel_rfl)) (fun _ _ _ h => h) (Or.inl ⟨by rfl, ?_⟩) ?_ ?_
              rotate_left
              ·intro w'
               go_simp
               with_reducible rfl
              rotate_left
              ·simp only [Act.put, List.setIfInBounds_toArray, List.set_cons_zero, List.set_cons_succ, i64_w, i32_w]
               rfl
              refine pure_ (i := 10) (N := some 68) (v := ?_) (a' := ?_) #[true, true, true, true, true, true, true, true, true, true, true, false, false, false, false, false, false] rfl rfl (any_of HT_.out (by kernel_rfl)) (fun _ _ _ h => h) (Or.inl ⟨by rfl, ?_⟩) ?_ ?_
              rotate_left
              ·intro w'
               go_simp
               with_reducible rfl
              rotate_left
              ·simp only [Act.put, List.setIfInBounds_toArray, List.set_cons_zero, List.set_cons_succ, i64_w, i32_w]
               rfl
              refine pure_ (i := 11) (N := some 69) (v := ?_) (a' := ?_) #[true, true, true, true, true, true, true, true, true, true, true, true, false, false, false, false, false] rfl rfl (any_of HT_.out (by kernel_rfl)) (fun _ _ _ h => h) (Or.inl ⟨by rfl, ?_⟩) ?_ ?_
              rotate_left
              ·intro w'
               go_simp
               with_reducible rfl
              rotate_left
              ·simp only [Act.put, List.setIfInBounds_toArray, List.set_cons_zero, List.set_cons_succ, i64_w, i32_w]
               rfl
              refine pure_ (i := 13) (N := some 71) (v := ?_) (a' := ?_) #[true, true, true, true, true, true, true, true, true, true, true, true, false, true, false, false, false] rfl rfl (any_of HT_.out (by kernel_rfl)) (fun _ _ _ h => h) (Or.inl ⟨by rfl, ?_⟩) ?_ ?_
              rotate_left
              ·intro w'
               go_simp
               with_reducible rfl
              rotate_left
              ·simp only [Act.put, List.setIfInBounds_toArray, List.set_cons_zero, List.set_cons_succ, i64_w, i32_w]
               rfl
              refine take_ (i := 12) (N := some 70) (v := ?_) (a' := ?_) #[true, true, true, true, true, true, true, true, true, true, true, true, true, true, false, false, false] rfl rfl (take_ofW HT_.out HW_.out (by kernel_rfl)) (fun _ _ _ h => h) (Or.inl ⟨by rfl, ?_⟩) hHeld ?_ ?_
              rotate_left
              ·rintro w' ⟨s0, s1, s2, s3, s4, s5, s6, s7, s8, s9, s10⟩
               go_simp
               with_reducible rfl
              rotate_left
              ·simp only [Act.put, List.setIfInBounds_toArray, List.set_cons_zero, List.set_cons_succ, i64_w, i32_w]
               rfl
              refine one_ (i := 14) (N := some 72) #[true, true, true, true, true, true, true, true, true, true, true, true, true, true, true, false, false] rfl rfl (one_of HT_.out (by kernel_rfl)) (by decide) (fun K hK => ?_)
              refine goes_ Try.func17 (by kernel_rfl) rfl #[.agg #[.int .i64 t377, .int .i64 t378, .int .i64 t379, .int .i64 t380, .int .i64 t381, .slice Ao34 t382.length co34, .slice Ao35 t385.length co35, .int .i64 t388, .int .i64 t389, .int .i64 t390], .int .i64 a1] (by rfl) rfl rfl (by (try simp only [List.map_toArray, List.map_cons, List.map_nil]); first | done | rfl | (simp only [List.length_drop, List.length_take]; rfl)) ?_
              with_reducible refine (product_Age.calls t377 t378 t379 t380 t381 _ _ t382 _ _ t385 t388 t389 t390 a1 t394 _ ?side1 ?side2 ?side3 ?side4 A38.out).mono ?_
              (case side1 => repeat (first | exact (Kd.R_reads' HO384.out).2.2 | (with_reducible refine Kd.C_alloc ?_ _) | (with_reducible refine Kd.C_drewN ?_ _) | (with_reducible refine Kd.C_drew ?_)))
              (case side2 => exact (Kd.R_reads' HO384.out).2.1)
              (case side3 => repeat (first | exact (Kd.R_reads' HO387.out).2.2 | (with_reducible refine Kd.C_alloc ?_ _) | (with_reducible refine Kd.C_drewN ?_ _) | (with_reducible refine Kd.C_drew ?_)))
              (case side4 => exact (Kd.R_reads' HO387.out).2.1)
              rintro e w41 ⟨rfl, hb⟩
              have HS10_ := (hb.cell (World.block_lt_of_cell? _ _ (hHeld.2.2.2.2.2.2.2.2.2.2))).trans (hHeld.2.2.2.2.2.2.2.2.2.2)
              refine ⟨_, rfl, ?_⟩
              have n0_ := Aside0.mk (Kd.R_below (by (with_reducible repeat (first | apply Kd.R_alloc | apply Kd.R_drewN | apply Kd.R_drew)); exact HO_9.out) hb)
              have n1_ := Aside0.mk (Kd.R_below (by (with_reducible repeat (first | apply Kd.R_alloc | apply Kd.R_drewN | apply Kd.R_drew)); exact HO_10.out) hb)
              have n2_ := Aside0.mk (Kd.R_below (by (with_reducible repeat (first | apply Kd.R_alloc | apply Kd.R_drewN | apply Kd.R_drew)); exact HO384.out) hb)
              have n3_ := Aside0.mk (Kd.R_below (by (with_reducible repeat (first | apply Kd.R_alloc | apply Kd.R_drewN | apply Kd.R_drew)); exact HO387.out) hb)
              have n4_ := Aside0.mk (blk_below (g := gb392) (by (with_reducible repeat first|refine blk_drewN ?_ _|refine blk_drew ?_|refine blk_alloc ?_ _); exact BK392.out) hb)
              have n5_ := Aside0.mk (below_step (by repeat (first | (with_reducible first | exact HB.out | apply below_alloc | apply pw_below_drewN | apply below_drew1 | refine below_set ?_ GE392.out) | exact HB.out)) hb)
              clear HO_9
              clear HO_10
              clear HO384
              clear HO387
              clear BK392
              clear HB
              have HO_9 := n0_
              have HO_10 := n1_
              have HO384 := n2_
              have HO387 := n3_
              have BK392 := n4_
              have HB := n5_
              clear n0_ n1_ n2_ n3_ n4_ n5_
              (try clear hb)
              (try clear hb2)
              (try clear hk)
              (try clear hi)
              refine hK.out _ _ ⟨(blk_cell BK392.out 0).trans rfl, (blk_cell BK392.out 1).trans rfl, (blk_cell BK392.out 2).trans rfl, (blk_cell BK392.out 3).trans rfl, (blk_cell BK392.out 4).trans rfl, (blk_cell BK392.out 5).trans rfl, (blk_cell BK392.out 6).trans rfl, (blk_cell BK392.out 7).trans rfl, (blk_cell BK392.out 8).trans rfl, (blk_cell BK392.out 9).trans rfl, HS10_⟩ (fun hHeld => ?_)
              clear hK K
              refine norm_ (a' := ?_) ?_ ?_
              rotate_left
              ·show Act.put _ (some 72) _ = _
               simp only [Act.put, List.setIfInBounds_toArray, List.set_cons_zero, List.set_cons_succ, i64_w, i32_w]
               rfl
              refine pure_ (i := 15) (N := some 73) (v := ?_) (a' := ?_) #[true, true, true, true, true, true, true, true, true, true, true, true, true, true, true, true, false] rfl rfl (any_of HT_.out (by kernel_rfl)) (fun _ _ _ h => h) (Or.inl ⟨by rfl, ?_⟩) ?_ ?_
              rotate_left
              ·intro w'
               go_simp
               with_reducible rfl
              rotate_left
              ·simp only [Act.put, List.setIfInBounds_toArray, List.set_cons_zero, List.set_cons_succ, i64_w, i32_w]
               rfl
              refine pure_ (i := 16) (N := some 74) (v := ?_) (a' := ?_) #[true, true, true, true, true, true, true, true, true, true, true, true, true, true, true, true, true] rfl rfl (any_of HT_.out (by kernel_rfl)) (fun _ _ _ h => h) (Or.inl ⟨by rfl, ?_⟩) ?_ ?_
              rotate_left
              ·intro w'
               go_simp
               with_reducible rfl
              rotate_left
              ·simp only [Act.put, List.setIfInBounds_toArray, List.set_cons_zero, List.set_cons_succ, i64_w, i32_w]
               rfl
              refine done_ (done_of HT_.out (by kernel_rfl)) ?_
              try go_wp2
              go_meet
              case rel => exact ⟨_, (!t394), (by first | rfl | (simp; done) | (simp [*]; done)), H', ⟨by have := HJ6.out; have := HK2.out; first | omega | exact Nat.le_refl _⟩, ⟨by (with_reducible repeat (first | apply Kd.R_alloc | apply Kd.R_drewN | apply Kd.R_drew)); exact HO_9.out⟩, ⟨by (with_reducible repeat (first | apply Kd.R_alloc | apply Kd.R_drewN | apply Kd.R_drew)); exact HO_10.out⟩, ⟨by (with_reducible repeat (first | apply Kd.R_alloc | apply Kd.R_drewN | apply Kd.R_drew)); exact HO384.out⟩, ⟨by (with_reducible repeat (first | apply Kd.R_alloc | apply Kd.R_drewN | apply Kd.R_drew)); exact HO387.out⟩, ⟨by (with_reducible repeat first|refine blk_drewN ?_ _|refine blk_drew ?_|refine blk_alloc ?_ _); exact BK392.out⟩, ⟨by repeat (first | (with_reducible first | exact HB.out | apply below_alloc | apply pw_below_drewN | apply below_drew1 | refine below_set ?_ GE392.out) | exact HB.out)⟩⟩
             ·rw [if_neg c37] at H
              have c37b0 : (t377 == (rd t361 x12_2)) = false := beq_eq_false_iff_ne.mpr c37
              have c37b1 : (t377 != (rd t361 x12_2)) = true := bne_iff_ne.mpr c37
              (first | rw [c37b0] | (simp only [i64_w, i32_w]; rw [c37b0]) | skip)
              have H' := Aside0.mk H
              clear H
              try go_wp2
              have n0_ : Aside0 (Kd.R (Kd.int .i64) 3 ((((((((((w32.setCell ⟨gb392, 0, none⟩ (.int .i64 t377)).setCell ⟨gb392, 1, none⟩ (.int .i64 t378)).setCell ⟨gb392, 2, none⟩ (.int .i64 t379)).setCell ⟨gb392, 3, none⟩ (.int .i64 t380)).setCell ⟨gb392, 4, none⟩ (.int .i64 t381)).setCell ⟨gb392, 5, none⟩ (.slice Ao34 t382.length co34)).setCell ⟨gb392, 6, none⟩ (.slice Ao35 t385.length co35)).setCell ⟨gb392, 7, none⟩ (.int .i64 t388)).setCell ⟨gb392, 8, none⟩ (.int .i64 t389)).setCell ⟨gb392, 9, none⟩ (.int .i64 t390)) w.heap.size (fun k_ => some k_ ≠ (v374 : Value).ownBlock ∧ some k_ ≠ (.slice Ao34 t382.length co34 : Value).ownBlock) (.slice (some ad376) t361.length co30) t361) := ⟨by (with_reducible repeat (first | apply Kd.R_alloc | apply Kd.R_drewN | apply Kd.R_drew)); exact Kd.R_mono (Kd.R_far (p := ⟨gb392, 9, none⟩) (Kd.R_far (p := ⟨gb392, 8, none⟩) (Kd.R_far (p := ⟨gb392, 7, none⟩) (Kd.R_far (p := ⟨gb392, 6, none⟩) (Kd.R_far (p := ⟨gb392, 5, none⟩) (Kd.R_far (p := ⟨gb392, 4, none⟩) (Kd.R_far (p := ⟨gb392, 3, none⟩) (Kd.R_far (p := ⟨gb392, 2, none⟩) (Kd.R_far (p := ⟨gb392, 1, none⟩) (Kd.R_far (p := ⟨gb392, 0, none⟩) (Kd.R_types HO_9.out BK392.out (by decide)) (fun _ hk => hk.2) (.int .i64 t377)) (fun _ hk => hk.2) (.int .i64 t378)) (fun _ hk => hk.2) (.int .i64 t379)) (fun _ hk => hk.2) (.int .i64 t380)) (fun _ hk => hk.2) (.int .i64 t381)) (fun _ hk => hk.2) (.slice Ao34 t382.length co34)) (fun _ hk => hk.2) (.slice Ao35 t385.length co35)) (fun _ hk => hk.2) (.int .i64 t388)) (fun _ hk => hk.2) (.int .i64 t389)) (fun _ hk => hk.2) (.int .i64 t390)) (fun _ hk => ⟨hk.1.1, hk.1.2⟩)⟩
              have n1_ : Aside0 (Kd.R (Kd.int .i64) 3 ((((((((((w32.setCell ⟨gb392, 0, none⟩ (.int .i64 t377)).setCell ⟨gb392, 1, none⟩ (.int .i64 t378)).setCell ⟨gb392, 2, none⟩ (.int .i64 t379)).setCell ⟨gb392, 3, none⟩ (.int .i64 t380)).setCell ⟨gb392, 4, none⟩ (.int .i64 t381)).setCell ⟨gb392, 5, none⟩ (.slice Ao34 t382.length co34)).setCell ⟨gb392, 6, none⟩ (.slice Ao35 t385.length co35)).setCell ⟨gb392, 7, none⟩ (.int .i64 t388)).setCell ⟨gb392, 8, none⟩ (.int .i64 t389)).setCell ⟨gb392, 9, none⟩ (.int .i64 t390)) w.heap.size (fun k_ => some k_ ≠ (.slice (some ad376) t361.length co30 : Value).ownBlock ∧ some k_ ≠ (.slice Ao34 t382.length co34 : Value).ownBlock) v374 t373) := ⟨by (with_reducible repeat (first | apply Kd.R_alloc | apply Kd.R_drewN | apply Kd.R_drew)); exact Kd.R_mono (Kd.R_far (p := ⟨gb392, 9, none⟩) (Kd.R_far (p := ⟨gb392, 8, none⟩) (Kd.R_far (p := ⟨gb392, 7, none⟩) (Kd.R_far (p := ⟨gb392, 6, none⟩) (Kd.R_far (p := ⟨gb392, 5, none⟩) (Kd.R_far (p := ⟨gb392, 4, none⟩) (Kd.R_far (p := ⟨gb392, 3, none⟩) (Kd.R_far (p := ⟨gb392, 2, none⟩) (Kd.R_far (p := ⟨gb392, 1, none⟩) (Kd.R_far (p := ⟨gb392, 0, none⟩) (Kd.R_types HO_10.out BK392.out (by decide)) (fun _ hk => hk.2) (.int .i64 t377)) (fun _ hk => hk.2) (.int .i64 t378)) (fun _ hk => hk.2) (.int .i64 t379)) (fun _ hk => hk.2) (.int .i64 t380)) (fun _ hk => hk.2) (.int .i64 t381)) (fun _ hk => hk.2) (.slice Ao34 t382.length co34)) (fun _ hk => hk.2) (.slice Ao35 t385.length co35)) (fun _ hk => hk.2) (.int .i64 t388)) (fun _ hk => hk.2) (.int .i64 t389)) (fun _ hk => hk.2) (.int .i64 t390)) (fun _ hk => ⟨hk.1.1, hk.1.2⟩)⟩
              have n2_ : Aside0 (Kd.R (Kd.int .i64) 3 ((((((((((w32.setCell ⟨gb392, 0, none⟩ (.int .i64 t377)).setCell ⟨gb392, 1, none⟩ (.int .i64 t378)).setCell ⟨gb392, 2, none⟩ (.int .i64 t379)).setCell ⟨gb392, 3, none⟩ (.int .i64 t380)).setCell ⟨gb392, 4, none⟩ (.int .i64 t381)).setCell ⟨gb392, 5, none⟩ (.slice Ao34 t382.length co34)).setCell ⟨gb392, 6, none⟩ (.slice Ao35 t385.length co35)).setCell ⟨gb392, 7, none⟩ (.int .i64 t388)).setCell ⟨gb392, 8, none⟩ (.int .i64 t389)).setCell ⟨gb392, 9, none⟩ (.int .i64 t390)) w.heap.size (fun k_ => some k_ ≠ (.slice (some ad376) t361.length co30 : Value).ownBlock ∧ some k_ ≠ (v374 : Value).ownBlock) (.slice Ao34 t382.length co34) t382) := ⟨by (with_reducible repeat (first | apply Kd.R_alloc | apply Kd.R_drewN | apply Kd.R_drew)); exact Kd.R_mono (Kd.R_far (p := ⟨gb392, 9, none⟩) (Kd.R_far (p := ⟨gb392, 8, none⟩) (Kd.R_far (p := ⟨gb392, 7, none⟩) (Kd.R_far (p := ⟨gb392, 6, none⟩) (Kd.R_far (p := ⟨gb392, 5, none⟩) (Kd.R_far (p := ⟨gb392, 4, none⟩) (Kd.R_far (p := ⟨gb392, 3, none⟩) (Kd.R_far (p := ⟨gb392, 2, none⟩) (Kd.R_far (p := ⟨gb392, 1, none⟩) (Kd.R_far (p := ⟨gb392, 0, none⟩) (Kd.R_types HO384.out BK392.out (by decide)) (fun _ hk => hk.2) (.int .i64 t377)) (fun _ hk => hk.2) (.int .i64 t378)) (fun _ hk => hk.2) (.int .i64 t379)) (fun _ hk => hk.2) (.int .i64 t380)) (fun _ hk => hk.2) (.int .i64 t381)) (fun _ hk => hk.2) (.slice Ao34 t382.length co34)) (fun _ hk => hk.2) (.slice Ao35 t385.length co35)) (fun _ hk => hk.2) (.int .i64 t388)) (fun _ hk => hk.2) (.int .i64 t389)) (fun _ hk => hk.2) (.int .i64 t390)) (fun _ hk => ⟨hk.1.1.2, hk.1.2⟩)⟩
              have n3_ : Aside0 (Kd.R k52 52 ((((((((((w32.setCell ⟨gb392, 0, none⟩ (.int .i64 t377)).setCell ⟨gb392, 1, none⟩ (.int .i64 t378)).setCell ⟨gb392, 2, none⟩ (.int .i64 t379)).setCell ⟨gb392, 3, none⟩ (.int .i64 t380)).setCell ⟨gb392, 4, none⟩ (.int .i64 t381)).setCell ⟨gb392, 5, none⟩ (.slice Ao34 t382.length co34)).setCell ⟨gb392, 6, none⟩ (.slice Ao35 t385.length co35)).setCell ⟨gb392, 7, none⟩ (.int .i64 t388)).setCell ⟨gb392, 8, none⟩ (.int .i64 t389)).setCell ⟨gb392, 9, none⟩ (.int .i64 t390)) w.heap.size (fun _ => True) (.slice Ao35 t385.length co35) t385) := ⟨by (with_reducible repeat (first | apply Kd.R_alloc | apply Kd.R_drewN | apply Kd.R_drew)); exact Kd.R_mono (Kd.R_far (p := ⟨gb392, 9, none⟩) (Kd.R_far (p := ⟨gb392, 8, none⟩) (Kd.R_far (p := ⟨gb392, 7, none⟩) (Kd.R_far (p := ⟨gb392, 6, none⟩) (Kd.R_far (p := ⟨gb392, 5, none⟩) (Kd.R_far (p := ⟨gb392, 4, none⟩) (Kd.R_far (p := ⟨gb392, 3, none⟩) (Kd.R_far (p := ⟨gb392, 2, none⟩) (Kd.R_far (p := ⟨gb392, 1, none⟩) (Kd.R_far (p := ⟨gb392, 0, none⟩) (Kd.R_types HO387.out BK392.out (by decide)) (fun _ hk => hk.2) (.int .i64 t377)) (fun _ hk => hk.2) (.int .i64 t378)) (fun _ hk => hk.2) (.int .i64 t379)) (fun _ hk => hk.2) (.int .i64 t380)) (fun _ hk => hk.2) (.int .i64 t381)) (fun _ hk => hk.2) (.slice Ao34 t382.length co34)) (fun _ hk => hk.2) (.slice Ao35 t385.length co35)) (fun _ hk => hk.2) (.int .i64 t388)) (fun _ hk => hk.2) (.int .i64 t389)) (fun _ hk => hk.2) (.int .i64 t390)) (fun _ hk => trivial)⟩
              have n4_ : Aside0 (((((((((((w32.setCell ⟨gb392, 0, none⟩ (.int .i64 t377)).setCell ⟨gb392, 1, none⟩ (.int .i64 t378)).setCell ⟨gb392, 2, none⟩ (.int .i64 t379)).setCell ⟨gb392, 3, none⟩ (.int .i64 t380)).setCell ⟨gb392, 4, none⟩ (.int .i64 t381)).setCell ⟨gb392, 5, none⟩ (.slice Ao34 t382.length co34)).setCell ⟨gb392, 6, none⟩ (.slice Ao35 t385.length co35)).setCell ⟨gb392, 7, none⟩ (.int .i64 t388)).setCell ⟨gb392, 8, none⟩ (.int .i64 t389)).setCell ⟨gb392, 9, none⟩ (.int .i64 t390)).heap[gb392]? = some (.cells #[.int .i64 t377, .int .i64 t378, .int .i64 t379, .int .i64 t380, .int .i64 t381, .slice Ao34 t382.length co34, .slice Ao35 t385.length co35, .int .i64 t388, .int .i64 t389, .int .i64 t390] 32 (0, 0))) := ⟨by (with_reducible repeat first|refine blk_drewN ?_ _|refine blk_drew ?_|refine blk_alloc ?_ _); refine blk_put (cs := #[.int .i64 t377, .int .i64 t378, .int .i64 t379, .int .i64 t380, .int .i64 t381, .slice Ao34 t382.length co34, .slice Ao35 t385.length co35, .int .i64 t388, .int .i64 t389, .int .i64 0]) ?_ 9 _ rfl; (with_reducible repeat first|refine blk_drewN ?_ _|refine blk_drew ?_|refine blk_alloc ?_ _); refine blk_put (cs := #[.int .i64 t377, .int .i64 t378, .int .i64 t379, .int .i64 t380, .int .i64 t381, .slice Ao34 t382.length co34, .slice Ao35 t385.length co35, .int .i64 t388, .int .i64 0, .int .i64 0]) ?_ 8 _ rfl; (with_reducible repeat first|refine blk_drewN ?_ _|refine blk_drew ?_|refine blk_alloc ?_ _); refine blk_put (cs := #[.int .i64 t377, .int .i64 t378, .int .i64 t379, .int .i64 t380, .int .i64 t381, .slice Ao34 t382.length co34, .slice Ao35 t385.length co35, .int .i64 0, .int .i64 0, .int .i64 0]) ?_ 7 _ rfl; (with_reducible repeat first|refine blk_drewN ?_ _|refine blk_drew ?_|refine blk_alloc ?_ _); refine blk_put (cs := #[.int .i64 t377, .int .i64 t378, .int .i64 t379, .int .i64 t380, .int .i64 t381, .slice Ao34 t382.length co34, .slice none 0 0, .int .i64 0, .int .i64 0, .int .i64 0]) ?_ 6 _ rfl; (with_reducible repeat first|refine blk_drewN ?_ _|refine blk_drew ?_|refine blk_alloc ?_ _); refine blk_put (cs := #[.int .i64 t377, .int .i64 t378, .int .i64 t379, .int .i64 t380, .int .i64 t381, .slice none 0 0, .slice none 0 0, .int .i64 0, .int .i64 0, .int .i64 0]) ?_ 5 _ rfl; (with_reducible repeat first|refine blk_drewN ?_ _|refine blk_drew ?_|refine blk_alloc ?_ _); refine blk_put (cs := #[.int .i64 t377, .int .i64 t378, .int .i64 t379, .int .i64 t380, .int .i64 0, .slice none 0 0, .slice none 0 0, .int .i64 0, .int .i64 0, .int .i64 0]) ?_ 4 _ rfl; (with_reducible repeat first|refine blk_drewN ?_ _|refine blk_drew ?_|refine blk_alloc ?_ _); refine blk_put (cs := #[.int .i64 t377, .int .i64 t378, .int .i64 t379, .int .i64 0, .int .i64 0, .slice none 0 0, .slice none 0 0, .int .i64 0, .int .i64 0, .int .i64 0]) ?_ 3 _ rfl; (with_reducible repeat first|refine blk_drewN ?_ _|refine blk_drew ?_|refine blk_alloc ?_ _); refine blk_put (cs := #[.int .i64 t377, .int .i64 t378, .int .i64 0, .int .i64 0, .int .i64 0, .slice none 0 0, .slice none 0 0, .int .i64 0, .int .i64 0, .int .i64 0]) ?_ 2 _ rfl; (with_reducible repeat first|refine blk_drewN ?_ _|refine blk_drew ?_|refine blk_alloc ?_ _); refine blk_put (cs := #[.int .i64 t377, .int .i64 0, .int .i64 0, .int .i64 0, .int .i64 0, .slice none 0 0, .slice none 0 0, .int .i64 0, .int .i64 0, .int .i64 0]) ?_ 1 _ rfl; (with_reducible repeat first|refine blk_drewN ?_ _|refine blk_drew ?_|refine blk_alloc ?_ _); refine blk_put (cs := #[.int .i64 0, .int .i64 0, .int .i64 0, .int .i64 0, .int .i64 0, .slice none 0 0, .slice none 0 0, .int .i64 0, .int .i64 0, .int .i64 0]) ?_ 0 _ rfl; (with_reducible repeat first|refine blk_drewN ?_ _|refine blk_drew ?_|refine blk_alloc ?_ _); exact BK392.out⟩
              have n5_ : Aside0 (Below w.heap.size w ((((((((((w32.setCell ⟨gb392, 0, none⟩ (.int .i64 t377)).setCell ⟨gb392, 1, none⟩ (.int .i64 t378)).setCell ⟨gb392, 2, none⟩ (.int .i64 t379)).setCell ⟨gb392, 3, none⟩ (.int .i64 t380)).setCell ⟨gb392, 4, none⟩ (.int .i64 t381)).setCell ⟨gb392, 5, none⟩ (.slice Ao34 t382.length co34)).setCell ⟨gb392, 6, none⟩ (.slice Ao35 t385.length co35)).setCell ⟨gb392, 7, none⟩ (.int .i64 t388)).setCell ⟨gb392, 8, none⟩ (.int .i64 t389)).setCell ⟨gb392, 9, none⟩ (.int .i64 t390))) := ⟨by repeat (first | (with_reducible first | exact HB.out | apply below_alloc | apply pw_below_drewN | apply below_drew1 | refine below_set ?_ GE392.out) | exact HB.out)⟩
              (try clear HO_9)
              (try clear HO_10)
              (try clear HO384)
              (try clear HO387)
              (try clear BK392)
              (try clear HB)
              generalize ((((((((((w32.setCell ⟨gb392, 0, none⟩ (.int .i64 t377)).setCell ⟨gb392, 1, none⟩ (.int .i64 t378)).setCell ⟨gb392, 2, none⟩ (.int .i64 t379)).setCell ⟨gb392, 3, none⟩ (.int .i64 t380)).setCell ⟨gb392, 4, none⟩ (.int .i64 t381)).setCell ⟨gb392, 5, none⟩ (.slice Ao34 t382.length co34)).setCell ⟨gb392, 6, none⟩ (.slice Ao35 t385.length co35)).setCell ⟨gb392, 7, none⟩ (.int .i64 t388)).setCell ⟨gb392, 8, none⟩ (.int .i64 t389)).setCell ⟨gb392, 9, none⟩ (.int .i64 t390)) = w42 at n0_ n1_ n2_ n3_ n4_ n5_ ⊢
              have HO_9 := n0_
              have HO_10 := n1_
              have HO384 := n2_
              have HO387 := n3_
              have BK392 := n4_
              have HB := n5_
              clear n0_ n1_ n2_ n3_ n4_ n5_
              have n0_ := Aside0.mk (Kd.R_drew HO_9.out)
              have n1_ := Aside0.mk (Kd.R_drew HO_10.out)
              have n2_ := Aside0.mk (Kd.R_drew HO384.out)
              have n3_ := Aside0.mk (Kd.R_drew HO387.out)
              have n4_ := Aside0.mk (blk_drew BK392.out)
              have n5_ := Aside0.mk (below_drew1 HB.out)
              clear HO_9
              clear HO_10
              clear HO384
              clear HO387
              clear BK392
              clear HB
              have HO_9 := n0_
              have HO_10 := n1_
              have HO384 := n2_
              have HO387 := n3_
              have BK392 := n4_
              have HB := n5_
              clear n0_ n1_ n2_ n3_ n4_ n5_
              have p393 : 0 ≤ (x12_2 : Int) := of_decide_eq_true (by first | (with_reducible assumption) | assumption)
              have q393 : x12_2 < (t361.length : Int) := of_decide_eq_true (by first | (with_reducible assumption) | assumption)
              obtain ⟨ad393, e393, hx393_0⟩ := Kd.at_int (Kd.R_reads' HO_9.out).2.2 x12_2 p393 q393
              obtain rfl : ad376 = ad393 := (by injection e393)
              replace p393 := eq_true p393
              replace q393 := eq_true q393
              refine start_ (n := 17) (S := fun w' => w'.cell? ⟨gb392, 0, none⟩ = some (.int .i64 t377) ∧ w'.cell? ⟨gb392, 1, none⟩ = some (.int .i64 t378) ∧ w'.cell? ⟨gb392, 2, none⟩ = some (.int .i64 t379) ∧ w'.cell? ⟨gb392, 3, none⟩ = some (.int .i64 t380) ∧ w'.cell? ⟨gb392, 4, none⟩ = some (.int .i64 t381) ∧ w'.cell? ⟨gb392, 5, none⟩ = some (.slice Ao34 t382.length co34) ∧ w'.cell? ⟨gb392, 6, none⟩ = some (.slice Ao35 t385.length co35) ∧ w'.cell? ⟨gb392, 7, none⟩ = some (.int .i64 t388) ∧ w'.cell? ⟨gb392, 8, none⟩ = some (.int .i64 t389) ∧ w'.cell? ⟨gb392, 9, none⟩ = some (.int .i64 t390) ∧ w'.cell? (ad376.add (x12_2).toNat) = some (.int .i64 (rd t361 x12_2))) (ds := []) #[false, false, false, false, false, false, false, false, false, false, false, false, false, false, false, false, false] (by kernel_rfl) rfl rfl ⟨(blk_cell BK392.out 0).trans rfl, (blk_cell BK392.out 1).trans rfl, (blk_cell BK392.out 2).trans rfl, (blk_cell BK392.out 3).trans rfl, (blk_cell BK392.out 4).trans rfl, (blk_cell BK392.out 5).trans rfl, (blk_cell BK392.out 6).trans rfl, (blk_cell BK392.out 7).trans rfl, (blk_cell BK392.out 8).trans rfl, (blk_cell BK392.out 9).trans rfl, hx393_0⟩ (fun hHeld => ?_); refine with_tabW skiarealaw22_ProductLess.tab12 skiarealaw22_ProductLess.bits12 (fun HT_ HW_ => ?_)
              generalize w42.drew = w43 at HO_9 HO_10 HO384 HO387 BK392 HB hx393_0 hHeld ⊢
              refine pure_ (i := 0) (N := some 58) (v := ?_) (a' := ?_) #[true, false, false, false, false, false, false, false, false, false, false, false, false, false, false, false, false] rfl rfl (any_of HT_.out (by kernel_rfl)) (fun _ _ _ h => h) (Or.inl ⟨by rfl, ?_⟩) ?_ ?_
              rotate_left
              ·intro w'
               go_simp
               with_reducible rfl
              rotate_left
              ·simp only [Act.put, List.setIfInBounds_toArray, List.set_cons_zero, List.set_cons_succ, i64_w, i32_w]
               rfl
              refine pure_ (i := 1) (N := some 59) (v := ?_) (a' := ?_) #[true, true, false, false, false, false, false, false, false, false, false, false, false, false, false, false, false] rfl rfl (any_of HT_.out (by kernel_rfl)) (fun _ _ _ h => h) (Or.inl ⟨by rfl, ?_⟩) ?_ ?_
              rotate_left
              ·intro w'
               go_simp
               with_reducible rfl
              rotate_left
              ·simp only [Act.put, List.setIfInBounds_toArray, List.set_cons_zero, List.set_cons_succ, i64_w, i32_w]
               rfl
              refine pure_ (i := 2) (N := some 60) (v := ?_) (a' := ?_) #[true, true, true, false, false, false, false, false, false, false, false, false, false, false, false, false, false] rfl rfl (any_of HT_.out (by kernel_rfl)) (fun _ _ _ h => h) (Or.inl ⟨by rfl, ?_⟩) ?_ ?_
              rotate_left
              ·intro w'
               go_simp
               with_reducible rfl
              rotate_left
              ·simp only [Act.put, List.setIfInBounds_toArray, List.set_cons_zero, List.set_cons_succ, i64_w, i32_w]
               rfl
              refine pure_ (i := 3) (N := some 61) (v := ?_) (a' := ?_) #[true, true, true, true, false, false, false, false, false, false, false, false, false, false, false, false, false] rfl rfl (any_of HT_.out (by kernel_rfl)) (fun _ _ _ h => h) (Or.inl ⟨by rfl, ?_⟩) ?_ ?_
              rotate_left
              ·intro w'
               go_simp
               with_reducible rfl
              rotate_left
              ·simp only [Act.put, List.setIfInBounds_toArray, List.set_cons_zero, List.set_cons_succ, i64_w, i32_w]
               rfl
              refine pure_ (i := 5) (N := some 63) (v := ?_) (a' := ?_) #[true, true, true, true, false, true, false, false, false, false, false, false, false, false, false, false, false] rfl rfl (any_of HT_.out (by kernel_rfl)) (fun _ _ _ h => h) (Or.inl ⟨by rfl, ?_⟩) ?_ ?_
              rotate_left
              ·intro w'
               go_simp
               with_reducible rfl
              rotate_left
              ·simp only [Act.put, List.setIfInBounds_toArray, List.set_cons_zero, List.set_cons_succ, i64_w, i32_w]
               rfl
              refine pure_ (i := 6) (N := some 64) (v := ?_) (a' := ?_) #[true, true, true, true, false, true, true, false, false, false, false, false, false, false, false, false, false] rfl rfl (any_of HT_.out (by kernel_rfl)) (fun _ _ _ h => h) (Or.inl ⟨by rfl, ?_⟩) ?_ ?_
              rotate_left
              ·intro w'
               go_simp
               with_reducible rfl
              rotate_left
              ·simp only [Act.put, List.setIfInBounds_toArray, List.set_cons_zero, List.set_cons_succ, i64_w, i32_w]
               rfl
              refine pure_ (i := 7) (N := some 65) (v := ?_) (a' := ?_) #[true, true, true, true, false, true, true, true, false, false, false, false, false, false, false, false, false] rfl rfl (any_of HT_.out (by kernel_rfl)) (fun _ _ _ h => h) (Or.inl ⟨by rfl, ?_⟩) ?_ ?_
              rotate_left
              ·intro w'
               go_simp
               with_reducible rfl
              rotate_left
              ·simp only [Act.put, List.setIfInBounds_toArray, List.set_cons_zero, List.set_cons_succ, i64_w, i32_w]
               rfl
              refine take_ (i := 4) (N := some 62) (v := ?_) (a' := ?_) #[true, true, true, true, true, true, true, true, false, false, false, false, false, false, false, false, false] rfl rfl (take_ofW HT_.out HW_.out (by kernel_rfl)) (fun _ _ _ h => h) (Or.inl ⟨by rfl, ?_⟩) hHeld ?_ ?_
              rotate_left
              ·rintro w' ⟨s0, s1, s2, s3, s4, s5, s6, s7, s8, s9, s10⟩
               go_simp
               with_reducible rfl
              rotate_left
              ·simp only [Act.put, List.setIfInBounds_toArray, List.set_cons_zero, List.set_cons_succ, i64_w, i32_w]
               rfl
              refine take_ (i := 8) (N := some 66) (v := ?_) (a' := ?_) #[true, true, true, true, true, true, true, true, true, false, false, false, false, false, false, false, false] rfl rfl (take_ofW HT_.out HW_.out (by kernel_rfl)) (fun _ _ _ h => h) (Or.inl ⟨by rfl, ?_⟩) hHeld ?_ ?_
              rotate_left
              ·rintro w' ⟨s0, s1, s2, s3, s4, s5, s6, s7, s8, s9, s10⟩
               go_simp
               with_reducible rfl
              rotate_left
              ·simp only [Act.put, List.setIfInBounds_toArray, List.set_cons_zero, List.set_cons_succ, i64_w, i32_w]
               rfl
              refine pure_ (i := 9) (N := some 67) (v := ?_) (a' := ?_) #[true, true, true, true, true, true, true, true, true, true, false, false, false, false, false, false, false] rfl rfl (any_of HT_.out (by kernel_rfl)) (fun _ _ _ h => h) (Or.inl ⟨by rfl, ?_⟩) ?_ ?_
              rotate_left
              ·intro w'
               go_simp
               with_reducible rfl
              rotate_left
              ·simp only [Act.put, List.setIfInBounds_toArray, List.set_cons_zero, List.set_cons_succ, i64_w, i32_w]
               rfl
              refine pure_ (i := 10) (N := some 68) (v := ?_) (a' := ?_) #[true, true, true, true, true, true, true, true, true, true, true, false, false, false, false, false, false] rfl rfl (any_of HT_.out (by kernel_rfl)) (fun _ _ _ h => h) (Or.inl ⟨by rfl, ?_⟩) ?_ ?_
              rotate_left
              ·intro w'
               go_simp
               with_reducible rfl
              rotate_left
              ·simp only [Act.put, List.setIfInBounds_toArray, List.set_cons_zero, List.set_cons_succ, i64_w, i32_w]
               rfl
              refine pure_ (i := 11) (N := some 69) (v := ?_) (a' := ?_) #[true, true, true, true, true, true, true, true, true, true, true, true, false, false, false, false, false] rfl rfl (any_of HT_.out (by kernel_rfl)) (fun _ _ _ h => h) (Or.inl ⟨by rfl, ?_⟩) ?_ ?_
              rotate_left
              ·intro w'
               go_simp
               with_reducible rfl
              rotate_left
              ·simp only [Act.put, List.setIfInBounds_toArray, List.set_cons_zero, List.set_cons_succ, i64_w, i32_w]
               rfl
              refine pure_ (i := 12) (N := some 70) (v := undef) (a' := ?_) #[true, true, true, true, true, true, true, true, true, true, true, true, true, false, false, false, false] rfl rfl (any_of HT_.out (by kernel_rfl)) (fun _ _ _ h => h) (Or.inr ⟨by rfl, rfl⟩) ?_ ?_
              rotate_left
              ·simp only [Act.put, List.setIfInBounds_toArray, List.set_cons_zero, List.set_cons_succ, i64_w, i32_w]
               rfl
              refine pure_ (i := 13) (N := some 71) (v := undef) (a' := ?_) #[true, true, true, true, true, true, true, true, true, true, true, true, true, true, false, false, false] rfl rfl (any_of HT_.out (by kernel_rfl)) (fun _ _ _ h => h) (Or.inr ⟨by rfl, rfl⟩) ?_ ?_
              rotate_left
              ·simp only [Act.put, List.setIfInBounds_toArray, List.set_cons_zero, List.set_cons_succ, i64_w, i32_w]
               rfl
              refine pure_ (i := 14) (N := some 72) (v := undef) (a' := ?_) #[true, true, true, true, true, true, true, true, true, true, true, true, true, true, true, false, false] rfl rfl (any_of HT_.out (by kernel_rfl)) (fun _ _ _ h => h) (Or.inr ⟨by rfl, rfl⟩) ?_ ?_
              rotate_left
              ·simp only [Act.put, List.setIfInBounds_toArray, List.set_cons_zero, List.set_cons_succ, i64_w, i32_w]
               rfl
              refine pure_ (i := 15) (N := some 73) (v := undef) (a' := ?_) #[true, true, true, true, true, true, true, true, true, true, true, true, true, true, true, true, false] rfl rfl (any_of HT_.out (by kernel_rfl)) (fun _ _ _ h => h) (Or.inr ⟨by rfl, rfl⟩) ?_ ?_
              rotate_left
              ·simp only [Act.put, List.setIfInBounds_toArray, List.set_cons_zero, List.set_cons_succ, i64_w, i32_w]
               rfl
              refine pure_ (i := 16) (N := some 74) (v := ?_) (a' := ?_) #[true, true, true, true, true, true, true, true, true, true, true, true, true, true, true, true, true] rfl rfl (any_of HT_.out (by kernel_rfl)) (fun _ _ _ h => h) (Or.inl ⟨by rfl, ?_⟩) ?_ ?_
              rotate_left
              ·intro w'
               go_simp
               with_reducible rfl
              rotate_left
              ·simp only [Act.put, List.setIfInBounds_toArray, List.set_cons_zero, List.set_cons_succ, i64_w, i32_w]
               rfl
              refine done_ (done_of HT_.out (by kernel_rfl)) ?_
              try go_wp2
              go_meet
              case rel => exact ⟨_, (true), (by first | rfl | (simp; done) | (simp [*]; done)), H', ⟨by have := HJ6.out; have := HK2.out; first | omega | exact Nat.le_refl _⟩, ⟨by (with_reducible repeat (first | apply Kd.R_alloc | apply Kd.R_drewN | apply Kd.R_drew)); exact HO_9.out⟩, ⟨by (with_reducible repeat (first | apply Kd.R_alloc | apply Kd.R_drewN | apply Kd.R_drew)); exact HO_10.out⟩, ⟨by (with_reducible repeat (first | apply Kd.R_alloc | apply Kd.R_drewN | apply Kd.R_drew)); exact HO384.out⟩, ⟨by (with_reducible repeat (first | apply Kd.R_alloc | apply Kd.R_drewN | apply Kd.R_drew)); exact HO387.out⟩, ⟨by (with_reducible repeat first|refine blk_drewN ?_ _|refine blk_drew ?_|refine blk_alloc ?_ _); exact BK392.out⟩, ⟨by repeat (first | (with_reducible first | exact HB.out | apply below_alloc | apply pw_below_drewN | apply below_drew1 | refine below_set ?_ GE392.out) | exact HB.out)⟩⟩
            ·replace c36 := Bool.eq_false_iff.mpr c36
             subst c36
             have H1 : (skiarealaw22_ProductLess.j2 k2 l0 a1 a3 t361 t373 x11_2 x12_2 true t377 t378 t379 t380 t381 t382 t385 t388 t389 t390) = some r := by rw [if_neg (show ¬ (false = true) by decide)] at H; exact H
             clear H
             have H := H1
             clear H1
             have H' := Aside0.mk H
             clear H
             try go_wp2
             have n0_ : Aside0 (Kd.R (Kd.int .i64) 3 ((((((((((w32.setCell ⟨gb392, 0, none⟩ (.int .i64 t377)).setCell ⟨gb392, 1, none⟩ (.int .i64 t378)).setCell ⟨gb392, 2, none⟩ (.int .i64 t379)).setCell ⟨gb392, 3, none⟩ (.int .i64 t380)).setCell ⟨gb392, 4, none⟩ (.int .i64 t381)).setCell ⟨gb392, 5, none⟩ (.slice Ao34 t382.length co34)).setCell ⟨gb392, 6, none⟩ (.slice Ao35 t385.length co35)).setCell ⟨gb392, 7, none⟩ (.int .i64 t388)).setCell ⟨gb392, 8, none⟩ (.int .i64 t389)).setCell ⟨gb392, 9, none⟩ (.int .i64 t390)) w.heap.size (fun k_ => some k_ ≠ (v374 : Value).ownBlock ∧ some k_ ≠ (.slice Ao34 t382.length co34 : Value).ownBlock) (.slice (some ad376) t361.length co30) t361) := ⟨by (with_reducible repeat (first | apply Kd.R_alloc | apply Kd.R_drewN | apply Kd.R_drew)); exact Kd.R_mono (Kd.R_far (p := ⟨gb392, 9, none⟩) (Kd.R_far (p := ⟨gb392, 8, none⟩) (Kd.R_far (p := ⟨gb392, 7, none⟩) (Kd.R_far (p := ⟨gb392, 6, none⟩) (Kd.R_far (p := ⟨gb392, 5, none⟩) (Kd.R_far (p := ⟨gb392, 4, none⟩) (Kd.R_far (p := ⟨gb392, 3, none⟩) (Kd.R_far (p := ⟨gb392, 2, none⟩) (Kd.R_far (p := ⟨gb392, 1, none⟩) (Kd.R_far (p := ⟨gb392, 0, none⟩) (Kd.R_types HO_9.out BK392.out (by decide)) (fun _ hk => hk.2) (.int .i64 t377)) (fun _ hk => hk.2) (.int .i64 t378)) (fun _ hk => hk.2) (.int .i64 t379)) (fun _ hk => hk.2) (.int .i64 t380)) (fun _ hk => hk.2) (.int .i64 t381)) (fun _ hk => hk.2) (.slice Ao34 t382.length co34)) (fun _ hk => hk.2) (.slice Ao35 t385.length co35)) (fun _ hk => hk.2) (.int .i64 t388)) (fun _ hk => hk.2) (.int .i64 t389)) (fun _ hk => hk.2) (.int .i64 t390)) (fun _ hk => ⟨hk.1.1, hk.1.2⟩)⟩
             have n1_ : Aside0 (Kd.R (Kd.int .i64) 3 ((((((((((w32.setCell ⟨gb392, 0, none⟩ (.int .i64 t377)).setCell ⟨gb392, 1, none⟩ (.int .i64 t378)).setCell ⟨gb392, 2, none⟩ (.int .i64 t379)).setCell ⟨gb392, 3, none⟩ (.int .i64 t380)).setCell ⟨gb392, 4, none⟩ (.int .i64 t381)).setCell ⟨gb392, 5, none⟩ (.slice Ao34 t382.length co34)).setCell ⟨gb392, 6, none⟩ (.slice Ao35 t385.length co35)).setCell ⟨gb392, 7, none⟩ (.int .i64 t388)).setCell ⟨gb392, 8, none⟩ (.int .i64 t389)).setCell ⟨gb392, 9, none⟩ (.int .i64 t390)) w.heap.size (fun k_ => some k_ ≠ (.slice (some ad376) t361.length co30 : Value).ownBlock ∧ some k_ ≠ (.slice Ao34 t382.length co34 : Value).ownBlock) v374 t373) := ⟨by (with_reducible repeat (first | apply Kd.R_alloc | apply Kd.R_drewN | apply Kd.R_drew)); exact Kd.R_mono (Kd.R_far (p := ⟨gb392, 9, none⟩) (Kd.R_far (p := ⟨gb392, 8, none⟩) (Kd.R_far (p := ⟨gb392, 7, none⟩) (Kd.R_far (p := ⟨gb392, 6, none⟩) (Kd.R_far (p := ⟨gb392, 5, none⟩) (Kd.R_far (p := ⟨gb392, 4, none⟩) (Kd.R_far (p := ⟨gb392, 3, none⟩) (Kd.R_far (p := ⟨gb392, 2, none⟩) (Kd.R_far (p := ⟨gb392, 1, none⟩) (Kd.R_far (p := ⟨gb392, 0, none⟩) (Kd.R_types HO_10.out BK392.out (by decide)) (fun _ hk => hk.2) (.int .i64 t377)) (fun _ hk => hk.2) (.int .i64 t378)) (fun _ hk => hk.2) (.int .i64 t379)) (fun _ hk => hk.2) (.int .i64 t380)) (fun _ hk => hk.2) (.int .i64 t381)) (fun _ hk => hk.2) (.slice Ao34 t382.length co34)) (fun _ hk => hk.2) (.slice Ao35 t385.length co35)) (fun _ hk => hk.2) (.int .i64 t388)) (fun _ hk => hk.2) (.int .i64 t389)) (fun _ hk => hk.2) (.int .i64 t390)) (fun _ hk => ⟨hk.1.1, hk.1.2⟩)⟩
             have n2_ : Aside0 (Kd.R (Kd.int .i64) 3 ((((((((((w32.setCell ⟨gb392, 0, none⟩ (.int .i64 t377)).setCell ⟨gb392, 1, none⟩ (.int .i64 t378)).setCell ⟨gb392, 2, none⟩ (.int .i64 t379)).setCell ⟨gb392, 3, none⟩ (.int .i64 t380)).setCell ⟨gb392, 4, none⟩ (.int .i64 t381)).setCell ⟨gb392, 5, none⟩ (.slice Ao34 t382.length co34)).setCell ⟨gb392, 6, none⟩ (.slice Ao35 t385.length co35)).setCell ⟨gb392, 7, none⟩ (.int .i64 t388)).setCell ⟨gb392, 8, none⟩ (.int .i64 t389)).setCell ⟨gb392, 9, none⟩ (.int .i64 t390)) w.heap.size (fun k_ => some k_ ≠ (.slice (some ad376) t361.length co30 : Value).ownBlock ∧ some k_ ≠ (v374 : Value).ownBlock) (.slice Ao34 t382.length co34) t382) := ⟨by (with_reducible repeat (first | apply Kd.R_alloc | apply Kd.R_drewN | apply Kd.R_drew)); exact Kd.R_mono (Kd.R_far (p := ⟨gb392, 9, none⟩) (Kd.R_far (p := ⟨gb392, 8, none⟩) (Kd.R_far (p := ⟨gb392, 7, none⟩) (Kd.R_far (p := ⟨gb392, 6, none⟩) (Kd.R_far (p := ⟨gb392, 5, none⟩) (Kd.R_far (p := ⟨gb392, 4, none⟩) (Kd.R_far (p := ⟨gb392, 3, none⟩) (Kd.R_far (p := ⟨gb392, 2, none⟩) (Kd.R_far (p := ⟨gb392, 1, none⟩) (Kd.R_far (p := ⟨gb392, 0, none⟩) (Kd.R_types HO384.out BK392.out (by decide)) (fun _ hk => hk.2) (.int .i64 t377)) (fun _ hk => hk.2) (.int .i64 t378)) (fun _ hk => hk.2) (.int .i64 t379)) (fun _ hk => hk.2) (.int .i64 t380)) (fun _ hk => hk.2) (.int .i64 t381)) (fun _ hk => hk.2) (.slice Ao34 t382.length co34)) (fun _ hk => hk.2) (.slice Ao35 t385.length co35)) (fun _ hk => hk.2) (.int .i64 t388)) (fun _ hk => hk.2) (.int .i64 t389)) (fun _ hk => hk.2) (.int .i64 t390)) (fun _ hk => ⟨hk.1.1.2, hk.1.2⟩)⟩
             have n3_ : Aside0 (Kd.R k52 52 ((((((((((w32.setCell ⟨gb392, 0, none⟩ (.int .i64 t377)).setCell ⟨gb392, 1, none⟩ (.int .i64 t378)).setCell ⟨gb392, 2, none⟩ (.int .i64 t379)).setCell ⟨gb392, 3, none⟩ (.int .i64 t380)).setCell ⟨gb392, 4, none⟩ (.int .i64 t381)).setCell ⟨gb392, 5, none⟩ (.slice Ao34 t382.length co34)).setCell ⟨gb392, 6, none⟩ (.slice Ao35 t385.length co35)).setCell ⟨gb392, 7, none⟩ (.int .i64 t388)).setCell ⟨gb392, 8, none⟩ (.int .i64 t389)).setCell ⟨gb392, 9, none⟩ (.int .i64 t390)) w.heap.size (fun _ => True) (.slice Ao35 t385.length co35) t385) := ⟨by (with_reducible repeat (first | apply Kd.R_alloc | apply Kd.R_drewN | apply Kd.R_drew)); exact Kd.R_mono (Kd.R_far (p := ⟨gb392, 9, none⟩) (Kd.R_far (p := ⟨gb392, 8, none⟩) (Kd.R_far (p := ⟨gb392, 7, none⟩) (Kd.R_far (p := ⟨gb392, 6, none⟩) (Kd.R_far (p := ⟨gb392, 5, none⟩) (Kd.R_far (p := ⟨gb392, 4, none⟩) (Kd.R_far (p := ⟨gb392, 3, none⟩) (Kd.R_far (p := ⟨gb392, 2, none⟩) (Kd.R_far (p := ⟨gb392, 1, none⟩) (Kd.R_far (p := ⟨gb392, 0, none⟩) (Kd.R_types HO387.out BK392.out (by decide)) (fun _ hk => hk.2) (.int .i64 t377)) (fun _ hk => hk.2) (.int .i64 t378)) (fun _ hk => hk.2) (.int .i64 t379)) (fun _ hk => hk.2) (.int .i64 t380)) (fun _ hk => hk.2) (.int .i64 t381)) (fun _ hk => hk.2) (.slice Ao34 t382.length co34)) (fun _ hk => hk.2) (.slice Ao35 t385.length co35)) (fun _ hk => hk.2) (.int .i64 t388)) (fun _ hk => hk.2) (.int .i64 t389)) (fun _ hk => hk.2) (.int .i64 t390)) (fun _ hk => trivial)⟩
             have n4_ : Aside0 (((((((((((w32.setCell ⟨gb392, 0, none⟩ (.int .i64 t377)).setCell ⟨gb392, 1, none⟩ (.int .i64 t378)).setCell ⟨gb392, 2, none⟩ (.int .i64 t379)).setCell ⟨gb392, 3, none⟩ (.int .i64 t380)).setCell ⟨gb392, 4, none⟩ (.int .i64 t381)).setCell ⟨gb392, 5, none⟩ (.slice Ao34 t382.length co34)).setCell ⟨gb392, 6, none⟩ (.slice Ao35 t385.length co35)).setCell ⟨gb392, 7, none⟩ (.int .i64 t388)).setCell ⟨gb392, 8, none⟩ (.int .i64 t389)).setCell ⟨gb392, 9, none⟩ (.int .i64 t390)).heap[gb392]? = some (.cells #[.int .i64 t377, .int .i64 t378, .int .i64 t379, .int .i64 t380, .int .i64 t381, .slice Ao34 t382.length co34, .slice Ao35 t385.length co35, .int .i64 t388, .int .i64 t389, .int .i64 t390] 32 (0, 0))) := ⟨by (with_reducible repeat first|refine blk_drewN ?_ _|refine blk_drew ?_|refine blk_alloc ?_ _); refine blk_put (cs := #[.int .i64 t377, .int .i64 t378, .int .i64 t379, .int .i64 t380, .int .i64 t381, .slice Ao34 t382.length co34, .slice Ao35 t385.length co35, .int .i64 t388, .int .i64 t389, .int .i64 0]) ?_ 9 _ rfl; (with_reducible repeat first|refine blk_drewN ?_ _|refine blk_drew ?_|refine blk_alloc ?_ _); refine blk_put (cs := #[.int .i64 t377, .int .i64 t378, .int .i64 t379, .int .i64 t380, .int .i64 t381, .slice Ao34 t382.length co34, .slice Ao35 t385.length co35, .int .i64 t388, .int .i64 0, .int .i64 0]) ?_ 8 _ rfl; (with_reducible repeat first|refine blk_drewN ?_ _|refine blk_drew ?_|refine blk_alloc ?_ _); refine blk_put (cs := #[.int .i64 t377, .int .i64 t378, .int .i64 t379, .int .i64 t380, .int .i64 t381, .slice Ao34 t382.length co34, .slice Ao35 t385.length co35, .int .i64 0, .int .i64 0, .int .i64 0]) ?_ 7 _ rfl; (with_reducible repeat first|refine blk_drewN ?_ _|refine blk_drew ?_|refine blk_alloc ?_ _); refine blk_put (cs := #[.int .i64 t377, .int .i64 t378, .int .i64 t379, .int .i64 t380, .int .i64 t381, .slice Ao34 t382.length co34, .slice none 0 0, .int .i64 0, .int .i64 0, .int .i64 0]) ?_ 6 _ rfl; (with_reducible repeat first|refine blk_drewN ?_ _|refine blk_drew ?_|refine blk_alloc ?_ _); refine blk_put (cs := #[.int .i64 t377, .int .i64 t378, .int .i64 t379, .int .i64 t380, .int .i64 t381, .slice none 0 0, .slice none 0 0, .int .i64 0, .int .i64 0, .int .i64 0]) ?_ 5 _ rfl; (with_reducible repeat first|refine blk_drewN ?_ _|refine blk_drew ?_|refine blk_alloc ?_ _); refine blk_put (cs := #[.int .i64 t377, .int .i64 t378, .int .i64 t379, .int .i64 t380, .int .i64 0, .slice none 0 0, .slice none 0 0, .int .i64 0, .int .i64 0, .int .i64 0]) ?_ 4 _ rfl; (with_reducible repeat first|refine blk_drewN ?_ _|refine blk_drew ?_|refine blk_alloc ?_ _); refine blk_put (cs := #[.int .i64 t377, .int .i64 t378, .int .i64 t379, .int .i64 0, .int .i64 0, .slice none 0 0, .slice none 0 0, .int .i64 0, .int .i64 0, .int .i64 0]) ?_ 3 _ rfl; (with_reducible repeat first|refine blk_drewN ?_ _|refine blk_drew ?_|refine blk_alloc ?_ _); refine blk_put (cs := #[.int .i64 t377, .int .i64 t378, .int .i64 0, .int .i64 0, .int .i64 0, .slice none 0 0, .slice none 0 0, .int .i64 0, .int .i64 0, .int .i64 0]) ?_ 2 _ rfl; (with_reducible repeat first|refine blk_drewN ?_ _|refine blk_drew ?_|refine blk_alloc ?_ _); refine blk_put (cs := #[.int .i64 t377, .int .i64 0, .int .i64 0, .int .i64 0, .int .i64 0, .slice none 0 0, .slice none 0 0, .int .i64 0, .int .i64 0, .int .i64 0]) ?_ 1 _ rfl; (with_reducible repeat first|refine blk_drewN ?_ _|refine blk_drew ?_|refine blk_alloc ?_ _); refine blk_put (cs := #[.int .i64 0, .int .i64 0, .int .i64 0, .int .i64 0, .int .i64 0, .slice none 0 0, .slice none 0 0, .int .i64 0, .int .i64 0, .int .i64 0]) ?_ 0 _ rfl; (with_reducible repeat first|refine blk_drewN ?_ _|refine blk_drew ?_|refine blk_alloc ?_ _); exact BK392.out⟩
             have n5_ : Aside0 (Below w.heap.size w ((((((((((w32.setCell ⟨gb392, 0, none⟩ (.int .i64 t377)).setCell ⟨gb392, 1, none⟩ (.int .i64 t378)).setCell ⟨gb392, 2, none⟩ (.int .i64 t379)).setCell ⟨gb392, 3, none⟩ (.int .i64 t380)).setCell ⟨gb392, 4, none⟩ (.int .i64 t381)).setCell ⟨gb392, 5, none⟩ (.slice Ao34 t382.length co34)).setCell ⟨gb392, 6, none⟩ (.slice Ao35 t385.length co35)).setCell ⟨gb392, 7, none⟩ (.int .i64 t388)).setCell ⟨gb392, 8, none⟩ (.int .i64 t389)).setCell ⟨gb392, 9, none⟩ (.int .i64 t390))) := ⟨by repeat (first | (with_reducible first | exact HB.out | apply below_alloc | apply pw_below_drewN | apply below_drew1 | refine below_set ?_ GE392.out) | exact HB.out)⟩
             (try clear HO_9)
             (try clear HO_10)
             (try clear HO384)
             (try clear HO387)
             (try clear BK392)
             (try clear HB)
             generalize ((((((((((w32.setCell ⟨gb392, 0, none⟩ (.int .i64 t377)).setCell ⟨gb392, 1, none⟩ (.int .i64 t378)).setCell ⟨gb392, 2, none⟩ (.int .i64 t379)).setCell ⟨gb392, 3, none⟩ (.int .i64 t380)).setCell ⟨gb392, 4, none⟩ (.int .i64 t381)).setCell ⟨gb392, 5, none⟩ (.slice Ao34 t382.length co34)).setCell ⟨gb392, 6, none⟩ (.slice Ao35 t385.length co35)).setCell ⟨gb392, 7, none⟩ (.int .i64 t388)).setCell ⟨gb392, 8, none⟩ (.int .i64 t389)).setCell ⟨gb392, 9, none⟩ (.int .i64 t390)) = w44 at n0_ n1_ n2_ n3_ n4_ n5_ ⊢
             have HO_9 := n0_
             have HO_10 := n1_
             have HO384 := n2_
             have HO387 := n3_
             have BK392 := n4_
             have HB := n5_
             clear n0_ n1_ n2_ n3_ n4_ n5_
             have n0_ := Aside0.mk (Kd.R_drew HO_9.out)
             have n1_ := Aside0.mk (Kd.R_drew HO_10.out)
             have n2_ := Aside0.mk (Kd.R_drew HO384.out)
             have n3_ := Aside0.mk (Kd.R_drew HO387.out)
             have n4_ := Aside0.mk (blk_drew BK392.out)
             have n5_ := Aside0.mk (below_drew1 HB.out)
             clear HO_9
             clear HO_10
             clear HO384
             clear HO387
             clear BK392
             clear HB
             have HO_9 := n0_
             have HO_10 := n1_
             have HO384 := n2_
             have HO387 := n3_
             have BK392 := n4_
             have HB := n5_
             clear n0_ n1_ n2_ n3_ n4_ n5_
             refine start_ (n := 17) (S := fun w' => True) (ds := []) #[false, false, false, false, false, false, false, false, false, false, false, false, false, false, false, false, false] (by kernel_rfl) rfl rfl trivial (fun hHeld => ?_); refine with_tabW skiarealaw22_ProductLess.tab12 skiarealaw22_ProductLess.bits12 (fun HT_ HW_ => ?_)
             generalize w44.drew = w45 at HO_9 HO_10 HO384 HO387 BK392 HB hHeld ⊢
             refine pure_ (i := 0) (N := some 58) (v := ?_) (a' := ?_) #[true, false, false, false, false, false, false, false, false, false, false, false, false, false, false, false, false] rfl rfl (any_of HT_.out (by kernel_rfl)) (fun _ _ _ h => h) (Or.inl ⟨by rfl, ?_⟩) ?_ ?_
             rotate_left
             ·intro w'
              go_simp
              with_reducible rfl
             rotate_left
             ·simp only [Act.put, List.setIfInBounds_toArray, List.set_cons_zero, List.set_cons_succ, i64_w, i32_w]
              rfl
             refine pure_ (i := 1) (N := some 59) (v := ?_) (a' := ?_) #[true, true, false, false, false, false, false, false, false, false, false, false, false, false, false, false, false] rfl rfl (any_of HT_.out (by kernel_rfl)) (fun _ _ _ h => h) (Or.inl ⟨by rfl, ?_⟩) ?_ ?_
             rotate_left
             ·intro w'
              go_simp
              with_reducible rfl
             rotate_left
             ·simp only [Act.put, List.setIfInBounds_toArray, List.set_cons_zero, List.set_cons_succ, i64_w, i32_w]
              rfl
             refine pure_ (i := 2) (N := some 60) (v := ?_) (a' := ?_) #[true, true, true, false, false, false, false, false, false, false, false, false, false, false, false, false, false] rfl rfl (any_of HT_.out (by kernel_rfl)) (fun _ _ _ h => h) (Or.inl ⟨by rfl, ?_⟩) ?_ ?_
             rotate_left
             ·intro w'
              go_simp
              with_reducible rfl
             rotate_left
             ·simp only [Act.put, List.setIfInBounds_toArray, List.set_cons_zero, List.set_cons_succ, i64_w, i32_w]
              rfl
             refine pure_ (i := 3) (N := some 61) (v := undef) (a' := ?_) #[true, true, true, true, false, false, false, false, false, false, false, false, false, false, false, false, false] rfl rfl (any_of HT_.out (by kernel_rfl)) (fun _ _ _ h => h) (Or.inr ⟨by rfl, rfl⟩) ?_ ?_
             rotate_left
             ·simp only [Act.put, List.setIfInBounds_toArray, List.set_cons_zero, List.set_cons_succ, i64_w, i32_w]
              rfl
             refine pure_ (i := 4) (N := some 62) (v := undef) (a' := ?_) #[true, true, true, true, true, false, false, false, false, false, false, false, false, false, false, false, false] rfl rfl (any_of HT_.out (by kernel_rfl)) (fun _ _ _ h => h) (Or.inr ⟨by rfl, rfl⟩) ?_ ?_
             rotate_left
             ·simp only [Act.put, List.setIfInBounds_toArray, List.set_cons_zero, List.set_cons_succ, i64_w, i32_w]
              rfl
             refine pure_ (i := 5) (N := some 63) (v := undef) (a' := ?_) #[true, true, true, true, true, true, false, false, false, false, false, false, false, false, false, false, false] rfl rfl (any_of HT_.out (by kernel_rfl)) (fun _ _ _ h => h) (Or.inr ⟨by rfl, rfl⟩) ?_ ?_
             rotate_left
             ·simp only [Act.put, List.setIfInBounds_toArray, List.set_cons_zero, List.set_cons_succ, i64_w, i32_w]
              rfl
             refine pure_ (i := 6) (N := some 64) (v := undef) (a' := ?_) #[true, true, true, true, true, true, true, false, false, false, false, false, false, false, false, false, false] rfl rfl (any_of HT_.out (by kernel_rfl)) (fun _ _ _ h => h) (Or.inr ⟨by rfl, rfl⟩) ?_ ?_
             rotate_left
             ·simp only [Act.put, List.setIfInBounds_toArray, List.set_cons_zero, List.set_cons_succ, i64_w, i32_w]
              rfl
             refine pure_ (i := 7) (N := some 65) (v := undef) (a' := ?_) #[true, true, true, true, true, true, true, true, false, false, false, false, false, false, false, false, false] rfl rfl (any_of HT_.out (by kernel_rfl)) (fun _ _ _ h => h) (Or.inr ⟨by rfl, rfl⟩) ?_ ?_
             rotate_left
             ·simp only [Act.put, List.setIfInBounds_toArray, List.set_cons_zero, List.set_cons_succ, i64_w, i32_w]
              rfl
             refine pure_ (i := 8) (N := some 66) (v := undef) (a' := ?_) #[true, true, true, true, true, true, true, true, true, false, false, false, false, false, false, false, false] rfl rfl (any_of HT_.out (by kernel_rfl)) (fun _ _ _ h => h) (Or.inr ⟨by rfl, rfl⟩) ?_ ?_
             rotate_left
             ·simp only [Act.put, List.setIfInBounds_toArray, List.set_cons_zero, List.set_cons_succ, i64_w, i32_w]
              rfl
             refine pure_ (i := 9) (N := some 67) (v := undef) (a' := ?_) #[true, true, true, true, true, true, true, true, true, true, false, false, false, false, false, false, false] rfl rfl (any_of HT_.out (by kernel_rfl)) (fun _ _ _ h => h) (Or.inr ⟨by rfl, rfl⟩) ?_ ?_
             rotate_left
             ·simp only [Act.put, List.setIfInBounds_toArray, List.set_cons_zero, List.set_cons_succ, i64_w, i32_w]
              rfl
             refine pure_ (i := 10) (N := some 68) (v := ?_) (a' := ?_) #[true, true, true, true, true, true, true, true, true, true, true, false, false, false, false, false, false] rfl rfl (any_of HT_.out (by kernel_rfl)) (fun _ _ _ h => h) (Or.inl ⟨by rfl, ?_⟩) ?_ ?_
             rotate_left
             ·intro w'
              go_simp
              with_reducible rfl
             rotate_left
             ·simp only [Act.put, List.setIfInBounds_toArray, List.set_cons_zero, List.set_cons_succ, i64_w, i32_w]
              rfl
             refine pure_ (i := 11) (N := some 69) (v := ?_) (a' := ?_) #[true, true, true, true, true, true, true, true, true, true, true, true, false, false, false, false, false] rfl rfl (any_of HT_.out (by kernel_rfl)) (fun _ _ _ h => h) (Or.inl ⟨by rfl, ?_⟩) ?_ ?_
             rotate_left
             ·intro w'
              go_simp
              with_reducible rfl
             rotate_left
             ·simp only [Act.put, List.setIfInBounds_toArray, List.set_cons_zero, List.set_cons_succ, i64_w, i32_w]
              rfl
             refine pure_ (i := 12) (N := some 70) (v := undef) (a' := ?_) #[true, true, true, true, true, true, true, true, true, true, true, true, true, false, false, false, false] rfl rfl (any_of HT_.out (by kernel_rfl)) (fun _ _ _ h => h) (Or.inr ⟨by rfl, rfl⟩) ?_ ?_
             rotate_left
             ·simp only [Act.put, List.setIfInBounds_toArray, List.set_cons_zero, List.set_cons_succ, i64_w, i32_w]
              rfl
             refine pure_ (i := 13) (N := some 71) (v := undef) (a' := ?_) #[true, true, true, true, true, true, true, true, true, true, true, true, true, true, false, false, false] rfl rfl (any_of HT_.out (by kernel_rfl)) (fun _ _ _ h => h) (Or.inr ⟨by rfl, rfl⟩) ?_ ?_
             rotate_left
             ·simp only [Act.put, List.setIfInBounds_toArray, List.set_cons_zero, List.set_cons_succ, i64_w, i32_w]
              rfl
             refine pure_ (i := 14) (N := some 72) (v := undef) (a' := ?_) #[true, true, true, true, true, true, true, true, true, true, true, true, true, true, true, false, false] rfl rfl (any_of HT_.out (by kernel_rfl)) (fun _ _ _ h => h) (Or.inr ⟨by rfl, rfl⟩) ?_ ?_
             rotate_left
             ·simp only [Act.put, List.setIfInBounds_toArray, List.set_cons_zero, List.set_cons_succ, i64_w, i32_w]
              rfl
             refine pure_ (i := 15) (N := some 73) (v := undef) (a' := ?_) #[true, true, true, true, true, true, true, true, true, true, true, true, true, true, true, true, false] rfl rfl (any_of HT_.out (by kernel_rfl)) (fun _ _ _ h => h) (Or.inr ⟨by rfl, rfl⟩) ?_ ?_
             rotate_left
             ·simp only [Act.put, List.setIfInBounds_toArray, List.set_cons_zero, List.set_cons_succ, i64_w, i32_w]
              rfl
             refine pure_ (i := 16) (N := some 74) (v := ?_) (a' := ?_) #[true, true, true, true, true, true, true, true, true, true, true, true, true, true, true, true, true] rfl rfl (any_of HT_.out (by kernel_rfl)) (fun _ _ _ h => h) (Or.inl ⟨by rfl, ?_⟩) ?_ ?_
             rotate_left
             ·intro w'
              go_simp
              with_reducible rfl
             rotate_left
             ·simp only [Act.put, List.setIfInBounds_toArray, List.set_cons_zero, List.set_cons_succ, i64_w, i32_w]
              rfl
             refine done_ (done_of HT_.out (by kernel_rfl)) ?_
             try go_wp2
             go_meet
             case rel => exact ⟨_, (true), (by first | rfl | (simp; done) | (simp [*]; done)), H', ⟨by have := HJ6.out; have := HK2.out; first | omega | exact Nat.le_refl _⟩, ⟨by (with_reducible repeat (first | apply Kd.R_alloc | apply Kd.R_drewN | apply Kd.R_drew)); exact HO_9.out⟩, ⟨by (with_reducible repeat (first | apply Kd.R_alloc | apply Kd.R_drewN | apply Kd.R_drew)); exact HO_10.out⟩, ⟨by (with_reducible repeat (first | apply Kd.R_alloc | apply Kd.R_drewN | apply Kd.R_drew)); exact HO384.out⟩, ⟨by (with_reducible repeat (first | apply Kd.R_alloc | apply Kd.R_drewN | apply Kd.R_drew)); exact HO387.out⟩, ⟨by (with_reducible repeat first|refine blk_drewN ?_ _|refine blk_drew ?_|refine blk_alloc ?_ _); exact BK392.out⟩, ⟨by repeat (first | (with_reducible first | exact HB.out | apply below_alloc | apply pw_below_drewN | apply below_drew1 | refine below_set ?_ GE392.out) | exact HB.out)⟩⟩
           case rest =>
            clear HC29
            try clear c1
            try clear c2
            try clear p2
            try clear c3
            try clear p3
            try clear q3
            try clear hx3
            try clear c14
            try clear c17
            try clear c26
            try clear c26b0
            try clear c27
            try clear c27b0
            try clear c36
            try clear c37
            try clear c37b0
            try clear c37b1
            try clear p37
            try clear q37
            try clear hx37
            try clear p39
            try clear q39
            try clear hx39
            try clear hcz33_0 hcz33_1 hcz33_2 hcz33_3 hcz33_4 hcz33_5 hcz33_6 hcz33_7 hcz33_8 hcz33_9 hfz33_0 hfz33_1 hfz33_2 hfz33_3 hfz33_4 hfz33_5 hfz33_6 hfz33_7 hfz33_8 hfz33_9
            try clear hx376_0
            try clear hx393_0
            try clear p376
            try clear p393
            try clear q376
            try clear q393
            obtain ⟨kq, x74_28, rfl, HA, HJ28, HO_9, HO_10, HO_393005, HO_393006, BK392, HB⟩ := hcut
            cases kq with
            | zero => exact absurd HA.out (by simp [skiarealaw22_ProductLess.j2])
            | succ kj28 =>
             have H := HA.out
             clear HA
             simp only [skiarealaw22_ProductLess.j2] at H
             by_cases c46 : x74_28 = true
             ·subst c46
              have H1 : none = some r := by rw [if_pos rfl] at H; exact H
              clear H
              have H := H1
              clear H1
              cases H
             ·replace c46 := Bool.eq_false_iff.mpr c46
              subst c46
              have H1 : (if x11_2 < (t373.length : Int) then (if 0 ≤ x11_2 then (if 0 ≤ x12_2 then (if x12_2 < (t361.length : Int) then (skiarealaw22_ProductLess.j3 kj28 l0 a1 a3 t361 t373 x11_2 x12_2 ((rd t373 x11_2) == (rd t361 x12_2)) t377 t378 t379 t380 t381 t382 t385 t388 t389 t390) else (none)) else (none)) else (none)) else (skiarealaw22_ProductLess.j3 kj28 l0 a1 a3 t361 t373 x11_2 x12_2 false t377 t378 t379 t380 t381 t382 t385 t388 t389 t390)) = some r := by rw [if_neg (show ¬ (false = true) by decide)] at H; exact H
              clear H
              have H := H1
              clear H1
              have HC47 := Aside0.mk H
              clear H
              go_upto_region 14 with (fail)
              go_cut [89] (fun v89 wc => ∃ (kq : Nat) (x89_46 : Bool), v89 = .bool x89_46 ∧ Aside0 (skiarealaw22_ProductLess.j3 kq l0 a1 a3 t361 t373 x11_2 x12_2 x89_46 t377 t378 t379 t380 t381 t382 t385 t388 t389 t390 = some r) ∧ Aside0 (kq ≤ kj28) ∧ Aside0 (Kd.R (Kd.int .i64) 3 wc w.heap.size (fun k_ => some k_ ≠ (v374 : Value).ownBlock ∧ some k_ ≠ ((.slice Ao34 t382.length co34) : Value).ownBlock) (.slice (some ad376) t361.length co30) t361) ∧ Aside0 (Kd.R (Kd.int .i64) 3 wc w.heap.size (fun k_ => some k_ ≠ ((.slice (some ad376) t361.length co30) : Value).ownBlock ∧ some k_ ≠ ((.slice Ao34 t382.length co34) : Value).ownBlock) v374 t373) ∧ Aside0 (Kd.R (Kd.int .i64) 3 wc w.heap.size (fun k_ => some k_ ≠ ((.slice (some ad376) t361.length co30) : Value).ownBlock ∧ some k_ ≠ (v374 : Value).ownBlock) (.slice Ao34 t382.length co34) t382) ∧ Aside0 (Kd.R k52 52 wc w.heap.size (fun _ => True) (.slice Ao35 t385.length co35) t385) ∧ Aside0 (wc.heap[gb392]? = some (.cells #[.int .i64 t377, .int .i64 t378, .int .i64 t379, .int .i64 t380, .int .i64 t381, (.slice Ao34 t382.length co34), (.slice Ao35 t385.length co35), .int .i64 t388, .int .i64 t389, .int .i64 t390] 32 (0, 0))) ∧ Aside0 (Below w.heap.size w wc))
              case first =>
               have H := HC47.out
               clear HC47
               by_cases c48 : x11_2 < (t373.length : Int)
               ·rw [if_pos c48] at H
                have c48b0 : decide (x11_2 < (t373.length : Int)) = true := decide_eq_true c48
                clear c48
                (first | rw [c48b0] | (simp only [i64_w, i32_w]; rw [c48b0]) | skip)
                by_cases c49 : 0 ≤ x11_2
                ·rw [if_pos c49] at H
                 have c49b0 : decide (0 ≤ x11_2) = true := decide_eq_true c49
                 clear c49
                 by_cases c50 : 0 ≤ x12_2
                 ·rw [if_pos c50] at H
                  have c50b0 : decide (0 ≤ x12_2) = true := decide_eq_true c50
                  clear c50
                  by_cases c51 : x12_2 < (t361.length : Int)
                  ·rw [if_pos c51] at H
                   have c51b0 : decide (x12_2 < (t361.length : Int)) = true := decide_eq_true c51
                   clear c51
                   have H' := Aside0.mk H
                   clear H
                   try go_wp2
                   have n0_ := Aside0.mk (Kd.R_drew HO_9.out)
                   have n1_ := Aside0.mk (Kd.R_drew HO_10.out)
                   have n2_ := Aside0.mk (Kd.R_drew HO_393005.out)
                   have n3_ := Aside0.mk (Kd.R_drew HO_393006.out)
                   have n4_ := Aside0.mk (blk_drew BK392.out)
                   have n5_ := Aside0.mk (below_drew1 HB.out)
                   clear HO_9
                   clear HO_10
                   clear HO_393005
                   clear HO_393006
                   clear BK392
                   clear HB
                   have HO_9 := n0_
                   have HO_10 := n1_
                   have HO_393005 := n2_
                   have HO_393006 := n3_
                   have BK392 := n4_
                   have HB := n5_
                   clear n0_ n1_ n2_ n3_ n4_ n5_
                   obtain ⟨Ao53, co53, eo53⟩ := Kd.R_slice HO_10.out
                   (first | subst eo53 | (injection eo53 with f1_ f2_ f3_; have f4_ := f1_.symm; have f5_ := f3_.symm; clear f1_ f2_ f3_; subst f4_; subst f5_))
                   have p395 : 0 ≤ (x11_2 : Int) := of_decide_eq_true (by first | (with_reducible assumption) | assumption)
                   have q395 : x11_2 < (t373.length : Int) := of_decide_eq_true (by first | (with_reducible assumption) | assumption)
                   obtain ⟨ad395, e395, hx395_0⟩ := Kd.at_int (Kd.R_reads' HO_10.out).2.2 x11_2 p395 q395
                   cases e395
                   replace p395 := eq_true p395
                   replace q395 := eq_true q395
                   have p396 : 0 ≤ (x12_2 : Int) := of_decide_eq_true (by first | (with_reducible assumption) | assumption)
                   have q396 : x12_2 < (t361.length : Int) := of_decide_eq_true (by first | (with_reducible assumption) | assumption)
                   obtain ⟨ad396, e396, hx396_0⟩ := Kd.at_int (Kd.R_reads' HO_9.out).2.2 x12_2 p396 q396
                   obtain rfl : ad376 = ad396 := (by injection e396)
                   replace p396 := eq_true p396
                   replace q396 := eq_true q396
                   refine start_ (n := 15) (S := fun w' => w'.cell? (ad395.add (x11_2).toNat) = some (.int .i64 (rd t373 x11_2)) ∧ w'.cell? (ad376.add (x12_2).toNat) = some (.int .i64 (rd t361 x12_2))) (ds := []) #[false, false, false, false, false, false, false, false, false, false, false, false, false, false, false] (by kernel_rfl) rfl rfl ⟨hx395_0, hx396_0⟩ (fun hHeld => ?_); refine with_tabW skiarealaw22_ProductLess.tab14 skiarealaw22_ProductLess.bits14 (fun HT_ HW_ => ?_)
                   generalize wc.drew = w52 at HO_9 HO_10 HO_393005 HO_393006 BK392 HB hx395_0 hx396_0 hHeld ⊢
                   refine pure_ (i := 0) (N := some 75) (v := ?_) (a' := ?_) #[true, false, false, false, false, false, false, false, false, false, false, false, false, false, false] rfl rfl (any_of HT_.out (by kernel_rfl)) (fun _ _ _ h => h) (Or.inl ⟨by rfl, ?_⟩) ?_ ?_
                   rotate_left
                   ·intro w'
                    go_simp
                    with_reducible rfl
                   rotate_left
                   ·simp only [Act.put, List.setIfInBounds_toArray, List.set_cons_zero, List.set_cons_succ, i64_w, i32_w]
                    rfl
                   refine pure_ (i := 1) (N := some 76) (v := ?_) (a' := ?_) #[true, true, false, false, false, false, false, false, false, false, false, false, false, false, false] rfl rfl (any_of HT_.out (by kernel_rfl)) (fun _ _ _ h => h) (Or.inl ⟨by rfl, ?_⟩) ?_ ?_
                   rotate_left
                   ·intro w'
                    go_simp
                    with_reducible rfl
                   rotate_left
                   ·simp only [Act.put, List.setIfInBounds_toArray, List.set_cons_zero, List.set_cons_succ, i64_w, i32_w]
                    rfl
                   refine pure_ (i := 2) (N := some 77) (v := ?_) (a' := ?_) #[true, true, true, false, false, false, false, false, false, false, false, false, false, false, false] rfl rfl (any_of HT_.out (by kernel_rfl)) (fun _ _ _ h => h) (Or.inl ⟨by rfl, ?_⟩) ?_ ?_
                   rotate_left
                   ·intro w'
                    go_simp
                    with_reducible rfl
                   rotate_left
                   ·simp only [Act.put, List.setIfInBounds_toArray, List.set_cons_zero, List.set_cons_succ, i64_w, i32_w]
                    rfl
                   refine pure_ (i := 3) (N := some 78) (v := ?_) (a' := ?_) #[true, true, true, true, false, false, false, false, false, false, false, false, false, false, false] rfl rfl (any_of HT_.out (by kernel_rfl)) (fun _ _ _ h => h) (Or.inl ⟨by rfl, ?_⟩) ?_ ?_
                   rotate_left
                   ·intro w'
                    go_simp
                    with_reducible rfl
                   rotate_left
                   ·simp only [Act.put, List.setIfInBounds_toArray, List.set_cons_zero, List.set_cons_succ, i64_w, i32_w]
                    rfl
                   refine pure_ (i := 4) (N := some 79) (v := ?_) (a' := ?_) #[true, true, true, true, true, false, false, false, false, false, false, false, false, false, false] rfl rfl (any_of HT_.out (by kernel_rfl)) (fun _ _ _ h => h) (Or.inl ⟨by rfl, ?_⟩) ?_ ?_
                   rotate_left
                   ·intro w'
                    go_simp
                    with_reducible rfl
                   rotate_left
                   ·simp only [Act.put, List.setIfInBounds_toArray, List.set_cons_zero, List.set_cons_succ, i64_w, i32_w]
                    rfl
                   refine pure_ (i := 5) (N := some 80) (v := ?_) (a' := ?_) #[true, true, true, true, true, true, false, false, false, false, false, false, false, false, false] rfl rfl (any_of HT_.out (by kernel_rfl)) (fun _ _ _ h => h) (Or.inl ⟨by rfl, ?_⟩) ?_ ?_
                   rotate_left
                   ·intro w'
                    go_simp
                    with_reducible rfl
                   rotate_left
                   ·simp only [Act.put, List.setIfInBounds_toArray, List.set_cons_zero, List.set_cons_succ, i64_w, i32_w]
                    rfl
                   refine pure_ (i := 6) (N := some 81) (v := ?_) (a' := ?_) #[true, true, true, true, true, true, true, false, false, false, false, false, false, false, false] rfl rfl (any_of HT_.out (by kernel_rfl)) (fun _ _ _ h => h) (Or.inl ⟨by rfl, ?_⟩) ?_ ?_
                   rotate_left
                   ·intro w'
                    go_simp
                    with_reducible rfl
                   rotate_left
                   ·simp only [Act.put, List.setIfInBounds_toArray, List.set_cons_zero, List.set_cons_succ, i64_w, i32_w]
                    rfl
                   refine pure_ (i := 7) (N := some 82) (v := ?_) (a' := ?_) #[true, true, true, true, true, true, true, true, false, false, false, false, false, false, false] rfl rfl (any_of HT_.out (by kernel_rfl)) (fun _ _ _ h => h) (Or.inl ⟨by rfl, ?_⟩) ?_ ?_
                   rotate_left
                   ·intro w'
                    go_simp
                    with_reducible rfl
                   rotate_left
                   ·simp only [Act.put, List.setIfInBounds_toArray, List.set_cons_zero, List.set_cons_succ, i64_w, i32_w]
                    rfl
                   refine pure_ (i := 9) (N := some 84) (v := ?_) (a' := ?_) #[true, true, true, true, true, true, true, true, false, true, false, false, false, false, false] rfl rfl (any_of HT_.out (by kernel_rfl)) (fun _ _ _ h => h) (Or.inl ⟨by rfl, ?_⟩) ?_ ?_
                   rotate_left
                   ·intro w'
                    go_simp
                    with_reducible rfl
                   rotate_left
                   ·simp only [Act.put, List.setIfInBounds_toArray, List.set_cons_zero, List.set_cons_succ, i64_w, i32_w]
                    rfl
                   refine pure_ (i := 10) (N := some 85) (v := ?_) (a' := ?_) #[true, true, true, true, true, true, true, true, false, true, true, false, false, false, false] rfl rfl (any_of HT_.out (by kernel_rfl)) (fun _ _ _ h => h) (Or.inl ⟨by rfl, ?_⟩) ?_ ?_
                   rotate_left
                   ·intro w'
                    go_simp
                    with_reducible rfl
                   rotate_left
                   ·simp only [Act.put, List.setIfInBounds_toArray, List.set_cons_zero, List.set_cons_succ, i64_w, i32_w]
                    rfl
                   refine pure_ (i := 11) (N := some 86) (v := ?_) (a' := ?_) #[true, true, true, true, true, true, true, true, false, true, true, true, false, false, false] rfl rfl (any_of HT_.out (by kernel_rfl)) (fun _ _ _ h => h) (Or.inl ⟨by rfl, ?_⟩) ?_ ?_
                   rotate_left
                   ·intro w'
                    go_simp
                    with_reducible rfl
                   rotate_left
                   ·simp only [Act.put, List.setIfInBounds_toArray, List.set_cons_zero, List.set_cons_succ, i64_w, i32_w]
                    rfl
                   refine take_ (i := 8) (N := some 83) (v := ?_) (a' := ?_) #[true, true, true, true, true, true, true, true, true, true, true, true, false, false, false] rfl rfl (take_ofW HT_.out HW_.out (by kernel_rfl)) (fun _ _ _ h => h) (Or.inl ⟨by rfl, ?_⟩) hHeld ?_ ?_
                   rotate_left
                   ·rintro w' ⟨s0, s1⟩
                    go_simp
                    with_reducible rfl
                   rotate_left
                   ·simp only [Act.put, List.setIfInBounds_toArray, List.set_cons_zero, List.set_cons_succ, i64_w, i32_w]
                    rfl
                   refine take_ (i := 12) (N := some 87) (v := ?_) (a' := ?_) #[true, true, true, true, true, true, true, true, true, true, true, true, true, false, false] rfl rfl (take_ofW HT_.out HW_.out (by kernel_rfl)) (fun _ _ _ h => h) (Or.inl ⟨by rfl, ?_⟩) hHeld ?_ ?_
                   rotate_left
                   ·rintro w' ⟨s0, s1⟩
                    go_simp
                    with_reducible rfl
                   rotate_left
                   ·simp only [Act.put, List.setIfInBounds_toArray, List.set_cons_zero, List.set_cons_succ, i64_w, i32_w]
                    rfl
                   refine pure_ (i := 13) (N := some 88) (v := ?_) (a' := ?_) #[true, true, true, true, true, true, true, true, true, true, true, true, true, true, false] rfl rfl (any_of HT_.out (by kernel_rfl)) (fun _ _ _ h => h) (Or.inl ⟨by rfl, ?_⟩) ?_ ?_
                   rotate_left
                   ·intro w'
                    go_simp
                    with_reducible rfl
                   rotate_left
                   ·simp only [Act.put, List.setIfInBounds_toArray, List.set_cons_zero, List.set_cons_succ, i64_w, i32_w]
                    rfl
                   refine pure_ (i := 14) (N := some 89) (v := ?_) (a' := ?_) #[true, true, true, true, true, true, true, true, true, true, true, true, true, true, true] rfl rfl (any_of HT_.out (by kernel_rfl)) (fun _ _ _ h => h) (Or.inl ⟨by rfl, ?_⟩) ?_ ?_
                   rotate_left
                   ·intro w'
                    go_simp
                    with_reducible rfl
                   rotate_left
                   ·simp only [Act.put, List.setIfInBounds_toArray, List.set_cons_zero, List.set_cons_succ, i64_w, i32_w]
                    rfl
                   refine done_ (done_of HT_.out (by kernel_rfl)) ?_
                   try go_wp2
                   go_meet
                   case rel => exact ⟨_, (((rd t373 x11_2) == (rd t361 x12_2))), (by first | rfl | (simp; done) | (simp [*]; done)), H', ⟨by have := HJ6.out; have := HK2.out; have := HJ28.out; first | omega | exact Nat.le_refl _⟩, ⟨by (with_reducible repeat (first | apply Kd.R_alloc | apply Kd.R_drewN | apply Kd.R_drew)); exact HO_9.out⟩, ⟨by (with_reducible repeat (first | apply Kd.R_alloc | apply Kd.R_drewN | apply Kd.R_drew)); exact HO_10.out⟩, ⟨by (with_reducible repeat (first | apply Kd.R_alloc | apply Kd.R_drewN | apply Kd.R_drew)); exact HO_393005.out⟩, ⟨by (with_reducible repeat (first | apply Kd.R_alloc | apply Kd.R_drewN | apply Kd.R_drew)); exact HO_393006.out⟩, ⟨by (with_reducible repeat first|refine blk_drewN ?_ _|refine blk_drew ?_|refine blk_alloc ?_ _); exact BK392.out⟩, ⟨by repeat (first | (with_reducible first | exact HB.out | apply below_alloc | apply pw_below_drewN | apply below_drew1 | refine below_set ?_ GE392.out) | exact HB.out)⟩⟩
                  ·rw [if_neg c51] at H
                   exact absurd H (by simp)
                 ·rw [if_neg c50] at H
                  exact absurd H (by simp)
                ·rw [if_neg c49] at H
                 exact absurd H (by simp)
               ·rw [if_neg c48] at H
                have c48b0 : decide (x11_2 < (t373.length : Int)) = false := decide_eq_false c48
                clear c48
                (first | rw [c48b0] | (simp only [i64_w, i32_w]; rw [c48b0]) | skip)
                have H' := Aside0.mk H
                clear H
                try go_wp2
                have n0_ := Aside0.mk (Kd.R_drew HO_9.out)
                have n1_ := Aside0.mk (Kd.R_drew HO_10.out)
                have n2_ := Aside0.mk (Kd.R_drew HO_393005.out)
                have n3_ := Aside0.mk (Kd.R_drew HO_393006.out)
                have n4_ := Aside0.mk (blk_drew BK392.out)
                have n5_ := Aside0.mk (below_drew1 HB.out)
                clear HO_9
                clear HO_10
                clear HO_393005
                clear HO_393006
                clear BK392
                clear HB
                have HO_9 := n0_
                have HO_10 := n1_
                have HO_393005 := n2_
                have HO_393006 := n3_
                have BK392 := n4_
                have HB := n5_
                clear n0_ n1_ n2_ n3_ n4_ n5_
                obtain ⟨Ao55, co55, eo55⟩ := Kd.R_slice HO_10.out
                (first | subst eo55 | (injection eo55 with f1_ f2_ f3_; have f4_ := f1_.symm; have f5_ := f3_.symm; clear f1_ f2_ f3_; subst f4_; subst f5_))
                refine start_ (n := 15) (S := fun w' => True) (ds := []) #[false, false, false, false, false, false, false, false, false, false, false, false, false, false, false] (by kernel_rfl) rfl rfl trivial (fun hHeld => ?_); refine with_tabW skiarealaw22_ProductLess.tab14 skiarealaw22_ProductLess.bits14 (fun HT_ HW_ => ?_)
                generalize wc.drew = w54 at HO_9 HO_10 HO_393005 HO_393006 BK392 HB hHeld ⊢
                refine pure_ (i := 0) (N := some 75) (v := ?_) (a' := ?_) #[true, false, false, false, false, false, false, false, false, false, false, false, false, false, false] rfl rfl (any_of HT_.out (by kernel_rfl)) (fun _ _ _ h => h) (Or.inl ⟨by rfl, ?_⟩) ?_ ?_
                rotate_left
                ·intro w'
                 go_simp
                 with_reducible rfl
                rotate_left
                ·simp only [Act.put, List.setIfInBounds_toArray, List.set_cons_zero, List.set_cons_succ, i64_w, i32_w]
                 rfl
                refine pure_ (i := 1) (N := some 76) (v := ?_) (a' := ?_) #[true, true, false, false, false, false, false, false, false, false, false, false, false, false, false] rfl rfl (any_of HT_.out (by kernel_rfl)) (fun _ _ _ h => h) (Or.inl ⟨by rfl, ?_⟩) ?_ ?_
                rotate_left
                ·intro w'
                 go_simp
                 with_reducible rfl
                rotate_left
                ·simp only [Act.put, List.setIfInBounds_toArray, List.set_cons_zero, List.set_cons_succ, i64_w, i32_w]
                 rfl
                refine pure_ (i := 2) (N := some 77) (v := ?_) (a' := ?_) #[true, true, true, false, false, false, false, false, false, false, false, false, false, false, false] rfl rfl (any_of HT_.out (by kernel_rfl)) (fun _ _ _ h => h) (Or.inl ⟨by rfl, ?_⟩) ?_ ?_
                rotate_left
                ·intro w'
                 go_simp
                 with_reducible rfl
                rotate_left
                ·simp only [Act.put, List.setIfInBounds_toArray, List.set_cons_zero, List.set_cons_succ, i64_w, i32_w]
                 rfl
                refine pure_ (i := 3) (N := some 78) (v := ?_) (a' := ?_) #[true, true, true, true, false, false, false, false, false, false, false, false, false, false, false] rfl rfl (any_of HT_.out (by kernel_rfl)) (fun _ _ _ h => h) (Or.inl ⟨by rfl, ?_⟩) ?_ ?_
                rotate_left
                ·intro w'
                 go_simp
                 with_reducible rfl
                rotate_left
                ·simp only [Act.put, List.setIfInBounds_toArray, List.set_cons_zero, List.set_cons_succ, i64_w, i32_w]
                 rfl
                refine pure_ (i := 4) (N := some 79) (v := ?_) (a' := ?_) #[true, true, true, true, true, false, false, false, false, false, false, false, false, false, false] rfl rfl (any_of HT_.out (by kernel_rfl)) (fun _ _ _ h => h) (Or.inl ⟨by rfl, ?_⟩) ?_ ?_
                rotate_left
                ·intro w'
                 go_simp
                 with_reducible rfl
                rotate_left
                ·simp only [Act.put, List.setIfInBounds_toArray, List.set_cons_zero, List.set_cons_succ, i64_w, i32_w]
                 rfl
                refine pure_ (i := 5) (N := some 80) (v := undef) (a' := ?_) #[true, true, true, true, true, true, false, false, false, false, false, false, false, false, false] rfl rfl (any_of HT_.out (by kernel_rfl)) (fun _ _ _ h => h) (Or.inr ⟨by rfl, rfl⟩) ?_ ?_
                rotate_left
                ·simp only [Act.put, List.setIfInBounds_toArray, List.set_cons_zero, List.set_cons_succ, i64_w, i32_w]
                 rfl
                refine pure_ (i := 6) (N := some 81) (v := undef) (a' := ?_) #[true, true, true, true, true, true, true, false, false, false, false, false, false, false, false] rfl rfl (any_of HT_.out (by kernel_rfl)) (fun _ _ _ h => h) (Or.inr ⟨by rfl, rfl⟩) ?_ ?_
                rotate_left
                ·simp only [Act.put, List.setIfInBounds_toArray, List.set_cons_zero, List.set_cons_succ, i64_w, i32_w]
                 rfl
                refine pure_ (i := 7) (N := some 82) (v := undef) (a' := ?_) #[true, true, true, true, true, true, true, true, false, false, false, false, false, false, false] rfl rfl (any_of HT_.out (by kernel_rfl)) (fun _ _ _ h => h) (Or.inr ⟨by rfl, rfl⟩) ?_ ?_
                rotate_left
                ·simp only [Act.put, List.setIfInBounds_toArray, List.set_cons_zero, List.set_cons_succ, i64_w, i32_w]
                 rfl
                refine pure_ (i := 8) (N := some 83) (v := undef) (a' := ?_) #[true, true, true, true, true, true, true, true, true, false, false, false, false, false, false] rfl rfl (any_of HT_.out (by kernel_rfl)) (fun _ _ _ h => h) (Or.inr ⟨by rfl, rfl⟩) ?_ ?_
                rotate_left
                ·simp only [Act.put, List.setIfInBounds_toArray, List.set_cons_zero, List.set_cons_succ, i64_w, i32_w]
                 rfl
                refine pure_ (i := 9) (N := some 84) (v := undef) (a' := ?_) #[true, true, true, true, true, true, true, true, true, true, false, false, false, false, false] rfl rfl (any_of HT_.out (by kernel_rfl)) (fun _ _ _ h => h) (Or.inr ⟨by rfl, rfl⟩) ?_ ?_
                rotate_left
                ·simp only [Act.put, List.setIfInBounds_toArray, List.set_cons_zero, List.set_cons_succ, i64_w, i32_w]
                 rfl
                refine pure_ (i := 10) (N := some 85) (v := undef) (a' := ?_) #[true, true, true, true, true, true, true, true, true, true, true, false, false, false, false] rfl rfl (any_of HT_.out (by kernel_rfl)) (fun _ _ _ h => h) (Or.inr ⟨by rfl, rfl⟩) ?_ ?_
                rotate_left
                ·simp only [Act.put, List.setIfInBounds_toArray, List.set_cons_zero, List.set_cons_succ, i64_w, i32_w]
                 rfl
                refine pure_ (i := 11) (N := some 86) (v := undef) (a' := ?_) #[true, true, true, true, true, true, true, true, true, true, true, true, false, false, false] rfl rfl (any_of HT_.out (by kernel_rfl)) (fun _ _ _ h => h) (Or.inr ⟨by rfl, rfl⟩) ?_ ?_
                rotate_left
                ·simp only [Act.put, List.setIfInBounds_toArray, List.set_cons_zero, List.set_cons_succ, i64_w, i32_w]
                 rfl
                refine pure_ (i := 12) (N := some 87) (v := undef) (a' := ?_) #[true, true, true, true, true, true, true, true, true, true, true, true, true, false, false] rfl rfl (any_of HT_.out (by kernel_rfl)) (fun _ _ _ h => h) (Or.inr ⟨by rfl, rfl⟩) ?_ ?_
                rotate_left
                ·simp only [Act.put, List.setIfInBounds_toArray, List.set_cons_zero, List.set_cons_succ, i64_w, i32_w]
                 rfl
                refine pure_ (i := 13) (N := some 88) (v := undef) (a' := ?_) #[true, true, true, true, true, true, true, true, true, true, true, true, true, true, false] rfl rfl (any_of HT_.out (by kernel_rfl)) (fun _ _ _ h => h) (Or.inr ⟨by rfl, rfl⟩) ?_ ?_
                rotate_left
                ·simp only [Act.put, List.setIfInBounds_toArray, List.set_cons_zero, List.set_cons_succ, i64_w, i32_w]
                 rfl
                refine pure_ (i := 14) (N := some 89) (v := ?_) (a' := ?_) #[true, true, true, true, true, true, true, true, true, true, true, true, true, true, true] rfl rfl (any_of HT_.out (by kernel_rfl)) (fun _ _ _ h => h) (Or.inl ⟨by rfl, ?_⟩) ?_ ?_
                rotate_left
                ·intro w'
                 go_simp
                 with_reducible rfl
                rotate_left
                ·simp only [Act.put, List.setIfInBounds_toArray, List.set_cons_zero, List.set_cons_succ, i64_w, i32_w]
                 rfl
                refine done_ (done_of HT_.out (by kernel_rfl)) ?_
                try go_wp2
                go_meet
                case rel => exact ⟨_, (false), (by first | rfl | (simp; done) | (simp [*]; done)), H', ⟨by have := HJ6.out; have := HK2.out; have := HJ28.out; first | omega | exact Nat.le_refl _⟩, ⟨by (with_reducible repeat (first | apply Kd.R_alloc | apply Kd.R_drewN | apply Kd.R_drew)); exact HO_9.out⟩, ⟨by (with_reducible repeat (first | apply Kd.R_alloc | apply Kd.R_drewN | apply Kd.R_drew)); exact HO_10.out⟩, ⟨by (with_reducible repeat (first | apply Kd.R_alloc | apply Kd.R_drewN | apply Kd.R_drew)); exact HO_393005.out⟩, ⟨by (with_reducible repeat (first | apply Kd.R_alloc | apply Kd.R_drewN | apply Kd.R_drew)); exact HO_393006.out⟩, ⟨by (with_reducible repeat first|refine blk_drewN ?_ _|refine blk_drew ?_|refine blk_alloc ?_ _); exact BK392.out⟩, ⟨by repeat (first | (with_reducible first | exact HB.out | apply below_alloc | apply pw_below_drewN | apply below_drew1 | refine below_set ?_ GE392.out) | exact HB.out)⟩⟩
              case rest =>
               clear HC47
               try clear c1
               try clear c2
               try clear p2
               try clear c3
               try clear p3
               try clear q3
               try clear hx3
               try clear c4
               try clear c5
               try clear c14
               try clear c17
               try clear c26
               try clear c26b0
               try clear c27
               try clear c27b0
               try clear c36
               try clear c37
               try clear c37b0
               try clear c37b1
               try clear p37
               try clear q37
               try clear hx37
               try clear p39
               try clear q39
               try clear hx39
               try clear c46
               try clear c48
               try clear c48b0
               try clear c49
               try clear c49b0
               try clear c50
               try clear c50b0
               try clear c51
               try clear c51b0
               try clear hcz33_0 hcz33_1 hcz33_2 hcz33_3 hcz33_4 hcz33_5 hcz33_6 hcz33_7 hcz33_8 hcz33_9 hfz33_0 hfz33_1 hfz33_2 hfz33_3 hfz33_4 hfz33_5 hfz33_6 hfz33_7 hfz33_8 hfz33_9
               try clear hx376_0
               try clear hx393_0
               try clear hx395_0
               try clear hx396_0
               try clear p2
               try clear p3
               try clear p37
               try clear p376
               try clear p39
               try clear p393
               try clear p395
               try clear p396
               try clear q3
               try clear q37
               try clear q376
               try clear q39
               try clear q393
               try clear q395
               try clear q396
               obtain ⟨kq, x89_46, rfl, HA, HJ46, HO_9, HO_10, HO_393005, HO_393006, BK392, HB⟩ := hcut
               cases kq with
               | zero => exact absurd HA.out (by simp [skiarealaw22_ProductLess.j3])
               | succ kj46 =>
                have H := HA.out
                clear HA
                simp only [skiarealaw22_ProductLess.j3] at H
                by_cases c56 : x89_46 = true
                ·subst c56
                 have H1 : ((product_Area.f kj46 t377 t378 t379 t380 t381 t382 t385 t388 t389 t390 a3).bind fun t397 => (if t397 = true then (skiarealaw22_ProductLess.l0 kj46 l0 a1 a3 t361 t373 (wrap64 (x11_2 + 1)) (wrap64 (x12_2 + 1))) else none)) = some r := by rw [if_pos rfl] at H; exact H
                 clear H
                 have H := H1
                 clear H1
                 replace H := Option.bind_eq_some_iff.mp H
                 obtain ⟨t397, A570, H⟩ := H
                 replace H : (if t397 = true then (skiarealaw22_ProductLess.l0 kj46 l0 a1 a3 t361 t373 (wrap64 (x11_2 + 1)) (wrap64 (x12_2 + 1))) else none) = some r := H
                 have A57 := Aside0.mk A570
                 clear A570
                 by_cases c58 : t397 = true
                 ·subst c58
                  have H1 : (skiarealaw22_ProductLess.l0 kj46 l0 a1 a3 t361 t373 (wrap64 (x11_2 + 1)) (wrap64 (x12_2 + 1))) = some r := by rw [if_pos rfl] at H; exact H
                  clear H
                  have H := H1
                  clear H1
                  have H' := Aside0.mk H
                  clear H
                  obtain ⟨hcz59_0, hcz59_1, hcz59_2, hcz59_3, hcz59_4, hcz59_5, hcz59_6, hcz59_7, hcz59_8, hcz59_9, hfz59_0, hfz59_1, hfz59_2, hfz59_3, hfz59_4, hfz59_5, hfz59_6, hfz59_7, hfz59_8, hfz59_9⟩ := cells10 BK392.out
                  go_wp2_with (first | ((with_reducible refine gate_callee (f := 19) rfl ?_); refine goesL_ (some 92) rfl rfl Try.func19 (by kernel_rfl) rfl #[.agg #[.int .i64 t377, .int .i64 t378, .int .i64 t379, .int .i64 t380, .int .i64 t381, .slice Ao34 t382.length co34, .slice Ao35 t385.length co35, .int .i64 t388, .int .i64 t389, .int .i64 t390], .int .i64 a3] rfl (by (try simp only [List.map_toArray, List.map_cons, List.map_nil]); first | done | rfl | (simp only [List.length_drop, List.length_take]; rfl)) ?_; (with_reducible refine (product_Area.calls kj46 t377 t378 t379 t380 t381 _ _ t382 _ _ t385 t388 t389 t390 a3 true _ ?side1 ?side2 ?side3 ?side4 A57.out).mono ?_); (case side1 => repeat (first | exact (Kd.R_reads' HO_393005.out).2.2 | (with_reducible refine Kd.C_alloc ?_ _) | (with_reducible refine Kd.C_drewN ?_ _) | (with_reducible refine Kd.C_drew ?_))); (case side2 => exact (Kd.R_reads' HO_393005.out).2.1); (case side3 => repeat (first | exact (Kd.R_reads' HO_393006.out).2.2 | (with_reducible refine Kd.C_alloc ?_ _) | (with_reducible refine Kd.C_drewN ?_ _) | (with_reducible refine Kd.C_drew ?_))); (case side4 => exact (Kd.R_reads' HO_393006.out).2.1); rintro e w60 ⟨rfl, hb⟩; refine ⟨_, rfl, ?_⟩; have n0_ := Aside0.mk (Kd.R_below (by (with_reducible repeat (first | apply Kd.R_alloc | apply Kd.R_drewN | apply Kd.R_drew)); exact HO_9.out) hb); have n1_ := Aside0.mk (Kd.R_below (by (with_reducible repeat (first | apply Kd.R_alloc | apply Kd.R_drewN | apply Kd.R_drew)); exact HO_10.out) hb); have n2_ := Aside0.mk (Kd.R_below (by (with_reducible repeat (first | apply Kd.R_alloc | apply Kd.R_drewN | apply Kd.R_drew)); exact HO_393005.out) hb); have n3_ := Aside0.mk (Kd.R_below (by (with_reducible repeat (first | apply Kd.R_alloc | apply Kd.R_drewN | apply Kd.R_drew)); exact HO_393006.out) hb); have n4_ := Aside0.mk (blk_below (g := gb392) (by (with_reducible repeat first|refine blk_drewN ?_ _|refine blk_drew ?_|refine blk_alloc ?_ _); exact BK392.out) hb); have n5_ := Aside0.mk (below_step (by repeat (first | (with_reducible first | exact HB.out | apply below_alloc | apply pw_below_drewN | apply below_drew1 | refine below_set ?_ GE392.out) | exact HB.out)) hb); clear HO_9; clear HO_10; clear HO_393005; clear HO_393006; clear BK392; clear HB; have HO_9 := n0_; have HO_10 := n1_; have HO_393005 := n2_; have HO_393006 := n3_; have BK392 := n4_; have HB := n5_; clear n0_ n1_ n2_ n3_ n4_ n5_; (try clear hb); (try clear hb2); (try clear hk); (try clear hi)))
                  go_roundg kj46
                  case measure => have := HJ6.out; have := HK2.out; have := HJ28.out; have := HJ46.out; omega
                  case rel => exact ⟨(wrap64 (x11_2 + 1)), (wrap64 (x12_2 + 1)), (by first | rfl | (simp; done) | (simp [*]; done)), (by first | rfl | (simp; done) | (simp [*]; done)), H', ⟨by have := HJ6.out; have := HK2.out; have := HJ28.out; have := HJ46.out; omega⟩, ⟨by (with_reducible repeat (first | apply Kd.R_alloc | apply Kd.R_drewN | apply Kd.R_drew)); exact Kd.R_mono HO_9.out (fun _ hk => hk.1)⟩, ⟨by (with_reducible repeat (first | apply Kd.R_alloc | apply Kd.R_drewN | apply Kd.R_drew)); exact Kd.R_mono HO_10.out (fun _ hk => hk.1)⟩, ⟨by repeat (first | (with_reducible first | exact HB.out | apply below_alloc | apply pw_below_drewN | apply below_drew1 | refine below_set ?_ GE392.out) | exact HB.out)⟩⟩
                 ·replace c58 := Bool.eq_false_iff.mpr c58
                  subst c58
                  have H1 : none = some r := by rw [if_neg (show ¬ (false = true) by decide)] at H; exact H
                  clear H
                  have H := H1
                  clear H1
                  cases H
                ·replace c56 := Bool.eq_false_iff.mpr c56
                 subst c56
                 have H1 : ((product_Area.f kj46 t377 t378 t379 t380 t381 t382 t385 t388 t389 t390 a3).bind fun t398 => (if t398 = true then none else (skiarealaw22_ProductLess.l0 kj46 l0 a1 a3 t361 t373 x11_2 (wrap64 (x12_2 + 1))))) = some r := by rw [if_neg (show ¬ (false = true) by decide)] at H; exact H
                 clear H
                 have H := H1
                 clear H1
                 replace H := Option.bind_eq_some_iff.mp H
                 obtain ⟨t398, A630, H⟩ := H
                 replace H : (if t398 = true then none else (skiarealaw22_ProductLess.l0 kj46 l0 a1 a3 t361 t373 x11_2 (wrap64 (x12_2 + 1)))) = some r := H
                 have A63 := Aside0.mk A630
                 clear A630
                 by_cases c64 : t398 = true
                 ·subst c64
                  have H1 : none = some r := by rw [if_pos rfl] at H; exact H
                  clear H
                  have H := H1
                  clear H1
                  cases H
                 ·replace c64 := Bool.eq_false_iff.mpr c64
                  subst c64
                  have H1 : (skiarealaw22_ProductLess.l0 kj46 l0 a1 a3 t361 t373 x11_2 (wrap64 (x12_2 + 1))) = some r := by rw [if_neg (show ¬ (false = true) by decide)] at H; exact H
                  clear H
                  have H := H1
                  clear H1
                  have H' := Aside0.mk H
                  clear H
                  obtain ⟨hcz67_0, hcz67_1, hcz67_2, hcz67_3, hcz67_4, hcz67_5, hcz67_6, hcz67_7, hcz67_8, hcz67_9, hfz67_0, hfz67_1, hfz67_2, hfz67_3, hfz67_4, hfz67_5, hfz67_6, hfz67_7, hfz67_8, hfz67_9⟩ := cells10 BK392.out
                  go_wp2_with (first | ((with_reducible refine gate_callee (f := 19) rfl ?_); refine goesL_ (some 98) rfl rfl Try.func19 (by kernel_rfl) rfl #[.agg #[.int .i64 t377, .int .i64 t378, .int .i64 t379, .int .i64 t380, .int .i64 t381, .slice Ao34 t382.length co34, .slice Ao35 t385.length co35, .int .i64 t388, .int .i64 t389, .int .i64 t390], .int .i64 a3] rfl (by (try simp only [List.map_toArray, List.map_cons, List.map_nil]); first | done | rfl | (simp only [List.length_drop, List.length_take]; rfl)) ?_; (with_reducible refine (product_Area.calls kj46 t377 t378 t379 t380 t381 _ _ t382 _ _ t385 t388 t389 t390 a3 false _ ?side1 ?side2 ?side3 ?side4 A63.out).mono ?_); (case side1 => repeat (first | exact (Kd.R_reads' HO_393005.out).2.2 | (with_reducible refine Kd.C_alloc ?_ _) | (with_reducible refine Kd.C_drewN ?_ _) | (with_reducible refine Kd.C_drew ?_))); (case side2 => exact (Kd.R_reads' HO_393005.out).2.1); (case side3 => repeat (first | exact (Kd.R_reads' HO_393006.out).2.2 | (with_reducible refine Kd.C_alloc ?_ _) | (with_reducible refine Kd.C_drewN ?_ _) | (with_reducible refine Kd.C_drew ?_))); (case side4 => exact (Kd.R_reads' HO_393006.out).2.1); rintro e w68 ⟨rfl, hb⟩; refine ⟨_, rfl, ?_⟩; have n0_ := Aside0.mk (Kd.R_below (by (with_reducible repeat (first | apply Kd.R_alloc | apply Kd.R_drewN | apply Kd.R_drew)); exact HO_9.out) hb); have n1_ := Aside0.mk (Kd.R_below (by (with_reducible repeat (first | apply Kd.R_alloc | apply Kd.R_drewN | apply Kd.R_drew)); exact HO_10.out) hb); have n2_ := Aside0.mk (Kd.R_below (by (with_reducible repeat (first | apply Kd.R_alloc | apply Kd.R_drewN | apply Kd.R_drew)); exact HO_393005.out) hb); have n3_ := Aside0.mk (Kd.R_below (by (with_reducible repeat (first | apply Kd.R_alloc | apply Kd.R_drewN | apply Kd.R_drew)); exact HO_393006.out) hb); have n4_ := Aside0.mk (blk_below (g := gb392) (by (with_reducible repeat first|refine blk_drewN ?_ _|refine blk_drew ?_|refine blk_alloc ?_ _); exact BK392.out) hb); have n5_ := Aside0.mk (below_step (by repeat (first | (with_reducible first | exact HB.out | apply below_alloc | apply pw_below_drewN | apply below_drew1 | refine below_set ?_ GE392.out) | exact HB.out)) hb); clear HO_9; clear HO_10; clear HO_393005; clear HO_393006; clear BK392; clear HB; have HO_9 := n0_; have HO_10 := n1_; have HO_393005 := n2_; have HO_393006 := n3_; have BK392 := n4_; have HB := n5_; clear n0_ n1_ n2_ n3_ n4_ n5_; (try clear hb); (try clear hb2); (try clear hk); (try clear hi)))
                  go_roundg kj46
                  case measure => have := HJ6.out; have := HK2.out; have := HJ28.out; have := HJ46.out; omega
                  case rel => exact ⟨(x11_2), (wrap64 (x12_2 + 1)), (by first | rfl | (simp; done) | (simp [*]; done)), (by first | rfl | (simp; done) | (simp [*]; done)), H', ⟨by have := HJ6.out; have := HK2.out; have := HJ28.out; have := HJ46.out; omega⟩, ⟨by (with_reducible repeat (first | apply Kd.R_alloc | apply Kd.R_drewN | apply Kd.R_drew)); exact Kd.R_mono HO_9.out (fun _ hk => hk.1)⟩, ⟨by (with_reducible repeat (first | apply Kd.R_alloc | apply Kd.R_drewN | apply Kd.R_drew)); exact Kd.R_mono HO_10.out (fun _ hk => hk.1)⟩, ⟨by repeat (first | (with_reducible first | exact HB.out | apply below_alloc | apply pw_below_drewN | apply below_drew1 | refine below_set ?_ GE392.out) | exact HB.out)⟩⟩
          ·rw [if_neg c27] at H
           exact absurd H (by simp)
         ·rw [if_neg c26] at H
          have c26b0 : decide (x12_2 < (t361.length : Int)) = false := decide_eq_false c26
          clear c26
          obtain rfl := Option.some.inj H
          obtain ⟨Ao69, co69, eo69⟩ := Kd.R_slice HO_9.out
          subst eo69
          obtain ⟨Ao70, co70, eo70⟩ := Kd.R_slice HO_10.out
          subst eo70
          go_wp2
          go_ret
          exact ⟨by first | rfl | (simp [errW_none, errW_some] <;> rfl) | (simp [*, errW_none, errW_some] <;> rfl), by repeat (first | (with_reducible first | exact HB.out | apply below_alloc | apply pw_below_drewN | apply below_drew1) | exact HB.out)⟩
      ·rw [if_neg c17] at H
       exact absurd H (by simp)
     ·rw [if_neg c16] at H
      exact absurd H (by simp)
 ·replace c6 := Bool.eq_false_iff.mpr c6
  subst c6
  have H1 : none = some r := by rw [if_neg (show ¬ (false = true) by decide)] at H; exact H
  clear H
  have H := H1
  clear H1
  cases H
end Go.Proofs.Ytpojelbablofpaa.P
