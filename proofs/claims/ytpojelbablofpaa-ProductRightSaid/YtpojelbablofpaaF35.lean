-- Written by wip/fakeprint.py and wip/post.py of this claim's author, who used the kit's printer (print.py) on turned inputs.
import Derived.Test.YtpojelbablofpaaK
import Derived.Test.YtpojelbablofpaaFA
import Derived.Test.YtpojelbablofpaaFA
import Derived.Test.YtpojelbablofpaaFA
import Derived.Test.YtpojelbablofpaaFA
import Derived.Test.YtpojelbablofpaaH1
namespace Go.Proofs.Ytpojelbablofpaa.P
open Go.RowKit Go.Proofs.YtpojelbablofpaaW.PrintWords Go.Proofs.YtpojelbablofpaaW.PrintLast Go.Proofs.YtpojelbablofpaaW.PrintMore
attribute [local go_sem] max2_int min2_int max_two min_two max_three min_three max_four min_four   -- for this text's walks alone
attribute [local go_sem] max2_int min2_int max_two min_two
set_option linter.unusedVariables false
set_option linter.unusedSimpArgs false

/-! ### clock_In: function 35 -/
def clock_In.l0 : Nat → List (S52) → Int → Int → Option (Bool)
 | 0, _, _, _ => none
 | k + 1, x0, x1, x5 => if x5 < (x0.length : Int) then (if 0 ≤ x5 then ((skiarearef02_Weekday.f x1).bind fun t298 => ((skiarearef02_on.f ((rd_T52 x0 x5).f0) t298).bind fun t299 => (if t299 = true then ((skiarearef02_Second.f x1).bind fun t301 => (if ((rd_T52 x0 x5).f1) ≤ t301 then ((skiarearef02_Second.f x1).bind fun t302 => (if t302 < ((rd_T52 x0 x5).f2) then (some true) else (clock_In.l0 k x0 x1 (wrap64 (x5 + 1))))) else (clock_In.l0 k x0 x1 (wrap64 (x5 + 1))))) else (clock_In.l0 k x0 x1 (wrap64 (x5 + 1)))))) else (none)) else (some false)
def clock_In.f (k : Nat) (l0 : List (S52)) (a1 : Int) : Option (Bool) := (skiarearef02_time.f a1).bind fun t296 => (if t296 = true then (clock_In.l0 k l0 a1 0) else (some false))
theorem clock_In.mono_l : ∀ k, (∀ y0 y1 y2, LeO (clock_In.l0 k y0 y1 y2) (clock_In.l0 (k + 1) y0 y1 y2))
 | 0 => fun _ _ _ r h => by simp [clock_In.l0] at h
 | k + 1 => by
  have ih0 := clock_In.mono_l k
  ·intro y0 y1 y2
   unfold clock_In.l0
   repeat' first
   | (with_reducible exact ih0 _ _ _)
   | (with_reducible exact LeO.refl _)
   | (with_reducible exact LeO.none _)
   | (with_reducible refine LeO.ite ?_ ?_)
   | (with_reducible refine LeO.bind ?_ (fun _ => ?_))
   | exact ih0 _ _ _
   | exact LeO.none _
   | refine LeO.ite ?_ ?_
   | refine LeO.bind ?_ (fun _ => ?_)
theorem clock_In.mono : ∀ a0 a1 k, LeO (clock_In.f k a0 a1) (clock_In.f (k + 1) a0 a1) := by
 intro a0 a1 k
 have ih0 := clock_In.mono_l k
 unfold clock_In.f
 repeat' first
   | (with_reducible exact ih0 _ _ _)
   | (with_reducible exact LeO.refl _)
   | (with_reducible exact LeO.none _)
   | (with_reducible refine LeO.ite ?_ ?_)
   | (with_reducible refine LeO.bind ?_ (fun _ => ?_))
   | exact ih0 _ _ _
   | exact LeO.none _
   | refine LeO.ite ?_ ?_
   | refine LeO.bind ?_ (fun _ => ?_)
theorem in_loop (a : Int) (h0 : 0 ≤ a) (h1 : a ≤ 20000000) : ∀ (k : Nat) (l : List S52) (x : Int), clock_In.l0 k l a x = anyL (inB (Int.tmod (wrap64 (Int.tdiv a 86400)) 7) (Int.tmod a 86400)) k l x := by
 have ht : skiarearef02_time.f a = some true := by unfold skiarearef02_time.f; rw [if_pos (by omega)]; simp [h1]
 have hw : skiarearef02_Weekday.f a = some (Int.tmod (wrap64 (Int.tdiv a 86400)) 7) := by unfold skiarearef02_Weekday.f; rw [ht]; rfl
 have hs : skiarearef02_Second.f a = some (Int.tmod a 86400) := by unfold skiarearef02_Second.f; rw [ht]; rfl
 have hq : Int.tdiv a 86400 = a / 86400 := Int.tdiv_eq_ediv_of_nonneg h0
 have hwr : wrap64 (a / 86400) = a / 86400 := by unfold wrap64; omega
 have hm : Int.tmod (wrap64 (Int.tdiv a 86400)) 7 = a / 86400 % 7 := by rw [hq, hwr]; exact Int.tmod_eq_emod_of_nonneg (by omega)
 have hu : IntKind.u64.wrap (Int.tmod (wrap64 (Int.tdiv a 86400)) 7) = Int.tmod (wrap64 (Int.tdiv a 86400)) 7 := by rw [hm]; simp [IntKind.wrap, IntKind.bits, IntKind.signed]; omega
 have h07 : 0 ≤ Int.tmod (wrap64 (Int.tdiv a 86400)) 7 := by rw [hm]; omega
 generalize Int.tmod (wrap64 (Int.tdiv a 86400)) 7 = wd at *
 generalize Int.tmod a 86400 = sec at *
 have ho : ∀ d : Int, skiarearef02_on.f d wd = some ((Go.bits .and .i64 (shr .i64 d wd) 1) == 1) := by intro d; unfold skiarearef02_on.f; rw [hu, if_pos h07]
 intro k
 induction k with
 | zero => intro l x; rfl
 | succ k ih =>
  intro l x
  simp only [clock_In.l0, anyL, hw, hs, ho, Option.bind_some, ih]
  by_cases c1 : x < (l.length : Int)
  · rw [if_pos c1, if_pos c1]
    by_cases c2 : 0 ≤ x
    · rw [if_pos c2, if_pos c2]
      have e : inB wd sec (rd_T52 l x) = ((bits BinOp.and IntKind.i64 (shr IntKind.i64 (rd_T52 l x).f0 wd) 1 == 1) && decide ((rd_T52 l x).f1 ≤ sec) && decide (sec < (rd_T52 l x).f2)) := rfl
      generalize inB wd sec (rd_T52 l x) = q at e ⊢
      by_cases cb : (bits BinOp.and IntKind.i64 (shr IntKind.i64 (rd_T52 l x).f0 wd) 1 == 1) = true
      · rw [if_pos cb]
        rw [cb] at e
        by_cases c3 : (rd_T52 l x).f1 ≤ sec
        · rw [if_pos c3]
          by_cases c4 : sec < (rd_T52 l x).f2
          · rw [if_pos c4, if_pos (by rw [e]; simp [c3, c4])]
          · rw [if_neg c4, if_neg (by rw [e]; simp [c4])]
        · rw [if_neg c3, if_neg (by rw [e]; simp [c3])]
      · rw [if_neg cb, if_neg (by rw [e, Bool.eq_false_iff.mpr cb]; simp)]
    · rw [if_neg c2, if_neg c2]
  · rw [if_neg c1, if_neg c1]
set_option maxHeartbeats 4000000 in
set_option maxRecDepth 100000 in
theorem clock_In.calls (k : Nat) (A0 : Option Addr) (c0 : Nat) (l0 : List (S52)) (a1 : Int) (r : Bool) (w : World) (hr0 : Kd.C k52 w A0 l0.length l0) (hc0 : l0.length ≤ c0) (h : clock_In.f k l0 a1 = some r) :
  Calls Try.prog 35 #[.slice A0 l0.length c0, .int .i64 a1] w fun e w' => e = .returned (.bool r) ∧ Below w.heap.size w w' := by
 by_cases h0 : 0 ≤ a1 ∧ a1 ≤ 20000000
 · obtain ⟨h0, h1⟩ := h0
   have ht : skiarearef02_time.f a1 = some true := by unfold skiarearef02_time.f; rw [if_pos (by omega)]; simp [h1]
   have hi : clock_isTime.f a1 = some true := ht
   have hq : Int.tdiv a1 86400 = a1 / 86400 := Int.tdiv_eq_ediv_of_nonneg h0
   have hwr : wrap64 (a1 / 86400) = a1 / 86400 := by unfold wrap64; omega
   have hm : Int.tmod (wrap64 (Int.tdiv a1 86400)) 7 = a1 / 86400 % 7 := by rw [hq, hwr]; exact Int.tmod_eq_emod_of_nonneg (by omega)
   have hl := in_loop a1 h0 h1
   have hw : clock_Weekday.f a1 = some (Int.tmod (wrap64 (Int.tdiv a1 86400)) 7) := by unfold clock_Weekday.f; rw [hi]; rfl
   have hs : clock_Second.f a1 = some (Int.tmod a1 86400) := by unfold clock_Second.f; rw [hi]; rfl
   have h07 : 0 ≤ Int.tmod (wrap64 (Int.tdiv a1 86400)) 7 := by rw [hm]; omega
   clear hm hwr hq
   unfold clock_In.f at h
   rw [ht] at h
   simp only [Option.bind_some, if_true] at h
   rw [hl] at h
   generalize Int.tmod (wrap64 (Int.tdiv a1 86400)) 7 = wd at *
   generalize Int.tmod a1 86400 = sec at *
   have HT := Aside0.mk hi
   have HW := Aside0.mk hw
   have HS := Aside0.mk hs
   have HH := Aside0.mk h
   have HR0 := Aside0.mk hr0
   have H0 := Aside0.mk h07
   have eg := enters_of (P := Try.prog) Try.func48 (by kernel_rfl) rfl
   clear hi hw hs h hr0 ht hl h0 h1 h07
   go_enter Try.func35, Try.ntmps35
   go_wp2_with (first
    | (go_at_call 45; refine (clock_isTime.calls a1 true _ HT.out).mono ?_; rintro e w1 ⟨rfl, hd⟩; have HB := Aside0.mk hd.below; clear hd)
    | (go_at_call 46; refine (clock_Weekday.calls a1 _ _ HW.out).mono ?_; rintro e w2 ⟨rfl, hd⟩; have HB2 := Aside0.mk (below_then HB.out HB.out.size hd.below); clear hd HB)
    | (go_at_call 47; refine (clock_Second.calls a1 _ _ HS.out).mono ?_; rintro e w3 ⟨rfl, hd⟩; have HB3 := Aside0.mk (below_then HB2.out HB2.out.size hd.below); clear hd HB2))
   refine (ContainsFunc_hours k A0 c0 l0 (inB wd sec) 48 _ r _ ?c1 eg (In_closure wd sec H0.out w3.heap.size (w3.heap.size + 1) _ ?c2 ?c3 ?c4 ?c5) HH.out).mono ?_
   case c1 => exact Kd.C_alloc (Kd.C_alloc (Kd.C_below HR0.out HB3.out) _) _
   case c2 => simp; omega
   case c3 => simp
   case c4 => go_simp
   case c5 => go_simp
   rintro e w4 ⟨rfl, hd⟩
   have hd' := below_then (below_alloc (below_alloc HB3.out _) _) (Nat.le_trans HB3.out.size (by simp; omega)) hd
   have HB4 := Aside0.mk hd'
   clear hd hd'
   go_wp2
   go_ret
   exact ⟨rfl, HB4.out⟩
 · have ht : clock_isTime.f a1 = some false := by
    unfold clock_isTime.f
    by_cases h1 : a1 ≥ 0
    · rw [if_pos h1]; simp; omega
    · rw [if_neg h1]
   have ht2 : skiarearef02_time.f a1 = some false := ht
   unfold clock_In.f at h
   rw [ht2] at h
   obtain rfl := Option.some.inj h
   have HT := Aside0.mk ht
   clear h ht ht2 h0 hr0
   go_enter Try.func35, Try.ntmps35
   go_wp2_with (first
    | (go_at_call 45; refine (clock_isTime.calls a1 false _ HT.out).mono ?_; rintro e w1 ⟨rfl, hd⟩; have HB := Aside0.mk hd.below; clear hd))
   go_ret
   exact ⟨rfl, HB.out⟩

end Go.Proofs.Ytpojelbablofpaa.P
