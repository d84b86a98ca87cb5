-- Written by wip/fakeprint.py and wip/post.py of this claim's author, who used the kit's printer (print.py) on turned inputs.
import Derived.Test.YtpojelbablofpaaK
import Derived.Test.YtpojelbablofpaaH1
namespace Go.Proofs.Ytpojelbablofpaa.P
open Go.RowKit Go.Proofs.YtpojelbablofpaaW.PrintWords Go.Proofs.YtpojelbablofpaaW.PrintLast Go.Proofs.YtpojelbablofpaaW.PrintMore
attribute [local go_sem] max2_int min2_int max_two min_two max_three min_three max_four min_four   -- for this text's walks alone
attribute [local go_sem] max2_int min2_int max_two min_two
set_option linter.unusedVariables false
set_option linter.unusedSimpArgs false

/-! ### clock_Right: function 31 -/
def clock_Right.l0 : Nat → List (S52) → Int → Option (Bool)
 | 0, _, _ => none
 | k + 1, x0, x3 => if x3 < (x0.length : Int) then (if 0 ≤ x3 then (if ((rd_T52 x0 x3).f0) < 1 then (some false) else (if ((rd_T52 x0 x3).f0) > 127 then (some false) else (if ((rd_T52 x0 x3).f1) < 0 then (some false) else (if ((rd_T52 x0 x3).f1) ≥ ((rd_T52 x0 x3).f2) then (some false) else (if ((rd_T52 x0 x3).f2) > 86400 then (some false) else (clock_Right.l0 k x0 (wrap64 (x3 + 1)))))))) else (none)) else (some true)
def clock_Right.f (k : Nat) (l0 : List (S52)) : Option (Bool) := if (l0.length : Int) > 16 then (some false) else (clock_Right.l0 k l0 0)
theorem clock_Right.mono_l : ∀ k, (∀ y0 y1, LeO (clock_Right.l0 k y0 y1) (clock_Right.l0 (k + 1) y0 y1))
 | 0 => fun _ _ r h => by simp [clock_Right.l0] at h
 | k + 1 => by
  have ih0 := clock_Right.mono_l k
  ·intro y0 y1
   unfold clock_Right.l0
   repeat' first
   | (with_reducible exact ih0 _ _)
   | (with_reducible exact LeO.refl _)
   | (with_reducible exact LeO.none _)
   | (with_reducible refine LeO.ite ?_ ?_)
   | (with_reducible refine LeO.bind ?_ (fun _ => ?_))
   | exact ih0 _ _
   | exact LeO.none _
   | refine LeO.ite ?_ ?_
   | refine LeO.bind ?_ (fun _ => ?_)
theorem clock_Right.mono : ∀ a0 k, LeO (clock_Right.f k a0) (clock_Right.f (k + 1) a0) := by
 intro a0 k
 have ih0 := clock_Right.mono_l k
 unfold clock_Right.f
 repeat' first
   | (with_reducible exact ih0 _ _)
   | (with_reducible exact LeO.refl _)
   | (with_reducible exact LeO.none _)
   | (with_reducible refine LeO.ite ?_ ?_)
   | (with_reducible refine LeO.bind ?_ (fun _ => ?_))
   | exact ih0 _ _
   | exact LeO.none _
   | refine LeO.ite ?_ ?_
   | refine LeO.bind ?_ (fun _ => ?_)
/-- clock.Right's closure: the hours are wrong. -/
def badB (x : S52) : Bool := decide (x.f0 < 1) || decide (127 < x.f0) || decide (x.f1 < 0) || decide (x.f2 ≤ x.f1) || decide (86400 < x.f2)
set_option maxHeartbeats 4000000 in
set_option maxRecDepth 100000 in
theorem Right_closure (w : World) : PredOk 40 #[] badB w := by
 intro x W hb
 have HBB := Aside0.mk hb
 clear hb
 unfold badB
 by_cases q1 : x.f0 < 1
 · have q1b := decide_eq_true q1
   go_enter Try.func40, Try.ntmps40
   go_wp2
   go_ret
   exact ⟨by simp [q1], below_then HBB.out HBB.out.size (by repeat (first | exact Below.refl _ _ | apply below_alloc | apply pw_below_drewN | apply below_drew1))⟩
 have q1b := decide_eq_false q1
 by_cases q2 : 127 < x.f0
 · have q2b := decide_eq_true q2
   go_enter Try.func40, Try.ntmps40
   go_wp2
   go_ret
   exact ⟨by simp [q2], below_then HBB.out HBB.out.size (by repeat (first | exact Below.refl _ _ | apply below_alloc | apply pw_below_drewN | apply below_drew1))⟩
 have q2b := decide_eq_false q2
 by_cases q3 : x.f1 < 0
 · have q3b := decide_eq_true q3
   go_enter Try.func40, Try.ntmps40
   go_wp2
   go_ret
   exact ⟨by simp [q3], below_then HBB.out HBB.out.size (by repeat (first | exact Below.refl _ _ | apply below_alloc | apply pw_below_drewN | apply below_drew1))⟩
 have q3b := decide_eq_false q3
 by_cases q4 : x.f2 ≤ x.f1
 · have q4b := decide_eq_true q4
   go_enter Try.func40, Try.ntmps40
   go_wp2
   go_ret
   exact ⟨by simp [q4], below_then HBB.out HBB.out.size (by repeat (first | exact Below.refl _ _ | apply below_alloc | apply pw_below_drewN | apply below_drew1))⟩
 have q4b := decide_eq_false q4
 by_cases q5 : 86400 < x.f2
 · have q5b := decide_eq_true q5
   go_enter Try.func40, Try.ntmps40
   go_wp2
   go_ret
   exact ⟨by simp [q5], below_then HBB.out HBB.out.size (by repeat (first | exact Below.refl _ _ | apply below_alloc | apply pw_below_drewN | apply below_drew1))⟩
 have q5b := decide_eq_false q5
 go_enter Try.func40, Try.ntmps40
 go_wp2
 go_ret
 exact ⟨by simp [q1, q2, q3, q4, q5], below_then HBB.out HBB.out.size (by repeat (first | exact Below.refl _ _ | apply below_alloc | apply pw_below_drewN | apply below_drew1))⟩
theorem right_loop : ∀ (k : Nat) (l : List S52) (x : Int), clock_Right.l0 k l x = (anyL badB k l x).map (fun b => !b) := by
 intro k
 induction k with
 | zero => intro l x; rfl
 | succ k ih =>
  intro l x
  simp only [clock_Right.l0, anyL, ih]
  have e : badB (rd_T52 l x) = (decide ((rd_T52 l x).f0 < 1) || decide (127 < (rd_T52 l x).f0) || decide ((rd_T52 l x).f1 < 0) || decide ((rd_T52 l x).f2 ≤ (rd_T52 l x).f1) || decide (86400 < (rd_T52 l x).f2)) := rfl
  generalize badB (rd_T52 l x) = q at e ⊢
  by_cases c1 : x < (l.length : Int)
  · rw [if_pos c1, if_pos c1]
    by_cases c2 : 0 ≤ x
    · rw [if_pos c2, if_pos c2]
      by_cases q1 : (rd_T52 l x).f0 < 1
      · rw [if_pos q1, e]; simp [q1]
      rw [if_neg q1]
      by_cases q2 : (rd_T52 l x).f0 > 127
      · rw [if_pos q2, e]; simp [show 127 < (rd_T52 l x).f0 from q2]
      rw [if_neg q2]
      by_cases q3 : (rd_T52 l x).f1 < 0
      · rw [if_pos q3, e]; simp [q3]
      rw [if_neg q3]
      by_cases q4 : (rd_T52 l x).f1 ≥ (rd_T52 l x).f2
      · rw [if_pos q4, e]; simp [show (rd_T52 l x).f2 ≤ (rd_T52 l x).f1 from q4]
      rw [if_neg q4]
      by_cases q5 : (rd_T52 l x).f2 > 86400
      · rw [if_pos q5, e]; simp [show 86400 < (rd_T52 l x).f2 from q5]
      rw [if_neg q5]
      have eq : q = false := by rw [e]; simp; omega
      rw [eq, if_neg (by simp)]
    · rw [if_neg c2, if_neg c2]; rfl
  · rw [if_neg c1, if_neg c1]; rfl
set_option maxHeartbeats 4000000 in
set_option maxRecDepth 100000 in
theorem clock_Right.calls (k : Nat) (A0 : Option Addr) (c0 : Nat) (l0 : List (S52)) (r : Bool) (w : World) (hr0 : Kd.C k52 w A0 l0.length l0) (hc0 : l0.length ≤ c0) (h : clock_Right.f k l0 = some r) :
  Calls Try.prog 31 #[.slice A0 l0.length c0] w fun e w' => e = .returned (.bool r) ∧ Below w.heap.size w w' := by
 unfold clock_Right.f at h
 by_cases c : (l0.length : Int) > 16
 · rw [if_pos c] at h
   obtain rfl := Option.some.inj h
   have cb : decide (16 < (l0.length : Int)) = true := decide_eq_true c
   clear h hr0
   go_enter Try.func31, Try.ntmps31
   go_wp2
   go_ret
   exact ⟨rfl, Below.refl _ _⟩
 · rw [if_neg c, right_loop] at h
   have cb : decide (16 < (l0.length : Int)) = false := decide_eq_false c
   obtain ⟨b, hb, rfl⟩ := Option.map_eq_some_iff.mp h
   have HH := Aside0.mk hb
   have HR0 := Aside0.mk hr0
   have eg := enters_of (P := Try.prog) Try.func40 (by kernel_rfl) rfl
   clear h hb hr0 c
   go_enter Try.func31, Try.ntmps31
   go_wp2_with (go_at_call 39; refine (ContainsFunc_hours k A0 c0 l0 badB 40 _ b _ HR0.out eg (Right_closure _) HH.out).mono ?_; rintro e w4 ⟨rfl, hd⟩; have HB4 := Aside0.mk hd; clear hd)
   go_ret
   exact ⟨rfl, HB4.out⟩

end Go.Proofs.Ytpojelbablofpaa.P
