/- Written by hand: slices.IndexFunc and slices.ContainsFunc over []api.Hours, for any predicate that leaves what was there as it was; clock.In's closure. -/
import Derived.Test.YtpojelbablofpaaFA
import Derived.Shelf.Abstract
namespace Go.Proofs.Ytpojelbablofpaa.P
open Go.RowKit Go.Proofs.YtpojelbablofpaaW.PrintWords Go.Proofs.YtpojelbablofpaaW.PrintLast
set_option linter.unusedVariables false
set_option linter.unusedSimpArgs false

/-- The first hit, in the form of the print's loops. -/
def anyL (p : S52 → Bool) : Nat → List S52 → Int → Option Bool
  | 0, _, _ => none
  | k + 1, l, x => if x < (l.length : Int) then (if 0 ≤ x then (if p (rd_T52 l x) = true then some true else anyL p k l (wrap64 (x + 1))) else none) else some false

/-- What IndexFunc hands back: a number that is at least 0 just where the predicate holds somewhere. -/
def IdxPost (r : Bool) (w : World) (e : Ending) (w' : World) : Prop := ∃ n : Int, decide (0 ≤ n) = r ∧ e = .returned (.int .i64 n) ∧ Below w.heap.size w w'

/-- What is asked of the function value. -/
def PredOk (g : Nat) (lb : Array Value) (p : S52 → Bool) (w : World) : Prop :=
  ∀ (x : S52) (W : World), Below w.heap.size w W → Calls Try.prog g (#[.agg #[.int .i64 x.f0, .int .i64 x.f1, .int .i64 x.f2]] ++ lb) W fun e w' => e = .returned (.bool (p x)) ∧ Below w.heap.size w w'

set_option maxHeartbeats 4000000 in
set_option maxRecDepth 100000 in
theorem IndexFunc_hours (k : Nat) (A0 : Option Addr) (c0 : Nat) (l0 : List S52) (p : S52 → Bool) (g : Nat) (lb : Array Value) (r : Bool) (w : World) (hr0 : Kd.C k52 w A0 l0.length l0)
    (eg : ∀ args w, (callFunc g args).run Try.prog w = .ok (.enter g args) w) (hp : PredOk g lb p w) (h : anyL p k l0 0 = some r) :
    Calls Try.prog 55 #[.slice A0 l0.length c0, .func (.func g) #[] lb] w (IdxPost r w) := by
  have HR0 := Aside0.mk hr0
  clear hr0
  have HP := Aside0.mk hp
  clear hp
  have H' := Aside0.mk h
  clear h
  go_enter Try.func55, Try.ntmps55
  go_wp2
  go_loopg [5, 8] k (fun kq _ v8 wr => ∃ x : Int, v8 = .int .i64 x ∧ Aside0 (anyL p kq l0 x = some r) ∧ Aside0 (kq ≤ k) ∧ Aside0 (Below w.heap.size w wr))
  case atStart => exact ⟨0, rfl, H', ⟨Nat.le_refl _⟩, ⟨Below.refl _ _⟩⟩
  case round =>
    clear H'
    obtain ⟨x, rfl, HA, HK, HB⟩ := hrel
    cases gk with
    | zero => exact absurd HA.out (by simp [anyL])
    | succ k1 =>
      have H := HA.out
      clear HA
      simp only [anyL] at H
      by_cases c1 : x < (l0.length : Int)
      · rw [if_pos c1] at H
        by_cases c2 : 0 ≤ x
        · rw [if_pos c2] at H
          have c1b := decide_eq_true c1
          have c2b := decide_eq_true c2
          obtain ⟨ad, e1, hx0, hx1, hx2⟩ := at_T52 (Kd.C_below HR0.out HB.out) x c2 c1
          cases e1
          have hcall := HP.out (rd_T52 l0 x) wr HB.out
          clear HP
          cases hq : p (rd_T52 l0 x) with
          | true =>
            rw [hq, if_pos rfl] at H
            rw [hq] at hcall
            obtain rfl := Option.some.inj H
            clear H
            have HC := Aside0.mk hcall
            clear hcall hq
            go_wp2_with (go_at_fn g; refine HC.out.mono ?_; rintro e w' ⟨rfl, hb'⟩)
            go_ret
            exact ⟨x, c2b, rfl, hb'⟩
          | false =>
            rw [hq, if_neg (by simp)] at H
            rw [hq] at hcall
            have HC := Aside0.mk hcall
            have HA := Aside0.mk H
            clear hcall hq H
            go_wp2_with (go_at_fn g; refine HC.out.mono ?_; rintro e w' ⟨rfl, hb'⟩)
            go_roundg k1
            case measure => omega
            case rel => exact ⟨_, rfl, HA, ⟨by have := HK.out; omega⟩, ⟨hb'⟩⟩
        · rw [if_neg c2] at H
          cases H
      · rw [if_neg c1] at H
        have c1b := decide_eq_false c1
        obtain rfl := Option.some.inj H
        go_wp2
        go_ret
        exact ⟨-1, rfl, rfl, HB.out⟩

set_option maxHeartbeats 4000000 in
set_option maxRecDepth 100000 in
theorem ContainsFunc_hours (k : Nat) (A0 : Option Addr) (c0 : Nat) (l0 : List S52) (p : S52 → Bool) (g : Nat) (lb : Array Value) (r : Bool) (w : World) (hr0 : Kd.C k52 w A0 l0.length l0)
    (eg : ∀ args w, (callFunc g args).run Try.prog w = .ok (.enter g args) w) (hp : PredOk g lb p w) (h : anyL p k l0 0 = some r) :
    Calls Try.prog 39 #[.slice A0 l0.length c0, .func (.func g) #[] lb] w fun e w' => e = .returned (.bool r) ∧ Below w.heap.size w w' := by
  have HC := Aside0.mk (IndexFunc_hours k A0 c0 l0 p g lb r w hr0 eg hp h)
  clear hr0 hp h
  go_enter Try.func39, Try.ntmps39
  go_wp2_with (go_at_call 55; refine HC.out.mono ?_; rintro e w' ⟨n, hn, rfl, hb'⟩)
  go_ret
  exact ⟨by rw [← hn]; rfl, hb'⟩

/-- clock.In's closure: the hours apply on the day, and hold the second. -/
def inB (wd sec : Int) (x : S52) : Bool := ((Go.bits .and .i64 (shr .i64 x.f0 wd) 1) == 1) && decide (x.f1 ≤ sec) && decide (sec < x.f2)

set_option maxHeartbeats 4000000 in
set_option maxRecDepth 100000 in
theorem In_closure (wd sec : Int) (h0 : 0 ≤ wd) (B1 B2 : Nat) (w : World) (hB1 : B1 < w.heap.size) (hB2 : B2 < w.heap.size) (c1 : w.cell? ⟨B1, 0, none⟩ = some (.int .i64 wd)) (c2 : w.cell? ⟨B2, 0, none⟩ = some (.int .i64 sec)) :
    PredOk 48 #[.pointer (some ⟨B1, 0, none⟩), .pointer (some ⟨B2, 0, none⟩)] (inB wd sec) w := by
  intro x W hb
  have d1 : W.cell? ⟨B1, 0, none⟩ = some (.int .i64 wd) := (hb.cell (p := ⟨B1, 0, none⟩) hB1).trans c1
  have d2 : W.cell? ⟨B2, 0, none⟩ = some (.int .i64 sec) := (hb.cell (p := ⟨B2, 0, none⟩) hB2).trans c2
  have hs := hb.size
  have n1 : B1 < W.heap.size := Nat.lt_of_lt_of_le hB1 hs
  have n2 : B2 < W.heap.size := Nat.lt_of_lt_of_le hB2 hs
  have HBB := Aside0.mk hb
  have hon : clock_on.f x.f0 x.f1 x.f2 wd = some ((Go.bits .and .i64 (shr .i64 x.f0 wd) 1) == 1) := by unfold clock_on.f; rw [if_pos h0]
  have HON := Aside0.mk (fun W' => clock_on.calls x.f0 x.f1 x.f2 wd _ W' hon)
  clear hb c1 c2 hB1 hB2 hon hs
  unfold inB
  generalize ((Go.bits .and .i64 (shr .i64 x.f0 wd) 1) == 1) = b at HON ⊢
  by_cases q1 : x.f1 ≤ sec
  all_goals by_cases q2 : sec < x.f2
  all_goals cases b
  all_goals
    first | have q1b := decide_eq_true q1 | have q1b := decide_eq_false q1
    first | have q2b := decide_eq_true q2 | have q2b := decide_eq_false q2
    go_enter Try.func48, Try.ntmps48
    go_wp2_with (go_at_call 49; refine (HON.out _).mono ?_; rintro e w' ⟨rfl, hb'⟩; have hk := Aside0.mk (blk_below (blk_new W _) hb'); have hb2 := Aside0.mk (below_then (below_alloc (Below.refl W.heap.size W) _) (by simp) hb'); clear hb'; have e1 := (hb2.out.cell (p := ⟨B1, 0, none⟩) n1).trans d1; have e2 := (hb2.out.cell (p := ⟨B2, 0, none⟩) n2).trans d2; obtain ⟨_, _, _, _, _, _⟩ := cells3 hk.out)
    go_ret
    exact ⟨by simp [q1, q2], below_then HBB.out HBB.out.size hb2.out⟩
end Go.Proofs.Ytpojelbablofpaa.P
