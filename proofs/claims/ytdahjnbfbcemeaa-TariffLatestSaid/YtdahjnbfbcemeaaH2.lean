/- Written by hand: slices.IndexFunc and slices.ContainsFunc over []api.Rate, for any predicate that leaves what was there as it was. -/
import Derived.Test.YtdahjnbfbcemeaaH1
namespace Go.Proofs.Ytdahjnbfbcemeaa.P
open Go.RowKit Go.Proofs.YtdahjnbfbcemeaaW.PrintWords Go.Proofs.YtdahjnbfbcemeaaW.PrintLast
set_option linter.unusedVariables false
set_option linter.unusedSimpArgs false
def anyR (p : S35 → Bool) : Nat → List S35 → Int → Option Bool
  | 0, _, _ => none
  | k + 1, l, x => if x < (l.length : Int) then (if 0 ≤ x then (if p (rd_T35 l x) = true then some true else anyR p k l (wrap64 (x + 1))) else none) else some false
theorem anyR_any (p : S35 → Bool) (l : List S35) (hl : l.length ≤ 1000000) : ∀ (n i : Nat), i + n = l.length → anyR p (n + 1) l i = some ((l.drop i).any p) := by
  intro n
  induction n with
  | zero =>
    intro i hi
    simp only [anyR]
    rw [if_neg (by omega), List.drop_eq_nil_of_le (by omega)]
    rfl
  | succ n ih =>
    intro i hi
    have hlt : i < l.length := by omega
    rw [anyR, if_pos (by omega), if_pos (by omega), show wrap64 ((i : Int) + 1) = ((i + 1 : Nat) : Int) by unfold wrap64; omega, ih (i + 1) (by omega)]
    have e : rd_T35 l i = l[i] := by simp [rd_T35, hlt]
    rw [e, List.drop_eq_getElem_cons hlt, List.any_cons]
    cases p l[i] <;> simp
/-- What is asked of the function value. -/
def PredOkR (g : Nat) (lb : Array Value) (p : S35 → Bool) (w : World) : Prop :=
  ∀ (x : S35) (A : Option Addr) (c : Nat) (W : World), Below w.heap.size w W → Calls Try.prog g (#[.agg #[.int .i64 x.f0, .int .i64 x.f1, .int .i64 x.f2, .slice A x.f3.length c]] ++ lb) W fun e w' => e = .returned (.bool (p x)) ∧ Below w.heap.size w w'

set_option maxHeartbeats 4000000 in
set_option maxRecDepth 100000 in
theorem IndexFunc_rates (k : Nat) (A0 : Option Addr) (c0 : Nat) (l0 : List S35) (p : S35 → Bool) (g : Nat) (lb : Array Value) (r : Bool) (w : World) (hr0 : Kd.C k35 w A0 l0.length l0)
    (eg : ∀ args w, (callFunc g args).run Try.prog w = .ok (.enter g args) w) (hp : PredOkR g lb p w) (h : anyR p k l0 0 = some r) :
    Calls Try.prog 48 #[.slice A0 l0.length c0, .func (.func g) #[] lb] w (IdxPost r w) := by
  have HR0 := Aside0.mk hr0
  clear hr0
  have HP := Aside0.mk hp
  clear hp
  have H' := Aside0.mk h
  clear h
  go_enter Try.func48, Try.ntmps48
  go_wp2
  go_loopg [5, 8] k (fun kq _ v8 wr => ∃ x : Int, v8 = .int .i64 x ∧ Aside0 (anyR p kq l0 x = some r) ∧ Aside0 (kq ≤ k) ∧ Aside0 (Below w.heap.size w wr))
  case atStart => exact ⟨0, rfl, H', ⟨Nat.le_refl _⟩, ⟨Below.refl _ _⟩⟩
  case round =>
    clear H'
    obtain ⟨x, rfl, HA, HK, HB⟩ := hrel
    cases gk with
    | zero => exact absurd HA.out (by simp [anyR])
    | succ k1 =>
      have H := HA.out
      clear HA
      simp only [anyR] at H
      by_cases c1 : x < (l0.length : Int)
      · rw [if_pos c1] at H
        by_cases c2 : 0 ≤ x
        · rw [if_pos c2] at H
          have c1b := decide_eq_true c1
          have c2b := decide_eq_true c2
          obtain ⟨ad, A3, c3, e1, hx0, hx1, hx2, hx3, hx4, hx5⟩ := at_T35 (Kd.C_below HR0.out HB.out) x c2 c1
          cases e1
          have hcall := HP.out (rd_T35 l0 x) A3 c3 wr HB.out
          clear HP hx4 hx5
          cases hq : p (rd_T35 l0 x) with
          | true =>
            rw [hq, if_pos rfl] at H
            rw [hq] at hcall
            obtain rfl := Option.some.inj H
            clear H
            have HC := Aside0.mk hcall
            clear hcall hq
            go_wp2_with (go_at_fn g; refine HC.out.mono ?_; rintro e w' ⟨rfl, hb'⟩)
            go_ret
            exact ⟨x, c2b, rfl, hb'⟩
          | false =>
            rw [hq, if_neg (by simp)] at H
            rw [hq] at hcall
            have HC := Aside0.mk hcall
            have HA := Aside0.mk H
            clear hcall hq H
            go_wp2_with (go_at_fn g; refine HC.out.mono ?_; rintro e w' ⟨rfl, hb'⟩)
            go_roundg k1
            case measure => omega
            case rel => exact ⟨_, rfl, HA, ⟨by have := HK.out; omega⟩, ⟨hb'⟩⟩
        · rw [if_neg c2] at H
          cases H
      · rw [if_neg c1] at H
        have c1b := decide_eq_false c1
        obtain rfl := Option.some.inj H
        go_wp2
        go_ret
        exact ⟨-1, rfl, rfl, HB.out⟩

set_option maxHeartbeats 4000000 in
set_option maxRecDepth 100000 in
theorem ContainsFunc_rates (k : Nat) (A0 : Option Addr) (c0 : Nat) (l0 : List S35) (p : S35 → Bool) (g : Nat) (lb : Array Value) (r : Bool) (w : World) (hr0 : Kd.C k35 w A0 l0.length l0)
    (eg : ∀ args w, (callFunc g args).run Try.prog w = .ok (.enter g args) w) (hp : PredOkR g lb p w) (h : anyR p k l0 0 = some r) :
    Calls Try.prog 39 #[.slice A0 l0.length c0, .func (.func g) #[] lb] w fun e w' => e = .returned (.bool r) ∧ Below w.heap.size w w' := by
  have HC := Aside0.mk (IndexFunc_rates k A0 c0 l0 p g lb r w hr0 eg hp h)
  clear hr0 hp h
  go_enter Try.func39, Try.ntmps39
  go_wp2_with (go_at_call 48; refine HC.out.mono ?_; rintro e w' ⟨n, hn, rfl, hb'⟩)
  go_ret
  exact ⟨by rw [← hn]; rfl, hb'⟩

/-- rates' closure: the rate is of the same lift. -/
theorem rates_closure (lift : Int) (B : Nat) (w : World) (hB : B < w.heap.size) (c1 : w.cell? ⟨B, 0, none⟩ = some (.int .i64 lift)) :
    PredOkR 40 #[.pointer (some ⟨B, 0, none⟩)] (fun y => y.f0 == lift) w := by
  intro x A c W hb
  have d1 : W.cell? ⟨B, 0, none⟩ = some (.int .i64 lift) := (hb.cell (p := ⟨B, 0, none⟩) hB).trans c1
  have hs := hb.size
  have n1 : B < W.heap.size := Nat.lt_of_lt_of_le hB hs
  have HBB := Aside0.mk hb
  clear hb c1 hB hs
  by_cases q1 : x.f0 = lift
  · have q1b : (x.f0 == lift) = true := beq_iff_eq.mpr q1
    clear q1
    go_enter Try.func40, Try.ntmps40
    go_wp2
    go_ret
    exact ⟨by rw [q1b]; rfl, below_then HBB.out HBB.out.size (by repeat (first | exact Below.refl _ _ | apply below_alloc | apply pw_below_drewN | apply below_drew1))⟩
  · have q1b : (x.f0 == lift) = false := beq_eq_false_iff_ne.mpr q1
    clear q1
    go_enter Try.func40, Try.ntmps40
    go_wp2
    go_ret
    exact ⟨by rw [q1b]; rfl, below_then HBB.out HBB.out.size (by repeat (first | exact Below.refl _ _ | apply below_alloc | apply pw_below_drewN | apply below_drew1))⟩
end Go.Proofs.Ytdahjnbfbcemeaa.P
