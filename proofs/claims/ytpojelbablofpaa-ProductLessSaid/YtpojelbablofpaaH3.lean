/- Written by hand: slices.IndexFunc and slices.ContainsFunc over []int, for any predicate that leaves what was there as it was; For's closure; what Area says in closed form. -/
import Derived.Test.YtpojelbablofpaaF19
import Derived.Test.YtpojelbablofpaaF17
import Derived.Test.YtpojelbablofpaaH1
namespace Go.Proofs.Ytpojelbablofpaa.P
open Go.RowKit Go.Proofs.YtpojelbablofpaaW.PrintWords Go.Proofs.YtpojelbablofpaaW.PrintLast
set_option linter.unusedVariables false
set_option linter.unusedSimpArgs false
def anyI (p : Int → Bool) : Nat → List Int → Int → Option Bool
  | 0, _, _ => none
  | k + 1, l, x => if x < (l.length : Int) then (if 0 ≤ x then (if p (rd l x) = true then some true else anyI p k l (wrap64 (x + 1))) else none) else some false
theorem anyI_any (p : Int → Bool) (l : List Int) (hl : l.length ≤ 1000000) : ∀ (n i : Nat), i + n = l.length → anyI p (n + 1) l i = some ((l.drop i).any p) := by
  intro n
  induction n with
  | zero =>
    intro i hi
    simp only [anyI]
    rw [if_neg (by omega), List.drop_eq_nil_of_le (by omega)]
    rfl
  | succ n ih =>
    intro i hi
    have hlt : i < l.length := by omega
    rw [anyI, if_pos (by omega), if_pos (by omega), show wrap64 ((i : Int) + 1) = ((i + 1 : Nat) : Int) by unfold wrap64; omega, ih (i + 1) (by omega)]
    have e : rd l i = l[i] := by unfold rd; simp [List.getD_eq_getElem?_getD, List.getElem?_eq_getElem hlt]
    rw [e, List.drop_eq_getElem_cons hlt, List.any_cons]
    cases p l[i] <;> simp
/-- What is asked of the function value. -/
def PredOkI (g : Nat) (lb : Array Value) (p : Int → Bool) (w : World) : Prop :=
  ∀ (x : Int) (W : World), Below w.heap.size w W → Calls Try.prog g (#[.int .i64 x] ++ lb) W fun e w' => e = .returned (.bool (p x)) ∧ Below w.heap.size w w'

set_option maxHeartbeats 4000000 in
set_option maxRecDepth 100000 in
theorem IndexFunc_ints (k : Nat) (A0 : Option Addr) (c0 : Nat) (l0 : List Int) (p : Int → Bool) (g : Nat) (lb : Array Value) (r : Bool) (w : World) (hr0 : Kd.C (Kd.int .i64) w A0 l0.length l0)
    (eg : ∀ args w, (callFunc g args).run Try.prog w = .ok (.enter g args) w) (hp : PredOkI g lb p w) (h : anyI p k l0 0 = some r) :
    Calls Try.prog 54 #[.slice A0 l0.length c0, .func (.func g) #[] lb] w (IdxPost r w) := by
  have HR0 := Aside0.mk hr0
  clear hr0
  have HP := Aside0.mk hp
  clear hp
  have H' := Aside0.mk h
  clear h
  go_enter Try.func54, Try.ntmps54
  go_wp2
  go_loopg [5, 8] k (fun kq _ v8 wr => ∃ x : Int, v8 = .int .i64 x ∧ Aside0 (anyI p kq l0 x = some r) ∧ Aside0 (kq ≤ k) ∧ Aside0 (Below w.heap.size w wr))
  case atStart => exact ⟨0, rfl, H', ⟨Nat.le_refl _⟩, ⟨Below.refl _ _⟩⟩
  case round =>
    clear H'
    obtain ⟨x, rfl, HA, HK, HB⟩ := hrel
    cases gk with
    | zero => exact absurd HA.out (by simp [anyI])
    | succ k1 =>
      have H := HA.out
      clear HA
      simp only [anyI] at H
      by_cases c1 : x < (l0.length : Int)
      · rw [if_pos c1] at H
        by_cases c2 : 0 ≤ x
        · rw [if_pos c2] at H
          have c1b := decide_eq_true c1
          have c2b := decide_eq_true c2
          obtain ⟨ad, e1, hx0⟩ := Kd.at_int (Kd.C_below HR0.out HB.out) x c2 c1
          cases e1
          have hcall := HP.out (rd l0 x) wr HB.out
          clear HP
          cases hq : p (rd l0 x) with
          | true =>
            rw [hq, if_pos rfl] at H
            rw [hq] at hcall
            obtain rfl := Option.some.inj H
            clear H
            have HC := Aside0.mk hcall
            clear hcall hq
            go_wp2_with (go_at_fn g; refine HC.out.mono ?_; rintro e w' ⟨rfl, hb'⟩)
            go_ret
            exact ⟨x, c2b, rfl, hb'⟩
          | false =>
            rw [hq, if_neg (by simp)] at H
            rw [hq] at hcall
            have HC := Aside0.mk hcall
            have HA := Aside0.mk H
            clear hcall hq H
            go_wp2_with (go_at_fn g; refine HC.out.mono ?_; rintro e w' ⟨rfl, hb'⟩)
            go_roundg k1
            case measure => omega
            case rel => exact ⟨_, rfl, HA, ⟨by have := HK.out; omega⟩, ⟨hb'⟩⟩
        · rw [if_neg c2] at H
          cases H
      · rw [if_neg c1] at H
        have c1b := decide_eq_false c1
        obtain rfl := Option.some.inj H
        go_wp2
        go_ret
        exact ⟨-1, rfl, rfl, HB.out⟩

set_option maxHeartbeats 4000000 in
set_option maxRecDepth 100000 in
theorem ContainsFunc_ints (k : Nat) (A0 : Option Addr) (c0 : Nat) (l0 : List Int) (p : Int → Bool) (g : Nat) (lb : Array Value) (r : Bool) (w : World) (hr0 : Kd.C (Kd.int .i64) w A0 l0.length l0)
    (eg : ∀ args w, (callFunc g args).run Try.prog w = .ok (.enter g args) w) (hp : PredOkI g lb p w) (h : anyI p k l0 0 = some r) :
    Calls Try.prog 38 #[.slice A0 l0.length c0, .func (.func g) #[] lb] w fun e w' => e = .returned (.bool r) ∧ Below w.heap.size w w' := by
  have HC := Aside0.mk (IndexFunc_ints k A0 c0 l0 p g lb r w hr0 eg hp h)
  clear hr0 hp h
  go_enter Try.func38, Try.ntmps38
  go_wp2_with (go_at_call 54; refine HC.out.mono ?_; rintro e w' ⟨n, hn, rfl, hb'⟩)
  go_ret
  exact ⟨by rw [← hn]; rfl, hb'⟩

/-! ### Area and Age in closed form -/
theorem index_some (l : List Int) (a : Int) (hl : l.length ≤ 1000000) : ∀ (n i : Nat), i + n = l.length → ∃ r : Int, slices_Index_int_int.l0 (n + 1) l a (l.length : Int) i = some r ∧ decide (r ≥ 0) = decide (a ∈ l.drop i) := by
  intro n
  induction n with
  | zero =>
    intro i hi
    refine ⟨-1, ?_, ?_⟩
    · simp only [slices_Index_int_int.l0]; rw [if_neg (by omega)]
    · rw [List.drop_eq_nil_of_le (by omega)]; simp
  | succ n ih =>
    intro i hi
    have hlt : i < l.length := by omega
    have e : rd l i = l[i] := by unfold rd; simp [List.getD_eq_getElem?_getD, List.getElem?_eq_getElem hlt]
    rw [List.drop_eq_getElem_cons hlt]
    by_cases c : a = l[i]
    · refine ⟨(i : Int), ?_, ?_⟩
      · simp only [slices_Index_int_int.l0]; rw [if_pos (by omega), if_pos (by omega), if_pos (by omega), if_pos (by rw [e]; exact c)]
      · rw [decide_eq_true (show (i : Int) ≥ 0 by omega), c]; exact (decide_eq_true List.mem_cons_self).symm
    · obtain ⟨r, hr, h⟩ := ih (i + 1) (by omega)
      refine ⟨r, ?_, ?_⟩
      · rw [slices_Index_int_int.l0, if_pos (by omega), if_pos (by omega), if_pos (by omega), if_neg (by rw [e]; exact c), show wrap64 ((i : Int) + 1) = ((i + 1 : Nat) : Int) by unfold wrap64; omega, hr]
      · rw [h]; exact decide_eq_decide.2 ⟨fun hm => List.mem_cons_of_mem _ hm, fun hm => (List.mem_cons.1 hm).resolve_left c⟩
theorem area_some (x : S32) (a : Int) (hl : x.f5.length ≤ 1000000) : product_Area.f (x.f5.length + 1) x.f0 x.f1 x.f2 x.f3 x.f4 x.f5 x.f6 x.f7.f0 x.f7.f1 x.f8 a = some (decide (a ∈ x.f5)) := by
  obtain ⟨r, hr, h⟩ := index_some x.f5 a hl x.f5.length 0 (by omega)
  rw [List.drop_zero] at h
  unfold product_Area.f slices_Contains_int_int.f slices_Index_int_int.f
  rw [show slices_Index_int_int.l0 (x.f5.length + 1) x.f5 a (x.f5.length : Int) 0 = some r from hr]
  simp only [Option.bind_some, h]
theorem age_some (x : S32) (a : Int) : product_Age.f x.f0 x.f1 x.f2 x.f3 x.f4 x.f5 x.f6 x.f7.f0 x.f7.f1 x.f8 a = some (decide (x.f3 ≤ a) && decide (a ≤ x.f4)) := by
  unfold product_Age.f product_within.f
  by_cases c : a ≥ x.f3
  · rw [if_pos c, decide_eq_true c]; simp
  · rw [if_neg c, decide_eq_false c]; simp

set_option maxHeartbeats 4000000 in
set_option maxRecDepth 100000 in
/-- For's closure: the product is not valid with the operator. -/
theorem For_closure (x : S32) (A5 A6 : Option Addr) (c5 c6 : Nat) (hl5 : x.f5.length ≤ 1000000) (hc5 : x.f5.length ≤ c5) (hc6 : x.f6.length ≤ c6) (w0 : World) (h5 : Kd.C (Kd.int .i64) w0 A5 x.f5.length x.f5) (h6 : Kd.C k52 w0 A6 x.f6.length x.f6)
    (w : World) (hw0 : Below w0.heap.size w0 w) (B : Nat) (hB : w.heap[B]? = some (.cells #[.int .i64 x.f0, .int .i64 x.f1, .int .i64 x.f2, .int .i64 x.f3, .int .i64 x.f4, .slice A5 x.f5.length c5, .slice A6 x.f6.length c6, .int .i64 x.f7.f0, .int .i64 x.f7.f1, .int .i64 x.f8] 32 (0, 0))) :
    PredOkI 37 #[.pointer (some ⟨B, 0, none⟩)] (fun n => !decide (n ∈ x.f5)) w := by
  intro n W hb
  have HW := Aside0.mk (blk_below hB hb)
  have HBB := Aside0.mk hb
  have H0W := Aside0.mk (below_step hw0 hb)
  have H5 := Aside0.mk h5
  have H6 := Aside0.mk h6
  have hu32 := Try.underlying32
  clear hb hB h5 h6 hw0
  obtain ⟨z0, z1, z2, z3, z4, z5, z6, z7, z8, z9, _, _, _, _, _, _, _, _, _, _⟩ := cells10 HW.out
  have HA := Aside0.mk (area_some x n hl5)
  have HC5 := Aside0.mk hc5
  have HC6 := Aside0.mk hc6
  clear hl5 hc5 hc6
  generalize hbn : decide (n ∈ x.f5) = b at HA
  go_enter Try.func37, Try.ntmps37
  go_wp2_with (go_at_call 19; (with_reducible refine (product_Area.calls _ x.f0 x.f1 x.f2 x.f3 x.f4 A5 c5 x.f5 A6 c6 x.f6 x.f7.f0 x.f7.f1 x.f8 n b _ ?h1 HC5.out ?h2 HC6.out HA.out).mono ?_); (case h1 => exact Kd.C_below H5.out H0W.out); (case h2 => exact Kd.C_below H6.out H0W.out); rintro e w' ⟨rfl, hd⟩; have HD := Aside0.mk (below_step HBB.out hd); clear hd)
  go_ret
  exact ⟨by rw [hbn]; rfl, HD.out⟩
end Go.Proofs.Ytpojelbablofpaa.P
