-- Written by wip/fakeprint.py and wip/post.py of this claim's author, who used the kit's printer (print.py) on turned inputs.
import Derived.Test.YtkojejcjfbeedaaK
import Derived.Test.YtkojejcjfbeedaaF33
import Derived.Test.YtkojejcjfbeedaaF24
import Derived.Test.YtkojejcjfbeedaaF20
namespace Go.Proofs.Ytkojejcjfbeedaa.P
open Go.RowKit Go.Proofs.YtkojejcjfbeedaaW.PrintWords Go.Proofs.YtkojejcjfbeedaaW.PrintLast
attribute [local go_sem] max2_int min2_int max_two min_two
set_option linter.unusedVariables false
set_option linter.unusedSimpArgs false

/-! ### skiarealaw26_defined: function 11 -/
def skiarealaw26_defined.f (k : Nat) (a0_0 : Int) (a0_1 : Int) (a0_2 : Int) (a0_3 : Int) (a0_4 : Int) (l0_5 : List Int) (l0_6 : List (S62)) (a0_7 : Int) (a0_8 : Int) (a0_9 : Int) (a1_0 : Int) (a1_1 : Int) (a1_2 : Int) (a1_3 : Int) (a1_4 : Int) (a1_5 : Int) (a1_6 : Int) (a1_7 : Int) (a1_8 : Int) : Option (Bool) := (skiarearef22_one.f k a0_0 a0_1 a0_2 a0_3 a0_4 l0_5 l0_6 a0_7 a0_8 a0_9 ([] : List (S27))).bind fun t141 => (if t141 = 0 then ((skiarearef25_Right.f k a1_0 a1_1 a1_2 a1_3 a1_4 a1_5 a1_6 a1_7 a1_8).bind fun t142 => (some (t142 == 0))) else (some false))
theorem skiarealaw26_defined.mono : ∀ a0 a1 a2 a3 a4 a5 a6 a7 a8 a9 a10 a11 a12 a13 a14 a15 a16 a17 a18 k, LeO (skiarealaw26_defined.f k a0 a1 a2 a3 a4 a5 a6 a7 a8 a9 a10 a11 a12 a13 a14 a15 a16 a17 a18) (skiarealaw26_defined.f (k + 1) a0 a1 a2 a3 a4 a5 a6 a7 a8 a9 a10 a11 a12 a13 a14 a15 a16 a17 a18) := by
 intro a0 a1 a2 a3 a4 a5 a6 a7 a8 a9 a10 a11 a12 a13 a14 a15 a16 a17 a18 k
 unfold skiarealaw26_defined.f
 repeat' first
   | (with_reducible exact skiarearef22_one.mono _ _ _ _ _ _ _ _ _ _ _ _)
   | (with_reducible exact skiarearef25_Right.mono _ _ _ _ _ _ _ _ _ _)
   | (with_reducible exact LeO.refl _)
   | (with_reducible exact LeO.none _)
   | (with_reducible refine LeO.ite ?_ ?_)
   | (with_reducible refine LeO.bind ?_ (fun _ => ?_))
   | exact skiarearef22_one.mono _ _ _ _ _ _ _ _ _ _ _ _
   | exact skiarearef25_Right.mono _ _ _ _ _ _ _ _ _ _
   | exact LeO.none _
   | refine LeO.ite ?_ ?_
   | refine LeO.bind ?_ (fun _ => ?_)
theorem one_row27 {W : World} {b : Nat} {t : TypeId} (x : S27) {A5 : Option Addr} {c5 : Nat} (l5 : x.f5.length ≤ c5) (g5 : (Kd.int .i64).C W A5 x.f5.length x.f5) {A6 : Option Addr} {c6 : Nat} (l6 : x.f6.length ≤ c6) (g6 : k62.C W A6 x.f6.length x.f6)
    (hb : W.heap[b]? = some (.cells #[.int .i64 x.f0, .int .i64 x.f1, .int .i64 x.f2, .int .i64 x.f3, .int .i64 x.f4, .slice A5 x.f5.length c5, .slice A6 x.f6.length c6, .int .i64 x.f7.f0, .int .i64 x.f7.f1, .int .i64 x.f8] t (0, 0))) :
    Kd.C k27 W (some ⟨b, 0, none⟩) 1 [x] :=
  ⟨rfl, by omega, fun _ => ⟨⟨b, 0, none⟩, rfl, fun j p hj => by
    cases j with
    | zero =>
      obtain rfl : x = p := by simpa using hj
      refine ⟨_, rfl, k27_mk W x l5 g5 l6 g6, fun i u hu => ?_⟩
      have h := blk_cell hb i
      rw [show (⟨b, 0, none⟩ : Addr).add (0 * k27.sz + i) = ⟨b, i, none⟩ from by simp [Addr.add]; omega]
      rw [h, ← hu]
      simp
    | succ j => simp at hj⟩⟩
/-- Right of one product is what 'one' says of it, with none before it. -/
theorem right_one (k : Nat) (x : S27) (t : Int) (h : skiarearef22_one.f k x.f0 x.f1 x.f2 x.f3 x.f4 x.f5 x.f6 x.f7.f0 x.f7.f1 x.f8 [] = some t) : skiarearef22_Right.f (k + 2) [x] = some t := by
  have h1 := skiarearef22_one.mono _ _ _ _ _ _ _ _ _ _ _ k t h
  unfold skiarearef22_Right.f
  rw [if_neg (by simp)]
  simp only [skiarearef22_Right.l0]
  rw [if_pos (by simp), if_pos (by omega), if_pos (by simp)]
  rw [show rd_T27 [x] 0 = x from rfl, show List.take (0 : Int).toNat [x] = [] from rfl, h1]
  simp only [Option.bind_some]
  by_cases e : t = 0
  · rw [if_pos e, if_neg (by unfold wrap64; simp), e]
  · rw [if_neg e]
theorem right_arm {k : Nat} {a0_0 a0_1 a0_2 a0_3 a0_4 : Int} {A0_5 : Option Addr} {c0_5 : Nat} {l0_5 : List Int} {A0_6 : Option Addr} {c0_6 : Nat} {l0_6 : List S62} {a0_7 a0_8 a0_9 t : Int} {w : World} (HC5 : l0_5.length ≤ c0_5) (HR5 : Kd.C (Kd.int .i64) w A0_5 l0_5.length l0_5) (HC6 : l0_6.length ≤ c0_6) (HR6 : Kd.C k62 w A0_6 l0_6.length l0_6)
    (h : skiarearef22_one.f k a0_0 a0_1 a0_2 a0_3 a0_4 l0_5 l0_6 a0_7 a0_8 a0_9 [] = some t) (W : World) (b : Nat) (hb0 : b = W.heap.size) (hW : Below w.heap.size w W) :
    Calls Try.prog 20 #[.slice (some ⟨b, 0, none⟩) 1 1] (W.alloc (.cells #[.int .i64 a0_0, .int .i64 a0_1, .int .i64 a0_2, .int .i64 a0_3, .int .i64 a0_4, .slice A0_5 l0_5.length c0_5, .slice A0_6 l0_6.length c0_6, .int .i64 a0_7, .int .i64 a0_8, .int .i64 a0_9] 27)) fun e w' => e = .returned (.int .i64 t) ∧ Below W.heap.size W w' := by
  subst hb0
  refine (skiarearef22_Right.calls (k + 2) (some ⟨W.heap.size, 0, none⟩) 1 [⟨a0_0, a0_1, a0_2, a0_3, a0_4, l0_5, l0_6, ⟨a0_7, a0_8⟩, a0_9⟩] t _ ?_ (by simp) (right_one k ⟨a0_0, a0_1, a0_2, a0_3, a0_4, l0_5, l0_6, ⟨a0_7, a0_8⟩, a0_9⟩ t h)).mono ?_
  · exact one_row27 ⟨a0_0, a0_1, a0_2, a0_3, a0_4, l0_5, l0_6, ⟨a0_7, a0_8⟩, a0_9⟩ HC5 (Kd.C_below HR5 (below_alloc hW _)) HC6 (Kd.C_below HR6 (below_alloc hW _)) (blk_new W _)
  · rintro e w' ⟨rfl, hb⟩
    exact ⟨rfl, below_then (below_alloc (Below.refl W.heap.size W) _) (by simp) hb⟩
set_option maxHeartbeats 8000000 in
set_option maxRecDepth 100000 in
theorem skiarealaw26_defined.calls (k : Nat) (a0_0 : Int) (a0_1 : Int) (a0_2 : Int) (a0_3 : Int) (a0_4 : Int) (A0_5 : Option Addr) (c0_5 : Nat) (l0_5 : List Int) (A0_6 : Option Addr) (c0_6 : Nat) (l0_6 : List (S62)) (a0_7 : Int) (a0_8 : Int) (a0_9 : Int) (a1_0 : Int) (a1_1 : Int) (a1_2 : Int) (a1_3 : Int) (a1_4 : Int) (a1_5 : Int) (a1_6 : Int) (a1_7 : Int) (a1_8 : Int) (r : Bool) (w : World) (hr0_5 : Kd.C (Kd.int .i64) w A0_5 l0_5.length l0_5) (hc0_5 : l0_5.length ≤ c0_5) (hr0_6 : Kd.C k62 w A0_6 l0_6.length l0_6) (hc0_6 : l0_6.length ≤ c0_6) (h : skiarealaw26_defined.f k a0_0 a0_1 a0_2 a0_3 a0_4 l0_5 l0_6 a0_7 a0_8 a0_9 a1_0 a1_1 a1_2 a1_3 a1_4 a1_5 a1_6 a1_7 a1_8 = some r) :
  Calls Try.prog 11 #[.agg #[.int .i64 a0_0, .int .i64 a0_1, .int .i64 a0_2, .int .i64 a0_3, .int .i64 a0_4, .slice A0_5 l0_5.length c0_5, .slice A0_6 l0_6.length c0_6, .int .i64 a0_7, .int .i64 a0_8, .int .i64 a0_9], .agg #[.int .i64 a1_0, .int .i64 a1_1, .int .i64 a1_2, .int .i64 a1_3, .int .i64 a1_4, .int .i64 a1_5, .int .i64 a1_6, .int .i64 a1_7, .int .u64 a1_8]] w fun e w' => e = .returned (.bool r) ∧ Below w.heap.size w w' := by
  have hu27 := Try.underlying27
  have hu30 := Try.underlying30
  unfold skiarealaw26_defined.f at h
  replace h := Option.bind_eq_some_iff.mp h
  obtain ⟨t, h1, h⟩ := h
  have HONE := Aside0.mk h1
  have HR5 := Aside0.mk hr0_5
  have HR6 := Aside0.mk hr0_6
  have HC5 := Aside0.mk hc0_5
  have HC6 := Aside0.mk hc0_6
  clear hr0_5 hr0_6 hc0_5 hc0_6 h1
  have arm := right_arm (w := w) HC5.out HR5.out HC6.out HR6.out HONE.out
  have HA := Aside0.mk arm
  clear arm
  by_cases e : t = 0
  · subst e
    replace h : ((skiarearef25_Right.f k a1_0 a1_1 a1_2 a1_3 a1_4 a1_5 a1_6 a1_7 a1_8).bind fun t136 => (some (t136 == 0))) = some r := by simpa using h
    replace h := Option.bind_eq_some_iff.mp h
    obtain ⟨u, h2, h⟩ := h
    obtain rfl := Option.some.inj h
    have H2 := Aside0.mk h2
    clear h h2
    go_enter Try.func11, Try.ntmps11
    go_wp2_with (first
      | (go_at_call 20; refine (HA.out _ _ ?b1 ?b2).mono ?_; (case b1 => simp); (case b2 => exact below_alloc (below_alloc (Below.refl _ _) _) _); rintro e w1 ⟨rfl, hb⟩; have hB := Aside0.mk (below_then (below_alloc (below_alloc (Below.refl _ _) _) _) (by simp; omega) hb); obtain ⟨_, _, _, _, _, _, _, _, _, _, _, _, _, _, _, _, _, _⟩ := cells9 (by simpa using blk_below (blk_new (w.alloc _) _) hb); clear hb)
      | (go_at_call 24; refine (skiarearef25_Right.calls k _ _ _ _ _ _ _ _ _ u _ H2.out).mono ?_; rintro e w2 ⟨rfl, hb2⟩; have hB2 := Aside0.mk (below_then hB.out hB.out.size hb2); clear hb2))
    go_ret
    exact ⟨by first | rfl | (simp [*]; done), hB2.out⟩
  · have hf : (t == 0) = false := beq_eq_false_iff_ne.mpr e
    replace h : (some false) = some r := by simpa [e] using h
    obtain rfl := Option.some.inj h
    clear h
    have hE := Aside0.mk e
    clear e
    go_enter Try.func11, Try.ntmps11
    go_wp2_with (first
      | (go_at_call 20; refine (HA.out _ _ ?b1 ?b2).mono ?_; (case b1 => simp); (case b2 => exact below_alloc (below_alloc (Below.refl _ _) _) _); rintro e w1 ⟨rfl, hb⟩; have hB := Aside0.mk (below_then (below_alloc (below_alloc (Below.refl _ _) _) _) (by simp; omega) hb); clear hb))
    go_ret
    exact ⟨by first | rfl | (simp [*]; done), hB.out⟩

end Go.Proofs.Ytkojejcjfbeedaa.P
