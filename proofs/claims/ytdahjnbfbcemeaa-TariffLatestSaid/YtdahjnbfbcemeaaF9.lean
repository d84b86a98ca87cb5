/- By hand: the walk of the law TariffLatest. The lists 'before' and 'other' hold elements that lead to what came in. -/
import Derived.Test.YtdahjnbfbcemeaaK
import Derived.Test.YtdahjnbfbcemeaaF10
import Derived.Test.YtdahjnbfbcemeaaF11
import Derived.Test.YtdahjnbfbcemeaaF12
import Derived.Test.YtdahjnbfbcemeaaF13
namespace Go.Proofs.Ytdahjnbfbcemeaa.P
open Go.RowKit Go.Proofs.YtdahjnbfbcemeaaW.PrintWords Go.Proofs.YtdahjnbfbcemeaaW.PrintLast Go.Proofs.YtdahjnbfbcemeaaW.PrintMore
attribute [local go_sem] max2_int min2_int max_two min_two max_three min_three max_four min_four
set_option linter.unusedVariables false
set_option linter.unusedSimpArgs false
/-- The tariffs up to a time. -/
def befL (l : List S30) (t : Int) : List S30 := l.filter fun y => decide (y.f0 ≤ t)
def liftC (a : Int) : Int := if 1 < (if 9999 < a then 9999 else a) then (if 9999 < a then 9999 else a) else 1
def thin (a : Int) (y : S30) : S30 := ⟨y.f0, [⟨liftC a, 777, 0, []⟩]⟩
/-- All but the tariffs from f on have other rates. -/
def othL (l : List S30) (f a : Int) : List S30 := l.map fun y => if y.f0 = f then y else thin a y
def laterB (l : List S30) (t f : Int) : Bool := l.any fun y => decide (y.f0 ≤ t) && decide (y.f0 > f)
def skiarealaw33_TariffLatest.f (k : Nat) (l0 : List (S30)) (a1_0 a1_1 a1_2 a1_3 a1_4 a1_5 a1_6 : Int) : Option (Bool) :=
  (skiarealaw33_right.f k l0).bind fun b => if b = true then (if l0.length ≤ 1000000 then ((tariff_Points.f k l0 a1_0 a1_1 a1_2 a1_3 a1_4 a1_5 a1_6).bind fun n => ((tariff_At.f k l0 a1_6).bind fun a =>
    if a.2.2 = true then (if a.1 > a1_6 then none else if laterB l0 a1_6 a.1 = true then none else ((tariff_Points.f k [⟨0, a.2.1⟩] a1_0 a1_1 a1_2 a1_3 a1_4 a1_5 a1_6).bind fun n1 => ((tariff_Points.f k (befL l0 a1_6) a1_0 a1_1 a1_2 a1_3 a1_4 a1_5 a1_6).bind fun n2 => ((tariff_Points.f k (othL l0 a.1 a1_5) a1_0 a1_1 a1_2 a1_3 a1_4 a1_5 a1_6).bind fun n3 => if n1 = n ∧ n2 = n ∧ n3 = n then some true else none))))
    else if a1_6 < 0 ∧ n = 0 then some true else none)) else none) else some true

theorem befL_take {l : List S30} {x : Nat} (hx : x < l.length) (t : Int) : befL (l.take (x + 1)) t = befL (l.take x) t ++ (if (rd_T30 l (x : Int)).f0 ≤ t then [rd_T30 l (x : Int)] else []) := by
  have e : rd_T30 l (x : Int) = l[x] := by simp [rd_T30, hx]
  rw [e, List.take_succ_eq_append_getElem hx]
  unfold befL
  rw [List.filter_append]
  congr 1
  by_cases c : l[x].f0 ≤ t <;> simp [c]
theorem othL_take {l : List S30} {x : Nat} (hx : x < l.length) (f a : Int) : othL (l.take (x + 1)) f a = othL (l.take x) f a ++ [if (rd_T30 l (x : Int)).f0 = f then rd_T30 l (x : Int) else thin a (rd_T30 l (x : Int))] := by
  have e : rd_T30 l (x : Int) = l[x] := by simp [rd_T30, hx]
  rw [e, List.take_succ_eq_append_getElem hx]
  unfold othL
  rw [List.map_append]
  rfl
theorem befL_length (l : List S30) (t : Int) : (befL l t).length ≤ l.length := List.length_filter_le _ _
theorem othL_length (l : List S30) (f a : Int) : (othL l f a).length = l.length := List.length_map _
theorem later_at {l : List S30} {t f : Int} (h : laterB l t f = false) {x : Nat} (hx : x < l.length) (hc : (rd_T30 l (x : Int)).f0 ≤ t) : ¬ (rd_T30 l (x : Int)).f0 > f := by
  have e : rd_T30 l (x : Int) = l[x] := by simp [rd_T30, hx]
  rw [e] at hc ⊢
  intro hf
  have h2 : laterB l t f = true := List.any_eq_true.2 ⟨l[x], List.getElem_mem hx, by simp [hc, hf]⟩
  rw [h] at h2
  cases h2
/-- A block whose cells are the elements' reads as the list. -/
theorem C_of_blk' {α : Type} {d : Kd α} {w : World} {g t : Nat} {xs : List α} {inner : List Value} (h : w.heap[g]? = some (.cells inner.toArray t (0, 0))) (hr : Reps (d.K w) d.sz xs inner) (hl : xs.length ≤ 1000000) : Kd.C d w (some ⟨g, 0, none⟩) xs.length xs := by
  refine ⟨rfl, by omega, fun _ => ⟨_, rfl, fun j p hj => ⟨_, d.K_len (hr.2 j p hj), hr.2 j p hj, fun i u hu => ?_⟩⟩⟩
  rw [Addr.add_lit, Nat.zero_add, blk_cell h]
  rw [List.getElem?_take] at hu
  split at hu
  · rw [List.getElem?_drop] at hu
    simpa using hu
  · cases hu
theorem reps_1 {α : Type} {R : α → List Value → Prop} {sz : Nat} {x : α} {cs : List Value} (hl : cs.length = sz) (h : R x cs) : Reps R sz [x] cs := by
  refine ⟨by simp [hl], fun j p hj => ?_⟩
  rcases j with _ | j
  · simp only [List.getElem?_cons_zero, Option.some.injEq] at hj
    subst hj
    rw [Nat.zero_mul, List.drop_zero, List.take_of_length_le (by omega)]
    exact h
  · simp at hj
/-- One rate in a block of its own: what it leads to. -/
theorem F_thin {W : World} {g : Nat} {a : Int} (h : W.heap[g]? = some (.cells #[.int .i64 a, .int .i64 777, .int .i64 0, .slice none 0 0] 35 (0, 0))) : Kd.F k35 W (fun k => k = g) (some ⟨g, 0, none⟩) 1 ([⟨a, 777, 0, []⟩] : List S35) := by
  intro W' hW
  have h2 : W'.heap[g]? = some (.cells #[.int .i64 a, .int .i64 777, .int .i64 0, .slice none 0 0] 35 (0, 0)) := (hW g rfl (blk_lt h)).trans h
  have h3 : k35.K W' (⟨a, 777, 0, []⟩ : S35) [.int .i64 a, .int .i64 777, .int .i64 0, .slice none 0 0] := k35_mk W' (⟨a, 777, 0, []⟩ : S35) (Nat.le_refl 0) (Kd.C_nil k54 W')
  exact C_of_blk' (d := k35) (xs := ([⟨a, 777, 0, []⟩] : List S35)) (inner := [.int .i64 a, .int .i64 777, .int .i64 0, .slice none 0 0]) h2 (reps_1 rfl h3) (by simp)
/-- What holds in the loop: the two lists, the ride, the tariff, its rates. -/
structure LS (w W : World) (rc xc : Array Value) (vx : Value) (xr : List S35) (g0 gx : Nat) (v8 v9 : Value) (bs os : List S30) : Prop where
  nb : Kd.N k30 30 W w.heap.size (fun k => (k ≠ g0 ∧ k ≠ gx) ∧ some k ≠ v9.ownBlock) v8 bs
  no : Kd.N k30 30 W w.heap.size (fun k => (k ≠ g0 ∧ k ≠ gx) ∧ some k ≠ v8.ownBlock) v9 os
  b0 : W.heap[g0]? = some (.cells rc 24 (0, 0))
  bx : W.heap[gx]? = some (.cells xc 30 (0, 0))
  hb : Below w.heap.size w W
  hs : Kd.S k35 35 W w.heap.size (fun _ => True) vx xr
  e0 : w.heap.size ≤ g0
  ex : w.heap.size ≤ gx
section
variable {w W w1 : World} {rc xc : Array Value} {vx : Value} {xr : List S35} {g0 gx : Nat} {v8 v9 v1 : Value} {bs os : List S30} {p : S30}
theorem LS.below (h : LS w W rc xc vx xr g0 gx v8 v9 bs os) (hb : Below W.heap.size W w1) : LS w w1 rc xc vx xr g0 gx v8 v9 bs os :=
  ⟨Kd.N_below h.nb hb, Kd.N_below h.no hb, blk_below h.b0 hb, blk_below h.bx hb, below_step h.hb hb, Kd.S_below h.hs hb, h.e0, h.ex⟩
theorem LS.app8 (h : LS w W rc xc vx xr g0 gx v8 v9 bs os) (hN : Kd.N k30 30 w1 w.heap.size (fun k => (k ≠ g0 ∧ k ≠ gx) ∧ some k ≠ v9.ownBlock) v1 (bs ++ [p])) (hB : Below w.heap.size w w1) (hg : W.grownBy w1 v8.ownBlock) (hat : v1.ownBlock = v8.ownBlock ∨ ∃ b, v1.ownBlock = some b ∧ W.heap.size ≤ b) :
    LS w w1 rc xc vx xr g0 gx v1 v9 (bs ++ [p]) os :=
  ⟨hN, Kd.N_after h.no hg hat, (hg.block _ (blk_lt h.b0) (Kd.N_away h.nb (fun _ hk => hk.1.1))).trans h.b0, (hg.block _ (blk_lt h.bx) (Kd.N_away h.nb (fun _ hk => hk.1.2))).trans h.bx, hB, Kd.S_over' h.hs (Kd.N_typed h.nb) (by decide) hg, h.e0, h.ex⟩
theorem LS.app9 (h : LS w W rc xc vx xr g0 gx v8 v9 bs os) (hN : Kd.N k30 30 w1 w.heap.size (fun k => (k ≠ g0 ∧ k ≠ gx) ∧ some k ≠ v8.ownBlock) v1 (os ++ [p])) (hB : Below w.heap.size w w1) (hg : W.grownBy w1 v9.ownBlock) (hat : v1.ownBlock = v9.ownBlock ∨ ∃ b, v1.ownBlock = some b ∧ W.heap.size ≤ b) :
    LS w w1 rc xc vx xr g0 gx v8 v1 bs (os ++ [p]) :=
  ⟨Kd.N_after h.nb hg hat, hN, (hg.block _ (blk_lt h.b0) (Kd.N_away h.no (fun _ hk => hk.1.1))).trans h.b0, (hg.block _ (blk_lt h.bx) (Kd.N_away h.no (fun _ hk => hk.1.2))).trans h.bx, hB, Kd.S_over' h.hs (Kd.N_typed h.no) (by decide) hg, h.e0, h.ex⟩
theorem LS.old8 (h : LS w W rc xc vx xr g0 gx v8 v9 bs os) {k : Nat} (hk : k < w.heap.size) : ((k ≠ g0 ∧ k ≠ gx) ∧ some k ≠ v9.ownBlock) ∧ some k ≠ v8.ownBlock :=
  ⟨⟨⟨fun e => by have := h.e0; omega, fun e => by have := h.ex; omega⟩, fun e => by have := Kd.N_base h.no k e.symm; omega⟩, fun e => by have := Kd.N_base h.nb k e.symm; omega⟩
theorem LS.new8 (h : LS w W rc xc vx xr g0 gx v8 v9 bs os) {k : Nat} (hk : W.heap.size ≤ k) : ((k ≠ g0 ∧ k ≠ gx) ∧ some k ≠ v9.ownBlock) ∧ some k ≠ v8.ownBlock :=
  ⟨⟨⟨fun e => by have := blk_lt h.b0; omega, fun e => by have := blk_lt h.bx; omega⟩, fun e => by have := Kd.N_lt h.no k e.symm; omega⟩, fun e => by have := Kd.N_lt h.nb k e.symm; omega⟩
theorem LS.size (h : LS w W rc xc vx xr g0 gx v8 v9 bs os) : w.heap.size ≤ W.heap.size := h.hb.size
theorem LS.start (b0 : W.heap[g0]? = some (.cells rc 24 (0, 0))) (bx : W.heap[gx]? = some (.cells xc 30 (0, 0))) (hb : Below w.heap.size w W) (hs : Kd.S k35 35 W w.heap.size (fun _ => True) vx xr) (e0 : w.heap.size ≤ g0) (ex : w.heap.size ≤ gx) : LS w W rc xc vx xr g0 gx (.slice none 0 0) (.slice none 0 0) [] [] :=
  ⟨Kd.N_nil _ _ _ _ _, Kd.N_nil _ _ _ _ _, b0, bx, hb, hs, e0, ex⟩
end
/-- What holds behind the loop: the lists, the rates, the ride; gy: a block that will be written. -/
structure LT (w W : World) (rc : Array Value) (xr : List S35) (Ax A8 A9 : Option Addr) (bs os : List S30) (g0 gy : Nat) : Prop where
  f8 : Kd.F k30 W (fun k => k ≠ gy) A8 bs.length bs
  f9 : Kd.F k30 W (fun k => k ≠ gy) A9 os.length os
  fs : Kd.F k35 W (fun k => k ≠ gy) Ax xr.length xr
  b0 : W.heap[g0]? = some (.cells rc 24 (0, 0))
  ne : g0 ≠ gy
  hb : Below w.heap.size w W
  ey : w.heap.size ≤ gy
theorem LT.start {w W : World} {rc xc : Array Value} {xr : List S35} {Ax A8 A9 : Option Addr} {cx c8 c9 g0 gx : Nat} {bs os : List S30} (h : LS w W rc xc (.slice Ax xr.length cx) xr g0 gx (.slice A8 bs.length c8) (.slice A9 os.length c9) bs os) : LT w W rc xr Ax A8 A9 bs os g0 W.heap.size :=
  ⟨Kd.F_mono (Kd.F_elderB (Kd.N_F h.nb) _ (Nat.le_refl _)) (fun _ hk => hk.2), Kd.F_mono (Kd.F_elderB (Kd.N_F h.no) _ (Nat.le_refl _)) (fun _ hk => hk.2), Kd.F_mono (Kd.F_elderB (Kd.S_F h.hs) _ (Nat.le_refl _)) (fun _ hk => hk.2), h.b0, Nat.ne_of_lt (blk_lt h.b0), h.hb, h.hb.size⟩
theorem LT.below {w W w1 : World} {rc : Array Value} {xr : List S35} {Ax A8 A9 : Option Addr} {g0 gy : Nat} {bs os : List S30} (h : LT w W rc xr Ax A8 A9 bs os g0 gy) (hb : Below W.heap.size W w1) : LT w w1 rc xr Ax A8 A9 bs os g0 gy :=
  ⟨Kd.F_below h.f8 hb, Kd.F_below h.f9 hb, Kd.F_below h.fs hb, blk_below h.b0 hb, h.ne, below_step h.hb hb, h.ey⟩
theorem LT.far {w W : World} {rc : Array Value} {xr : List S35} {Ax A8 A9 : Option Addr} {g0 gy : Nat} {bs os : List S30} (h : LT w W rc xr Ax A8 A9 bs os g0 gy) (j : Nat) (u : Value) : LT w (W.setCell ⟨gy, j, none⟩ u) rc xr Ax A8 A9 bs os g0 gy :=
  ⟨Kd.F_far h.f8 (fun _ hk => hk) u, Kd.F_far h.f9 (fun _ hk => hk) u, Kd.F_far h.fs (fun _ hk => hk) u, blk_far h.b0 h.ne u, h.ne, below_set h.hb h.ey, h.ey⟩
theorem start_LS {P : Program} {ops : Array Oper} {Q : Exit → Act → World → Prop} {id n : Nat} {a : Act} {w W0 W : World} {rc xc : Array Value} {vx : Value} {xr : List S35} {g0 gx : Nat} {v8 v9 : Value} {bs os : List S30} (hL : LS w W0 rc xc vx xr g0 gx v8 v9 bs os) (hb : Below W0.heap.size W0 W) (l : Array Bool) (hm : P.follows .mixedOrders = true) (hn : ops.size = n) (hl : Array.replicate n false = l)
    (h : ∀ wd, LS w wd rc xc vx xr g0 gx v8 v9 bs os → wpAnyLast P .any ops Q (fun w' => Below w.heap.size w w' ∧ w'.heap[g0]? = some (.cells rc 24 (0, 0))) [] n l a wd) : (Code.region id ops true).wp P Q a W :=
  start_ l hm hn hl ⟨(hL.below (below_drew1 hb)).hb, (hL.below (below_drew1 hb)).b0⟩ (fun _ => h W.drew (hL.below (below_drew1 hb)))
theorem cells7 {w : World} {g : Nat} {t : TypeId} {v0 v1 v2 v3 v4 v5 v6 : Value} (h : w.heap[g]? = some (.cells #[v0, v1, v2, v3, v4, v5, v6] t (0, 0))) : w.cell? ⟨g, 0, none⟩ = some v0 ∧ w.cell? ⟨g, 1, none⟩ = some v1 ∧ w.cell? ⟨g, 2, none⟩ = some v2 ∧ w.cell? ⟨g, 3, none⟩ = some v3 ∧ w.cell? ⟨g, 4, none⟩ = some v4 ∧ w.cell? ⟨g, 5, none⟩ = some v5 ∧ w.cell? ⟨g, 6, none⟩ = some v6 :=
  ⟨(blk_cell h 0).trans rfl, (blk_cell h 1).trans rfl, (blk_cell h 2).trans rfl, (blk_cell h 3).trans rfl, (blk_cell h 4).trans rfl, (blk_cell h 5).trans rfl, (blk_cell h 6).trans rfl⟩
theorem cells2 {w : World} {g : Nat} {t : TypeId} {v0 v1 : Value} (h : w.heap[g]? = some (.cells #[v0, v1] t (0, 0))) : w.cell? ⟨g, 0, none⟩ = some v0 ∧ w.cell? ⟨g, 1, none⟩ = some v1 :=
  ⟨(blk_cell h 0).trans rfl, (blk_cell h 1).trans rfl⟩
theorem info30 : (Try.prog.info? 30).map (fun i => (i.zero, i.size, i.bytes)) = some (some (.agg #[(.int .i64 0), (.slice none 0 0)]), 2, 32) := by kernel_rfl
theorem alive_v : skiarealaw33_alive.f = some true := rfl
set_option maxHeartbeats 8000000 in
set_option maxRecDepth 100000 in
theorem skiarealaw33_TariffLatest.calls (k : Nat) (A0 : Option Addr) (c0 : Nat) (l0 : List (S30)) (a1_0 : Int) (a1_1 : Int) (a1_2 : Int) (a1_3 : Int) (a1_4 : Int) (a1_5 : Int) (a1_6 : Int) (r : Bool) (w : World) (hr0 : Kd.C k30 w A0 l0.length l0) (hc0 : l0.length ≤ c0) (h : skiarealaw33_TariffLatest.f k l0 a1_0 a1_1 a1_2 a1_3 a1_4 a1_5 a1_6 = some r) :
  Calls Try.prog 9 #[.slice A0 l0.length c0, .agg #[.int .i64 a1_0, .int .i64 a1_1, .int .i64 a1_2, .int .i64 a1_3, .int .i64 a1_4, .int .i64 a1_5, .int .i64 a1_6]] w fun e w' => e = .returned (.bool r) ∧ Below w.heap.size w w' := by
 have hu30 := Try.underlying30
 have hu24 := Try.underlying24
 unfold skiarealaw33_TariffLatest.f at h
 have HR0 := Aside0.mk hr0
 have HC0 := Aside0.mk hc0
 have HB := Aside0.mk (Below.refl w.heap.size w)
 clear hr0 hc0
 obtain ⟨b, hb, hh⟩ := Option.bind_eq_some_iff.mp h
 replace h := hh
 clear hh
 have A2 := Aside0.mk hb
 clear hb
 by_cases cb : b = true
 case neg =>
  replace cb := Bool.eq_false_iff.mpr cb
  subst cb
  rw [if_neg Bool.false_ne_true] at h
  obtain rfl := Option.some.inj h
  go_enter Try.func9, Try.ntmps9
  go_wp2_with (first | ((with_reducible refine gate_dst (N := 3) rfl ?_); refine box_event ?hg (N := 3) ?hd (cs := #[.int .i64 a1_0, .int .i64 a1_1, .int .i64 a1_2, .int .i64 a1_3, .int .i64 a1_4, .int .i64 a1_5, .int .i64 a1_6]) (t := 24) ?hr ?_; (case hd => rfl); (case hg => rfl); (case hr => first | (go_simp; done) | (go_simp; rfl)); intro g0 hg w1 hbox hb; have B0_1 := Aside0.mk hbox; have HB1 := Aside0.mk (below_step HB.out hb); have GE0 : Aside0 (w.heap.size ≤ g0) := ⟨by rw [hg]; exact Nat.le_refl _⟩; clear hb hbox hg) | (go_at_call 10; (with_reducible refine (skiarealaw33_alive.calls true _ alive_v).mono ?_); rintro e w2 ⟨rfl, hb⟩; have B0_2 := Aside0.mk (blk_below B0_1.out hb); have HB2 := Aside0.mk (below_step HB1.out hb); clear hb) | (go_at_call 11; (with_reducible refine (skiarealaw33_right.calls k A0 c0 l0 false _ ?s1 HC0.out A2.out).mono ?_); (case s1 => exact Kd.C_below HR0.out HB2.out); rintro e w3 ⟨rfl, hb⟩; have B0_3 := Aside0.mk (blk_below B0_2.out hb); have HB3 := Aside0.mk (below_step HB2.out hb); clear hb; obtain ⟨p3_0, p3_1, p3_2, p3_3, p3_4, p3_5, p3_6⟩ := cells7 B0_3.out))
  go_ret
  exact ⟨rfl, HB3.out⟩
 subst cb
 rw [if_pos rfl] at h
 by_cases hlen : l0.length ≤ 1000000
 case neg => rw [if_neg hlen] at h; cases h
 rw [if_pos hlen] at h
 have HL := Aside0.mk hlen
 clear hlen
 obtain ⟨n, hn, hh⟩ := Option.bind_eq_some_iff.mp h
 replace h := hh
 clear hh
 obtain ⟨⟨xf, xr, ok⟩, ha, hh⟩ := Option.bind_eq_some_iff.mp h
 replace h := hh
 clear hh
 have A3 := Aside0.mk hn
 have A4 := Aside0.mk ha
 clear hn ha
 simp only at h
 by_cases cok : ok = true
 case neg =>
  replace cok := Bool.eq_false_iff.mpr cok
  subst cok
  rw [if_neg Bool.false_ne_true] at h
  by_cases cz : a1_6 < 0 ∧ n = 0
  case neg => rw [if_neg cz] at h; cases h
  rw [if_pos cz] at h
  obtain rfl := Option.some.inj h
  obtain ⟨cz1, rfl⟩ := cz
  have cz2 := decide_eq_true cz1
  go_enter Try.func9, Try.ntmps9
  go_wp2_with (first | ((with_reducible refine gate_dst (N := 3) rfl ?_); refine box_event ?hg (N := 3) ?hd (cs := #[.int .i64 a1_0, .int .i64 a1_1, .int .i64 a1_2, .int .i64 a1_3, .int .i64 a1_4, .int .i64 a1_5, .int .i64 a1_6]) (t := 24) ?hr ?_; (case hd => rfl); (case hg => rfl); (case hr => first | (go_simp; done) | (go_simp; rfl)); intro g0 hg w1 hbox hb; have B0_1 := Aside0.mk hbox; have HB1 := Aside0.mk (below_step HB.out hb); have GE0 : Aside0 (w.heap.size ≤ g0) := ⟨by rw [hg]; exact Nat.le_refl _⟩; clear hb hbox hg) | (go_at_call 10; (with_reducible refine (skiarealaw33_alive.calls true _ alive_v).mono ?_); rintro e w2 ⟨rfl, hb⟩; have B0_2 := Aside0.mk (blk_below B0_1.out hb); have HB2 := Aside0.mk (below_step HB1.out hb); clear hb) | (go_at_call 11; (with_reducible refine (skiarealaw33_right.calls k A0 c0 l0 true _ ?s1 HC0.out A2.out).mono ?_); (case s1 => exact Kd.C_below HR0.out HB2.out); rintro e w3 ⟨rfl, hb⟩; have B0_3 := Aside0.mk (blk_below B0_2.out hb); have HB3 := Aside0.mk (below_step HB2.out hb); clear hb; obtain ⟨p3_0, p3_1, p3_2, p3_3, p3_4, p3_5, p3_6⟩ := cells7 B0_3.out) | (go_at_call 12; (with_reducible refine (tariff_Points.calls k A0 c0 l0 a1_0 a1_1 a1_2 a1_3 a1_4 a1_5 a1_6 0 _ ?s1 HC0.out A3.out).mono ?_); (case s1 => exact Kd.C_below HR0.out HB3.out); rintro e w4 ⟨rfl, hb⟩; have B0_4 := Aside0.mk (blk_below B0_3.out hb); have HB4 := Aside0.mk (below_step HB3.out hb); clear hb; obtain ⟨p4_0, p4_1, p4_2, p4_3, p4_4, p4_5, p4_6⟩ := cells7 B0_4.out) | (go_at_call 13; (with_reducible refine (tariff_At.calls k A0 c0 l0 a1_6 xf xr false _ ?s1 HC0.out A4.out).mono ?_); (case s1 => exact Kd.C_below HR0.out HB4.out); rintro e w5 ⟨vx, rfl, hs, hb⟩; have HS5 := Aside0.mk (Kd.S_lower hs HB4.out.size); obtain ⟨Ax, cx, rfl⟩ := Kd.S_slice hs; have B0_5 := Aside0.mk (blk_below B0_4.out hb); have HB5 := Aside0.mk (below_step HB4.out hb); clear hb hs) | ((with_reducible refine gate_dst (N := 6) rfl ?_); refine box_event ?hg (N := 6) ?hd (cs := #[.int .i64 0, .slice none 0 0]) (t := 30) ?hr ?_; (case hd => rfl); (case hg => rfl); (case hr => first | (go_simp; done) | (go_simp; rfl)); intro gx hg w6 hbox hb; have BX6 := Aside0.mk hbox; have B0_6 := Aside0.mk (blk_below B0_5.out hb); have HS6 := Aside0.mk (Kd.S_below HS5.out hb); have HB6 := Aside0.mk (below_step HB5.out hb); have GEX : Aside0 (w.heap.size ≤ gx) := ⟨by rw [hg]; exact HB5.out.size⟩; have NE : Aside0 (g0 ≠ gx) := ⟨by rw [hg]; exact Nat.ne_of_lt (blk_lt B0_5.out)⟩; clear hb hbox hg; obtain ⟨q6_0, q6_1⟩ := cells2 BX6.out; have f6_0 := blk_frozen BX6.out 0; have f6_1 := blk_frozen BX6.out 1) | ((with_reducible refine gate_store (t := 30) (p := 6) rfl ?_); refine store_event (t := 30) (p := 6) (v := ?vo) (w1 := ((w6.setCell ⟨gx, 0, none⟩ (.int .i64 xf)).setCell ⟨gx, 1, none⟩ (.slice Ax xr.length cx))) ?hg ?ho ?hn ?hr ?_; (case ho => rfl); (case hg => rfl); (case hn => rfl); (case hr => first | (go_simp; done) | (go_simp; rfl)); intro w7 hw; have BX7 : Aside0 (w7.heap[gx]? = some (.cells #[.int .i64 xf, .slice Ax xr.length cx] 30 (0, 0))) := ⟨by rw [hw]; exact blk_put (cs := #[.int .i64 xf, .slice none 0 0]) (blk_put (cs := #[.int .i64 0, .slice none 0 0]) BX6.out 0 _ rfl) 1 _ rfl⟩; have B0_7 : Aside0 (w7.heap[g0]? = some (.cells #[.int .i64 a1_0, .int .i64 a1_1, .int .i64 a1_2, .int .i64 a1_3, .int .i64 a1_4, .int .i64 a1_5, .int .i64 a1_6] 24 (0, 0))) := ⟨by rw [hw]; exact blk_far (blk_far B0_6.out NE.out _) NE.out _⟩; have HS7 : Aside0 (Kd.S k35 35 w7 w.heap.size (fun _ => True) (.slice Ax xr.length cx) xr) := ⟨by rw [hw]; exact Kd.S_mono (Kd.S_far (p := ⟨gx, 1, none⟩) (Kd.S_far (p := ⟨gx, 0, none⟩) (Kd.S_types HS6.out BX6.out (by decide)) (fun _ hk => hk.2) _) (fun _ hk => hk.2) _) (fun _ hk => trivial)⟩; have HB7 : Aside0 (Below w.heap.size w w7) := ⟨by rw [hw]; exact below_set (below_set HB6.out GEX.out) GEX.out⟩; clear hw HS5 HS6 HB5 BX6 B0_5 q6_0 q6_1 f6_0 f6_1; obtain ⟨q7_0, q7_1⟩ := cells2 BX7.out; obtain ⟨p7_0, p7_1, p7_2, p7_3, p7_4, p7_5, p7_6⟩ := cells7 B0_7.out))
  go_ret
  exact ⟨rfl, HB7.out⟩
 subst cok
 rw [if_pos rfl] at h
 by_cases cf : xf > a1_6
 case pos => rw [if_pos cf] at h; cases h
 rw [if_neg cf] at h
 by_cases cl : laterB l0 a1_6 xf = true
 case pos => rw [if_pos cl] at h; cases h
 rw [if_neg cl] at h
 replace cl := Bool.eq_false_iff.mpr cl
 have CL := Aside0.mk cl
 clear cl
 obtain ⟨n1, hn1, hh⟩ := Option.bind_eq_some_iff.mp h
 replace h := hh
 clear hh
 obtain ⟨n2, hn2, hh⟩ := Option.bind_eq_some_iff.mp h
 replace h := hh
 clear hh
 obtain ⟨n3, hn3, hh⟩ := Option.bind_eq_some_iff.mp h
 replace h := hh
 clear hh
 by_cases cn : n1 = n ∧ n2 = n ∧ n3 = n
 case neg => rw [if_neg cn] at h; cases h
 rw [if_pos cn] at h
 obtain rfl := Option.some.inj h
 obtain ⟨e1, e2, e3⟩ := cn
 rw [e1] at hn1
 rw [e2] at hn2
 rw [e3] at hn3
 have P1 := Aside0.mk hn1
 have P2 := Aside0.mk hn2
 have P3 := Aside0.mk hn3
 clear h hn1 hn2 hn3
 have cf1 := decide_eq_false cf
 go_enter Try.func9, Try.ntmps9
 go_wp2_with (first | ((with_reducible refine gate_dst (N := 3) rfl ?_); refine box_event ?hg (N := 3) ?hd (cs := #[.int .i64 a1_0, .int .i64 a1_1, .int .i64 a1_2, .int .i64 a1_3, .int .i64 a1_4, .int .i64 a1_5, .int .i64 a1_6]) (t := 24) ?hr ?_; (case hd => rfl); (case hg => rfl); (case hr => first | (go_simp; done) | (go_simp; rfl)); intro g0 hg w1 hbox hb; have B0_1 := Aside0.mk hbox; have HB1 := Aside0.mk (below_step HB.out hb); have GE0 : Aside0 (w.heap.size ≤ g0) := ⟨by rw [hg]; exact Nat.le_refl _⟩; clear hb hbox hg) | (go_at_call 10; (with_reducible refine (skiarealaw33_alive.calls true _ alive_v).mono ?_); rintro e w2 ⟨rfl, hb⟩; have B0_2 := Aside0.mk (blk_below B0_1.out hb); have HB2 := Aside0.mk (below_step HB1.out hb); clear hb) | (go_at_call 11; (with_reducible refine (skiarealaw33_right.calls k A0 c0 l0 true _ ?s1 HC0.out A2.out).mono ?_); (case s1 => exact Kd.C_below HR0.out HB2.out); rintro e w3 ⟨rfl, hb⟩; have B0_3 := Aside0.mk (blk_below B0_2.out hb); have HB3 := Aside0.mk (below_step HB2.out hb); clear hb; obtain ⟨p3_0, p3_1, p3_2, p3_3, p3_4, p3_5, p3_6⟩ := cells7 B0_3.out) | (go_at_call 12; (with_reducible refine (tariff_Points.calls k A0 c0 l0 a1_0 a1_1 a1_2 a1_3 a1_4 a1_5 a1_6 n _ ?s1 HC0.out A3.out).mono ?_); (case s1 => exact Kd.C_below HR0.out HB3.out); rintro e w4 ⟨rfl, hb⟩; have B0_4 := Aside0.mk (blk_below B0_3.out hb); have HB4 := Aside0.mk (below_step HB3.out hb); clear hb; obtain ⟨p4_0, p4_1, p4_2, p4_3, p4_4, p4_5, p4_6⟩ := cells7 B0_4.out) | (go_at_call 13; (with_reducible refine (tariff_At.calls k A0 c0 l0 a1_6 xf xr true _ ?s1 HC0.out A4.out).mono ?_); (case s1 => exact Kd.C_below HR0.out HB4.out); rintro e w5 ⟨vx, rfl, hs, hb⟩; have HS5 := Aside0.mk (Kd.S_lower hs HB4.out.size); obtain ⟨Ax, cx, rfl⟩ := Kd.S_slice hs; have B0_5 := Aside0.mk (blk_below B0_4.out hb); have HB5 := Aside0.mk (below_step HB4.out hb); clear hb hs) | ((with_reducible refine gate_dst (N := 6) rfl ?_); refine box_event ?hg (N := 6) ?hd (cs := #[.int .i64 0, .slice none 0 0]) (t := 30) ?hr ?_; (case hd => rfl); (case hg => rfl); (case hr => first | (go_simp; done) | (go_simp; rfl)); intro gx hg w6 hbox hb; have BX6 := Aside0.mk hbox; have B0_6 := Aside0.mk (blk_below B0_5.out hb); have HS6 := Aside0.mk (Kd.S_below HS5.out hb); have HB6 := Aside0.mk (below_step HB5.out hb); have GEX : Aside0 (w.heap.size ≤ gx) := ⟨by rw [hg]; exact HB5.out.size⟩; have NE : Aside0 (g0 ≠ gx) := ⟨by rw [hg]; exact Nat.ne_of_lt (blk_lt B0_5.out)⟩; clear hb hbox hg; obtain ⟨q6_0, q6_1⟩ := cells2 BX6.out; have f6_0 := blk_frozen BX6.out 0; have f6_1 := blk_frozen BX6.out 1) | ((with_reducible refine gate_store (t := 30) (p := 6) rfl ?_); refine store_event (t := 30) (p := 6) (v := ?vo) (w1 := ((w6.setCell ⟨gx, 0, none⟩ (.int .i64 xf)).setCell ⟨gx, 1, none⟩ (.slice Ax xr.length cx))) ?hg ?ho ?hn ?hr ?_; (case ho => rfl); (case hg => rfl); (case hn => rfl); (case hr => first | (go_simp; done) | (go_simp; rfl)); intro w7 hw; have BX7 : Aside0 (w7.heap[gx]? = some (.cells #[.int .i64 xf, .slice Ax xr.length cx] 30 (0, 0))) := ⟨by rw [hw]; exact blk_put (cs := #[.int .i64 xf, .slice none 0 0]) (blk_put (cs := #[.int .i64 0, .slice none 0 0]) BX6.out 0 _ rfl) 1 _ rfl⟩; have B0_7 : Aside0 (w7.heap[g0]? = some (.cells #[.int .i64 a1_0, .int .i64 a1_1, .int .i64 a1_2, .int .i64 a1_3, .int .i64 a1_4, .int .i64 a1_5, .int .i64 a1_6] 24 (0, 0))) := ⟨by rw [hw]; exact blk_far (blk_far B0_6.out NE.out _) NE.out _⟩; have HS7 : Aside0 (Kd.S k35 35 w7 w.heap.size (fun _ => True) (.slice Ax xr.length cx) xr) := ⟨by rw [hw]; exact Kd.S_mono (Kd.S_far (p := ⟨gx, 1, none⟩) (Kd.S_far (p := ⟨gx, 0, none⟩) (Kd.S_types HS6.out BX6.out (by decide)) (fun _ hk => hk.2) _) (fun _ hk => hk.2) _) (fun _ hk => trivial)⟩; have HB7 : Aside0 (Below w.heap.size w w7) := ⟨by rw [hw]; exact below_set (below_set HB6.out GEX.out) GEX.out⟩; clear hw HS5 HS6 HB5 BX6 B0_5 q6_0 q6_1 f6_0 f6_1; obtain ⟨q7_0, q7_1⟩ := cells2 BX7.out; obtain ⟨p7_0, p7_1, p7_2, p7_3, p7_4, p7_5, p7_6⟩ := cells7 B0_7.out))
 have HLS := Aside0.mk (LS.start B0_7.out BX7.out HB7.out HS7.out GE0.out GEX.out)
 have LX : xr.length ≤ cx := (Kd.S_reads' HS7.out).2.1
 clear B0_1 B0_2 B0_3 B0_4 B0_6 B0_7 BX7 HS7 HB1 HB2 HB3 HB4 HB6 HB7 p3_0 p3_1 p3_2 p3_3 p3_4 p3_5 p3_6 p4_0 p4_1 p4_2 p4_3 p4_4 p4_5 p4_6 p7_0 p7_1 p7_2 p7_3 p7_4 p7_5 p7_6 q7_0 q7_1 HB A2 A3 A4 cf cf1
 go_loopg [8, 9, 10] l0.length (fun kq v8 v9 v10 wr => ∃ x : Nat, v10 = .int .i64 (x : Int) ∧ Aside0 (kq + x = l0.length) ∧ Aside0 (LS w wr #[.int .i64 a1_0, .int .i64 a1_1, .int .i64 a1_2, .int .i64 a1_3, .int .i64 a1_4, .int .i64 a1_5, .int .i64 a1_6] #[.int .i64 xf, .slice Ax xr.length cx] (.slice Ax xr.length cx) xr g0 gx v8 v9 (befL (l0.take x) a1_6) (othL (l0.take x) xf a1_5)))
 case atStart => exact ⟨0, rfl, ⟨rfl⟩, HLS⟩
 case round =>
  clear HLS
  obtain ⟨x, rfl, HX, HLS⟩ := hrel
  cases gk with
  | zero =>
   have c1b : decide (x < l0.length) = false := decide_eq_false (by have := HX.out; omega)
   rw [List.take_of_length_le (by have := HX.out; omega)] at HLS
   obtain ⟨A8, c8, e8⟩ := Kd.N_slice HLS.out.nb
   obtain ⟨A9, c9, e9⟩ := Kd.N_slice HLS.out.no
   subst e8
   subst e9
   have K8 := (Kd.N_reads' HLS.out.nb).2.1
   have K9 := (Kd.N_reads' HLS.out.no).2.1
   have HT : Aside0 (LT w wr #[.int .i64 a1_0, .int .i64 a1_1, .int .i64 a1_2, .int .i64 a1_3, .int .i64 a1_4, .int .i64 a1_5, .int .i64 a1_6] xr Ax A8 A9 (befL l0 a1_6) (othL l0 xf a1_5) g0 wr.heap.size) := ⟨LT.start HLS.out⟩
   obtain ⟨s7_0, s7_1⟩ := cells2 HLS.out.bx
   clear HX
   have PT1 : Aside0 (∀ (W : World) (A : Option Addr), Kd.C k30 W A 1 ([⟨0, xr⟩] : List S30) → Calls Try.prog 12 #[.slice A 1 1, .agg #[.int .i64 a1_0, .int .i64 a1_1, .int .i64 a1_2, .int .i64 a1_3, .int .i64 a1_4, .int .i64 a1_5, .int .i64 a1_6]] W fun e w' => e = .returned (.int .i64 n) ∧ Below W.heap.size W w') := ⟨fun W A hC => tariff_Points.calls k A 1 [⟨0, xr⟩] a1_0 a1_1 a1_2 a1_3 a1_4 a1_5 a1_6 n W hC (Nat.le_refl 1) P1.out⟩
   go_wp2_with (first | ((with_reducible refine gate_dst (N := 11) rfl ?_); refine box_event ?hg (N := 11) ?hd (cs := #[.int .i64 0, .slice none 0 0]) (t := 30) ?hr ?_; (case hd => rfl); (case hg => rfl); (case hr => first | (go_simp; done) | (go_simp; rfl)); intro gy hg w8 hbox hb; have HT8 : Aside0 (LT w w8 #[.int .i64 a1_0, .int .i64 a1_1, .int .i64 a1_2, .int .i64 a1_3, .int .i64 a1_4, .int .i64 a1_5, .int .i64 a1_6] xr Ax A8 A9 (befL l0 a1_6) (othL l0 xf a1_5) g0 gy) := ⟨by rw [hg]; exact HT.out.below hb⟩; have BY8 := Aside0.mk hbox; have f8_0 := blk_frozen BY8.out 0; have f8_1 := blk_frozen BY8.out 1; obtain ⟨q8_0, q8_1⟩ := cells2 BY8.out; clear hg hb hbox) | ((with_reducible refine gate_store (t := 30) (p := 11) rfl ?_); refine store_event (t := 30) (p := 11) (v := ?vq) (w1 := ((w8.setCell ⟨gy, 0, none⟩ (.int .i64 xf)).setCell ⟨gy, 1, none⟩ (.slice Ax xr.length cx))) ?hg ?ho ?hn ?hr ?_; (case ho => rfl); (case hg => rfl); (case hn => rfl); (case hr => first | (go_simp; done) | (go_simp; rfl)); intro w9 hw; have BY9 : Aside0 (w9.heap[gy]? = some (.cells #[.int .i64 xf, .slice Ax xr.length cx] 30 (0, 0))) := ⟨by rw [hw]; exact blk_put (cs := #[.int .i64 xf, .slice none 0 0]) (blk_put (cs := #[.int .i64 0, .slice none 0 0]) BY8.out 0 _ rfl) 1 _ rfl⟩; have HT9 : Aside0 (LT w w9 #[.int .i64 a1_0, .int .i64 a1_1, .int .i64 a1_2, .int .i64 a1_3, .int .i64 a1_4, .int .i64 a1_5, .int .i64 a1_6] xr Ax A8 A9 (befL l0 a1_6) (othL l0 xf a1_5) g0 gy) := ⟨by rw [hw]; exact (HT8.out.far 0 _).far 1 _⟩; clear hw q8_0 q8_1 f8_0 f8_1; have f9_0 := blk_frozen BY9.out 0; have f9_1 := blk_frozen BY9.out 1; obtain ⟨q9_0, q9_1⟩ := cells2 BY9.out) | ((with_reducible refine gate_store (t := 3) (p := 101) rfl ?_); refine store_event (t := 3) (p := 101) (v := ?vr) (w1 := w9.setCell ⟨gy, 0, none⟩ (.int .i64 0)) ?hg ?ho ?hn ?hr ?_; (case ho => rfl); (case hg => rfl); (case hn => rfl); (case hr => first | (go_simp; done) | (go_simp; rfl)); intro w10 hw; have BY10 : Aside0 (w10.heap[gy]? = some (.cells #[.int .i64 0, .slice Ax xr.length cx] 30 (0, 0))) := ⟨by rw [hw]; exact blk_put (cs := #[.int .i64 xf, .slice Ax xr.length cx]) BY9.out 0 _ rfl⟩; have HT10 : Aside0 (LT w w10 #[.int .i64 a1_0, .int .i64 a1_1, .int .i64 a1_2, .int .i64 a1_3, .int .i64 a1_4, .int .i64 a1_5, .int .i64 a1_6] xr Ax A8 A9 (befL l0 a1_6) (othL l0 xf a1_5) g0 gy) := ⟨by rw [hw]; exact HT9.out.far 0 _⟩; clear hw q9_0 q9_1 f9_0 f9_1; obtain ⟨q10_0, q10_1⟩ := cells2 BY10.out; obtain ⟨p10_0, p10_1, p10_2, p10_3, p10_4, p10_5, p10_6⟩ := cells7 (blk_alloc HT10.out.b0 (.cells #[.int .i64 0, .slice Ax xr.length cx] 30))) | (go_at_call 12; (with_reducible refine (PT1.out _ (some ⟨w10.heap.size, 0, none⟩) ?s1).mono ?_); (case s1 => exact C_of_blk' (d := k30) (xs := ([⟨0, xr⟩] : List S30)) (inner := [.int .i64 0, .slice Ax xr.length cx]) (blk_new w10 _) (reps_1 (R := k30.K _) rfl (k30_mk _ (⟨0, xr⟩ : S30) LX (Kd.F_now (Kd.F_alloc HT10.out.fs _)))) (by simp)); rintro e w11 ⟨rfl, hb⟩; have HT11 := Aside0.mk ((HT10.out.below (below_alloc (Below.refl _ _) _)).below hb); clear hb; obtain ⟨p11_0, p11_1, p11_2, p11_3, p11_4, p11_5, p11_6⟩ := cells7 HT11.out.b0) | (go_at_call 12; (with_reducible refine (tariff_Points.calls k A8 c8 (befL l0 a1_6) a1_0 a1_1 a1_2 a1_3 a1_4 a1_5 a1_6 n w11 ?s1 K8 P2.out).mono ?_); (case s1 => exact Kd.F_now HT11.out.f8); rintro e w12 ⟨rfl, hb⟩; have HT12 := Aside0.mk (HT11.out.below hb); clear hb; obtain ⟨p12_0, p12_1, p12_2, p12_3, p12_4, p12_5, p12_6⟩ := cells7 HT12.out.b0) | (go_at_call 12; (with_reducible refine (tariff_Points.calls k A9 c9 (othL l0 xf a1_5) a1_0 a1_1 a1_2 a1_3 a1_4 a1_5 a1_6 n w12 ?s1 K9 P3.out).mono ?_); (case s1 => exact Kd.F_now HT12.out.f9); rintro e w13 ⟨rfl, hb⟩; have HT13 := Aside0.mk (HT12.out.below hb); clear hb))
   go_ret
   exact ⟨rfl, HT13.out.hb⟩
  | succ k1 =>
   have hxl : x < l0.length := by have := HX.out; omega
   have c1b : decide (x < l0.length) = true := decide_eq_true hxl
   have hxT : (x < l0.length) = True := eq_true hxl
   obtain ⟨ad, A1, c1, e1, y0, y1, l1, g1⟩ := at_T30 HR0.out (x : Int) (Int.natCast_nonneg _) (by omega)
   cases e1
   simp only [Int.toNat_natCast] at y0 y1
   have HG := Aside0.mk g1
   have HL1 := Aside0.mk l1
   have Y0 := Aside0.mk y0
   have Y1 := Aside0.mk y1
   clear l1 g1 y0 y1
   have hfx := befL_take hxl a1_6
   have hox := othL_take hxl xf a1_5
   have LBF : Aside0 (((befL (l0.take x) a1_6).length + 1) * 32 ≤ 140737488355328) := ⟨by have h1 := befL_length (l0.take x) a1_6; rw [List.length_take] at h1; have := HL.out; omega⟩
   have LBO : Aside0 (((othL (l0.take x) xf a1_5).length + 1) * 32 ≤ 140737488355328) := ⟨by rw [othL_length, List.length_take]; have := HL.out; omega⟩
   have u7_0 := pw_cell_below HLS.out.hb Y0.out
   have u7_1 := pw_cell_below HLS.out.hb Y1.out
   obtain ⟨_, _, _, _, _, r7_5, r7_6⟩ := cells7 HLS.out.b0
   obtain ⟨s7_0, s7_1⟩ := cells2 HLS.out.bx
   by_cases ca : (rd_T30 l0 (x : Int)).f0 ≤ a1_6
   case pos =>
    have hnl := later_at CL.out hxl ca
    have ca1 := decide_eq_true ca
    have cb1 := decide_eq_false hnl
    rw [if_pos ca] at hfx
    by_cases ce : (rd_T30 l0 (x : Int)).f0 = xf
    case pos =>
     have ce1 : ((rd_T30 l0 (x : Int)).f0 == xf) = true := beq_iff_eq.mpr ce
     rw [if_pos ce] at hox
     have HFX := Aside0.mk hfx
     have HOX := Aside0.mk hox
     clear hfx hox ca ce hnl
     go_wp2_with (first | ((with_reducible refine gate_builtin (b := .append) (xs := #[.tmp 55, .tmp 60]) rfl ?_); at_builtin; refine Kd.N_append k30 (w0 := w) w.heap.size rfl (.tmp 55) (.tmp 60) 22 30 (.agg #[.int .i64 0, .slice none 0 0]) 32 rfl Try.underlying22 info30 rfl (by decide) (by omega) u8 (befL (l0.take x) a1_6) (rd_T30 l0 (x : Int)) [.int .i64 (rd_T30 l0 (x : Int)).f0, .slice A1 (rd_T30 l0 (x : Int)).f1.length c1] (fun k => (k ≠ g0 ∧ k ≠ gx) ∧ some k ≠ u9.ownBlock) (fun k => k < w.heap.size) rfl rfl ?aP ?aK ?aF ?aO ?aB ?aS LBF.out ?_; (case aO => exact (HLS.out.below (by repeat (first | exact Below.refl _ _ | apply below_drew1 | apply pw_below_drewN | apply below_alloc))).nb); (case aB => exact (HLS.out.below (by repeat (first | exact Below.refl _ _ | apply below_drew1 | apply pw_below_drewN | apply below_alloc))).hb); (case aS => exact (HLS.out.below (by repeat (first | exact Below.refl _ _ | apply below_drew1 | apply pw_below_drewN | apply below_alloc))).hb.size); (case aP => exact k30_mkF _ _ _ HL1.out (Kd.F_below (Kd.C_F k35_heap HG.out) (HLS.out.below (by repeat (first | exact Below.refl _ _ | apply below_drew1 | apply pw_below_drewN | apply below_alloc))).hb)); (case aK => exact fun k hk => HLS.out.old8 hk); (case aF => exact fun k hk => ((HLS.out.below (by repeat (first | exact Below.refl _ _ | apply below_drew1 | apply pw_below_drewN | apply below_alloc))).new8 hk).1); intro v1 w8 hN hB hg hat; have HL8 := Aside0.mk ((HLS.out.below (by repeat (first | exact Below.refl _ _ | apply below_drew1 | apply pw_below_drewN | apply below_alloc))).app8 hN hB hg hat); clear hN hB hg hat; have u8_0 := pw_cell_below HL8.out.hb Y0.out; have u8_1 := pw_cell_below HL8.out.hb Y1.out; obtain ⟨_, _, _, _, _, r8_5, r8_6⟩ := cells7 HL8.out.b0; obtain ⟨s8_0, s8_1⟩ := cells2 HL8.out.bx) | ((with_reducible refine gate_builtin (b := .append) (xs := #[.tmp 78, .tmp 83]) rfl ?_); at_builtin; refine Kd.N_append k30 (w0 := w) w.heap.size rfl (.tmp 78) (.tmp 83) 22 30 (.agg #[.int .i64 0, .slice none 0 0]) 32 rfl Try.underlying22 info30 rfl (by decide) (by omega) u9 (othL (l0.take x) xf a1_5) (rd_T30 l0 (x : Int)) [.int .i64 (rd_T30 l0 (x : Int)).f0, .slice A1 (rd_T30 l0 (x : Int)).f1.length c1] (fun k => (k ≠ g0 ∧ k ≠ gx) ∧ some k ≠ v1.ownBlock) (fun k => k < w.heap.size) rfl rfl ?aP ?aK ?aF ?aO ?aB ?aS LBO.out ?_; (case aO => exact (HL8.out.below (by repeat (first | exact Below.refl _ _ | apply below_drew1 | apply pw_below_drewN | apply below_alloc))).no); (case aB => exact (HL8.out.below (by repeat (first | exact Below.refl _ _ | apply below_drew1 | apply pw_below_drewN | apply below_alloc))).hb); (case aS => exact (HL8.out.below (by repeat (first | exact Below.refl _ _ | apply below_drew1 | apply pw_below_drewN | apply below_alloc))).hb.size); (case aP => exact k30_mkF _ _ _ HL1.out (Kd.F_below (Kd.C_F k35_heap HG.out) (HL8.out.below (by repeat (first | exact Below.refl _ _ | apply below_drew1 | apply pw_below_drewN | apply below_alloc))).hb)); (case aK => exact fun k hk => ⟨⟨(HL8.out.old8 hk).1.1, (HL8.out.old8 hk).2⟩, (HL8.out.old8 hk).1.2⟩); (case aF => exact fun k hk => ⟨((HL8.out.below (by repeat (first | exact Below.refl _ _ | apply below_drew1 | apply pw_below_drewN | apply below_alloc))).new8 hk).1.1, ((HL8.out.below (by repeat (first | exact Below.refl _ _ | apply below_drew1 | apply pw_below_drewN | apply below_alloc))).new8 hk).2⟩); intro v2 w9 hN hB hg hat; have HL9 := Aside0.mk ((HL8.out.below (by repeat (first | exact Below.refl _ _ | apply below_drew1 | apply pw_below_drewN | apply below_alloc))).app9 hN hB hg hat); clear hN hB hg hat))
     repeat (go_quiet (fail); try go_wp2_with (first | ((with_reducible refine gate_builtin (b := .append) (xs := #[.tmp 55, .tmp 60]) rfl ?_); at_builtin; refine Kd.N_append k30 (w0 := w) w.heap.size rfl (.tmp 55) (.tmp 60) 22 30 (.agg #[.int .i64 0, .slice none 0 0]) 32 rfl Try.underlying22 info30 rfl (by decide) (by omega) u8 (befL (l0.take x) a1_6) (rd_T30 l0 (x : Int)) [.int .i64 (rd_T30 l0 (x : Int)).f0, .slice A1 (rd_T30 l0 (x : Int)).f1.length c1] (fun k => (k ≠ g0 ∧ k ≠ gx) ∧ some k ≠ u9.ownBlock) (fun k => k < w.heap.size) rfl rfl ?aP ?aK ?aF ?aO ?aB ?aS LBF.out ?_; (case aO => exact (HLS.out.below (by repeat (first | exact Below.refl _ _ | apply below_drew1 | apply pw_below_drewN | apply below_alloc))).nb); (case aB => exact (HLS.out.below (by repeat (first | exact Below.refl _ _ | apply below_drew1 | apply pw_below_drewN | apply below_alloc))).hb); (case aS => exact (HLS.out.below (by repeat (first | exact Below.refl _ _ | apply below_drew1 | apply pw_below_drewN | apply below_alloc))).hb.size); (case aP => exact k30_mkF _ _ _ HL1.out (Kd.F_below (Kd.C_F k35_heap HG.out) (HLS.out.below (by repeat (first | exact Below.refl _ _ | apply below_drew1 | apply pw_below_drewN | apply below_alloc))).hb)); (case aK => exact fun k hk => HLS.out.old8 hk); (case aF => exact fun k hk => ((HLS.out.below (by repeat (first | exact Below.refl _ _ | apply below_drew1 | apply pw_below_drewN | apply below_alloc))).new8 hk).1); intro v1 w8 hN hB hg hat; have HL8 := Aside0.mk ((HLS.out.below (by repeat (first | exact Below.refl _ _ | apply below_drew1 | apply pw_below_drewN | apply below_alloc))).app8 hN hB hg hat); clear hN hB hg hat; have u8_0 := pw_cell_below HL8.out.hb Y0.out; have u8_1 := pw_cell_below HL8.out.hb Y1.out; obtain ⟨_, _, _, _, _, r8_5, r8_6⟩ := cells7 HL8.out.b0; obtain ⟨s8_0, s8_1⟩ := cells2 HL8.out.bx) | ((with_reducible refine gate_builtin (b := .append) (xs := #[.tmp 78, .tmp 83]) rfl ?_); at_builtin; refine Kd.N_append k30 (w0 := w) w.heap.size rfl (.tmp 78) (.tmp 83) 22 30 (.agg #[.int .i64 0, .slice none 0 0]) 32 rfl Try.underlying22 info30 rfl (by decide) (by omega) u9 (othL (l0.take x) xf a1_5) (rd_T30 l0 (x : Int)) [.int .i64 (rd_T30 l0 (x : Int)).f0, .slice A1 (rd_T30 l0 (x : Int)).f1.length c1] (fun k => (k ≠ g0 ∧ k ≠ gx) ∧ some k ≠ v1.ownBlock) (fun k => k < w.heap.size) rfl rfl ?aP ?aK ?aF ?aO ?aB ?aS LBO.out ?_; (case aO => exact (HL8.out.below (by repeat (first | exact Below.refl _ _ | apply below_drew1 | apply pw_below_drewN | apply below_alloc))).no); (case aB => exact (HL8.out.below (by repeat (first | exact Below.refl _ _ | apply below_drew1 | apply pw_below_drewN | apply below_alloc))).hb); (case aS => exact (HL8.out.below (by repeat (first | exact Below.refl _ _ | apply below_drew1 | apply pw_below_drewN | apply below_alloc))).hb.size); (case aP => exact k30_mkF _ _ _ HL1.out (Kd.F_below (Kd.C_F k35_heap HG.out) (HL8.out.below (by repeat (first | exact Below.refl _ _ | apply below_drew1 | apply pw_below_drewN | apply below_alloc))).hb)); (case aK => exact fun k hk => ⟨⟨(HL8.out.old8 hk).1.1, (HL8.out.old8 hk).2⟩, (HL8.out.old8 hk).1.2⟩); (case aF => exact fun k hk => ⟨((HL8.out.below (by repeat (first | exact Below.refl _ _ | apply below_drew1 | apply pw_below_drewN | apply below_alloc))).new8 hk).1.1, ((HL8.out.below (by repeat (first | exact Below.refl _ _ | apply below_drew1 | apply pw_below_drewN | apply below_alloc))).new8 hk).2⟩); intro v2 w9 hN hB hg hat; have HL9 := Aside0.mk ((HL8.out.below (by repeat (first | exact Below.refl _ _ | apply below_drew1 | apply pw_below_drewN | apply below_alloc))).app9 hN hB hg hat); clear hN hB hg hat)))
     go_roundg k1
     case measure => omega
     case rel => exact ⟨x + 1, (by have h8 := HL.out; have h9 := hxl; simp; unfold wrap64; omega), ⟨by have := HX.out; omega⟩, ⟨by rw [HFX.out, HOX.out]; exact HL9.out⟩⟩
    case neg =>
     have ce1 : ((rd_T30 l0 (x : Int)).f0 == xf) = false := beq_eq_false_iff_ne.mpr ce
     rw [if_neg ce] at hox
     have HFX := Aside0.mk hfx
     have HOX := Aside0.mk hox
     clear hfx hox ca ce hnl
     (try go_wp2_with (first | ((with_reducible refine gate_builtin (b := .append) (xs := #[.tmp 55, .tmp 60]) rfl ?_); at_builtin; refine Kd.N_append k30 (w0 := w) w.heap.size rfl (.tmp 55) (.tmp 60) 22 30 (.agg #[.int .i64 0, .slice none 0 0]) 32 rfl Try.underlying22 info30 rfl (by decide) (by omega) u8 (befL (l0.take x) a1_6) (rd_T30 l0 (x : Int)) [.int .i64 (rd_T30 l0 (x : Int)).f0, .slice A1 (rd_T30 l0 (x : Int)).f1.length c1] (fun k => (k ≠ g0 ∧ k ≠ gx) ∧ some k ≠ u9.ownBlock) (fun k => k < w.heap.size) rfl rfl ?aP ?aK ?aF ?aO ?aB ?aS LBF.out ?_; (case aO => exact (HLS.out.below (by repeat (first | exact Below.refl _ _ | apply below_drew1 | apply pw_below_drewN | apply below_alloc))).nb); (case aB => exact (HLS.out.below (by repeat (first | exact Below.refl _ _ | apply below_drew1 | apply pw_below_drewN | apply below_alloc))).hb); (case aS => exact (HLS.out.below (by repeat (first | exact Below.refl _ _ | apply below_drew1 | apply pw_below_drewN | apply below_alloc))).hb.size); (case aP => exact k30_mkF _ _ _ HL1.out (Kd.F_below (Kd.C_F k35_heap HG.out) (HLS.out.below (by repeat (first | exact Below.refl _ _ | apply below_drew1 | apply pw_below_drewN | apply below_alloc))).hb)); (case aK => exact fun k hk => HLS.out.old8 hk); (case aF => exact fun k hk => ((HLS.out.below (by repeat (first | exact Below.refl _ _ | apply below_drew1 | apply pw_below_drewN | apply below_alloc))).new8 hk).1); intro v1 w8 hN hB hg hat; have HL8 := Aside0.mk ((HLS.out.below (by repeat (first | exact Below.refl _ _ | apply below_drew1 | apply pw_below_drewN | apply below_alloc))).app8 hN hB hg hat); clear hN hB hg hat; have u8_0 := pw_cell_below HL8.out.hb Y0.out; have u8_1 := pw_cell_below HL8.out.hb Y1.out; obtain ⟨_, _, _, _, _, r8_5, r8_6⟩ := cells7 HL8.out.b0; obtain ⟨s8_0, s8_1⟩ := cells2 HL8.out.bx)))
     go_quiet (fail)
     (try go_wp2_with (first | ((with_reducible refine gate_builtin (b := .append) (xs := #[.tmp 55, .tmp 60]) rfl ?_); at_builtin; refine Kd.N_append k30 (w0 := w) w.heap.size rfl (.tmp 55) (.tmp 60) 22 30 (.agg #[.int .i64 0, .slice none 0 0]) 32 rfl Try.underlying22 info30 rfl (by decide) (by omega) u8 (befL (l0.take x) a1_6) (rd_T30 l0 (x : Int)) [.int .i64 (rd_T30 l0 (x : Int)).f0, .slice A1 (rd_T30 l0 (x : Int)).f1.length c1] (fun k => (k ≠ g0 ∧ k ≠ gx) ∧ some k ≠ u9.ownBlock) (fun k => k < w.heap.size) rfl rfl ?aP ?aK ?aF ?aO ?aB ?aS LBF.out ?_; (case aO => exact (HLS.out.below (by repeat (first | exact Below.refl _ _ | apply below_drew1 | apply pw_below_drewN | apply below_alloc))).nb); (case aB => exact (HLS.out.below (by repeat (first | exact Below.refl _ _ | apply below_drew1 | apply pw_below_drewN | apply below_alloc))).hb); (case aS => exact (HLS.out.below (by repeat (first | exact Below.refl _ _ | apply below_drew1 | apply pw_below_drewN | apply below_alloc))).hb.size); (case aP => exact k30_mkF _ _ _ HL1.out (Kd.F_below (Kd.C_F k35_heap HG.out) (HLS.out.below (by repeat (first | exact Below.refl _ _ | apply below_drew1 | apply pw_below_drewN | apply below_alloc))).hb)); (case aK => exact fun k hk => HLS.out.old8 hk); (case aF => exact fun k hk => ((HLS.out.below (by repeat (first | exact Below.refl _ _ | apply below_drew1 | apply pw_below_drewN | apply below_alloc))).new8 hk).1); intro v1 w8 hN hB hg hat; have HL8 := Aside0.mk ((HLS.out.below (by repeat (first | exact Below.refl _ _ | apply below_drew1 | apply pw_below_drewN | apply below_alloc))).app8 hN hB hg hat); clear hN hB hg hat; have u8_0 := pw_cell_below HL8.out.hb Y0.out; have u8_1 := pw_cell_below HL8.out.hb Y1.out; obtain ⟨_, _, _, _, _, r8_5, r8_6⟩ := cells7 HL8.out.b0; obtain ⟨s8_0, s8_1⟩ := cells2 HL8.out.bx)))
     go_quiet (fail)
     (try go_wp2_with (first | ((with_reducible refine gate_builtin (b := .append) (xs := #[.tmp 55, .tmp 60]) rfl ?_); at_builtin; refine Kd.N_append k30 (w0 := w) w.heap.size rfl (.tmp 55) (.tmp 60) 22 30 (.agg #[.int .i64 0, .slice none 0 0]) 32 rfl Try.underlying22 info30 rfl (by decide) (by omega) u8 (befL (l0.take x) a1_6) (rd_T30 l0 (x : Int)) [.int .i64 (rd_T30 l0 (x : Int)).f0, .slice A1 (rd_T30 l0 (x : Int)).f1.length c1] (fun k => (k ≠ g0 ∧ k ≠ gx) ∧ some k ≠ u9.ownBlock) (fun k => k < w.heap.size) rfl rfl ?aP ?aK ?aF ?aO ?aB ?aS LBF.out ?_; (case aO => exact (HLS.out.below (by repeat (first | exact Below.refl _ _ | apply below_drew1 | apply pw_below_drewN | apply below_alloc))).nb); (case aB => exact (HLS.out.below (by repeat (first | exact Below.refl _ _ | apply below_drew1 | apply pw_below_drewN | apply below_alloc))).hb); (case aS => exact (HLS.out.below (by repeat (first | exact Below.refl _ _ | apply below_drew1 | apply pw_below_drewN | apply below_alloc))).hb.size); (case aP => exact k30_mkF _ _ _ HL1.out (Kd.F_below (Kd.C_F k35_heap HG.out) (HLS.out.below (by repeat (first | exact Below.refl _ _ | apply below_drew1 | apply pw_below_drewN | apply below_alloc))).hb)); (case aK => exact fun k hk => HLS.out.old8 hk); (case aF => exact fun k hk => ((HLS.out.below (by repeat (first | exact Below.refl _ _ | apply below_drew1 | apply pw_below_drewN | apply below_alloc))).new8 hk).1); intro v1 w8 hN hB hg hat; have HL8 := Aside0.mk ((HLS.out.below (by repeat (first | exact Below.refl _ _ | apply below_drew1 | apply pw_below_drewN | apply below_alloc))).app8 hN hB hg hat); clear hN hB hg hat; have u8_0 := pw_cell_below HL8.out.hb Y0.out; have u8_1 := pw_cell_below HL8.out.hb Y1.out; obtain ⟨_, _, _, _, _, r8_5, r8_6⟩ := cells7 HL8.out.b0; obtain ⟨s8_0, s8_1⟩ := cells2 HL8.out.bx)))
     go_quiet (fail)
     (try go_wp2)
     refine start_LS (n := 16) HL8.out ?hb #[false, false, false, false, false, false, false, false, false, false, false, false, false, false, false, false] (by kernel_rfl) rfl rfl (fun wd hd => ?_)
     case hb => exact (by repeat (first | exact Below.refl _ _ | apply below_drew1 | apply pw_below_drewN | apply below_alloc))
     have HD := Aside0.mk hd
     have hS : Below w.heap.size w wd ∧ wd.heap[g0]? = some (.cells #[.int .i64 a1_0, .int .i64 a1_1, .int .i64 a1_2, .int .i64 a1_3, .int .i64 a1_4, .int .i64 a1_5, .int .i64 a1_6] 24 (0, 0)) := ⟨hd.hb, hd.b0⟩
     clear hd
     refine pure_ (i := 0) (N := some 85) (v := ?_) (a' := ?_) #[true, false, false, false, false, false, false, false, false, false, false, false, false, false, false, false] rfl rfl (by kernel_rfl) (fun _ _ _ h => h) (Or.inl ⟨by rfl, ?_⟩) ?_ ?_
     rotate_left
     · intro w'
       go_simp
       with_reducible rfl
     rotate_left
     · simp only [Act.put, List.setIfInBounds_toArray, List.set_cons_zero, List.set_cons_succ, i64_w, i32_w]
       rfl
     refine pure_ (i := 1) (N := some 86) (v := ?_) (a' := ?_) #[true, true, false, false, false, false, false, false, false, false, false, false, false, false, false, false] rfl rfl (by kernel_rfl) (fun _ _ _ h => h) (Or.inl ⟨by rfl, ?_⟩) ?_ ?_
     rotate_left
     · intro w'
       go_simp
       with_reducible rfl
     rotate_left
     · simp only [Act.put, List.setIfInBounds_toArray, List.set_cons_zero, List.set_cons_succ, i64_w, i32_w]
       rfl
     refine pure_ (i := 2) (N := some 87) (v := ?_) (a' := ?_) #[true, true, true, false, false, false, false, false, false, false, false, false, false, false, false, false] rfl rfl (by kernel_rfl) (fun _ _ _ h => h) (Or.inl ⟨by rfl, ?_⟩) ?_ ?_
     rotate_left
     · intro w'
       go_simp
       with_reducible rfl
     rotate_left
     · simp only [Act.put, List.setIfInBounds_toArray, List.set_cons_zero, List.set_cons_succ, i64_w, i32_w]
       rfl
     refine pure_ (i := 3) (N := some 88) (v := ?_) (a' := ?_) #[true, true, true, true, false, false, false, false, false, false, false, false, false, false, false, false] rfl rfl (by kernel_rfl) (fun _ _ _ h => h) (Or.inl ⟨by rfl, ?_⟩) ?_ ?_
     rotate_left
     · intro w'
       go_simp
       with_reducible rfl
     rotate_left
     · simp only [Act.put, List.setIfInBounds_toArray, List.set_cons_zero, List.set_cons_succ, i64_w, i32_w]
       rfl
     refine pure_ (i := 4) (N := some 89) (v := ?_) (a' := ?_) #[true, true, true, true, true, false, false, false, false, false, false, false, false, false, false, false] rfl rfl (by kernel_rfl) (fun _ _ _ h => h) (Or.inl ⟨by rfl, ?_⟩) ?_ ?_
     rotate_left
     · intro w'
       go_simp
       with_reducible rfl
     rotate_left
     · simp only [Act.put, List.setIfInBounds_toArray, List.set_cons_zero, List.set_cons_succ, i64_w, i32_w]
       rfl
     refine take_ (i := 5) (N := some 90) (v := ?_) (a' := ?_) #[true, true, true, true, true, true, false, false, false, false, false, false, false, false, false, false] rfl rfl (by kernel_rfl) (fun _ _ _ h => h) (Or.inl ⟨by rfl, ?_⟩) hS ?_ ?_
     rotate_left
     · intro w' hS'
       have t0 := pw_cell_below hS'.1 Y0.out
       go_simp
       with_reducible rfl
     rotate_left
     · simp only [Act.put, List.setIfInBounds_toArray, List.set_cons_zero, List.set_cons_succ, i64_w, i32_w]
       rfl
     refine pure_ (i := 6) (N := some 91) (v := ?_) (a' := ?_) #[true, true, true, true, true, true, true, false, false, false, false, false, false, false, false, false] rfl rfl (by kernel_rfl) (fun _ _ _ h => h) (Or.inl ⟨by rfl, ?_⟩) ?_ ?_
     rotate_left
     · intro w'
       go_simp
       with_reducible rfl
     rotate_left
     · simp only [Act.put, List.setIfInBounds_toArray, List.set_cons_zero, List.set_cons_succ, i64_w, i32_w]
       rfl
     refine take_ (i := 7) (N := some 92) (v := ?_) (a' := ?_) #[true, true, true, true, true, true, true, true, false, false, false, false, false, false, false, false] rfl rfl (by kernel_rfl) (fun _ _ _ h => h) (Or.inl ⟨by rfl, ?_⟩) hS ?_ ?_
     rotate_left
     · intro w' hS'
       obtain ⟨_, _, _, _, _, t5, _⟩ := cells7 hS'.2
       go_simp
       with_reducible rfl
     rotate_left
     · simp only [Act.put, List.setIfInBounds_toArray, List.set_cons_zero, List.set_cons_succ, i64_w, i32_w]
       rfl
     refine pure_ (i := 8) (N := some 93) (v := ?_) (a' := ?_) #[true, true, true, true, true, true, true, true, true, false, false, false, false, false, false, false] rfl rfl (by kernel_rfl) (fun _ _ _ h => h) (Or.inl ⟨by rfl, ?_⟩) ?_ ?_
     rotate_left
     · intro w'
       go_simp
       with_reducible rfl
     rotate_left
     · simp only [Act.put, List.setIfInBounds_toArray, List.set_cons_zero, List.set_cons_succ, i64_w, i32_w]
       rfl
     refine pure_ (i := 9) (N := some 94) (v := ?_) (a' := ?_) #[true, true, true, true, true, true, true, true, true, true, false, false, false, false, false, false] rfl rfl (by kernel_rfl) (fun _ _ _ h => h) (Or.inl ⟨by rfl, ?_⟩) ?_ ?_
     rotate_left
     · intro w'
       go_simp
       with_reducible rfl
     rotate_left
     · simp only [Act.put, List.setIfInBounds_toArray, List.set_cons_zero, List.set_cons_succ, i64_w, i32_w]
       rfl
     refine pure_ (i := 10) (N := some 95) (v := ?_) (a' := ?_) #[true, true, true, true, true, true, true, true, true, true, true, false, false, false, false, false] rfl rfl (by kernel_rfl) (fun _ _ _ h => h) (Or.inl ⟨by rfl, ?_⟩) ?_ ?_
     rotate_left
     · intro w'
       go_simp
       with_reducible rfl
     rotate_left
     · simp only [Act.put, List.setIfInBounds_toArray, List.set_cons_zero, List.set_cons_succ, i64_w, i32_w]
       rfl
     refine one_ (i := 11) (N := some 96) #[true, true, true, true, true, true, true, true, true, true, true, true, false, false, false, false] rfl rfl (by kernel_rfl) (by decide) (fun K hK => ?_)
     refine value_ (w1 := ?_) (v := ?_) (by rfl) rfl ?_ ?_
     rotate_left 2
     · go_simp
       constructor
       · rfl
       · rfl
     have HA := HD.out.below (below_alloc (Below.refl _ _) (.cells #[.int .i64 (if 1 < (if 9999 < a1_5 then 9999 else a1_5) then (if 9999 < a1_5 then 9999 else a1_5) else 1), .int .i64 777, .int .i64 0, .slice none 0 0] 35))
     have BG := blk_new wd (.cells #[.int .i64 (if 1 < (if 9999 < a1_5 then 9999 else a1_5) then (if 9999 < a1_5 then 9999 else a1_5) else 1), .int .i64 777, .int .i64 0, .slice none 0 0] 35)
     refine hK.out _ _ ⟨HA.hb, HA.b0⟩ (fun hS1 => ?_)
     clear hK K
     refine norm_ (a' := ?_) ?_ ?_
     rotate_left
     · show Act.put _ (some 96) _ = _
       simp only [Act.put, List.setIfInBounds_toArray, List.set_cons_zero, List.set_cons_succ, i64_w, i32_w]
       rfl
     generalize hwa : wd.alloc (.cells #[.int .i64 (if 1 < (if 9999 < a1_5 then 9999 else a1_5) then (if 9999 < a1_5 then 9999 else a1_5) else 1), .int .i64 777, .int .i64 0, .slice none 0 0] 35) = wa at HA BG hS1 ⊢
     have HAA := Aside0.mk HA
     have BGG := Aside0.mk BG
     clear HA BG hwa hS
     refine pure_ (i := 12) (N := some 97) (v := ?_) (a' := ?_) #[true, true, true, true, true, true, true, true, true, true, true, true, true, false, false, false] rfl rfl (by kernel_rfl) (fun _ _ _ h => h) (Or.inl ⟨by rfl, ?_⟩) ?_ ?_
     rotate_left
     · intro w'
       go_simp
       with_reducible rfl
     rotate_left
     · simp only [Act.put, List.setIfInBounds_toArray, List.set_cons_zero, List.set_cons_succ, i64_w, i32_w]
       rfl
     refine one_ (i := 13) (N := some 98) #[true, true, true, true, true, true, true, true, true, true, true, true, true, true, false, false] rfl rfl (by kernel_rfl) (by decide) (fun K hK => ?_)
     refine value_ (w1 := ?_) (v := ?_) (by rfl) rfl ?_ ?_
     rotate_left 2
     · go_simp
       constructor
       · rfl
       · rfl
     refine hK.out _ _ ⟨(HAA.out.below (by repeat (first | exact Below.refl _ _ | apply below_drew1 | apply pw_below_drewN | apply below_alloc))).hb, (HAA.out.below (by repeat (first | exact Below.refl _ _ | apply below_drew1 | apply pw_below_drewN | apply below_alloc))).b0⟩ (fun hS2 => ?_)
     clear hK K
     refine norm_ (a' := ?_) ?_ ?_
     rotate_left
     · show Act.put _ (some 98) _ = _
       simp only [Act.put, List.setIfInBounds_toArray, List.set_cons_zero, List.set_cons_succ, i64_w, i32_w]
       rfl
     refine one_ (i := 14) (N := some 99) #[true, true, true, true, true, true, true, true, true, true, true, true, true, true, true, false] rfl rfl (by kernel_rfl) (by decide) (fun K hK => ?_)
     refine Kd.N_append_step k30 (w0 := w) w.heap.size (by rfl) (.tmp 85) (.tmp 98) 22 30 (.agg #[.int .i64 0, .slice none 0 0]) 32 rfl Try.underlying22 info30 rfl (by decide) (by omega) u9 (othL (l0.take x) xf a1_5) (thin a1_5 (rd_T30 l0 (x : Int))) [.int .i64 (rd_T30 l0 (x : Int)).f0, .slice (some ⟨wd.heap.size, 0, none⟩) 1 1] (fun k => (k ≠ g0 ∧ k ≠ gx) ∧ some k ≠ v1.ownBlock) (fun k => k = wd.heap.size) rfl rfl ?aP ?aK ?aF HAA.out.no HAA.out.hb HAA.out.hb.size LBO.out ?_
     case aP => exact k30_mkF wa _ (thin a1_5 (rd_T30 l0 (x : Int))) (Nat.le_refl 1) (F_thin BGG.out)
     case aK => rintro k rfl; exact ⟨⟨(HD.out.new8 (Nat.le_refl _)).1.1, (HD.out.new8 (Nat.le_refl _)).2⟩, (HD.out.new8 (Nat.le_refl _)).1.2⟩
     case aF => exact fun k hk => ⟨(HAA.out.new8 hk).1.1, (HAA.out.new8 hk).2⟩
     intro v2 w9 hN hB hg hat
     have HL9 := Aside0.mk (HAA.out.app9 hN hB hg hat)
     refine hK.out _ _ ⟨HL9.out.hb, HL9.out.b0⟩ (fun _ => ?_)
     clear hK K hN hB hg hat hS1 hS2 HAA BGG HD
     refine norm_ (a' := ?_) ?_ ?_
     rotate_left
     · show Act.put _ (some 99) _ = _
       simp only [Act.put, List.setIfInBounds_toArray, List.set_cons_zero, List.set_cons_succ, i64_w, i32_w]
       rfl
     refine pure_ (i := 15) (N := some 9) (v := ?_) (a' := ?_) #[true, true, true, true, true, true, true, true, true, true, true, true, true, true, true, true] rfl rfl (by kernel_rfl) (fun _ _ _ h => h) (Or.inl ⟨by rfl, ?_⟩) ?_ ?_
     rotate_left
     · intro w'
       go_simp
       with_reducible rfl
     rotate_left
     · simp only [Act.put, List.setIfInBounds_toArray, List.set_cons_zero, List.set_cons_succ, i64_w, i32_w]
       rfl
     refine done_ (by kernel_rfl) ?_
     generalize (if 9999 < a1_5 then (9999 : Int) else a1_5) = m1_
     generalize (if 1 < m1_ then m1_ else (1 : Int)) = m2_
     go_wp2
     go_roundg k1
     case measure => omega
     case rel => exact ⟨x + 1, (by have h8 := HL.out; have h9 := hxl; simp; unfold wrap64; omega), ⟨by have := HX.out; omega⟩, ⟨by rw [HFX.out, HOX.out]; exact HL9.out⟩⟩
   case neg =>
    have ca1 := decide_eq_false ca
    rw [if_neg ca, List.append_nil] at hfx
    by_cases ce : (rd_T30 l0 (x : Int)).f0 = xf
    case pos =>
     have ce1 : ((rd_T30 l0 (x : Int)).f0 == xf) = true := beq_iff_eq.mpr ce
     rw [if_pos ce] at hox
     have HFX := Aside0.mk hfx
     have HOX := Aside0.mk hox
     clear hfx hox ca ce
     go_wp2_with (first | ((with_reducible refine gate_builtin (b := .append) (xs := #[.tmp 78, .tmp 83]) rfl ?_); at_builtin; refine Kd.N_append k30 (w0 := w) w.heap.size rfl (.tmp 78) (.tmp 83) 22 30 (.agg #[.int .i64 0, .slice none 0 0]) 32 rfl Try.underlying22 info30 rfl (by decide) (by omega) u9 (othL (l0.take x) xf a1_5) (rd_T30 l0 (x : Int)) [.int .i64 (rd_T30 l0 (x : Int)).f0, .slice A1 (rd_T30 l0 (x : Int)).f1.length c1] (fun k => (k ≠ g0 ∧ k ≠ gx) ∧ some k ≠ u8.ownBlock) (fun k => k < w.heap.size) rfl rfl ?aP ?aK ?aF ?aO ?aB ?aS LBO.out ?_; (case aO => exact (HLS.out.below (by repeat (first | exact Below.refl _ _ | apply below_drew1 | apply pw_below_drewN | apply below_alloc))).no); (case aB => exact (HLS.out.below (by repeat (first | exact Below.refl _ _ | apply below_drew1 | apply pw_below_drewN | apply below_alloc))).hb); (case aS => exact (HLS.out.below (by repeat (first | exact Below.refl _ _ | apply below_drew1 | apply pw_below_drewN | apply below_alloc))).hb.size); (case aP => exact k30_mkF _ _ _ HL1.out (Kd.F_below (Kd.C_F k35_heap HG.out) (HLS.out.below (by repeat (first | exact Below.refl _ _ | apply below_drew1 | apply pw_below_drewN | apply below_alloc))).hb)); (case aK => exact fun k hk => ⟨⟨(HLS.out.old8 hk).1.1, (HLS.out.old8 hk).2⟩, (HLS.out.old8 hk).1.2⟩); (case aF => exact fun k hk => ⟨((HLS.out.below (by repeat (first | exact Below.refl _ _ | apply below_drew1 | apply pw_below_drewN | apply below_alloc))).new8 hk).1.1, ((HLS.out.below (by repeat (first | exact Below.refl _ _ | apply below_drew1 | apply pw_below_drewN | apply below_alloc))).new8 hk).2⟩); intro v2 w9 hN hB hg hat; have HL9 := Aside0.mk ((HLS.out.below (by repeat (first | exact Below.refl _ _ | apply below_drew1 | apply pw_below_drewN | apply below_alloc))).app9 hN hB hg hat); clear hN hB hg hat))
     repeat (go_quiet (fail); try go_wp2_with (first | ((with_reducible refine gate_builtin (b := .append) (xs := #[.tmp 78, .tmp 83]) rfl ?_); at_builtin; refine Kd.N_append k30 (w0 := w) w.heap.size rfl (.tmp 78) (.tmp 83) 22 30 (.agg #[.int .i64 0, .slice none 0 0]) 32 rfl Try.underlying22 info30 rfl (by decide) (by omega) u9 (othL (l0.take x) xf a1_5) (rd_T30 l0 (x : Int)) [.int .i64 (rd_T30 l0 (x : Int)).f0, .slice A1 (rd_T30 l0 (x : Int)).f1.length c1] (fun k => (k ≠ g0 ∧ k ≠ gx) ∧ some k ≠ u8.ownBlock) (fun k => k < w.heap.size) rfl rfl ?aP ?aK ?aF ?aO ?aB ?aS LBO.out ?_; (case aO => exact (HLS.out.below (by repeat (first | exact Below.refl _ _ | apply below_drew1 | apply pw_below_drewN | apply below_alloc))).no); (case aB => exact (HLS.out.below (by repeat (first | exact Below.refl _ _ | apply below_drew1 | apply pw_below_drewN | apply below_alloc))).hb); (case aS => exact (HLS.out.below (by repeat (first | exact Below.refl _ _ | apply below_drew1 | apply pw_below_drewN | apply below_alloc))).hb.size); (case aP => exact k30_mkF _ _ _ HL1.out (Kd.F_below (Kd.C_F k35_heap HG.out) (HLS.out.below (by repeat (first | exact Below.refl _ _ | apply below_drew1 | apply pw_below_drewN | apply below_alloc))).hb)); (case aK => exact fun k hk => ⟨⟨(HLS.out.old8 hk).1.1, (HLS.out.old8 hk).2⟩, (HLS.out.old8 hk).1.2⟩); (case aF => exact fun k hk => ⟨((HLS.out.below (by repeat (first | exact Below.refl _ _ | apply below_drew1 | apply pw_below_drewN | apply below_alloc))).new8 hk).1.1, ((HLS.out.below (by repeat (first | exact Below.refl _ _ | apply below_drew1 | apply pw_below_drewN | apply below_alloc))).new8 hk).2⟩); intro v2 w9 hN hB hg hat; have HL9 := Aside0.mk ((HLS.out.below (by repeat (first | exact Below.refl _ _ | apply below_drew1 | apply pw_below_drewN | apply below_alloc))).app9 hN hB hg hat); clear hN hB hg hat)))
     go_roundg k1
     case measure => omega
     case rel => exact ⟨x + 1, (by have h8 := HL.out; have h9 := hxl; simp; unfold wrap64; omega), ⟨by have := HX.out; omega⟩, ⟨by rw [HFX.out, HOX.out]; exact HL9.out⟩⟩
    case neg =>
     have ce1 : ((rd_T30 l0 (x : Int)).f0 == xf) = false := beq_eq_false_iff_ne.mpr ce
     rw [if_neg ce] at hox
     have HFX := Aside0.mk hfx
     have HOX := Aside0.mk hox
     clear hfx hox ca ce
     (try go_wp2)
     go_quiet (fail)
     (try go_wp2)
     go_quiet (fail)
     (try go_wp2)
     refine start_LS (n := 16) HLS.out ?hb #[false, false, false, false, false, false, false, false, false, false, false, false, false, false, false, false] (by kernel_rfl) rfl rfl (fun wd hd => ?_)
     case hb => exact (by repeat (first | exact Below.refl _ _ | apply below_drew1 | apply pw_below_drewN | apply below_alloc))
     have HD := Aside0.mk hd
     have hS : Below w.heap.size w wd ∧ wd.heap[g0]? = some (.cells #[.int .i64 a1_0, .int .i64 a1_1, .int .i64 a1_2, .int .i64 a1_3, .int .i64 a1_4, .int .i64 a1_5, .int .i64 a1_6] 24 (0, 0)) := ⟨hd.hb, hd.b0⟩
     clear hd
     refine pure_ (i := 0) (N := some 85) (v := ?_) (a' := ?_) #[true, false, false, false, false, false, false, false, false, false, false, false, false, false, false, false] rfl rfl (by kernel_rfl) (fun _ _ _ h => h) (Or.inl ⟨by rfl, ?_⟩) ?_ ?_
     rotate_left
     · intro w'
       go_simp
       with_reducible rfl
     rotate_left
     · simp only [Act.put, List.setIfInBounds_toArray, List.set_cons_zero, List.set_cons_succ, i64_w, i32_w]
       rfl
     refine pure_ (i := 1) (N := some 86) (v := ?_) (a' := ?_) #[true, true, false, false, false, false, false, false, false, false, false, false, false, false, false, false] rfl rfl (by kernel_rfl) (fun _ _ _ h => h) (Or.inl ⟨by rfl, ?_⟩) ?_ ?_
     rotate_left
     · intro w'
       go_simp
       with_reducible rfl
     rotate_left
     · simp only [Act.put, List.setIfInBounds_toArray, List.set_cons_zero, List.set_cons_succ, i64_w, i32_w]
       rfl
     refine pure_ (i := 2) (N := some 87) (v := ?_) (a' := ?_) #[true, true, true, false, false, false, false, false, false, false, false, false, false, false, false, false] rfl rfl (by kernel_rfl) (fun _ _ _ h => h) (Or.inl ⟨by rfl, ?_⟩) ?_ ?_
     rotate_left
     · intro w'
       go_simp
       with_reducible rfl
     rotate_left
     · simp only [Act.put, List.setIfInBounds_toArray, List.set_cons_zero, List.set_cons_succ, i64_w, i32_w]
       rfl
     refine pure_ (i := 3) (N := some 88) (v := ?_) (a' := ?_) #[true, true, true, true, false, false, false, false, false, false, false, false, false, false, false, false] rfl rfl (by kernel_rfl) (fun _ _ _ h => h) (Or.inl ⟨by rfl, ?_⟩) ?_ ?_
     rotate_left
     · intro w'
       go_simp
       with_reducible rfl
     rotate_left
     · simp only [Act.put, List.setIfInBounds_toArray, List.set_cons_zero, List.set_cons_succ, i64_w, i32_w]
       rfl
     refine pure_ (i := 4) (N := some 89) (v := ?_) (a' := ?_) #[true, true, true, true, true, false, false, false, false, false, false, false, false, false, false, false] rfl rfl (by kernel_rfl) (fun _ _ _ h => h) (Or.inl ⟨by rfl, ?_⟩) ?_ ?_
     rotate_left
     · intro w'
       go_simp
       with_reducible rfl
     rotate_left
     · simp only [Act.put, List.setIfInBounds_toArray, List.set_cons_zero, List.set_cons_succ, i64_w, i32_w]
       rfl
     refine take_ (i := 5) (N := some 90) (v := ?_) (a' := ?_) #[true, true, true, true, true, true, false, false, false, false, false, false, false, false, false, false] rfl rfl (by kernel_rfl) (fun _ _ _ h => h) (Or.inl ⟨by rfl, ?_⟩) hS ?_ ?_
     rotate_left
     · intro w' hS'
       have t0 := pw_cell_below hS'.1 Y0.out
       go_simp
       with_reducible rfl
     rotate_left
     · simp only [Act.put, List.setIfInBounds_toArray, List.set_cons_zero, List.set_cons_succ, i64_w, i32_w]
       rfl
     refine pure_ (i := 6) (N := some 91) (v := ?_) (a' := ?_) #[true, true, true, true, true, true, true, false, false, false, false, false, false, false, false, false] rfl rfl (by kernel_rfl) (fun _ _ _ h => h) (Or.inl ⟨by rfl, ?_⟩) ?_ ?_
     rotate_left
     · intro w'
       go_simp
       with_reducible rfl
     rotate_left
     · simp only [Act.put, List.setIfInBounds_toArray, List.set_cons_zero, List.set_cons_succ, i64_w, i32_w]
       rfl
     refine take_ (i := 7) (N := some 92) (v := ?_) (a' := ?_) #[true, true, true, true, true, true, true, true, false, false, false, false, false, false, false, false] rfl rfl (by kernel_rfl) (fun _ _ _ h => h) (Or.inl ⟨by rfl, ?_⟩) hS ?_ ?_
     rotate_left
     · intro w' hS'
       obtain ⟨_, _, _, _, _, t5, _⟩ := cells7 hS'.2
       go_simp
       with_reducible rfl
     rotate_left
     · simp only [Act.put, List.setIfInBounds_toArray, List.set_cons_zero, List.set_cons_succ, i64_w, i32_w]
       rfl
     refine pure_ (i := 8) (N := some 93) (v := ?_) (a' := ?_) #[true, true, true, true, true, true, true, true, true, false, false, false, false, false, false, false] rfl rfl (by kernel_rfl) (fun _ _ _ h => h) (Or.inl ⟨by rfl, ?_⟩) ?_ ?_
     rotate_left
     · intro w'
       go_simp
       with_reducible rfl
     rotate_left
     · simp only [Act.put, List.setIfInBounds_toArray, List.set_cons_zero, List.set_cons_succ, i64_w, i32_w]
       rfl
     refine pure_ (i := 9) (N := some 94) (v := ?_) (a' := ?_) #[true, true, true, true, true, true, true, true, true, true, false, false, false, false, false, false] rfl rfl (by kernel_rfl) (fun _ _ _ h => h) (Or.inl ⟨by rfl, ?_⟩) ?_ ?_
     rotate_left
     · intro w'
       go_simp
       with_reducible rfl
     rotate_left
     · simp only [Act.put, List.setIfInBounds_toArray, List.set_cons_zero, List.set_cons_succ, i64_w, i32_w]
       rfl
     refine pure_ (i := 10) (N := some 95) (v := ?_) (a' := ?_) #[true, true, true, true, true, true, true, true, true, true, true, false, false, false, false, false] rfl rfl (by kernel_rfl) (fun _ _ _ h => h) (Or.inl ⟨by rfl, ?_⟩) ?_ ?_
     rotate_left
     · intro w'
       go_simp
       with_reducible rfl
     rotate_left
     · simp only [Act.put, List.setIfInBounds_toArray, List.set_cons_zero, List.set_cons_succ, i64_w, i32_w]
       rfl
     refine one_ (i := 11) (N := some 96) #[true, true, true, true, true, true, true, true, true, true, true, true, false, false, false, false] rfl rfl (by kernel_rfl) (by decide) (fun K hK => ?_)
     refine value_ (w1 := ?_) (v := ?_) (by rfl) rfl ?_ ?_
     rotate_left 2
     · go_simp
       constructor
       · rfl
       · rfl
     have HA := HD.out.below (below_alloc (Below.refl _ _) (.cells #[.int .i64 (if 1 < (if 9999 < a1_5 then 9999 else a1_5) then (if 9999 < a1_5 then 9999 else a1_5) else 1), .int .i64 777, .int .i64 0, .slice none 0 0] 35))
     have BG := blk_new wd (.cells #[.int .i64 (if 1 < (if 9999 < a1_5 then 9999 else a1_5) then (if 9999 < a1_5 then 9999 else a1_5) else 1), .int .i64 777, .int .i64 0, .slice none 0 0] 35)
     refine hK.out _ _ ⟨HA.hb, HA.b0⟩ (fun hS1 => ?_)
     clear hK K
     refine norm_ (a' := ?_) ?_ ?_
     rotate_left
     · show Act.put _ (some 96) _ = _
       simp only [Act.put, List.setIfInBounds_toArray, List.set_cons_zero, List.set_cons_succ, i64_w, i32_w]
       rfl
     generalize hwa : wd.alloc (.cells #[.int .i64 (if 1 < (if 9999 < a1_5 then 9999 else a1_5) then (if 9999 < a1_5 then 9999 else a1_5) else 1), .int .i64 777, .int .i64 0, .slice none 0 0] 35) = wa at HA BG hS1 ⊢
     have HAA := Aside0.mk HA
     have BGG := Aside0.mk BG
     clear HA BG hwa hS
     refine pure_ (i := 12) (N := some 97) (v := ?_) (a' := ?_) #[true, true, true, true, true, true, true, true, true, true, true, true, true, false, false, false] rfl rfl (by kernel_rfl) (fun _ _ _ h => h) (Or.inl ⟨by rfl, ?_⟩) ?_ ?_
     rotate_left
     · intro w'
       go_simp
       with_reducible rfl
     rotate_left
     · simp only [Act.put, List.setIfInBounds_toArray, List.set_cons_zero, List.set_cons_succ, i64_w, i32_w]
       rfl
     refine one_ (i := 13) (N := some 98) #[true, true, true, true, true, true, true, true, true, true, true, true, true, true, false, false] rfl rfl (by kernel_rfl) (by decide) (fun K hK => ?_)
     refine value_ (w1 := ?_) (v := ?_) (by rfl) rfl ?_ ?_
     rotate_left 2
     · go_simp
       constructor
       · rfl
       · rfl
     refine hK.out _ _ ⟨(HAA.out.below (by repeat (first | exact Below.refl _ _ | apply below_drew1 | apply pw_below_drewN | apply below_alloc))).hb, (HAA.out.below (by repeat (first | exact Below.refl _ _ | apply below_drew1 | apply pw_below_drewN | apply below_alloc))).b0⟩ (fun hS2 => ?_)
     clear hK K
     refine norm_ (a' := ?_) ?_ ?_
     rotate_left
     · show Act.put _ (some 98) _ = _
       simp only [Act.put, List.setIfInBounds_toArray, List.set_cons_zero, List.set_cons_succ, i64_w, i32_w]
       rfl
     refine one_ (i := 14) (N := some 99) #[true, true, true, true, true, true, true, true, true, true, true, true, true, true, true, false] rfl rfl (by kernel_rfl) (by decide) (fun K hK => ?_)
     refine Kd.N_append_step k30 (w0 := w) w.heap.size (by rfl) (.tmp 85) (.tmp 98) 22 30 (.agg #[.int .i64 0, .slice none 0 0]) 32 rfl Try.underlying22 info30 rfl (by decide) (by omega) u9 (othL (l0.take x) xf a1_5) (thin a1_5 (rd_T30 l0 (x : Int))) [.int .i64 (rd_T30 l0 (x : Int)).f0, .slice (some ⟨wd.heap.size, 0, none⟩) 1 1] (fun k => (k ≠ g0 ∧ k ≠ gx) ∧ some k ≠ u8.ownBlock) (fun k => k = wd.heap.size) rfl rfl ?aP ?aK ?aF HAA.out.no HAA.out.hb HAA.out.hb.size LBO.out ?_
     case aP => exact k30_mkF wa _ (thin a1_5 (rd_T30 l0 (x : Int))) (Nat.le_refl 1) (F_thin BGG.out)
     case aK => rintro k rfl; exact ⟨⟨(HD.out.new8 (Nat.le_refl _)).1.1, (HD.out.new8 (Nat.le_refl _)).2⟩, (HD.out.new8 (Nat.le_refl _)).1.2⟩
     case aF => exact fun k hk => ⟨(HAA.out.new8 hk).1.1, (HAA.out.new8 hk).2⟩
     intro v2 w9 hN hB hg hat
     have HL9 := Aside0.mk (HAA.out.app9 hN hB hg hat)
     refine hK.out _ _ ⟨HL9.out.hb, HL9.out.b0⟩ (fun _ => ?_)
     clear hK K hN hB hg hat hS1 hS2 HAA BGG HD
     refine norm_ (a' := ?_) ?_ ?_
     rotate_left
     · show Act.put _ (some 99) _ = _
       simp only [Act.put, List.setIfInBounds_toArray, List.set_cons_zero, List.set_cons_succ, i64_w, i32_w]
       rfl
     refine pure_ (i := 15) (N := some 9) (v := ?_) (a' := ?_) #[true, true, true, true, true, true, true, true, true, true, true, true, true, true, true, true] rfl rfl (by kernel_rfl) (fun _ _ _ h => h) (Or.inl ⟨by rfl, ?_⟩) ?_ ?_
     rotate_left
     · intro w'
       go_simp
       with_reducible rfl
     rotate_left
     · simp only [Act.put, List.setIfInBounds_toArray, List.set_cons_zero, List.set_cons_succ, i64_w, i32_w]
       rfl
     refine done_ (by kernel_rfl) ?_
     generalize (if 9999 < a1_5 then (9999 : Int) else a1_5) = m1_
     generalize (if 1 < m1_ then m1_ else (1 : Int)) = m2_
     go_wp2
     go_roundg k1
     case measure => omega
     case rel => exact ⟨x + 1, (by have h8 := HL.out; have h9 := hxl; simp; unfold wrap64; omega), ⟨by have := HX.out; omega⟩, ⟨by rw [HFX.out, HOX.out]; exact HL9.out⟩⟩
end Go.Proofs.Ytdahjnbfbcemeaa.P
