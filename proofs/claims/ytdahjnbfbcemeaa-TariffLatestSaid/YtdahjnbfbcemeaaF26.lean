-- Written by wip/fakeprint.py and wip/post.py of this claim's author, who used the kit's printer (print.py) on turned inputs.
import Derived.Test.YtdahjnbfbcemeaaK
import Derived.Test.YtdahjnbfbcemeaaOW
namespace Go.Proofs.Ytdahjnbfbcemeaa.P
open Go.RowKit Go.Proofs.YtdahjnbfbcemeaaW.PrintWords Go.Proofs.YtdahjnbfbcemeaaW.PrintLast Go.Proofs.YtdahjnbfbcemeaaW.PrintMore
attribute [local go_sem] max2_int min2_int max_two min_two max_three min_three max_four min_four   -- for this text's walks alone
attribute [local go_sem] max2_int min2_int max_two min_two
set_option linter.unusedVariables false
set_option linter.unusedSimpArgs false

/-! ### tariff_own: function 26 -/
def tariff_own.f (k : Nat) (a0_0 : Int) (l0_1 : List (S35)) : Option (Int × (List (S35))) := if l0_1.length ≤ 1000000 ∧ (l0_1.all fun y => decide (y.f3.length ≤ 1000000)) = true then some (a0_0, l0_1) else none
theorem tariff_own.mono : ∀ a0 a1 k, LeO (tariff_own.f k a0 a1) (tariff_own.f (k + 1) a0 a1) := fun _ _ _ => LeO.refl _
set_option maxHeartbeats 8000000 in
set_option maxRecDepth 100000 in
theorem tariff_own.calls (k : Nat) (a0_0 : Int) (A0_1 : Option Addr) (c0_1 : Nat) (l0_1 : List (S35)) (r1 : Int) (r2 : List (S35)) (w : World) (hr0_1 : Kd.C k35 w A0_1 l0_1.length l0_1) (hc0_1 : l0_1.length ≤ c0_1) (h : tariff_own.f k a0_0 l0_1 = some (r1, r2)) :
  Calls Try.prog 26 #[.agg #[.int .i64 a0_0, .slice A0_1 l0_1.length c0_1]] w fun e w' => ∃ v1_ : Value, e = .returned (.agg #[.int .i64 r1, v1_]) ∧ Kd.S k35 35 w' w.heap.size (fun _ => True) v1_ r2 ∧ Below w.heap.size w w' := by
 have hu30 := Try.underlying30
 have hu35 := Try.underlying35
 unfold tariff_own.f at h
 split at h
 case isFalse => cases h
 case isTrue hlen =>
  obtain ⟨hl1, hl2⟩ := hlen
  simp only [Option.some.injEq, Prod.mk.injEq] at h
  obtain ⟨rfl, rfl⟩ := h
  have HR := Aside0.mk hr0_1
  have HL1 := Aside0.mk hl1
  have HL2 := Aside0.mk hl2
  clear hr0_1 hc0_1 hl1 hl2
  go_enter Try.func26, Try.ntmps26
  go_wp2_with (go_at_call 37; refine (clone37 A0_1 c0_1 l0_1 w HR.out HL1.out _ ?c1).mono ?_; (case c1 => exact below_alloc (below_alloc (Below.refl _ _) _) _); rintro e w1 ⟨v, inner, rfl, how, hr, hb⟩; have HOW := Aside0.mk how; have HRR := Aside0.mk hr; have HBB := Aside0.mk hb; have BK1 := Aside0.mk (blk_below (blk_alloc (blk_new w _) _) hb); have BK2 := Aside0.mk (blk_below (blk_new (w.alloc _) _) hb); have z1 := (blk_cell BK1.out 1).trans rfl; have z2 := blk_frozen BK1.out 1; have z3 := (blk_cell BK1.out 0).trans rfl; obtain ⟨A', c', rfl⟩ := R_sliceo how; clear how hr hb)
  have HBW := Aside0.mk (below_then (below_alloc (below_alloc (Below.refl w.heap.size w) _) _) (by simp; omega) HBB.out)
  have hsz2 : ((w.alloc (Obj.cells #[Value.int IntKind.i64 a0_0, Value.slice A0_1 l0_1.length c0_1] 30)).alloc (Obj.cells #[Value.int IntKind.i64 0, Value.slice none 0 0] 30)).heap.size = w.heap.size + 2 := by simp
  have hsz1 : (w.alloc (Obj.cells #[Value.int IntKind.i64 a0_0, Value.slice A0_1 l0_1.length c0_1] 30)).heap.size = w.heap.size + 1 := by simp
  have how := HOW.out
  rw [hsz2] at how
  have bk2 := BK2.out
  rw [hsz1] at bk2
  have HI := Aside0.mk (own_start (own_move (w1 := w1.setCell ⟨w.heap.size, 1, none⟩ (.slice A' l0_1.length c')) (own_weaken how (show w.heap.size ≤ w.heap.size + 2 by omega)) (fun q hq => Below.heap_setCell w1 _ _ q (by have := own_base how q hq; show q ≠ w.heap.size; omega))) HRR.out)
  have BJ1 := Aside0.mk (blk_put BK1.out 1 (.slice A' l0_1.length c') rfl)
  have BJ2 := Aside0.mk (blk_far bk2 (p := ⟨w.heap.size, 1, none⟩) (show w.heap.size + 1 ≠ w.heap.size by omega) (.slice A' l0_1.length c'))
  have HBS := Aside0.mk (below_set (g := w.heap.size) (j := 1) (v := .slice A' l0_1.length c') HBW.out (Nat.le_refl _))
  clear how bk2 hsz1 hsz2 z1 z2 z3 HOW HRR HBB BK1 BK2 HBW
  go_loopg [11] l0_1.length (fun kq v11 wr => ∃ x : Nat, v11 = .int .i64 (x : Int) ∧ Aside0 (kq + x = l0_1.length) ∧ Aside0 (OwnInv l0_1 w (.slice A' l0_1.length c') x wr) ∧ Aside0 (wr.heap[w.heap.size]? = some (.cells #[.int .i64 a0_0, .slice A' l0_1.length c'] 30 (0, 0))) ∧ Aside0 (wr.heap[w.heap.size + 1]? = some (.cells #[.int .i64 0, .slice none 0 0] 30 (0, 0))) ∧ Aside0 (Below w.heap.size w wr))
  case atStart => exact ⟨0, rfl, ⟨rfl⟩, HI, BJ1, BJ2, HBS⟩
  case round =>
   clear HI BJ1 BJ2 HBS
   obtain ⟨x, rfl, HX, HI, BJ1, BJ2, HB⟩ := hrel
   cases gk with
   | zero =>
    have c1b : decide (x < l0_1.length) = false := decide_eq_false (by have := HX.out; omega)
    have z0 := (blk_cell BJ1.out 0).trans rfl
    have z1 := (blk_cell BJ1.out 1).trans rfl
    have z2 := (blk_cell BJ2.out 0).trans rfl
    have z3 := (blk_cell BJ2.out 1).trans rfl
    have z4 := blk_frozen BJ2.out 0
    have z5 := blk_frozen BJ2.out 1
    go_wp2
    refine bodyPost_ret (results_cell_row rfl _ _ (w.heap.size + 1) 30 #[.int .i64 a0_0, .slice A' l0_1.length c'] (0, 0) _ rfl (by refine blk_put (cs := #[.int .i64 a0_0, .slice none 0 0]) ?_ 1 _ rfl; refine blk_put (cs := #[.int .i64 0, .slice none 0 0]) ?_ 0 _ rfl; exact BJ2.out) Try.underlying30 rfl (by kernel_rfl)) rfl ?_
    exact ⟨_, rfl, Kd.S_mono (Kd.S_far (p := ⟨w.heap.size + 1, 1, none⟩) (Kd.S_far (p := ⟨w.heap.size + 1, 0, none⟩) (Kd.S_types (own_done HI.out (by have := HX.out; omega)) BJ2.out (by decide)) (fun _ hk => hk.2) (.int .i64 a0_0)) (fun _ hk => hk.2) (.slice A' l0_1.length c')) (fun _ hk => trivial), below_set (below_set HB.out (Nat.le_succ _)) (Nat.le_succ _)⟩
   | succ k1 =>
    have hxl : x < l0_1.length := by have := HX.out; omega
    have c1b : decide (x < l0_1.length) = true := decide_eq_true hxl
    obtain ⟨g, cap, cur, hv, hg1, hg2⟩ := own_form HI.out (by omega)
    injection hv with hv1 hv2 hv3
    subst hv1
    subst hv3
    clear hv2
    obtain ⟨A, c, e1, e2, e3, e4⟩ := own_at HI.out hxl
    have E3 := Aside0.mk e3
    have E4 := Aside0.mk e4
    have HG1 := Aside0.mk hg1
    have HG2 := Aside0.mk hg2
    have b1 := (blk_cell BJ1.out 1).trans rfl
    clear e3 e4 hg1 hg2
    go_wp2
    refine start_ (n := 13) (S := fun w' => w'.cell? ⟨w.heap.size, 1, none⟩ = some (.slice (some ⟨g, 0, none⟩) l0_1.length c') ∧ w'.cell? ⟨g, x * 4 + 3, none⟩ = some (.slice A l0_1[x].f3.length c)) (ds := [12]) #[false, false, false, false, false, false, false, false, false, false, false, false, false] (by kernel_rfl) rfl rfl ⟨b1, e1⟩ (fun hHeld => ?_)
    have BJ1d := Aside0.mk (blk_drew BJ1.out)
    have BJ2d := Aside0.mk (blk_drew BJ2.out)
    have HBd := Aside0.mk (below_drew HB.out)
    have HId := Aside0.mk (own_below HI.out (below_drew (Below.refl wr.heap.size wr)))
    have HG2d := Aside0.mk (blk_drew HG2.out)
    have hHeld' := hHeld
    clear HI BJ1 BJ2 HB HG2 b1 e1 e2
    generalize wr.drew = wd at *
    refine pure_ (i := 0) (N := some 14) (v := ?_) (a' := ?_) #[true, false, false, false, false, false, false, false, false, false, false, false, false] rfl rfl (by kernel_rfl) (fun _ _ _ h => h) (Or.inl ⟨by rfl, ?_⟩) ?_ ?_
    rotate_left
    · intro w'
      go_simp
      with_reducible rfl
    rotate_left
    · simp only [Act.put, List.setIfInBounds_toArray, List.set_cons_zero, List.set_cons_succ, i64_w, i32_w]
      rfl
    refine pure_ (i := 2) (N := some 16) (v := ?_) (a' := ?_) #[true, false, true, false, false, false, false, false, false, false, false, false, false] rfl rfl (by kernel_rfl) (fun _ _ _ h => h) (Or.inl ⟨by rfl, ?_⟩) ?_ ?_
    rotate_left
    · intro w'
      go_simp
      with_reducible rfl
    rotate_left
    · simp only [Act.put, List.setIfInBounds_toArray, List.set_cons_zero, List.set_cons_succ, i64_w, i32_w]
      rfl
    refine pure_ (i := 3) (N := some 17) (v := ?_) (a' := ?_) #[true, false, true, true, false, false, false, false, false, false, false, false, false] rfl rfl (by kernel_rfl) (fun _ _ _ h => h) (Or.inl ⟨by rfl, ?_⟩) ?_ ?_
    rotate_left
    · intro w'
      go_simp
      with_reducible rfl
    rotate_left
    · simp only [Act.put, List.setIfInBounds_toArray, List.set_cons_zero, List.set_cons_succ, i64_w, i32_w]
      rfl
    refine pure_ (i := 5) (N := some 19) (v := ?_) (a' := ?_) #[true, false, true, true, false, true, false, false, false, false, false, false, false] rfl rfl (by kernel_rfl) (fun _ _ _ h => h) (Or.inl ⟨by rfl, ?_⟩) ?_ ?_
    rotate_left
    · intro w'
      go_simp
      with_reducible rfl
    rotate_left
    · simp only [Act.put, List.setIfInBounds_toArray, List.set_cons_zero, List.set_cons_succ, i64_w, i32_w]
      rfl
    refine take_ (i := 1) (N := some 15) (v := ?_) (a' := ?_) #[true, true, true, true, false, true, false, false, false, false, false, false, false] rfl rfl (by kernel_rfl) (fun _ _ _ h => h) (Or.inl ⟨by rfl, ?_⟩) hHeld ?_ ?_
    rotate_left
    · rintro w' ⟨s0, s1⟩
      go_simp
      with_reducible rfl
    rotate_left
    · simp only [Act.put, List.setIfInBounds_toArray, List.set_cons_zero, List.set_cons_succ, i64_w, i32_w]
      rfl
    refine take_ (i := 4) (N := some 18) (v := ?_) (a' := ?_) #[true, true, true, true, true, true, false, false, false, false, false, false, false] rfl rfl (by kernel_rfl) (fun _ _ _ h => h) (Or.inl ⟨by rfl, ?_⟩) hHeld ?_ ?_
    rotate_left
    · rintro w' ⟨s0, s1⟩
      go_simp
      with_reducible rfl
    rotate_left
    · simp only [Act.put, List.setIfInBounds_toArray, List.set_cons_zero, List.set_cons_succ, i64_w, i32_w]
      rfl
    refine pure_ (i := 6) (N := some 20) (v := ?_) (a' := ?_) #[true, true, true, true, true, true, true, false, false, false, false, false, false] rfl rfl (by kernel_rfl) (fun _ _ _ h => h) (Or.inl ⟨by rfl, ?_⟩) ?_ ?_
    rotate_left
    · intro w'
      go_simp
      with_reducible rfl
    rotate_left
    · simp only [Act.put, List.setIfInBounds_toArray, List.set_cons_zero, List.set_cons_succ, i64_w, i32_w]
      rfl
    refine pure_ (i := 7) (N := some 21) (v := ?_) (a' := ?_) #[true, true, true, true, true, true, true, true, false, false, false, false, false] rfl rfl (by kernel_rfl) (fun _ _ _ h => h) (Or.inl ⟨by rfl, ?_⟩) ?_ ?_
    rotate_left
    · intro w'
      go_simp
      with_reducible rfl
    rotate_left
    · simp only [Act.put, List.setIfInBounds_toArray, List.set_cons_zero, List.set_cons_succ, i64_w, i32_w]
      rfl
    refine take_ (i := 8) (N := some 22) (v := ?_) (a' := ?_) #[true, true, true, true, true, true, true, true, true, false, false, false, false] rfl rfl (by kernel_rfl) (fun _ _ _ h => h) (Or.inl ⟨by rfl, ?_⟩) hHeld ?_ ?_
    rotate_left
    · rintro w' ⟨s0, s1⟩
      go_simp
      with_reducible rfl
    rotate_left
    · simp only [Act.put, List.setIfInBounds_toArray, List.set_cons_zero, List.set_cons_succ, i64_w, i32_w]
      rfl
    refine one_ (i := 9) (N := some 23) #[true, true, true, true, true, true, true, true, true, true, false, false, false] rfl rfl (by kernel_rfl) (by decide) (fun K hK => ?_)
    refine goes_ (f := 38) Try.func38 (by kernel_rfl) rfl #[.slice A l0_1[x].f3.length c] (by rfl) rfl rfl (by (try simp only [List.map_toArray, List.map_cons, List.map_nil]); first | done | rfl) ?_
    refine (clone38 A c l0_1[x].f3 w E4.out (by have h0 := List.all_eq_true.1 HL2.out _ (List.getElem_mem hxl); simpa using h0) wd HBd.out).mono ?_
    rintro e w2 ⟨v1, inner54, rfl, how, hr54, hb⟩
    refine ⟨_, rfl, ?_⟩
    refine hK.out _ _ ⟨(hb.cell (World.block_lt_of_cell? _ _ hHeld'.1)).trans hHeld'.1, (hb.cell (World.block_lt_of_cell? _ _ hHeld'.2)).trans hHeld'.2⟩ (fun hHeld => ?_)
    clear hK K
    refine norm_ (a' := ?_) ?_ ?_
    rotate_left
    · show Act.put _ (some 23) _ = _
      simp only [Act.put, List.setIfInBounds_toArray, List.set_cons_zero, List.set_cons_succ, i64_w, i32_w]
      rfl
    refine pure_ (i := 10) (N := some 24) (v := ?_) (a' := ?_) #[true, true, true, true, true, true, true, true, true, true, true, false, false] rfl rfl (by kernel_rfl) (fun _ _ _ h => h) (Or.inl ⟨by rfl, ?_⟩) ?_ ?_
    rotate_left
    · intro w'
      go_simp
      with_reducible rfl
    rotate_left
    · simp only [Act.put, List.setIfInBounds_toArray, List.set_cons_zero, List.set_cons_succ, i64_w, i32_w]
      rfl
    refine pure_ (i := 11) (N := some 25) (v := ?_) (a' := ?_) #[true, true, true, true, true, true, true, true, true, true, true, true, false] rfl rfl (by kernel_rfl) (fun _ _ _ h => h) (Or.inl ⟨by rfl, ?_⟩) ?_ ?_
    rotate_left
    · intro w'
      go_simp
      with_reducible rfl
    rotate_left
    · simp only [Act.put, List.setIfInBounds_toArray, List.set_cons_zero, List.set_cons_succ, i64_w, i32_w]
      rfl
    have HI2 := Aside0.mk (own_step HId.out hxl HBd.out.size hb how hr54)
    have BJ1e := Aside0.mk (blk_far (blk_below BJ1d.out hb) (p := ⟨g, x * 4 + 3, none⟩) (blk_ne BJ1d.out HG2d.out (by decide)) v1)
    have BJ2e := Aside0.mk (blk_far (blk_below BJ2d.out hb) (p := ⟨g, x * 4 + 3, none⟩) (blk_ne BJ2d.out HG2d.out (by decide)) v1)
    have HBe := Aside0.mk (below_set (g := g) (j := x * 4 + 3) (v := v1) (below_step HBd.out hb) HG1.out)
    have hfz : w2.frozen? ⟨g, x * 4 + 3, none⟩ = false := blk_frozen (blk_below HG2d.out hb) _
    have hcl := hHeld.2
    obtain ⟨A1, c1, hv1⟩ := R_sliceo how
    subst hv1
    clear how hr54 hb
    refine last_ (i := 12) (N := none) #[true, true, true, true, true, true, true, true, true, true, true, true, true] rfl rfl (by kernel_rfl) (by decide) (fun K hK => ?_)
    refine skip_ (w1 := ?_) (by rfl) rfl ?_ ?_
    rotate_left
    · go_simp
      rfl
    refine hK.out _ _ ?_
    clear hK K
    refine done_ (by kernel_rfl) ?_
    try go_wp2
    go_roundg k1
    case measure => omega
    case rel => exact ⟨x + 1, (by have h8 := HL1.out; have h9 := hxl; simp; unfold wrap64; omega), ⟨by have := HX.out; omega⟩, HI2, BJ1e, BJ2e, HBe⟩

end Go.Proofs.Ytdahjnbfbcemeaa.P
