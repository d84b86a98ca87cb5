/- By hand: slices.Clone at this seat's element types: of any list that is read, a list of the call's own with the same cells. -/
import Derived.Test.YtpojelbablofpaaK
import Derived.Lib.SliceRun
import Derived.Lib.Walk
import Derived.Laws.AppendOwn
namespace Go.Proofs.Ytpojelbablofpaa.P
open Go.RowKit Go.Proofs.YtpojelbablofpaaW.PrintWords Go.Proofs.YtpojelbablofpaaW.PrintLast
set_option linter.unusedVariables false
set_option linter.unusedSimpArgs false
theorem reps_one {α : Type} {R : α → List Value → Prop} {sz : Nat} {ps : List α} {cs : List Value} (hs : 0 < sz) (h : Reps R sz ps cs) (hR : ∀ p c, R p c → ∀ u ∈ c, u.oneCell' = true) : ∀ u ∈ cs, u.oneCell' = true := by
  intro u hu
  obtain ⟨i, hi, rfl⟩ := List.mem_iff_getElem.1 hu
  have hlt : i < ps.length * sz := by rw [← h.1]; exact hi
  have hj : i / sz < ps.length := (Nat.div_lt_iff_lt_mul hs).2 hlt
  refine hR _ _ (h.2 (i / sz) _ (List.getElem?_eq_getElem hj)) _ (List.mem_iff_getElem?.2 ⟨i % sz, ?_⟩)
  rw [List.getElem?_take, if_pos (Nat.mod_lt _ hs), List.getElem?_drop, show i / sz * sz + i % sz = i by rw [Nat.mul_comm]; exact Nat.div_add_mod i sz]
  exact List.getElem?_eq_getElem hi

set_option maxHeartbeats 2000000 in
set_option maxRecDepth 100000 in
theorem clone_some42 (ad : Addr) (n c : Nat) (news : List Value) (w : World) (hl : news.length = n * (Kd.int .i64).sz) (hn : n ≤ 1000000) (hc : ∀ j u, news[j]? = some u → w.cell? (ad.add j) = some u) (h1 : ∀ u ∈ news, u.oneCell' = true) :
    Calls Try.prog 42 #[.slice (some ad) n c] w fun e w' => ∃ v', e = .returned v' ∧ w'.ownsRow w.heap.size 3 (Kd.int .i64).sz v' n news ∧ Below w.heap.size w w' := by
  obtain ⟨i0, hi, h2⟩ := Option.map_eq_some_iff.1 info3
  simp only [Prod.mk.injEq] at h2
  obtain ⟨hz0, hz1, hz2⟩ := h2
  have q22 : ∀ (w : World) (a : Option Addr) (n c n' c' : Nat), (binOp .eql 27 (.slice a n c) (.slice none n' c')).run Try.prog w = .ok (.bool a.isNone) w := fun w a n c n' c' => Lib.run_eql_slice_nil w _ _ a n c n' c' Try.underlying27
  have A : Aside0 (∀ j u, news[j]? = some u → w.cell? (ad.add j) = some u) := ⟨hc⟩
  clear hc
  go_enter Try.func42, Try.ntmps42
  go_wp2_with (at_builtin; refine wpList_append_own _ rfl _ _ 27 rfl w.heap.size 3 i0 _ (Kd.int .i64).sz _ Try.underlying27 hi hz0 hz1 hz2 rfl (by decide) _ _ _ rfl (World.ownsRow_made w #[] 0 (Nat.le_refl _) (Nat.zero_le _) (by simp)) ad n c news rfl ?qc1 ?qc2 ?qc3 ?qc4 ?qc5 ?qc6 ?_)
  case qc1 => exact hl
  case qc2 =>
    intro j u hj
    exact Lib.cell?_alloc_some _ (A.out j u hj)
  case qc3 => exact h1
  case qc4 => rw [Nat.zero_add]; unfold maxLen; omega
  case qc5 => rw [Nat.zero_add]; omega
  case qc6 => simp
  intro v' w1 hown hgrow hnil
  go_wp2
  go_ret
  refine ⟨v', rfl, by simpa using hown, ?_⟩
  exact ((Below.refl _ w).alloc (Nat.le_refl _) _).grown hgrow (by simp) (by intro k hk; simp [Value.ownBlock] at hk; omega)
set_option maxHeartbeats 1000000 in
set_option maxRecDepth 100000 in
theorem clone_nil42 (n c : Nat) (w : World) : Calls Try.prog 42 #[.slice none n c] w fun e w' => e = .returned (.slice none 0 0) ∧ w' = w := by
  have q22 : ∀ (w : World) (a : Option Addr) (n c n' c' : Nat), (binOp .eql 27 (.slice a n c) (.slice none n' c')).run Try.prog w = .ok (.bool a.isNone) w := fun w a n c n' c' => Lib.run_eql_slice_nil w _ _ a n c n' c' Try.underlying27
  go_enter Try.func42, Try.ntmps42
  go_wp2
  go_ret
  exact ⟨rfl, rfl⟩
/-- Of any list that was read (in w, from where on W came to be): a row of the call's own, whose cells say the same. -/
theorem clone42 (A : Option Addr) (c : Nat) (xs : List Int) (w : World) (hC : Kd.C (Kd.int .i64) w A xs.length xs) (hn : xs.length ≤ 1000000) (W : World) (hW : Below w.heap.size w W) :
    Calls Try.prog 42 #[.slice A xs.length c] W fun e w' => ∃ v' inner, e = .returned v' ∧ w'.ownsRow W.heap.size 3 (Kd.int .i64).sz v' xs.length inner ∧ Reps ((Kd.int .i64).K w) (Kd.int .i64).sz xs inner ∧ Below W.heap.size W w' := by
  cases A with
  | none =>
    have h0 : xs.length = 0 := by
      rcases Nat.eq_zero_or_pos xs.length with h | h
      · exact h
      · obtain ⟨ad, h', _⟩ := hC.2.2 h
        cases h'
    refine (clone_nil42 xs.length c W).mono ?_
    rintro e w' ⟨rfl, rfl⟩
    refine ⟨_, [], rfl, ⟨by rw [h0]; rfl, .inl ⟨rfl, h0⟩⟩, ?_, Below.refl _ _⟩
    obtain rfl : xs = [] := List.eq_nil_of_length_eq_zero h0
    exact Reps.none _ _
  | some ad =>
    obtain ⟨inner, hr, hc⟩ := ReadsRow.inner_ hC
    have hone : ∀ u ∈ inner, u.oneCell' = true := reps_one (by decide) hr (fun p cs hp => (Kd.int .i64).K_one hp)
    refine (clone_some42 ad xs.length c inner W hr.1 hn (fun j u hj => pw_cell_below hW (hc j u hj)) hone).mono ?_
    rintro e w' ⟨v', rfl, hown, hb⟩
    exact ⟨v', inner, rfl, hown, hr, hb⟩

set_option maxHeartbeats 2000000 in
set_option maxRecDepth 100000 in
theorem clone_some43 (ad : Addr) (n c : Nat) (news : List Value) (w : World) (hl : news.length = n * (k52).sz) (hn : n ≤ 1000000) (hc : ∀ j u, news[j]? = some u → w.cell? (ad.add j) = some u) (h1 : ∀ u ∈ news, u.oneCell' = true) :
    Calls Try.prog 43 #[.slice (some ad) n c] w fun e w' => ∃ v', e = .returned v' ∧ w'.ownsRow w.heap.size 52 (k52).sz v' n news ∧ Below w.heap.size w w' := by
  obtain ⟨i0, hi, h2⟩ := Option.map_eq_some_iff.1 info52
  simp only [Prod.mk.injEq] at h2
  obtain ⟨hz0, hz1, hz2⟩ := h2
  have q22 : ∀ (w : World) (a : Option Addr) (n c n' c' : Nat), (binOp .eql 28 (.slice a n c) (.slice none n' c')).run Try.prog w = .ok (.bool a.isNone) w := fun w a n c n' c' => Lib.run_eql_slice_nil w _ _ a n c n' c' Try.underlying28
  have A : Aside0 (∀ j u, news[j]? = some u → w.cell? (ad.add j) = some u) := ⟨hc⟩
  clear hc
  go_enter Try.func43, Try.ntmps43
  go_wp2_with (at_builtin; refine wpList_append_own _ rfl _ _ 28 rfl w.heap.size 52 i0 _ (k52).sz _ Try.underlying28 hi hz0 hz1 hz2 rfl (by decide) _ _ _ rfl (World.ownsRow_made w #[] 0 (Nat.le_refl _) (Nat.zero_le _) (by simp)) ad n c news rfl ?qc1 ?qc2 ?qc3 ?qc4 ?qc5 ?qc6 ?_)
  case qc1 => exact hl
  case qc2 =>
    intro j u hj
    exact Lib.cell?_alloc_some _ (A.out j u hj)
  case qc3 => exact h1
  case qc4 => rw [Nat.zero_add]; unfold maxLen; omega
  case qc5 => rw [Nat.zero_add]; omega
  case qc6 => simp
  intro v' w1 hown hgrow hnil
  go_wp2
  go_ret
  refine ⟨v', rfl, by simpa using hown, ?_⟩
  exact ((Below.refl _ w).alloc (Nat.le_refl _) _).grown hgrow (by simp) (by intro k hk; simp [Value.ownBlock] at hk; omega)
set_option maxHeartbeats 1000000 in
set_option maxRecDepth 100000 in
theorem clone_nil43 (n c : Nat) (w : World) : Calls Try.prog 43 #[.slice none n c] w fun e w' => e = .returned (.slice none 0 0) ∧ w' = w := by
  have q22 : ∀ (w : World) (a : Option Addr) (n c n' c' : Nat), (binOp .eql 28 (.slice a n c) (.slice none n' c')).run Try.prog w = .ok (.bool a.isNone) w := fun w a n c n' c' => Lib.run_eql_slice_nil w _ _ a n c n' c' Try.underlying28
  go_enter Try.func43, Try.ntmps43
  go_wp2
  go_ret
  exact ⟨rfl, rfl⟩
/-- Of any list that was read (in w, from where on W came to be): a row of the call's own, whose cells say the same. -/
theorem clone43 (A : Option Addr) (c : Nat) (xs : List S52) (w : World) (hC : Kd.C (k52) w A xs.length xs) (hn : xs.length ≤ 1000000) (W : World) (hW : Below w.heap.size w W) :
    Calls Try.prog 43 #[.slice A xs.length c] W fun e w' => ∃ v' inner, e = .returned v' ∧ w'.ownsRow W.heap.size 52 (k52).sz v' xs.length inner ∧ Reps ((k52).K w) (k52).sz xs inner ∧ Below W.heap.size W w' := by
  cases A with
  | none =>
    have h0 : xs.length = 0 := by
      rcases Nat.eq_zero_or_pos xs.length with h | h
      · exact h
      · obtain ⟨ad, h', _⟩ := hC.2.2 h
        cases h'
    refine (clone_nil43 xs.length c W).mono ?_
    rintro e w' ⟨rfl, rfl⟩
    refine ⟨_, [], rfl, ⟨by rw [h0]; rfl, .inl ⟨rfl, h0⟩⟩, ?_, Below.refl _ _⟩
    obtain rfl : xs = [] := List.eq_nil_of_length_eq_zero h0
    exact Reps.none _ _
  | some ad =>
    obtain ⟨inner, hr, hc⟩ := ReadsRow.inner_ hC
    have hone : ∀ u ∈ inner, u.oneCell' = true := reps_one (by decide) hr (fun p cs hp => (k52).K_one hp)
    refine (clone_some43 ad xs.length c inner W hr.1 hn (fun j u hj => pw_cell_below hW (hc j u hj)) hone).mono ?_
    rintro e w' ⟨v', rfl, hown, hb⟩
    exact ⟨v', inner, rfl, hown, hr, hb⟩
end Go.Proofs.Ytpojelbablofpaa.P
