-- Written by wip/fakeprint.py and wip/post.py of this claim's author, who used the kit's printer (print.py) on turned inputs.
import Derived.Test.YtdahjnbfbcemeaaK
import Derived.Test.YtdahjnbfbcemeaaFA
import Derived.Test.YtdahjnbfbcemeaaF13
import Derived.Test.YtdahjnbfbcemeaaF14
import Derived.Test.YtdahjnbfbcemeaaF16
import Derived.Lib.Walk
namespace Go.Proofs.Ytdahjnbfbcemeaa.P
open Go.RowKit Go.Proofs.YtdahjnbfbcemeaaW.PrintWords Go.Proofs.YtdahjnbfbcemeaaW.PrintLast Go.Proofs.YtdahjnbfbcemeaaW.PrintMore
attribute [local go_sem] max2_int min2_int max_two min_two max_three min_three max_four min_four   -- for this text's walks alone
attribute [local go_sem] max2_int min2_int max_two min_two
set_option linter.unusedVariables false
set_option linter.unusedSimpArgs false

/-! ### skiarealaw33_alive: function 10 -/
def skiarealaw33_alive.f  : Option (Bool) := (skiarealaw33_ride.f 1 1).bind fun bt102 => (some true)
def peakL : List S54 := [⟨127, 36000, 50400⟩]
def rates0 : List S35 := [⟨1, 40, 250, peakL⟩]
def rates1 : List S35 := [⟨1, 45, 333, peakL⟩, ⟨2, 10, 0, []⟩]
def sampleL : List S30 := [⟨0, rates0⟩, ⟨864000, rates1⟩]
theorem at1 : tariff_At.f 40 sampleL 863999 = some (0, rates0, true) := by kernel_rfl
theorem at2 : tariff_At.f 40 sampleL 864000 = some (864000, rates1, true) := by kernel_rfl
theorem at3 : tariff_At.f 40 sampleL (-1) = some (0, [], false) := by kernel_rfl
theorem rgt1 : tariff_Right.f 40 sampleL = some 0 := by kernel_rfl
theorem rgt2 : tariff_Right.f 40 [] = some 8 := by kernel_rfl
theorem pts1 : tariff_Points.f 40 sampleL 0 0 0 0 0 1 36000 = some 50 := by kernel_rfl
theorem pts2 : tariff_Points.f 40 sampleL 0 0 0 0 0 1 50400 = some 40 := by kernel_rfl
theorem pts3 : tariff_Points.f 40 sampleL 0 0 0 0 0 1 900000 = some 59 := by kernel_rfl
theorem pts4 : tariff_Points.f 40 sampleL 0 0 0 0 0 2 863999 = some 0 := by kernel_rfl
theorem pts5 : tariff_Points.f 40 sampleL 0 0 0 0 0 2 864000 = some 10 := by kernel_rfl
def ridesL : List S24 := [⟨0, 0, 0, 0, 0, 1, 36000⟩, ⟨0, 0, 0, 0, 0, 2, 864000⟩, ⟨0, 0, 0, 0, 0, 1, 50400⟩, ⟨0, 0, 0, 0, 0, 1, 900000⟩]
theorem sum1 : tariff_Sum.f 80 sampleL ridesL 1 = some 149 := by kernel_rfl
/-- A block whose cells are the elements' reads as the list. -/
theorem C_of_blk {α : Type} {d : Kd α} {w : World} {g t : Nat} {xs : List α} {inner : List Value} (h : w.heap[g]? = some (.cells inner.toArray t (0, 0))) (hr : Reps (d.K w) d.sz xs inner) (hl : xs.length ≤ 1000000) : Kd.C d w (some ⟨g, 0, none⟩) xs.length xs := by
 refine ⟨rfl, by omega, fun _ => ⟨_, rfl, fun j p hj => ⟨_, d.K_len (hr.2 j p hj), hr.2 j p hj, fun i u hu => ?_⟩⟩⟩
 rw [Addr.add_lit, Nat.zero_add, blk_cell h]
 rw [List.getElem?_take] at hu
 split at hu
 · rw [List.getElem?_drop] at hu
   simpa using hu
 · cases hu
theorem rides_reps (W : World) : Reps (k24.K W) 7 ridesL [.int .i64 0, .int .i64 0, .int .i64 0, .int .i64 0, .int .i64 0, .int .i64 1, .int .i64 36000, .int .i64 0, .int .i64 0, .int .i64 0, .int .i64 0, .int .i64 0, .int .i64 2, .int .i64 864000, .int .i64 0, .int .i64 0, .int .i64 0, .int .i64 0, .int .i64 0, .int .i64 1, .int .i64 50400, .int .i64 0, .int .i64 0, .int .i64 0, .int .i64 0, .int .i64 0, .int .i64 1, .int .i64 900000] := Reps.front (k24_mk W ⟨0, 0, 0, 0, 0, 1, 36000⟩) rfl (Reps.front (k24_mk W ⟨0, 0, 0, 0, 0, 2, 864000⟩) rfl (Reps.front (k24_mk W ⟨0, 0, 0, 0, 0, 1, 50400⟩) rfl (Reps.front (k24_mk W ⟨0, 0, 0, 0, 0, 1, 900000⟩) rfl (Reps.none _ _) rfl) rfl) rfl) rfl
set_option maxHeartbeats 4000000 in
set_option maxRecDepth 100000 in
theorem sample_calls (w : World) : Calls Try.prog 22 #[] w fun e w' => ∃ A, e = .returned (.slice A 2 2) ∧ Kd.C k30 w' A 2 sampleL ∧ Below w.heap.size w w' := by
 go_enter Try.func22, Try.ntmps22
 go_wp2
 go_ret
 have b0 : ((((w.alloc (.cells #[.int .i64 127, .int .i64 36000, .int .i64 50400] 54)).alloc (.cells #[.int .i64 1, .int .i64 40, .int .i64 250, .slice (some ⟨w.heap.size, 0, none⟩) 1 1] 35)).alloc (.cells #[.int .i64 1, .int .i64 45, .int .i64 333, .slice (some ⟨w.heap.size, 0, none⟩) 1 1, .int .i64 2, .int .i64 10, .int .i64 0, .slice none 0 0] 35)).alloc (.cells #[.int .i64 0, .slice (some ⟨w.heap.size + 1, 0, none⟩) 1 1, .int .i64 864000, .slice (some ⟨w.heap.size + 1 + 1, 0, none⟩) 2 2] 30)).heap[w.heap.size]? = some (Obj.cells #[.int .i64 127, .int .i64 36000, .int .i64 50400] 54 (0, 0)) := blk_alloc (blk_alloc (blk_alloc (blk_new w _) _) _) _
 have b1 : ((((w.alloc (.cells #[.int .i64 127, .int .i64 36000, .int .i64 50400] 54)).alloc (.cells #[.int .i64 1, .int .i64 40, .int .i64 250, .slice (some ⟨w.heap.size, 0, none⟩) 1 1] 35)).alloc (.cells #[.int .i64 1, .int .i64 45, .int .i64 333, .slice (some ⟨w.heap.size, 0, none⟩) 1 1, .int .i64 2, .int .i64 10, .int .i64 0, .slice none 0 0] 35)).alloc (.cells #[.int .i64 0, .slice (some ⟨w.heap.size + 1, 0, none⟩) 1 1, .int .i64 864000, .slice (some ⟨w.heap.size + 1 + 1, 0, none⟩) 2 2] 30)).heap[w.heap.size + 1]? = some (Obj.cells #[.int .i64 1, .int .i64 40, .int .i64 250, .slice (some ⟨w.heap.size, 0, none⟩) 1 1] 35 (0, 0)) := by simpa using blk_alloc (blk_alloc (blk_new (w.alloc (.cells #[.int .i64 127, .int .i64 36000, .int .i64 50400] 54)) (.cells #[.int .i64 1, .int .i64 40, .int .i64 250, .slice (some ⟨w.heap.size, 0, none⟩) 1 1] 35)) (.cells #[.int .i64 1, .int .i64 45, .int .i64 333, .slice (some ⟨w.heap.size, 0, none⟩) 1 1, .int .i64 2, .int .i64 10, .int .i64 0, .slice none 0 0] 35)) (.cells #[.int .i64 0, .slice (some ⟨w.heap.size + 1, 0, none⟩) 1 1, .int .i64 864000, .slice (some ⟨w.heap.size + 1 + 1, 0, none⟩) 2 2] 30)
 have b2 : ((((w.alloc (.cells #[.int .i64 127, .int .i64 36000, .int .i64 50400] 54)).alloc (.cells #[.int .i64 1, .int .i64 40, .int .i64 250, .slice (some ⟨w.heap.size, 0, none⟩) 1 1] 35)).alloc (.cells #[.int .i64 1, .int .i64 45, .int .i64 333, .slice (some ⟨w.heap.size, 0, none⟩) 1 1, .int .i64 2, .int .i64 10, .int .i64 0, .slice none 0 0] 35)).alloc (.cells #[.int .i64 0, .slice (some ⟨w.heap.size + 1, 0, none⟩) 1 1, .int .i64 864000, .slice (some ⟨w.heap.size + 1 + 1, 0, none⟩) 2 2] 30)).heap[w.heap.size + 1 + 1]? = some (Obj.cells #[.int .i64 1, .int .i64 45, .int .i64 333, .slice (some ⟨w.heap.size, 0, none⟩) 1 1, .int .i64 2, .int .i64 10, .int .i64 0, .slice none 0 0] 35 (0, 0)) := by simpa using blk_alloc (blk_new ((w.alloc (.cells #[.int .i64 127, .int .i64 36000, .int .i64 50400] 54)).alloc (.cells #[.int .i64 1, .int .i64 40, .int .i64 250, .slice (some ⟨w.heap.size, 0, none⟩) 1 1] 35)) (.cells #[.int .i64 1, .int .i64 45, .int .i64 333, .slice (some ⟨w.heap.size, 0, none⟩) 1 1, .int .i64 2, .int .i64 10, .int .i64 0, .slice none 0 0] 35)) (.cells #[.int .i64 0, .slice (some ⟨w.heap.size + 1, 0, none⟩) 1 1, .int .i64 864000, .slice (some ⟨w.heap.size + 1 + 1, 0, none⟩) 2 2] 30)
 have b3 : ((((w.alloc (.cells #[.int .i64 127, .int .i64 36000, .int .i64 50400] 54)).alloc (.cells #[.int .i64 1, .int .i64 40, .int .i64 250, .slice (some ⟨w.heap.size, 0, none⟩) 1 1] 35)).alloc (.cells #[.int .i64 1, .int .i64 45, .int .i64 333, .slice (some ⟨w.heap.size, 0, none⟩) 1 1, .int .i64 2, .int .i64 10, .int .i64 0, .slice none 0 0] 35)).alloc (.cells #[.int .i64 0, .slice (some ⟨w.heap.size + 1, 0, none⟩) 1 1, .int .i64 864000, .slice (some ⟨w.heap.size + 1 + 1, 0, none⟩) 2 2] 30)).heap[w.heap.size + 1 + 1 + 1]? = some (Obj.cells #[.int .i64 0, .slice (some ⟨w.heap.size + 1, 0, none⟩) 1 1, .int .i64 864000, .slice (some ⟨w.heap.size + 1 + 1, 0, none⟩) 2 2] 30 (0, 0)) := by simpa using blk_new (((w.alloc (.cells #[.int .i64 127, .int .i64 36000, .int .i64 50400] 54)).alloc (.cells #[.int .i64 1, .int .i64 40, .int .i64 250, .slice (some ⟨w.heap.size, 0, none⟩) 1 1] 35)).alloc (.cells #[.int .i64 1, .int .i64 45, .int .i64 333, .slice (some ⟨w.heap.size, 0, none⟩) 1 1, .int .i64 2, .int .i64 10, .int .i64 0, .slice none 0 0] 35)) (.cells #[.int .i64 0, .slice (some ⟨w.heap.size + 1, 0, none⟩) 1 1, .int .i64 864000, .slice (some ⟨w.heap.size + 1 + 1, 0, none⟩) 2 2] 30)
 generalize hW : ((((w.alloc (.cells #[.int .i64 127, .int .i64 36000, .int .i64 50400] 54)).alloc (.cells #[.int .i64 1, .int .i64 40, .int .i64 250, .slice (some ⟨w.heap.size, 0, none⟩) 1 1] 35)).alloc (.cells #[.int .i64 1, .int .i64 45, .int .i64 333, .slice (some ⟨w.heap.size, 0, none⟩) 1 1, .int .i64 2, .int .i64 10, .int .i64 0, .slice none 0 0] 35)).alloc (.cells #[.int .i64 0, .slice (some ⟨w.heap.size + 1, 0, none⟩) 1 1, .int .i64 864000, .slice (some ⟨w.heap.size + 1 + 1, 0, none⟩) 2 2] 30)) = W at b0 b1 b2 b3
 have cp := C_of_blk (d := k54) (xs := peakL) b0 (Reps.front (k54_mk W ⟨127, 36000, 50400⟩) rfl (Reps.none _ _) rfl) (by decide)
 have cn : Kd.C k54 W none ([] : List S54).length [] := ⟨rfl, by decide, fun h => absurd h (by decide)⟩
 have c0 := C_of_blk (d := k35) (xs := rates0) b1 (Reps.front (k35_mk W ⟨1, 40, 250, peakL⟩ (Nat.le_refl 1) cp) rfl (Reps.none _ _) rfl) (by decide)
 have c1 := C_of_blk (d := k35) (xs := rates1) b2 (Reps.front (k35_mk W ⟨1, 45, 333, peakL⟩ (Nat.le_refl 1) cp) rfl (Reps.front (k35_mk W ⟨2, 10, 0, []⟩ (Nat.le_refl 0) cn) rfl (Reps.none _ _) rfl) rfl) (by decide)
 have ct := C_of_blk (d := k30) (xs := sampleL) b3 (Reps.front (k30_mk W ⟨0, rates0⟩ (Nat.le_refl 1) c0) rfl (Reps.front (k30_mk W ⟨864000, rates1⟩ (Nat.le_refl 2) c1) rfl (Reps.none _ _) rfl) rfl) (by decide)
 refine ⟨some ⟨w.heap.size + 1 + 1 + 1, 0, none⟩, rfl, ct, by rw [← hW]; repeat (first | exact Below.refl _ _ | apply below_alloc)⟩
theorem atc1 (A : Option Addr) (W : World) (h : Kd.C k30 W A 2 sampleL) : Calls Try.prog 13 #[.slice A 2 2, .int .i64 863999] W fun e w' => ∃ A' c', e = .returned (.tuple #[.agg #[.int .i64 0, .slice A' 1 c'], .bool true]) ∧ Below W.heap.size W w' :=
 (tariff_At.calls 40 A 2 sampleL 863999 _ _ _ W h (Nat.le_refl 2) at1).mono (by
  rintro e w' ⟨v, rfl, hS, hd⟩
  obtain ⟨A', c', rfl⟩ := Kd.S_slice hS
  exact ⟨A', c', rfl, hd⟩)
theorem atc2 (A : Option Addr) (W : World) (h : Kd.C k30 W A 2 sampleL) : Calls Try.prog 13 #[.slice A 2 2, .int .i64 864000] W fun e w' => ∃ A' c', e = .returned (.tuple #[.agg #[.int .i64 864000, .slice A' 2 c'], .bool true]) ∧ Below W.heap.size W w' :=
 (tariff_At.calls 40 A 2 sampleL 864000 _ _ _ W h (Nat.le_refl 2) at2).mono (by
  rintro e w' ⟨v, rfl, hS, hd⟩
  obtain ⟨A', c', rfl⟩ := Kd.S_slice hS
  exact ⟨A', c', rfl, hd⟩)
theorem atc3 (A : Option Addr) (W : World) (h : Kd.C k30 W A 2 sampleL) : Calls Try.prog 13 #[.slice A 2 2, .int .i64 (-1)] W fun e w' => ∃ A' c', e = .returned (.tuple #[.agg #[.int .i64 0, .slice A' 0 c'], .bool false]) ∧ Below W.heap.size W w' :=
 (tariff_At.calls 40 A 2 sampleL (-1) _ _ _ W h (Nat.le_refl 2) at3).mono (by
  rintro e w' ⟨v, rfl, hS, hd⟩
  obtain ⟨A', c', rfl⟩ := Kd.S_slice hS
  exact ⟨A', c', rfl, hd⟩)
theorem rgtc1 (A : Option Addr) (W : World) (h : Kd.C k30 W A 2 sampleL) : Calls Try.prog 16 #[.slice A 2 2] W fun e w' => e = .returned (.int .i64 0) ∧ Below W.heap.size W w' := tariff_Right.calls 40 A 2 sampleL 0 W h (Nat.le_refl 2) rgt1
theorem rgtc2 (W : World) : Calls Try.prog 16 #[.slice none 0 0] W fun e w' => e = .returned (.int .i64 8) ∧ Below W.heap.size W w' := tariff_Right.calls 40 none 0 [] 8 W ⟨rfl, by decide, fun h => absurd h (by decide)⟩ (Nat.le_refl 0) rgt2
theorem ridec1 (W : World) : Calls Try.prog 23 #[.int .i64 1, .int .i64 36000] W fun e w' => e = .returned (.agg #[.int .i64 0, .int .i64 0, .int .i64 0, .int .i64 0, .int .i64 0, .int .i64 1, .int .i64 36000]) ∧ Below W.heap.size W w' := skiarealaw33_ride.calls 1 36000 0 0 0 0 0 1 36000 W rfl
theorem ptsc1 (A : Option Addr) (W : World) (h : Kd.C k30 W A 2 sampleL) : Calls Try.prog 12 #[.slice A 2 2, .agg #[.int .i64 0, .int .i64 0, .int .i64 0, .int .i64 0, .int .i64 0, .int .i64 1, .int .i64 36000]] W fun e w' => e = .returned (.int .i64 50) ∧ Below W.heap.size W w' := tariff_Points.calls 40 A 2 sampleL 0 0 0 0 0 1 36000 50 W h (Nat.le_refl 2) pts1
theorem ridec2 (W : World) : Calls Try.prog 23 #[.int .i64 1, .int .i64 50400] W fun e w' => e = .returned (.agg #[.int .i64 0, .int .i64 0, .int .i64 0, .int .i64 0, .int .i64 0, .int .i64 1, .int .i64 50400]) ∧ Below W.heap.size W w' := skiarealaw33_ride.calls 1 50400 0 0 0 0 0 1 50400 W rfl
theorem ptsc2 (A : Option Addr) (W : World) (h : Kd.C k30 W A 2 sampleL) : Calls Try.prog 12 #[.slice A 2 2, .agg #[.int .i64 0, .int .i64 0, .int .i64 0, .int .i64 0, .int .i64 0, .int .i64 1, .int .i64 50400]] W fun e w' => e = .returned (.int .i64 40) ∧ Below W.heap.size W w' := tariff_Points.calls 40 A 2 sampleL 0 0 0 0 0 1 50400 40 W h (Nat.le_refl 2) pts2
theorem ridec3 (W : World) : Calls Try.prog 23 #[.int .i64 1, .int .i64 900000] W fun e w' => e = .returned (.agg #[.int .i64 0, .int .i64 0, .int .i64 0, .int .i64 0, .int .i64 0, .int .i64 1, .int .i64 900000]) ∧ Below W.heap.size W w' := skiarealaw33_ride.calls 1 900000 0 0 0 0 0 1 900000 W rfl
theorem ptsc3 (A : Option Addr) (W : World) (h : Kd.C k30 W A 2 sampleL) : Calls Try.prog 12 #[.slice A 2 2, .agg #[.int .i64 0, .int .i64 0, .int .i64 0, .int .i64 0, .int .i64 0, .int .i64 1, .int .i64 900000]] W fun e w' => e = .returned (.int .i64 59) ∧ Below W.heap.size W w' := tariff_Points.calls 40 A 2 sampleL 0 0 0 0 0 1 900000 59 W h (Nat.le_refl 2) pts3
theorem ridec4 (W : World) : Calls Try.prog 23 #[.int .i64 2, .int .i64 863999] W fun e w' => e = .returned (.agg #[.int .i64 0, .int .i64 0, .int .i64 0, .int .i64 0, .int .i64 0, .int .i64 2, .int .i64 863999]) ∧ Below W.heap.size W w' := skiarealaw33_ride.calls 2 863999 0 0 0 0 0 2 863999 W rfl
theorem ptsc4 (A : Option Addr) (W : World) (h : Kd.C k30 W A 2 sampleL) : Calls Try.prog 12 #[.slice A 2 2, .agg #[.int .i64 0, .int .i64 0, .int .i64 0, .int .i64 0, .int .i64 0, .int .i64 2, .int .i64 863999]] W fun e w' => e = .returned (.int .i64 0) ∧ Below W.heap.size W w' := tariff_Points.calls 40 A 2 sampleL 0 0 0 0 0 2 863999 0 W h (Nat.le_refl 2) pts4
theorem ridec5 (W : World) : Calls Try.prog 23 #[.int .i64 2, .int .i64 864000] W fun e w' => e = .returned (.agg #[.int .i64 0, .int .i64 0, .int .i64 0, .int .i64 0, .int .i64 0, .int .i64 2, .int .i64 864000]) ∧ Below W.heap.size W w' := skiarealaw33_ride.calls 2 864000 0 0 0 0 0 2 864000 W rfl
theorem ptsc5 (A : Option Addr) (W : World) (h : Kd.C k30 W A 2 sampleL) : Calls Try.prog 12 #[.slice A 2 2, .agg #[.int .i64 0, .int .i64 0, .int .i64 0, .int .i64 0, .int .i64 0, .int .i64 2, .int .i64 864000]] W fun e w' => e = .returned (.int .i64 10) ∧ Below W.heap.size W w' := tariff_Points.calls 40 A 2 sampleL 0 0 0 0 0 2 864000 10 W h (Nat.le_refl 2) pts5
theorem sumc (A B : Option Addr) (W : World) (h : Kd.C k30 W A 2 sampleL) (h2 : Kd.C k24 W B 4 ridesL) : Calls Try.prog 14 #[.slice A 2 2, .slice B 4 4, .int .i64 1] W fun e w' => e = .returned (.int .i64 149) ∧ Below W.heap.size W w' := tariff_Sum.calls 80 A 2 sampleL B 4 ridesL 1 149 W h (Nat.le_refl 2) h2 (Nat.le_refl 4) sum1
theorem samplec (W : World) : Calls Try.prog 22 #[] W fun e w' => ∃ A, e = .returned (.slice A 2 2) ∧ Kd.C k30 w' A 2 sampleL ∧ Below W.heap.size W w' := sample_calls W
set_option maxHeartbeats 1000000 in
set_option maxRecDepth 100000 in
theorem skiarealaw33_alive.calls  (r : Bool) (w : World) (h : skiarealaw33_alive.f  = some r) :
  Calls Try.prog 10 #[] w fun e w' => e = .returned (.bool r) ∧ Below w.heap.size w w' := by
 have hu30 := Try.underlying30
 have hr : r = true := by
  unfold skiarealaw33_alive.f at h
  exact (Option.some.inj h).symm
 subst hr
 clear h
 go_enter Try.func10, Try.ntmps10
 go_wp2_with (first
  | (go_at_call 22; (with_reducible refine (samplec _).mono ?_); rintro e ws ⟨A, rfl, hC, hb⟩; have HC := Aside0.mk hC; have HB0 := Aside0.mk hb; have HB := Aside0.mk (Below.refl ws.heap.size ws); clear hC hb)
  | (go_at_call 13; (with_reducible refine (atc1 A _ (Kd.C_below HC.out (by repeat (first | exact HB.out | apply below_alloc | apply pw_below_drewN | apply below_drew1 | refine below_set ?_ (Nat.le_trans HB.out.size (by simp)))))).mono ?_); rintro e w2 ⟨A2, c2, rfl, hd⟩; replace HB := Aside0.mk (below_step (by repeat (first | exact HB.out | apply below_alloc | apply pw_below_drewN | apply below_drew1 | refine below_set ?_ (Nat.le_trans HB.out.size (by simp)))) hd); clear hd)
  | (go_at_call 13; (with_reducible refine (atc2 A _ (Kd.C_below HC.out (by repeat (first | exact HB.out | apply below_alloc | apply pw_below_drewN | apply below_drew1 | refine below_set ?_ (Nat.le_trans HB.out.size (by simp)))))).mono ?_); rintro e w3 ⟨A3, c3, rfl, hd⟩; have e2 : w3.cell? ⟨w2.heap.size, 0, none⟩ = some (.int .i64 0) := pw_cell_below hd (by go_simp); replace HB := Aside0.mk (below_step (by repeat (first | exact HB.out | apply below_alloc | apply pw_below_drewN | apply below_drew1 | refine below_set ?_ (Nat.le_trans HB.out.size (by simp)))) hd); clear hd)
  | (go_at_call 13; (with_reducible refine (atc3 A _ (Kd.C_below HC.out (by repeat (first | exact HB.out | apply below_alloc | apply pw_below_drewN | apply below_drew1 | refine below_set ?_ (Nat.le_trans HB.out.size (by simp)))))).mono ?_); rintro e w4 ⟨A4, c4, rfl, hd⟩; replace e2 : w4.cell? ⟨w2.heap.size, 0, none⟩ = some (.int .i64 0) := pw_cell_below hd (by first | exact e2 | exact Lib.cell?_alloc_some _ e2); have e4 : w4.cell? ⟨w3.heap.size, 0, none⟩ = some (.int .i64 864000) := pw_cell_below hd (by go_simp); have e5 : w4.cell? ⟨w3.heap.size, 1, none⟩ = some (.slice A3 2 c3) := pw_cell_below hd (by go_simp); replace HB := Aside0.mk (below_step (by repeat (first | exact HB.out | apply below_alloc | apply pw_below_drewN | apply below_drew1 | refine below_set ?_ (Nat.le_trans HB.out.size (by simp)))) hd); clear hd)
  | (go_at_call 16; (with_reducible refine (rgtc1 A _ (Kd.C_below HC.out (by repeat (first | exact HB.out | apply below_alloc | apply pw_below_drewN | apply below_drew1 | refine below_set ?_ (Nat.le_trans HB.out.size (by simp)))))).mono ?_); rintro e w5 ⟨rfl, hd⟩; replace e2 : w5.cell? ⟨w2.heap.size, 0, none⟩ = some (.int .i64 0) := pw_cell_below hd (by first | exact e2 | exact Lib.cell?_alloc_some _ e2); replace e4 : w5.cell? ⟨w3.heap.size, 0, none⟩ = some (.int .i64 864000) := pw_cell_below hd (by first | exact e4 | exact Lib.cell?_alloc_some _ e4); replace e5 : w5.cell? ⟨w3.heap.size, 1, none⟩ = some (.slice A3 2 c3) := pw_cell_below hd (by first | exact e5 | exact Lib.cell?_alloc_some _ e5); replace HB := Aside0.mk (below_step (by repeat (first | exact HB.out | apply below_alloc | apply pw_below_drewN | apply below_drew1 | refine below_set ?_ (Nat.le_trans HB.out.size (by simp)))) hd); clear hd)
  | (go_at_call 16; (with_reducible refine (rgtc2 _).mono ?_); rintro e w6 ⟨rfl, hd⟩; replace e2 : w6.cell? ⟨w2.heap.size, 0, none⟩ = some (.int .i64 0) := pw_cell_below hd (by first | exact e2 | exact Lib.cell?_alloc_some _ e2); replace e4 : w6.cell? ⟨w3.heap.size, 0, none⟩ = some (.int .i64 864000) := pw_cell_below hd (by first | exact e4 | exact Lib.cell?_alloc_some _ e4); replace e5 : w6.cell? ⟨w3.heap.size, 1, none⟩ = some (.slice A3 2 c3) := pw_cell_below hd (by first | exact e5 | exact Lib.cell?_alloc_some _ e5); replace HB := Aside0.mk (below_step (by repeat (first | exact HB.out | apply below_alloc | apply pw_below_drewN | apply below_drew1 | refine below_set ?_ (Nat.le_trans HB.out.size (by simp)))) hd); clear hd)
  | (go_at_call 23; (with_reducible refine (ridec1 _).mono ?_); rintro e w' ⟨rfl, hd⟩; replace HB := Aside0.mk (below_step (by repeat (first | exact HB.out | apply below_alloc | apply pw_below_drewN | apply below_drew1 | refine below_set ?_ (Nat.le_trans HB.out.size (by simp)))) hd); clear hd)
  | (go_at_call 23; (with_reducible refine (ridec2 _).mono ?_); rintro e w' ⟨rfl, hd⟩; replace HB := Aside0.mk (below_step (by repeat (first | exact HB.out | apply below_alloc | apply pw_below_drewN | apply below_drew1 | refine below_set ?_ (Nat.le_trans HB.out.size (by simp)))) hd); clear hd)
  | (go_at_call 23; (with_reducible refine (ridec3 _).mono ?_); rintro e w' ⟨rfl, hd⟩; replace HB := Aside0.mk (below_step (by repeat (first | exact HB.out | apply below_alloc | apply pw_below_drewN | apply below_drew1 | refine below_set ?_ (Nat.le_trans HB.out.size (by simp)))) hd); clear hd)
  | (go_at_call 23; (with_reducible refine (ridec4 _).mono ?_); rintro e w' ⟨rfl, hd⟩; replace HB := Aside0.mk (below_step (by repeat (first | exact HB.out | apply below_alloc | apply pw_below_drewN | apply below_drew1 | refine below_set ?_ (Nat.le_trans HB.out.size (by simp)))) hd); clear hd)
  | (go_at_call 23; (with_reducible refine (ridec5 _).mono ?_); rintro e w' ⟨rfl, hd⟩; replace HB := Aside0.mk (below_step (by repeat (first | exact HB.out | apply below_alloc | apply pw_below_drewN | apply below_drew1 | refine below_set ?_ (Nat.le_trans HB.out.size (by simp)))) hd); clear hd)
  | (go_at_call 12; (with_reducible refine (ptsc1 A _ (Kd.C_below HC.out (by repeat (first | exact HB.out | apply below_alloc | apply pw_below_drewN | apply below_drew1 | refine below_set ?_ (Nat.le_trans HB.out.size (by simp)))))).mono ?_); rintro e w' ⟨rfl, hd⟩; replace HB := Aside0.mk (below_step (by repeat (first | exact HB.out | apply below_alloc | apply pw_below_drewN | apply below_drew1 | refine below_set ?_ (Nat.le_trans HB.out.size (by simp)))) hd); clear hd)
  | (go_at_call 12; (with_reducible refine (ptsc2 A _ (Kd.C_below HC.out (by repeat (first | exact HB.out | apply below_alloc | apply pw_below_drewN | apply below_drew1 | refine below_set ?_ (Nat.le_trans HB.out.size (by simp)))))).mono ?_); rintro e w' ⟨rfl, hd⟩; replace HB := Aside0.mk (below_step (by repeat (first | exact HB.out | apply below_alloc | apply pw_below_drewN | apply below_drew1 | refine below_set ?_ (Nat.le_trans HB.out.size (by simp)))) hd); clear hd)
  | (go_at_call 12; (with_reducible refine (ptsc3 A _ (Kd.C_below HC.out (by repeat (first | exact HB.out | apply below_alloc | apply pw_below_drewN | apply below_drew1 | refine below_set ?_ (Nat.le_trans HB.out.size (by simp)))))).mono ?_); rintro e w' ⟨rfl, hd⟩; replace HB := Aside0.mk (below_step (by repeat (first | exact HB.out | apply below_alloc | apply pw_below_drewN | apply below_drew1 | refine below_set ?_ (Nat.le_trans HB.out.size (by simp)))) hd); clear hd)
  | (go_at_call 12; (with_reducible refine (ptsc4 A _ (Kd.C_below HC.out (by repeat (first | exact HB.out | apply below_alloc | apply pw_below_drewN | apply below_drew1 | refine below_set ?_ (Nat.le_trans HB.out.size (by simp)))))).mono ?_); rintro e w' ⟨rfl, hd⟩; replace HB := Aside0.mk (below_step (by repeat (first | exact HB.out | apply below_alloc | apply pw_below_drewN | apply below_drew1 | refine below_set ?_ (Nat.le_trans HB.out.size (by simp)))) hd); clear hd)
  | (go_at_call 12; (with_reducible refine (ptsc5 A _ (Kd.C_below HC.out (by repeat (first | exact HB.out | apply below_alloc | apply pw_below_drewN | apply below_drew1 | refine below_set ?_ (Nat.le_trans HB.out.size (by simp)))))).mono ?_); rintro e w' ⟨rfl, hd⟩; replace HB := Aside0.mk (below_step (by repeat (first | exact HB.out | apply below_alloc | apply pw_below_drewN | apply below_drew1 | refine below_set ?_ (Nat.le_trans HB.out.size (by simp)))) hd); clear hd)
  | (go_at_call 14; (with_reducible refine (sumc A _ _ (Kd.C_below HC.out (by repeat (first | exact HB.out | apply below_alloc | apply pw_below_drewN | apply below_drew1 | refine below_set ?_ (Nat.le_trans HB.out.size (by simp))))) ?cc).mono ?_); (case cc => exact C_of_blk (xs := ridesL) (t := 24) (blk_new _ _) (rides_reps _) (by decide)); rintro e w9 ⟨rfl, hd⟩; replace HB := Aside0.mk (below_step (by repeat (first | exact HB.out | apply below_alloc | apply pw_below_drewN | apply below_drew1 | refine below_set ?_ (Nat.le_trans HB.out.size (by simp)))) hd); clear hd))
 go_ret
 exact ⟨rfl, below_step HB0.out HB.out⟩

end Go.Proofs.Ytdahjnbfbcemeaa.P
