-- Written by wip/fakeprint.py and wip/post.py of this claim's author, who used the kit's printer (print.py) on turned inputs.
import Derived.Test.YtpojelbablofpaaK
import Derived.Test.YtpojelbablofpaaF17
import Derived.Test.YtpojelbablofpaaF19
import Derived.Test.YtpojelbablofpaaH3
namespace Go.Proofs.Ytpojelbablofpaa.P
open Go.RowKit Go.Proofs.YtpojelbablofpaaW.PrintWords Go.Proofs.YtpojelbablofpaaW.PrintLast Go.Proofs.YtpojelbablofpaaW.PrintMore
attribute [local go_sem] max2_int min2_int max_two min_two max_three min_three max_four min_four   -- for this text's walks alone
attribute [local go_sem] max2_int min2_int max_two min_two
set_option linter.unusedVariables false
set_option linter.unusedSimpArgs false

/-! ### product_For: function 23 -/
/-- Does a person of the age come in with the product, at all the operators? -/
def fitB (x : S32) (age : Int) (ops : List Int) : Bool := decide (x.f3 ≤ age) && decide (age ≤ x.f4) && ops.all fun n => decide (n ∈ x.f5)
def forL (l : List S32) (age : Int) (ops : List Int) : List Int := (l.filter fun x => fitB x age ops).map fun x => x.f0
theorem forL_length (l : List S32) (age : Int) (ops : List Int) : (forL l age ops).length ≤ l.length := by
 unfold forL
 rw [List.length_map]
 exact List.length_filter_le _ _
theorem forL_take {l : List S32} {x : Nat} (hx : x < l.length) (age : Int) (ops : List Int) : forL (l.take (x + 1)) age ops = forL (l.take x) age ops ++ (if fitB (rd_T32 l (x : Int)) age ops = true then [(rd_T32 l (x : Int)).f0] else []) := by
 have e : rd_T32 l (x : Int) = l[x] := by simp [rd_T32, hx]
 rw [e, List.take_succ_eq_append_getElem hx]
 unfold forL
 rw [List.filter_append, List.map_append]
 congr 1
 cases c : fitB l[x] age ops <;> simp [c]
def product_For.f (k : Nat) (l0 : List (S32)) (a1 : Int) (l2 : List Int) : Option (List Int) := if l0.length ≤ 1000000 ∧ l2.length ≤ 1000000 ∧ (l0.all fun x => decide (x.f5.length ≤ 1000000)) = true then some (forL l0 a1 l2) else none
theorem product_For.mono : ∀ a0 a1 a2 k, LeO (product_For.f k a0 a1 a2) (product_For.f (k + 1) a0 a1 a2) := fun _ _ _ _ => LeO.refl _
set_option maxHeartbeats 8000000 in
set_option maxRecDepth 100000 in
theorem product_For.calls (k : Nat) (A0 : Option Addr) (c0 : Nat) (l0 : List (S32)) (a1 : Int) (A2 : Option Addr) (c2 : Nat) (l2 : List Int) (r : List Int) (w : World) (hr0 : Kd.C k32 w A0 l0.length l0) (hc0 : l0.length ≤ c0) (hr2 : Kd.C (Kd.int .i64) w A2 l2.length l2) (hc2 : l2.length ≤ c2) (h : product_For.f k l0 a1 l2 = some r) :
  Calls Try.prog 23 #[.slice A0 l0.length c0, .int .i64 a1, .slice A2 l2.length c2] w fun e w' => ∃ v0_ : Value, e = .returned (v0_) ∧ Kd.R (Kd.int .i64) 3 w' w.heap.size (fun _ => True) v0_ r ∧ Below w.heap.size w w' := by
 have hu32 := Try.underlying32
 unfold product_For.f at h
 split at h
 case isFalse => cases h
 case isTrue hlen =>
  obtain ⟨hl1, hl2, hl3⟩ := hlen
  obtain rfl := Option.some.inj h
  have HR0 := Aside0.mk hr0
  have HR2 := Aside0.mk hr2
  have HC0 := Aside0.mk hc0
  have HC2 := Aside0.mk hc2
  have HL := Aside0.mk hl1
  have HL2 := Aside0.mk hl2
  have HL3 := Aside0.mk hl3
  have eg := enters_of (P := Try.prog) Try.func37 (by kernel_rfl) rfl
  clear h hr0 hr2 hc0 hc2 hl1 hl2 hl3
  go_enter Try.func23, Try.ntmps23
  go_wp2
  go_loopg [7, 13] l0.length (fun kq v7 v13 wr => ∃ x : Nat, v13 = .int .i64 (x : Int) ∧ Aside0 (kq + x = l0.length) ∧ Aside0 (Kd.R (Kd.int .i64) 3 wr w.heap.size (fun _ => True) v7 (forL (l0.take x) a1 l2)) ∧ Aside0 (Below w.heap.size w wr))
  case atStart => exact ⟨0, rfl, ⟨rfl⟩, ⟨Kd.R_nil _ _ _ _ _⟩, ⟨Below.refl _ _⟩⟩
  case round =>
   obtain ⟨x, rfl, HX, HO, HB⟩ := hrel
   skip
   cases gk with
   | zero =>
    have c1b : decide (x < l0.length) = false := decide_eq_false (by have := HX.out; omega)
    go_wp2
    go_ret
    refine ⟨_, rfl, ?_, HB.out⟩
    have h2 := HO.out
    rw [List.take_of_length_le (by have := HX.out; omega)] at h2
    exact h2
   | succ k1 =>
    have hxl : x < l0.length := by have := HX.out; omega
    have c1b : decide (x < l0.length) = true := decide_eq_true hxl
    obtain ⟨ad, A5, c5, A6, c6, e1, x0, x1, x2, x3, x4, x5, x6, x7, x8, x9, l5, g5, l6, g6⟩ := at_T32 (Kd.C_below HR0.out HB.out) (x : Int) (Int.natCast_nonneg _) (by omega)
    cases e1
    simp only [Int.toNat_natCast] at x0 x1 x2 x3 x4 x5 x6 x7 x8 x9
    have H5 := Aside0.mk g5
    have H6 := Aside0.mk g6
    have HC5 := Aside0.mk l5
    have HC6 := Aside0.mk l6
    clear l5 g5 l6 g6
    have hy5 : (rd_T32 l0 (x : Int)).f5.length ≤ 1000000 := by
     have h1 := List.all_eq_true.1 HL3.out (rd_T32 l0 (x : Int)) (by rw [show (rd_T32 l0 (x : Int)) = l0[x] by simp [rd_T32, hxl]]; exact List.getElem_mem hxl)
     simpa using h1
    have hfx := forL_take hxl a1 l2
    have hag := age_some (rd_T32 l0 (x : Int)) a1
    cases hb1 : (decide ((rd_T32 l0 (x : Int)).f3 ≤ a1) && decide (a1 ≤ (rd_T32 l0 (x : Int)).f4)) with
    | false =>
     rw [hb1] at hag
     have HAGE := Aside0.mk hag
     have hnf : fitB (rd_T32 l0 (x : Int)) a1 l2 = false := by unfold fitB; rw [hb1]; rfl
     rw [hnf, if_neg (by simp), List.append_nil] at hfx
     have HFX := Aside0.mk hfx
     clear hag hb1 hnf hfx hy5
     go_wp2_with (first | (go_at_call 17; (with_reducible refine (product_Age.calls (rd_T32 l0 (x : Int)).f0 (rd_T32 l0 (x : Int)).f1 (rd_T32 l0 (x : Int)).f2 (rd_T32 l0 (x : Int)).f3 (rd_T32 l0 (x : Int)).f4 A5 c5 (rd_T32 l0 (x : Int)).f5 A6 c6 (rd_T32 l0 (x : Int)).f6 (rd_T32 l0 (x : Int)).f7.f0 (rd_T32 l0 (x : Int)).f7.f1 (rd_T32 l0 (x : Int)).f8 a1 false _ ?h1 HC5.out ?h2 HC6.out HAGE.out).mono ?_); (case h1 => exact Kd.C_below H5.out (below_alloc (Below.refl wr.heap.size wr) _)); (case h2 => exact Kd.C_below H6.out (below_alloc (Below.refl wr.heap.size wr) _)); rintro e w1 ⟨rfl, hd⟩; have HD1 := Aside0.mk (below_step (below_alloc (Below.refl wr.heap.size wr) _) hd); have BX := Aside0.mk (blk_below (blk_new wr (.cells #[.int .i64 (rd_T32 l0 (x : Int)).f0, .int .i64 (rd_T32 l0 (x : Int)).f1, .int .i64 (rd_T32 l0 (x : Int)).f2, .int .i64 (rd_T32 l0 (x : Int)).f3, .int .i64 (rd_T32 l0 (x : Int)).f4, .slice A5 (rd_T32 l0 (x : Int)).f5.length c5, .slice A6 (rd_T32 l0 (x : Int)).f6.length c6, .int .i64 (rd_T32 l0 (x : Int)).f7.f0, .int .i64 (rd_T32 l0 (x : Int)).f7.f1, .int .i64 (rd_T32 l0 (x : Int)).f8] 32)) hd); clear hd))
     go_roundg k1
     case measure => omega
     case rel => exact ⟨x + 1, (by have h8 := HL.out; have h9 := hxl; simp; unfold wrap64; omega), ⟨by have := HX.out; omega⟩, ⟨by rw [HFX.out]; exact Kd.R_below HO.out HD1.out⟩, ⟨below_step HB.out HD1.out⟩⟩
    | true =>
     rw [hb1] at hag
     have HAGE := Aside0.mk hag
     have CF : Aside0 (∀ (W : World), Below wr.heap.size wr W → ∀ B : Nat, W.heap[B]? = some (.cells #[.int .i64 (rd_T32 l0 (x : Int)).f0, .int .i64 (rd_T32 l0 (x : Int)).f1, .int .i64 (rd_T32 l0 (x : Int)).f2, .int .i64 (rd_T32 l0 (x : Int)).f3, .int .i64 (rd_T32 l0 (x : Int)).f4, .slice A5 (rd_T32 l0 (x : Int)).f5.length c5, .slice A6 (rd_T32 l0 (x : Int)).f6.length c6, .int .i64 (rd_T32 l0 (x : Int)).f7.f0, .int .i64 (rd_T32 l0 (x : Int)).f7.f1, .int .i64 (rd_T32 l0 (x : Int)).f8] 32 (0, 0)) →
       Calls Try.prog 38 #[.slice A2 l2.length c2, .func (.func 37) #[] #[.pointer (some ⟨B, 0, none⟩)]] W fun e w' => e = .returned (.bool (l2.any fun n => !decide (n ∈ (rd_T32 l0 (x : Int)).f5))) ∧ Below W.heap.size W w') := ⟨by
      intro W hW B hB
      have hany := anyI_any (fun n => !decide (n ∈ (rd_T32 l0 (x : Int)).f5)) l2 HL2.out l2.length 0 (by omega)
      rw [List.drop_zero] at hany
      exact ContainsFunc_ints (l2.length + 1) A2 c2 l2 (fun n => !decide (n ∈ (rd_T32 l0 (x : Int)).f5)) 37 #[.pointer (some ⟨B, 0, none⟩)] _ W (Kd.C_below HR2.out (below_step HB.out hW)) eg (For_closure (rd_T32 l0 (x : Int)) A5 A6 c5 c6 hy5 HC5.out HC6.out wr H5.out H6.out W hW B hB) hany⟩
     have hna : (l2.all fun n => decide (n ∈ (rd_T32 l0 (x : Int)).f5)) = !(l2.any fun n => !decide (n ∈ (rd_T32 l0 (x : Int)).f5)) := by
      rw [List.all_eq_not_any_not]
     have hfit : fitB (rd_T32 l0 (x : Int)) a1 l2 = !(l2.any fun n => !decide (n ∈ (rd_T32 l0 (x : Int)).f5)) := by unfold fitB; rw [hb1, hna]; rfl
     clear hag hb1 hna hy5 eg
     cases hmiss : (l2.any fun n => !decide (n ∈ (rd_T32 l0 (x : Int)).f5)) with
     | true =>
      rw [hmiss] at CF hfit
      rw [hfit, if_neg (by simp), List.append_nil] at hfx
      have HFX := Aside0.mk hfx
      clear hfx hfit hmiss
      go_wp2_with (first | (go_at_call 17; (with_reducible refine (product_Age.calls (rd_T32 l0 (x : Int)).f0 (rd_T32 l0 (x : Int)).f1 (rd_T32 l0 (x : Int)).f2 (rd_T32 l0 (x : Int)).f3 (rd_T32 l0 (x : Int)).f4 A5 c5 (rd_T32 l0 (x : Int)).f5 A6 c6 (rd_T32 l0 (x : Int)).f6 (rd_T32 l0 (x : Int)).f7.f0 (rd_T32 l0 (x : Int)).f7.f1 (rd_T32 l0 (x : Int)).f8 a1 true _ ?h1 HC5.out ?h2 HC6.out HAGE.out).mono ?_); (case h1 => exact Kd.C_below H5.out (below_alloc (Below.refl wr.heap.size wr) _)); (case h2 => exact Kd.C_below H6.out (below_alloc (Below.refl wr.heap.size wr) _)); rintro e w1 ⟨rfl, hd⟩; have HD1 := Aside0.mk (below_step (below_alloc (Below.refl wr.heap.size wr) _) hd); have BX := Aside0.mk (blk_below (blk_new wr (.cells #[.int .i64 (rd_T32 l0 (x : Int)).f0, .int .i64 (rd_T32 l0 (x : Int)).f1, .int .i64 (rd_T32 l0 (x : Int)).f2, .int .i64 (rd_T32 l0 (x : Int)).f3, .int .i64 (rd_T32 l0 (x : Int)).f4, .slice A5 (rd_T32 l0 (x : Int)).f5.length c5, .slice A6 (rd_T32 l0 (x : Int)).f6.length c6, .int .i64 (rd_T32 l0 (x : Int)).f7.f0, .int .i64 (rd_T32 l0 (x : Int)).f7.f1, .int .i64 (rd_T32 l0 (x : Int)).f8] 32)) hd); clear hd) | (go_at_call 38; (with_reducible refine (CF.out w1 HD1.out wr.heap.size BX.out).mono ?_); rintro e w2 ⟨rfl, hd⟩; have HD2 := Aside0.mk (below_step HD1.out hd); have BY := Aside0.mk (blk_below BX.out hd); obtain ⟨z0, _, _, _, _, _, _, _, _, _, _, _, _, _, _, _, _, _, _, _⟩ := cells10 BY.out; clear hd))
      go_roundg k1
      case measure => omega
      case rel => exact ⟨x + 1, (by have h8 := HL.out; have h9 := hxl; simp; unfold wrap64; omega), ⟨by have := HX.out; omega⟩, ⟨by rw [HFX.out]; exact Kd.R_below HO.out HD2.out⟩, ⟨below_step HB.out HD2.out⟩⟩
     | false =>
      rw [hmiss] at CF hfit
      rw [hfit, if_pos (by rfl)] at hfx
      have HFX := Aside0.mk hfx
      clear hfx hfit hmiss
      go_wp2_with (first | (go_at_call 17; (with_reducible refine (product_Age.calls (rd_T32 l0 (x : Int)).f0 (rd_T32 l0 (x : Int)).f1 (rd_T32 l0 (x : Int)).f2 (rd_T32 l0 (x : Int)).f3 (rd_T32 l0 (x : Int)).f4 A5 c5 (rd_T32 l0 (x : Int)).f5 A6 c6 (rd_T32 l0 (x : Int)).f6 (rd_T32 l0 (x : Int)).f7.f0 (rd_T32 l0 (x : Int)).f7.f1 (rd_T32 l0 (x : Int)).f8 a1 true _ ?h1 HC5.out ?h2 HC6.out HAGE.out).mono ?_); (case h1 => exact Kd.C_below H5.out (below_alloc (Below.refl wr.heap.size wr) _)); (case h2 => exact Kd.C_below H6.out (below_alloc (Below.refl wr.heap.size wr) _)); rintro e w1 ⟨rfl, hd⟩; have HD1 := Aside0.mk (below_step (below_alloc (Below.refl wr.heap.size wr) _) hd); have BX := Aside0.mk (blk_below (blk_new wr (.cells #[.int .i64 (rd_T32 l0 (x : Int)).f0, .int .i64 (rd_T32 l0 (x : Int)).f1, .int .i64 (rd_T32 l0 (x : Int)).f2, .int .i64 (rd_T32 l0 (x : Int)).f3, .int .i64 (rd_T32 l0 (x : Int)).f4, .slice A5 (rd_T32 l0 (x : Int)).f5.length c5, .slice A6 (rd_T32 l0 (x : Int)).f6.length c6, .int .i64 (rd_T32 l0 (x : Int)).f7.f0, .int .i64 (rd_T32 l0 (x : Int)).f7.f1, .int .i64 (rd_T32 l0 (x : Int)).f8] 32)) hd); clear hd) | (go_at_call 38; (with_reducible refine (CF.out w1 HD1.out wr.heap.size BX.out).mono ?_); rintro e w2 ⟨rfl, hd⟩; have HD2 := Aside0.mk (below_step HD1.out hd); have BY := Aside0.mk (blk_below BX.out hd); obtain ⟨z0, _, _, _, _, _, _, _, _, _, _, _, _, _, _, _, _, _, _, _⟩ := cells10 BY.out; clear hd) | ((with_reducible refine gate_builtin (b := .append) (xs := #[.tmp 27, .tmp 30]) rfl ?_); at_builtin; refine Kd.R_append (Kd.int .i64) (w0 := w) w.heap.size rfl (.tmp 27) (.tmp 30) 27 3 (.int .i64 0) 8 rfl Try.underlying27 info3 rfl (by decide) (by omega) u7 (forL (l0.take x) a1 l2) ((rd_T32 l0 (x : Int)).f0) [.int .i64 ((rd_T32 l0 (x : Int)).f0)] (fun _ => True) (fun _ => False) rfl rfl ?aP (fun _ hk => hk.elim) ?aF ?aO ?aB ?aS ?aL ?_; (case aP => exact rfl); (case aB => exact (below_step HB.out HD2.out)); (case aF => exact (fun _ _ => trivial)); (case aO => exact Kd.R_below HO.out HD2.out); (case aS => exact (below_step HB.out HD2.out).size); (case aL => have h7 := forL_length (l0.take x) a1 l2; have h8 := HL.out; rw [List.length_take] at h7; omega); intro v8 w3 ho hb hg hat; have HO3 := Aside0.mk ho; have HB3 := Aside0.mk hb; clear ho hb hg hat))
      go_roundg k1
      case measure => omega
      case rel => exact ⟨x + 1, (by have h8 := HL.out; have h9 := hxl; simp; unfold wrap64; omega), ⟨by have := HX.out; omega⟩, ⟨by rw [HFX.out]; exact HO3.out⟩, HB3⟩

end Go.Proofs.Ytpojelbablofpaa.P
