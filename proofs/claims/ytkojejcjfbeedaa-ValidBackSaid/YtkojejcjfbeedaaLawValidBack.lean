/- The law skiarealaw26.ValidBack answers true for every product, medium and two tries, and leaves its arguments as they were: after a ride none is possible at an earlier time, or with the same lift within 300 seconds. (For every input that fits in Go's memory; no condition of ours.) -/
import Derived.Test.YtkojejcjfbeedaaRows
import Derived.Test.YtkojejcjfbeedaaF8
import Derived.Test.YtkojejcjfbeedaaR
import Derived.Test.YtkojejcjfbeedaaPureValidBack
import Derived.WalkKit
import Derived.ProofKit
import Derived.OpenShut
import Derived.ShutString
import Derived.ChangeOld
import Derived.Below
import Derived.SizedLaws
import Derived.ChangeSlices
namespace Go.Proofs.Ytkojejcjfbeedaa.validBack
open Go.ChangeShapes Go.WideShapes Go.ChangeAt Go.RowKit Go.Proofs.Ytkojejcjfbeedaa.O Go.Proofs.Ytkojejcjfbeedaa.R
set_option linter.unusedVariables false
theorem own : ownKnob Try.prog.godebug = none := by kernel_rfl
theorem laidOut : laidOutB Try.prog = true := by kernel_rfl
set_option maxRecDepth 100000 in
theorem lifted (os : Os) (started : os.Started) (H : Type) (enc : TypeId × Value → H) :
    ReturnsInHanded {} Try.checked os 8 .any (Rows.validBackSpec.pre6 enc Try.prog Try.f8 Rows.validBackRow.domain false) (Rows.validBackSpec.post enc Try.prog Try.f8 false true false false) := by
  refine returnsInHanded_of_change_sized (C := Try.checked) own started (by kernel_rfl) Try.func8
    (ChangeSpec.witness6 (enc := enc) (C := Try.checked) false ⟨#[], #[.agg #[.int .i64 0, .int .i64 0, .int .i64 0, .int .i64 0, .int .i64 0, .slice none 0 0, .slice none 0 0, .int .i64 0, .int .i64 0, .int .i64 0], .agg #[.int .i64 0, .int .i64 0, .int .i64 0, .int .i64 0, .int .i64 0, .int .i64 0, .int .i64 0, .int .i64 0, .int .u64 0], .agg #[.int .i64 0, .int .i64 0, .int .i64 0], .agg #[.int .i64 0, .int .i64 0, .int .i64 0]], []⟩ 8 (by kernel_rfl) (by kernel_rfl) (by kernel_rfl) (by kernel_rfl)) ?_
  intro W base args ds gs before hval0 hW hcnd hsz0 _
  have hval : ∀ (j : Nat) t v, Try.f8.params[j]? = some t → args[j]? = some v → Value.okWide Try.prog W .any base t v := hval0
  have hW' := hW
  obtain ⟨p, q, hA0, hV, rfl, hfz, hnd⟩ := hW
  have hA : DataW.TrodAll enc Try.prog W 0 (fun _ => true) true Try.f8.params.toList args.toList ds p := hA0
  rw [Try.params8] at hA hval
  obtain ⟨v0, vs0, d0, ds0, p0, q0, hargs, rfl, rfl, h0, r0⟩ := trodAll_cons hA
  obtain ⟨v1, vs1, d1, ds1, p1, q1, rfl, rfl, rfl, h1, r1⟩ := trodAll_cons r0
  obtain ⟨v2, vs2, d2, ds2, p2, q2, rfl, rfl, rfl, h2, r2⟩ := trodAll_cons r1
  obtain ⟨v3, vs3, d3, ds3, p3, q3, rfl, rfl, rfl, h3, r3⟩ := trodAll_cons r2
  obtain ⟨rfl, rfl, rfl⟩ := trodAll_nil r3
  obtain rfl : args = #[v0, v1, v2, v3] := by cases args; simp_all
  obtain ⟨rfl, rfl⟩ := trodVars_none hV
  obtain ⟨x0, cs0, rfl, px0, kx0⟩ := Rd.open_agg R27 Try.underlying27 (hval 0 27 v0 rfl rfl) h0
  obtain ⟨A0_5, c0_5, A0_6, c0_6, rfl, l0_5, g0_5, l0_6, g0_6⟩ := P.k27_open kx0
  obtain ⟨x1, cs1, rfl, px1, kx1⟩ := Rd.open_agg R30 Try.underlying30 (hval 1 30 v1 rfl rfl) h1
  obtain rfl := k30_open kx1
  obtain ⟨x2, cs2, rfl, px2, kx2⟩ := Rd.open_agg R46 Try.underlying46 (hval 2 46 v2 rfl rfl) h2
  obtain rfl := P.k46_open kx2
  obtain ⟨x3, cs3, rfl, px3, kx3⟩ := Rd.open_agg R46 Try.underlying46 (hval 3 46 v3 rfl rfl) h3
  obtain rfl := P.k46_open kx3
  clear hA0 hval0 hval hsz0
  obtain ⟨k, hk⟩ := Pure.ValidBack x0 px0 x1 px1 x2 px2 x3 px3
  refine (P.skiarealaw26_ValidBack.calls k _ _ _ _ _ _ _ _ _ _ _ _ _ _ _ _ _ _ _ _ _ _ _ _ _ _ _ _ _ true W g0_5 l0_5 g0_6 l0_6 hk).mono fun e W' ⟨he, bel⟩ => ?_
  subst he
  exact ⟨_, rfl, _, _, _, [], _, [], hW', trodAll_mk1 (shut_bool Try.underlying4 _), (trodAll_cons_mk (Below.trod laidOut (by kernel_rfl) (of_decide_eq_true (by kernel_rfl)) h0 bel (trod_back laidOut h0)) (trodAll_cons_mk (Below.trod laidOut (by kernel_rfl) (of_decide_eq_true (by kernel_rfl)) h1 bel (trod_back laidOut h1)) (trodAll_cons_mk (Below.trod laidOut (by kernel_rfl) (of_decide_eq_true (by kernel_rfl)) h2 bel (trod_back laidOut h2)) (trodAll_cons_mk (Below.trod laidOut (by kernel_rfl) (of_decide_eq_true (by kernel_rfl)) h3 bel (trod_back laidOut h3)) trodAll_mk0)))), rfl, bel.frame _, fun h => by cases h⟩
theorem over : Rows.validBackRow.holds Try.pinned (OpenSpec.ofChange Rows.validBackSpec) :=
  OpenClaim.holds_of_wide 8 Try.f8 rfl rfl rfl rfl rfl rfl rfl ⟨rfl, rfl, rfl, rfl, rfl⟩ rfl rfl rfl rfl rfl (by kernel_rfl) Try.func8 (by kernel_rfl)
    (of_decide_eq_true (by kernel_rfl)) (by unfold Func.isWrapper; first | (rw [if_pos (by decide +kernel)]; kernel_rfl) | (rw [if_neg (by decide +kernel)]; exact ⟨rfl, rfl⟩))
    (fun os started H enc _ => lifted os started H enc)
end Go.Proofs.Ytkojejcjfbeedaa.validBack
namespace Go.Proofs.Ytkojejcjfbeedaa
theorem validBack_holds : Rows.ValidBackSaid := validBack.over
#print axioms validBack_holds
end Go.Proofs.Ytkojejcjfbeedaa
