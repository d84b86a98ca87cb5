/- By hand: how this seat's types read (api.Hours, api.Interval, api.Product, api.Media, Try). -/
import Derived.Test.YtkojejcjfbeedaaK
import Derived.Test.YtkojejcjfbeedaaO
namespace Go.Proofs.Ytkojejcjfbeedaa.R
open Go.RowKit Go.Proofs.YtkojejcjfbeedaaW.PrintWords Go.Proofs.Ytkojejcjfbeedaa.O Go.Proofs.Ytkojejcjfbeedaa.P
set_option linter.unusedVariables false
instance : Inhabited S62 := ⟨z62⟩
instance : Inhabited S27 := ⟨z27⟩
def p62 (x : S62) : Prop := I64 x.f0 ∧ I64 x.f1 ∧ I64 x.f2
def p25 (x : S25) : Prop := I64 x.f0 ∧ I64 x.f1
def Ps {α : Type} (pr : α → Prop) (l : List α) : Prop := l.length ≤ 9223372036854775807 ∧ ∀ x ∈ l, pr x
def p27 (x : S27) : Prop := I64 x.f0 ∧ I64 x.f1 ∧ I64 x.f2 ∧ I64 x.f3 ∧ I64 x.f4 ∧ Ps I64 x.f5 ∧ Ps p62 x.f6 ∧ p25 x.f7 ∧ I64 x.f8
structure S30 where
  f0 : Int
  f1 : Int
  f2 : Int
  f3 : Int
  f4 : Int
  f5 : Int
  f6 : Int
  f7 : Int
  f8 : Int
def k30 : Kd S30 := Kd.iso (Kd.pair (Kd.int .i64) (Kd.pair (Kd.int .i64) (Kd.pair (Kd.int .i64) (Kd.pair (Kd.int .i64) (Kd.pair (Kd.int .i64) (Kd.pair (Kd.int .i64) (Kd.pair (Kd.int .i64) (Kd.pair (Kd.int .i64) (Kd.int .u64))))))))) (fun x : S30 => (x.f0, x.f1, x.f2, x.f3, x.f4, x.f5, x.f6, x.f7, x.f8))
theorem k30_open {w : World} {x : S30} {cs : List Value} (h : k30.K w x cs) : cs = [.int .i64 x.f0, .int .i64 x.f1, .int .i64 x.f2, .int .i64 x.f3, .int .i64 x.f4, .int .i64 x.f5, .int .i64 x.f6, .int .i64 x.f7, .int .u64 x.f8] := by
  obtain ⟨_, _, rfl, rfl, ⟨_, _, rfl, rfl, ⟨_, _, rfl, rfl, ⟨_, _, rfl, rfl, ⟨_, _, rfl, rfl, ⟨_, _, rfl, rfl, ⟨_, _, rfl, rfl, ⟨_, _, rfl, rfl, rfl⟩⟩⟩⟩⟩⟩⟩⟩ := h
  rfl
def p30 (x : S30) : Prop := I64 x.f0 ∧ I64 x.f1 ∧ I64 x.f2 ∧ I64 x.f3 ∧ I64 x.f4 ∧ I64 x.f5 ∧ I64 x.f6 ∧ I64 x.f7 ∧ (Lit.int .u64 x.f8).wf = true
theorem R3 : Rd Try.prog 3 (Kd.int .i64) I64 := Rd.i64 Try.underlying3 (by kernel_rfl)
theorem R28 : Rd Try.prog 28 (Kd.int .u64) (fun n => (Lit.int .u64 n).wf = true) := Rd.int Try.underlying28 (by kernel_rfl)
theorem R62 : Rd Try.prog 62 k62 p62 := by
  unfold k62
  refine Rd.imp (Rd.struct (fun x => ⟨x.1, x.2.1, x.2.2⟩) (fun _ => rfl) Try.underlying62 (by kernel_rfl) (Fl.cons rfl rfl R3 (Fl.cons rfl rfl R3 (Fl.last rfl rfl R3)))) (fun _ h => h)
theorem R25 : Rd Try.prog 25 k25 p25 := by
  unfold k25
  refine Rd.imp (Rd.struct (fun x => ⟨x.1, x.2⟩) (fun _ => rfl) Try.underlying25 (by kernel_rfl) (Fl.cons rfl rfl R3 (Fl.last rfl rfl R3))) (fun _ h => h)
theorem R22 : Rd Try.prog 22 (Kd.slice 3 (Kd.int .i64)) (Ps I64) := Rd.slice Try.underlying22 (by kernel_rfl) R3
theorem R23 : Rd Try.prog 23 (Kd.slice 62 k62) (Ps p62) := Rd.slice Try.underlying23 (by kernel_rfl) R62
theorem R27 : Rd Try.prog 27 k27 p27 := by
  unfold k27
  refine Rd.imp (Rd.struct (fun x => ⟨x.1, x.2.1, x.2.2.1, x.2.2.2.1, x.2.2.2.2.1, x.2.2.2.2.2.1, x.2.2.2.2.2.2.1, x.2.2.2.2.2.2.2.1, x.2.2.2.2.2.2.2.2⟩) (fun _ => rfl) Try.underlying27 (by kernel_rfl)
    (Fl.cons rfl rfl R3 (Fl.cons rfl rfl R3 (Fl.cons rfl rfl R3 (Fl.cons rfl rfl R3 (Fl.cons rfl rfl R3 (Fl.cons rfl rfl R22 (Fl.cons rfl rfl R23 (Fl.cons rfl rfl R25 (Fl.last rfl rfl R3)))))))))) (fun _ h => h)
theorem R30 : Rd Try.prog 30 k30 p30 := by
  unfold k30
  refine Rd.imp (Rd.struct (fun x => ⟨x.1, x.2.1, x.2.2.1, x.2.2.2.1, x.2.2.2.2.1, x.2.2.2.2.2.1, x.2.2.2.2.2.2.1, x.2.2.2.2.2.2.2.1, x.2.2.2.2.2.2.2.2⟩) (fun _ => rfl) Try.underlying30 (by kernel_rfl)
    (Fl.cons rfl rfl R3 (Fl.cons rfl rfl R3 (Fl.cons rfl rfl R3 (Fl.cons rfl rfl R3 (Fl.cons rfl rfl R3 (Fl.cons rfl rfl R3 (Fl.cons rfl rfl R3 (Fl.cons rfl rfl R3 (Fl.last rfl rfl R28)))))))))) (fun _ h => h)
def p46 (x : S46) : Prop := I64 x.f0 ∧ I64 x.f1 ∧ I64 x.f2
instance : Inhabited S46 := ⟨z46⟩
theorem R46 : Rd Try.prog 46 k46 p46 := by
  unfold k46
  refine Rd.imp (Rd.struct (fun x => ⟨x.1, x.2.1, x.2.2⟩) (fun _ => rfl) Try.underlying46 (by kernel_rfl) (Fl.cons rfl rfl R3 (Fl.cons rfl rfl R3 (Fl.last rfl rfl R3)))) (fun _ h => h)
end Go.Proofs.Ytkojejcjfbeedaa.R
