/- By hand: how this seat's types read (api.Hours, api.Interval, api.Product). -/
import Derived.Test.YtpojelbablofpaaK
import Derived.Test.YtpojelbablofpaaO
namespace Go.Proofs.Ytpojelbablofpaa.R
open Go.RowKit Go.Proofs.YtpojelbablofpaaW.PrintWords Go.Proofs.Ytpojelbablofpaa.O Go.Proofs.Ytpojelbablofpaa.P
set_option linter.unusedVariables false
instance : Inhabited S52 := ⟨z52⟩
instance : Inhabited S32 := ⟨z32⟩
def p52 (x : S52) : Prop := I64 x.f0 ∧ I64 x.f1 ∧ I64 x.f2
def p30 (x : S30) : Prop := I64 x.f0 ∧ I64 x.f1
def Ps {α : Type} (pr : α → Prop) (l : List α) : Prop := l.length ≤ 9223372036854775807 ∧ ∀ x ∈ l, pr x
def p32 (x : S32) : Prop := I64 x.f0 ∧ I64 x.f1 ∧ I64 x.f2 ∧ I64 x.f3 ∧ I64 x.f4 ∧ Ps I64 x.f5 ∧ Ps p52 x.f6 ∧ p30 x.f7 ∧ I64 x.f8
theorem R3 : Rd Try.prog 3 (Kd.int .i64) I64 := Rd.i64 Try.underlying3 (by kernel_rfl)
theorem R52 : Rd Try.prog 52 k52 p52 := by
  unfold k52
  refine Rd.imp (Rd.struct (fun x => ⟨x.1, x.2.1, x.2.2⟩) (fun _ => rfl) Try.underlying52 (by kernel_rfl) (Fl.cons rfl rfl R3 (Fl.cons rfl rfl R3 (Fl.last rfl rfl R3)))) (fun _ h => h)
theorem R30 : Rd Try.prog 30 k30 p30 := by
  unfold k30
  refine Rd.imp (Rd.struct (fun x => ⟨x.1, x.2⟩) (fun _ => rfl) Try.underlying30 (by kernel_rfl) (Fl.cons rfl rfl R3 (Fl.last rfl rfl R3))) (fun _ h => h)
theorem R27 : Rd Try.prog 27 (Kd.slice 3 (Kd.int .i64)) (Ps I64) := Rd.slice Try.underlying27 (by kernel_rfl) R3
theorem R28 : Rd Try.prog 28 (Kd.slice 52 k52) (Ps p52) := Rd.slice Try.underlying28 (by kernel_rfl) R52
theorem R32 : Rd Try.prog 32 k32 p32 := by
  unfold k32
  refine Rd.imp (Rd.struct (fun x => ⟨x.1, x.2.1, x.2.2.1, x.2.2.2.1, x.2.2.2.2.1, x.2.2.2.2.2.1, x.2.2.2.2.2.2.1, x.2.2.2.2.2.2.2.1, x.2.2.2.2.2.2.2.2⟩) (fun _ => rfl) Try.underlying32 (by kernel_rfl)
    (Fl.cons rfl rfl R3 (Fl.cons rfl rfl R3 (Fl.cons rfl rfl R3 (Fl.cons rfl rfl R3 (Fl.cons rfl rfl R3 (Fl.cons rfl rfl R27 (Fl.cons rfl rfl R28 (Fl.cons rfl rfl R30 (Fl.last rfl rfl R3)))))))))) (fun _ h => h)
theorem R22 : Rd Try.prog 22 (Kd.slice 32 k32) (Ps p32) := Rd.slice Try.underlying22 (by kernel_rfl) R32
theorem R5 : Rd Try.prog 5 (Kd.int .u8) (fun n => (Lit.int .u8 n).wf = true) := Rd.int Try.underlying5 (by kernel_rfl)
end Go.Proofs.Ytpojelbablofpaa.R
