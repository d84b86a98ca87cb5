/- By hand: how this seat's types read (api.Hours, api.Rate, api.Tariff, api.Ride). -/
import Derived.Test.YtdahjnbfbcemeaaK
import Derived.Test.YtdahjnbfbcemeaaO
namespace Go.Proofs.Ytdahjnbfbcemeaa.R
open Go.RowKit Go.Proofs.YtdahjnbfbcemeaaW.PrintWords Go.Proofs.Ytdahjnbfbcemeaa.O Go.Proofs.Ytdahjnbfbcemeaa.P
set_option linter.unusedVariables false
instance : Inhabited S54 := ⟨z54⟩
instance : Inhabited S35 := ⟨z35⟩
instance : Inhabited S30 := ⟨z30⟩
instance : Inhabited S24 := ⟨z24⟩
def Ps {α : Type} (pr : α → Prop) (l : List α) : Prop := l.length ≤ 9223372036854775807 ∧ ∀ x ∈ l, pr x
def p54 (x : S54) : Prop := I64 x.f0 ∧ I64 x.f1 ∧ I64 x.f2
def p35 (x : S35) : Prop := I64 x.f0 ∧ I64 x.f1 ∧ I64 x.f2 ∧ Ps p54 x.f3
def p30 (x : S30) : Prop := I64 x.f0 ∧ Ps p35 x.f1
def p24 (x : S24) : Prop := I64 x.f0 ∧ I64 x.f1 ∧ I64 x.f2 ∧ I64 x.f3 ∧ I64 x.f4 ∧ I64 x.f5 ∧ I64 x.f6
theorem R3 : Rd Try.prog 3 (Kd.int .i64) I64 := Rd.i64 Try.underlying3 (by kernel_rfl)
theorem R54 : Rd Try.prog 54 k54 p54 := by
  unfold k54
  refine Rd.imp (Rd.struct (fun x => ⟨x.1, x.2.1, x.2.2⟩) (fun _ => rfl) Try.underlying54 (by kernel_rfl) (Fl.cons rfl rfl R3 (Fl.cons rfl rfl R3 (Fl.last rfl rfl R3)))) (fun _ h => h)
theorem R33 : Rd Try.prog 33 (Kd.slice 54 k54) (Ps p54) := Rd.slice Try.underlying33 (by kernel_rfl) R54
theorem R35 : Rd Try.prog 35 k35 p35 := by
  unfold k35
  refine Rd.imp (Rd.struct (fun x => ⟨x.1, x.2.1, x.2.2.1, x.2.2.2⟩) (fun _ => rfl) Try.underlying35 (by kernel_rfl) (Fl.cons rfl rfl R3 (Fl.cons rfl rfl R3 (Fl.cons rfl rfl R3 (Fl.last rfl rfl R33))))) (fun _ h => h)
theorem R28 : Rd Try.prog 28 (Kd.slice 35 k35) (Ps p35) := Rd.slice Try.underlying28 (by kernel_rfl) R35
theorem R30 : Rd Try.prog 30 k30 p30 := by
  unfold k30
  refine Rd.imp (Rd.struct (fun x => ⟨x.1, x.2⟩) (fun _ => rfl) Try.underlying30 (by kernel_rfl) (Fl.cons rfl rfl R3 (Fl.last rfl rfl R28))) (fun _ h => h)
theorem R24 : Rd Try.prog 24 k24 p24 := by
  unfold k24
  refine Rd.imp (Rd.struct (fun x => ⟨x.1, x.2.1, x.2.2.1, x.2.2.2.1, x.2.2.2.2.1, x.2.2.2.2.2.1, x.2.2.2.2.2.2⟩) (fun _ => rfl) Try.underlying24 (by kernel_rfl)
    (Fl.cons rfl rfl R3 (Fl.cons rfl rfl R3 (Fl.cons rfl rfl R3 (Fl.cons rfl rfl R3 (Fl.cons rfl rfl R3 (Fl.cons rfl rfl R3 (Fl.last rfl rfl R3)))))))) (fun _ h => h)
end Go.Proofs.Ytdahjnbfbcemeaa.R
