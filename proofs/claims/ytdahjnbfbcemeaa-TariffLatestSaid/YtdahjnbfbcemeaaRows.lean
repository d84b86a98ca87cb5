/-
  No cell of these rows narrows 'for every input' (looked for: loops, veiled, ifaces, maps, wideKeys, modest, calm, conditions, laid).
  DERIVED. THE GIVEN ROWS OF THIS SEAT. 7 by the template 'for every input the law returns true; each argument reads behind the call as it read before'; 0 by the template 'total and deterministic' (their statements: YtdahjnbfbcemeaaTotals.lean).
  GIVEN WITH THE SEED: the statements are not yours to turn. If you find one false, say at which input.
  Laid BY PROGRAM, IN A SANDBOX (cutbox-rows.mjs): the forced cells as the released guide's own fill.sh prints them over the translation faeb5966b7cba9ef… (all of the seat's roots in one cut). By AI agents, Wed Nov 11 2026. No macro, syntax, notation, axiom, sorry.
-/
import Derived.Test.YtdahjnbfbcemeaaChecked
import GoSem.Claim
import GoSem.ClaimJoined
import GoSem.ClaimMapViews
import Derived.JoinedTies
import Derived.KernelRfl
namespace Go.Proofs.Ytdahjnbfbcemeaa
/- THE CELL 'sum', in the pinned program and in every row, IS THE sha256 OF THE DUMP (.gsa) THAT YtdahjnbfbcemeaaProg.lean LOADS. Nothing in Lean hashes anything: it is a label: what it is worth is what the hold of that sum in a sandbox is worth. -/
noncomputable def Try.pinned : Pinned := { name := "ytdahjnbfbcemeaa", sum := "faeb5966b7cba9ef02e9f428d8ae2ed314bcc09f8fec5af05d5efb1925cf6102", checked := Try.checked }
namespace Rows
def none {H : Type} : Left H := { results := [], args := [] }

/-- 'skiarealaw33.TariffBounds': WHATEVER THE INPUT: true; the input reads as it did. -/
def tariffBoundsSpec : ChangeSpec := { name := "tariffBounds", fn := fun _ => fun
  | [d1, d2] => { results := [.lit (.bool true)], args := [d1, d2] }
  | _ => none }
def tariffBoundsRow : OpenClaim := { program := "ytdahjnbfbcemeaa", sum := "faeb5966b7cba9ef02e9f428d8ae2ed314bcc09f8fec5af05d5efb1925cf6102", func := "skiarea/skiarealaw33.TariffBounds", spec := "tariffBounds", unfollowed := true, recurses := true, apart := false }
def TariffBoundsSaid : Prop := tariffBoundsRow.holds Try.pinned (OpenSpec.ofChange tariffBoundsSpec)

/-- ITS FALSE NEIGHBOUR: 'it returns false'. Refute it at one input. -/
def tariffBoundsWrong : ChangeSpec := { name := "tariffBounds", fn := fun _ => fun
  | [d1, d2] => { results := [.lit (.bool false)], args := [d1, d2] }
  | _ => none }
def TariffBoundsWrongFalsely : Prop := tariffBoundsRow.holds Try.pinned (OpenSpec.ofChange tariffBoundsWrong)

/-- 'skiarealaw33.TariffAdds': WHATEVER THE INPUT: true; the input reads as it did. -/
def tariffAddsSpec : ChangeSpec := { name := "tariffAdds", fn := fun _ => fun
  | [d1, d2, d3] => { results := [.lit (.bool true)], args := [d1, d2, d3] }
  | _ => none }
def tariffAddsRow : OpenClaim := { program := "ytdahjnbfbcemeaa", sum := "faeb5966b7cba9ef02e9f428d8ae2ed314bcc09f8fec5af05d5efb1925cf6102", func := "skiarea/skiarealaw33.TariffAdds", spec := "tariffAdds", unfollowed := true, recurses := true, apart := false }
def TariffAddsSaid : Prop := tariffAddsRow.holds Try.pinned (OpenSpec.ofChange tariffAddsSpec)

/-- ITS FALSE NEIGHBOUR: 'it returns false'. Refute it at one input. -/
def tariffAddsWrong : ChangeSpec := { name := "tariffAdds", fn := fun _ => fun
  | [d1, d2, d3] => { results := [.lit (.bool false)], args := [d1, d2, d3] }
  | _ => none }
def TariffAddsWrongFalsely : Prop := tariffAddsRow.holds Try.pinned (OpenSpec.ofChange tariffAddsWrong)

/-- 'skiarealaw33.TariffRights': WHATEVER THE INPUT: true; the input reads as it did. -/
def tariffRightsSpec : ChangeSpec := { name := "tariffRights", fn := fun _ => fun
  | [d] => { results := [.lit (.bool true)], args := [d] }
  | _ => none }
def tariffRightsRow : OpenClaim := { program := "ytdahjnbfbcemeaa", sum := "faeb5966b7cba9ef02e9f428d8ae2ed314bcc09f8fec5af05d5efb1925cf6102", func := "skiarea/skiarealaw33.TariffRights", spec := "tariffRights", unfollowed := true, recurses := true, apart := false }
def TariffRightsSaid : Prop := tariffRightsRow.holds Try.pinned (OpenSpec.ofChange tariffRightsSpec)

/-- ITS FALSE NEIGHBOUR: 'it returns false'. Refute it at one input. -/
def tariffRightsWrong : ChangeSpec := { name := "tariffRights", fn := fun _ => fun
  | [d] => { results := [.lit (.bool false)], args := [d] }
  | _ => none }
def TariffRightsWrongFalsely : Prop := tariffRightsRow.holds Try.pinned (OpenSpec.ofChange tariffRightsWrong)

/-- 'skiarealaw33.TariffAts': WHATEVER THE INPUT: true; the input reads as it did. -/
def tariffAtsSpec : ChangeSpec := { name := "tariffAts", fn := fun _ => fun
  | [d1, d2] => { results := [.lit (.bool true)], args := [d1, d2] }
  | _ => none }
def tariffAtsRow : OpenClaim := { program := "ytdahjnbfbcemeaa", sum := "faeb5966b7cba9ef02e9f428d8ae2ed314bcc09f8fec5af05d5efb1925cf6102", func := "skiarea/skiarealaw33.TariffAts", spec := "tariffAts", unfollowed := true, recurses := true, apart := false }
def TariffAtsSaid : Prop := tariffAtsRow.holds Try.pinned (OpenSpec.ofChange tariffAtsSpec)

/-- ITS FALSE NEIGHBOUR: 'it returns false'. Refute it at one input. -/
def tariffAtsWrong : ChangeSpec := { name := "tariffAts", fn := fun _ => fun
  | [d1, d2] => { results := [.lit (.bool false)], args := [d1, d2] }
  | _ => none }
def TariffAtsWrongFalsely : Prop := tariffAtsRow.holds Try.pinned (OpenSpec.ofChange tariffAtsWrong)

/-- 'skiarealaw33.TariffPoints': WHATEVER THE INPUT: true; the input reads as it did. -/
def tariffPointsSpec : ChangeSpec := { name := "tariffPoints", fn := fun _ => fun
  | [d1, d2] => { results := [.lit (.bool true)], args := [d1, d2] }
  | _ => none }
def tariffPointsRow : OpenClaim := { program := "ytdahjnbfbcemeaa", sum := "faeb5966b7cba9ef02e9f428d8ae2ed314bcc09f8fec5af05d5efb1925cf6102", func := "skiarea/skiarealaw33.TariffPoints", spec := "tariffPoints", unfollowed := true, recurses := true, apart := false }
def TariffPointsSaid : Prop := tariffPointsRow.holds Try.pinned (OpenSpec.ofChange tariffPointsSpec)

/-- ITS FALSE NEIGHBOUR: 'it returns false'. Refute it at one input. -/
def tariffPointsWrong : ChangeSpec := { name := "tariffPoints", fn := fun _ => fun
  | [d1, d2] => { results := [.lit (.bool false)], args := [d1, d2] }
  | _ => none }
def TariffPointsWrongFalsely : Prop := tariffPointsRow.holds Try.pinned (OpenSpec.ofChange tariffPointsWrong)

/-- 'skiarealaw33.TariffSums': WHATEVER THE INPUT: true; the input reads as it did. -/
def tariffSumsSpec : ChangeSpec := { name := "tariffSums", fn := fun _ => fun
  | [d1, d2, d3] => { results := [.lit (.bool true)], args := [d1, d2, d3] }
  | _ => none }
def tariffSumsRow : OpenClaim := { program := "ytdahjnbfbcemeaa", sum := "faeb5966b7cba9ef02e9f428d8ae2ed314bcc09f8fec5af05d5efb1925cf6102", func := "skiarea/skiarealaw33.TariffSums", spec := "tariffSums", unfollowed := true, recurses := true, apart := false }
def TariffSumsSaid : Prop := tariffSumsRow.holds Try.pinned (OpenSpec.ofChange tariffSumsSpec)

/-- ITS FALSE NEIGHBOUR: 'it returns false'. Refute it at one input. -/
def tariffSumsWrong : ChangeSpec := { name := "tariffSums", fn := fun _ => fun
  | [d1, d2, d3] => { results := [.lit (.bool false)], args := [d1, d2, d3] }
  | _ => none }
def TariffSumsWrongFalsely : Prop := tariffSumsRow.holds Try.pinned (OpenSpec.ofChange tariffSumsWrong)

/-- 'skiarealaw33.TariffLatest': WHATEVER THE INPUT: true; the input reads as it did. -/
def tariffLatestSpec : ChangeSpec := { name := "tariffLatest", fn := fun _ => fun
  | [d1, d2] => { results := [.lit (.bool true)], args := [d1, d2] }
  | _ => none }
def tariffLatestRow : OpenClaim := { program := "ytdahjnbfbcemeaa", sum := "faeb5966b7cba9ef02e9f428d8ae2ed314bcc09f8fec5af05d5efb1925cf6102", func := "skiarea/skiarealaw33.TariffLatest", spec := "tariffLatest", unfollowed := true, recurses := true, apart := false }
def TariffLatestSaid : Prop := tariffLatestRow.holds Try.pinned (OpenSpec.ofChange tariffLatestSpec)

/-- ITS FALSE NEIGHBOUR: 'it returns false'. Refute it at one input. -/
def tariffLatestWrong : ChangeSpec := { name := "tariffLatest", fn := fun _ => fun
  | [d1, d2] => { results := [.lit (.bool false)], args := [d1, d2] }
  | _ => none }
def TariffLatestWrongFalsely : Prop := tariffLatestRow.holds Try.pinned (OpenSpec.ofChange tariffLatestWrong)

/- THE SECOND FORM. 'bulk': how many values and letters a reading holds, each counted each time it is reached (what is shared counts as often as it is met; a slice's spare places count too). A statement '..UptoSaid' is the law's where the arguments, and the package variables that the reading takes, are together of bulk at most 1048576: NARROWER than '..Said'. Prove '..Said' where nothing that the law and all that it calls make is longer than what came in: it says more and counts as full. Else prove '..UptoSaid'. A law counts once. -/
mutual
def uptoBulk {H : Type} : DataW H → Nat
  | .lit (.string bytes) => bytes.length + 1
  | .lit _ => 1
  | .nil => 1
  | .ptr d => uptoBulk d + 1
  | .slice elems spare => uptoBulkAll elems + uptoBulkAll spare + 1
  | .agg parts => uptoBulkAll parts + 1
  | .iface _ d => uptoBulk d + 1
  | .map entries => uptoBulkEntries entries + 1
  | .held _ => 1
def uptoBulkAll {H : Type} : List (DataW H) → Nat
  | [] => 0
  | d :: r => uptoBulk d + uptoBulkAll r
def uptoBulkEntries {H : Type} : List (Lit × DataW H) → Nat
  | [] => 0
  | x :: r => uptoBulkEntry x + uptoBulkEntries r
def uptoBulkEntry {H : Type} : Lit × DataW H → Nat
  | (.string bytes, d) => bytes.length + uptoBulk d + 1
  | (_, d) => uptoBulk d + 1
 end
def uptoSmall : (H : Type) → List (DataW H) → Bool := fun _ ds => decide (uptoBulkAll ds ≤ 1048576)
def OpenSpec.upto (s : _root_.Go.ChangeSpec) : _root_.Go.OpenSpec := { _root_.Go.OpenSpec.ofChange s with cond := some uptoSmall }

/-- 'skiarealaw33.TariffBounds', WHERE WHAT IT READS IS OF BULK AT MOST 1048576: true; the input reads as it did. -/
def tariffBoundsUptoRow : OpenClaim := { program := "ytdahjnbfbcemeaa", sum := "faeb5966b7cba9ef02e9f428d8ae2ed314bcc09f8fec5af05d5efb1925cf6102", func := "skiarea/skiarealaw33.TariffBounds", spec := "tariffBounds", unfollowed := true, recurses := true, apart := false, narrowed := true }
def TariffBoundsUptoSaid : Prop := tariffBoundsUptoRow.holds Try.pinned (OpenSpec.upto tariffBoundsSpec)

/-- 'skiarealaw33.TariffAdds', WHERE WHAT IT READS IS OF BULK AT MOST 1048576: true; the input reads as it did. -/
def tariffAddsUptoRow : OpenClaim := { program := "ytdahjnbfbcemeaa", sum := "faeb5966b7cba9ef02e9f428d8ae2ed314bcc09f8fec5af05d5efb1925cf6102", func := "skiarea/skiarealaw33.TariffAdds", spec := "tariffAdds", unfollowed := true, recurses := true, apart := false, narrowed := true }
def TariffAddsUptoSaid : Prop := tariffAddsUptoRow.holds Try.pinned (OpenSpec.upto tariffAddsSpec)

/-- 'skiarealaw33.TariffRights', WHERE WHAT IT READS IS OF BULK AT MOST 1048576: true; the input reads as it did. -/
def tariffRightsUptoRow : OpenClaim := { program := "ytdahjnbfbcemeaa", sum := "faeb5966b7cba9ef02e9f428d8ae2ed314bcc09f8fec5af05d5efb1925cf6102", func := "skiarea/skiarealaw33.TariffRights", spec := "tariffRights", unfollowed := true, recurses := true, apart := false, narrowed := true }
def TariffRightsUptoSaid : Prop := tariffRightsUptoRow.holds Try.pinned (OpenSpec.upto tariffRightsSpec)

/-- 'skiarealaw33.TariffAts', WHERE WHAT IT READS IS OF BULK AT MOST 1048576: true; the input reads as it did. -/
def tariffAtsUptoRow : OpenClaim := { program := "ytdahjnbfbcemeaa", sum := "faeb5966b7cba9ef02e9f428d8ae2ed314bcc09f8fec5af05d5efb1925cf6102", func := "skiarea/skiarealaw33.TariffAts", spec := "tariffAts", unfollowed := true, recurses := true, apart := false, narrowed := true }
def TariffAtsUptoSaid : Prop := tariffAtsUptoRow.holds Try.pinned (OpenSpec.upto tariffAtsSpec)

/-- 'skiarealaw33.TariffPoints', WHERE WHAT IT READS IS OF BULK AT MOST 1048576: true; the input reads as it did. -/
def tariffPointsUptoRow : OpenClaim := { program := "ytdahjnbfbcemeaa", sum := "faeb5966b7cba9ef02e9f428d8ae2ed314bcc09f8fec5af05d5efb1925cf6102", func := "skiarea/skiarealaw33.TariffPoints", spec := "tariffPoints", unfollowed := true, recurses := true, apart := false, narrowed := true }
def TariffPointsUptoSaid : Prop := tariffPointsUptoRow.holds Try.pinned (OpenSpec.upto tariffPointsSpec)

/-- 'skiarealaw33.TariffSums', WHERE WHAT IT READS IS OF BULK AT MOST 1048576: true; the input reads as it did. -/
def tariffSumsUptoRow : OpenClaim := { program := "ytdahjnbfbcemeaa", sum := "faeb5966b7cba9ef02e9f428d8ae2ed314bcc09f8fec5af05d5efb1925cf6102", func := "skiarea/skiarealaw33.TariffSums", spec := "tariffSums", unfollowed := true, recurses := true, apart := false, narrowed := true }
def TariffSumsUptoSaid : Prop := tariffSumsUptoRow.holds Try.pinned (OpenSpec.upto tariffSumsSpec)

/-- 'skiarealaw33.TariffLatest', WHERE WHAT IT READS IS OF BULK AT MOST 1048576: true; the input reads as it did. -/
def tariffLatestUptoRow : OpenClaim := { program := "ytdahjnbfbcemeaa", sum := "faeb5966b7cba9ef02e9f428d8ae2ed314bcc09f8fec5af05d5efb1925cf6102", func := "skiarea/skiarealaw33.TariffLatest", spec := "tariffLatest", unfollowed := true, recurses := true, apart := false, narrowed := true }
def TariffLatestUptoSaid : Prop := tariffLatestUptoRow.holds Try.pinned (OpenSpec.upto tariffLatestSpec)

end Rows
end Go.Proofs.Ytdahjnbfbcemeaa
