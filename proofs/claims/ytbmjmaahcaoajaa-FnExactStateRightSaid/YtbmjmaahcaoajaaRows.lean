/-
  No cell of these rows narrows 'for every input' (looked for: loops, veiled, ifaces, maps, wideKeys, modest, calm, conditions, laid).
  DERIVED. THE GIVEN ROWS OF THIS SEAT. 11 by the template 'for every input the law returns true; each argument reads behind the call as it read before'; 0 by the template 'total and deterministic' (their statements: YtbmjmaahcaoajaaTotals.lean).
  GIVEN WITH THE SEED: the statements are not yours to turn. If you find one false, say at which input.
  Laid BY PROGRAM, IN A SANDBOX (cutbox-rows.mjs): the forced cells as the released guide's own fill.sh prints them over the translation 876241078ad8633d… (all of the seat's roots in one cut). By AI agents, Wed Nov 11 2026. No macro, syntax, notation, axiom, sorry.
-/
import Derived.Test.YtbmjmaahcaoajaaChecked
import GoSem.Claim
import GoSem.ClaimJoined
import GoSem.ClaimMapViews
import Derived.JoinedTies
import Derived.KernelRfl
namespace Go.Proofs.Ytbmjmaahcaoajaa
/- THE CELL 'sum', in the pinned program and in every row, IS THE sha256 OF THE DUMP (.gsa) THAT YtbmjmaahcaoajaaProg.lean LOADS. Nothing in Lean hashes anything: it is a label: what it is worth is what the hold of that sum in a sandbox is worth. -/
noncomputable def Try.pinned : Pinned := { name := "ytbmjmaahcaoajaa", sum := "876241078ad8633dca9e3a3784306b0039ff1b1a480175349adf41460dfe31cf", checked := Try.checked }
namespace Rows
def none {H : Type} : Left H := { results := [], args := [] }

/-- 'laws.FnExactHeights': WHATEVER THE INPUT: true; the input reads as it did. -/
def fnExactHeightsSpec : ChangeSpec := { name := "fnExactHeights", fn := fun _ => fun
  | [d1, d2] => { results := [.lit (.bool true)], args := [d1, d2] }
  | _ => none }
def fnExactHeightsRow : OpenClaim := { program := "ytbmjmaahcaoajaa", sum := "876241078ad8633dca9e3a3784306b0039ff1b1a480175349adf41460dfe31cf", func := "loop.example/g00219/laws.FnExactHeights", spec := "fnExactHeights", apart := false }
def FnExactHeightsSaid : Prop := fnExactHeightsRow.holds Try.pinned (OpenSpec.ofChange fnExactHeightsSpec)

/-- ITS FALSE NEIGHBOUR: 'it returns false'. Refute it at one input. -/
def fnExactHeightsWrong : ChangeSpec := { name := "fnExactHeights", fn := fun _ => fun
  | [d1, d2] => { results := [.lit (.bool false)], args := [d1, d2] }
  | _ => none }
def FnExactHeightsWrongFalsely : Prop := fnExactHeightsRow.holds Try.pinned (OpenSpec.ofChange fnExactHeightsWrong)

/-- 'laws.FnExactFileBytes': WHATEVER THE INPUT: true; the input reads as it did. -/
def fnExactFileBytesSpec : ChangeSpec := { name := "fnExactFileBytes", fn := fun _ => fun
  | [d] => { results := [.lit (.bool true)], args := [d] }
  | _ => none }
def fnExactFileBytesRow : OpenClaim := { program := "ytbmjmaahcaoajaa", sum := "876241078ad8633dca9e3a3784306b0039ff1b1a480175349adf41460dfe31cf", func := "loop.example/g00219/laws.FnExactFileBytes", spec := "fnExactFileBytes", apart := false }
def FnExactFileBytesSaid : Prop := fnExactFileBytesRow.holds Try.pinned (OpenSpec.ofChange fnExactFileBytesSpec)

/-- ITS FALSE NEIGHBOUR: 'it returns false'. Refute it at one input. -/
def fnExactFileBytesWrong : ChangeSpec := { name := "fnExactFileBytes", fn := fun _ => fun
  | [d] => { results := [.lit (.bool false)], args := [d] }
  | _ => none }
def FnExactFileBytesWrongFalsely : Prop := fnExactFileBytesRow.holds Try.pinned (OpenSpec.ofChange fnExactFileBytesWrong)

/-- 'laws.FnExactHeaders': WHATEVER THE INPUT: true; the input reads as it did. -/
def fnExactHeadersSpec : ChangeSpec := { name := "fnExactHeaders", fn := fun _ => fun
  | [d1, d2] => { results := [.lit (.bool true)], args := [d1, d2] }
  | _ => none }
def fnExactHeadersRow : OpenClaim := { program := "ytbmjmaahcaoajaa", sum := "876241078ad8633dca9e3a3784306b0039ff1b1a480175349adf41460dfe31cf", func := "loop.example/g00219/laws.FnExactHeaders", spec := "fnExactHeaders", apart := false }
def FnExactHeadersSaid : Prop := fnExactHeadersRow.holds Try.pinned (OpenSpec.ofChange fnExactHeadersSpec)

/-- ITS FALSE NEIGHBOUR: 'it returns false'. Refute it at one input. -/
def fnExactHeadersWrong : ChangeSpec := { name := "fnExactHeaders", fn := fun _ => fun
  | [d1, d2] => { results := [.lit (.bool false)], args := [d1, d2] }
  | _ => none }
def FnExactHeadersWrongFalsely : Prop := fnExactHeadersRow.holds Try.pinned (OpenSpec.ofChange fnExactHeadersWrong)

/-- 'laws.FnExactSeenRight': WHATEVER THE INPUT: true; the input reads as it did. -/
def fnExactSeenRightSpec : ChangeSpec := { name := "fnExactSeenRight", fn := fun _ => fun
  | [d1, d2] => { results := [.lit (.bool true)], args := [d1, d2] }
  | _ => none }
def fnExactSeenRightRow : OpenClaim := { program := "ytbmjmaahcaoajaa", sum := "876241078ad8633dca9e3a3784306b0039ff1b1a480175349adf41460dfe31cf", func := "loop.example/g00219/laws.FnExactSeenRight", spec := "fnExactSeenRight", apart := false }
def FnExactSeenRightSaid : Prop := fnExactSeenRightRow.holds Try.pinned (OpenSpec.ofChange fnExactSeenRightSpec)

/-- ITS FALSE NEIGHBOUR: 'it returns false'. Refute it at one input. -/
def fnExactSeenRightWrong : ChangeSpec := { name := "fnExactSeenRight", fn := fun _ => fun
  | [d1, d2] => { results := [.lit (.bool false)], args := [d1, d2] }
  | _ => none }
def FnExactSeenRightWrongFalsely : Prop := fnExactSeenRightRow.holds Try.pinned (OpenSpec.ofChange fnExactSeenRightWrong)

/-- 'laws.FnExactPlainSize': WHATEVER THE INPUT: true; the input reads as it did. -/
def fnExactPlainSizeSpec : ChangeSpec := { name := "fnExactPlainSize", fn := fun _ => fun
  | [d1, d2] => { results := [.lit (.bool true)], args := [d1, d2] }
  | _ => none }
def fnExactPlainSizeRow : OpenClaim := { program := "ytbmjmaahcaoajaa", sum := "876241078ad8633dca9e3a3784306b0039ff1b1a480175349adf41460dfe31cf", func := "loop.example/g00219/laws.FnExactPlainSize", spec := "fnExactPlainSize", unfollowed := true, recurses := true, apart := false }
def FnExactPlainSizeSaid : Prop := fnExactPlainSizeRow.holds Try.pinned (OpenSpec.ofChange fnExactPlainSizeSpec)

/-- ITS FALSE NEIGHBOUR: 'it returns false'. Refute it at one input. -/
def fnExactPlainSizeWrong : ChangeSpec := { name := "fnExactPlainSize", fn := fun _ => fun
  | [d1, d2] => { results := [.lit (.bool false)], args := [d1, d2] }
  | _ => none }
def FnExactPlainSizeWrongFalsely : Prop := fnExactPlainSizeRow.holds Try.pinned (OpenSpec.ofChange fnExactPlainSizeWrong)

/-- 'laws.FnExactGuess': WHATEVER THE INPUT: true; the input reads as it did. -/
def fnExactGuessSpec : ChangeSpec := { name := "fnExactGuess", fn := fun _ => fun
  | [d1, d2, d3, d4] => { results := [.lit (.bool true)], args := [d1, d2, d3, d4] }
  | _ => none }
def fnExactGuessRow : OpenClaim := { program := "ytbmjmaahcaoajaa", sum := "876241078ad8633dca9e3a3784306b0039ff1b1a480175349adf41460dfe31cf", func := "loop.example/g00219/laws.FnExactGuess", spec := "fnExactGuess", unfollowed := true, recurses := true, apart := false }
def FnExactGuessSaid : Prop := fnExactGuessRow.holds Try.pinned (OpenSpec.ofChange fnExactGuessSpec)

/-- ITS FALSE NEIGHBOUR: 'it returns false'. Refute it at one input. -/
def fnExactGuessWrong : ChangeSpec := { name := "fnExactGuess", fn := fun _ => fun
  | [d1, d2, d3, d4] => { results := [.lit (.bool false)], args := [d1, d2, d3, d4] }
  | _ => none }
def FnExactGuessWrongFalsely : Prop := fnExactGuessRow.holds Try.pinned (OpenSpec.ofChange fnExactGuessWrong)

/-- 'laws.FnExactLive': WHATEVER THE INPUT: true; the input reads as it did. -/
def fnExactLiveSpec : ChangeSpec := { name := "fnExactLive", fn := fun _ => fun
  | [d1, d2] => { results := [.lit (.bool true)], args := [d1, d2] }
  | _ => none }
def fnExactLiveRow : OpenClaim := { program := "ytbmjmaahcaoajaa", sum := "876241078ad8633dca9e3a3784306b0039ff1b1a480175349adf41460dfe31cf", func := "loop.example/g00219/laws.FnExactLive", spec := "fnExactLive", apart := false }
def FnExactLiveSaid : Prop := fnExactLiveRow.holds Try.pinned (OpenSpec.ofChange fnExactLiveSpec)

/-- ITS FALSE NEIGHBOUR: 'it returns false'. Refute it at one input. -/
def fnExactLiveWrong : ChangeSpec := { name := "fnExactLive", fn := fun _ => fun
  | [d1, d2] => { results := [.lit (.bool false)], args := [d1, d2] }
  | _ => none }
def FnExactLiveWrongFalsely : Prop := fnExactLiveRow.holds Try.pinned (OpenSpec.ofChange fnExactLiveWrong)

/-- 'laws.FnExactBegin': WHATEVER THE INPUT: true; the input reads as it did. -/
def fnExactBeginSpec : ChangeSpec := { name := "fnExactBegin", fn := fun _ => fun
  | [d1, d2, d3, d4] => { results := [.lit (.bool true)], args := [d1, d2, d3, d4] }
  | _ => none }
def fnExactBeginRow : OpenClaim := { program := "ytbmjmaahcaoajaa", sum := "876241078ad8633dca9e3a3784306b0039ff1b1a480175349adf41460dfe31cf", func := "loop.example/g00219/laws.FnExactBegin", spec := "fnExactBegin", apart := false }
def FnExactBeginSaid : Prop := fnExactBeginRow.holds Try.pinned (OpenSpec.ofChange fnExactBeginSpec)

/-- ITS FALSE NEIGHBOUR: 'it returns false'. Refute it at one input. -/
def fnExactBeginWrong : ChangeSpec := { name := "fnExactBegin", fn := fun _ => fun
  | [d1, d2, d3, d4] => { results := [.lit (.bool false)], args := [d1, d2, d3, d4] }
  | _ => none }
def FnExactBeginWrongFalsely : Prop := fnExactBeginRow.holds Try.pinned (OpenSpec.ofChange fnExactBeginWrong)

/-- 'laws.FnExactHomesRight': WHATEVER THE INPUT: true; the input reads as it did. -/
def fnExactHomesRightSpec : ChangeSpec := { name := "fnExactHomesRight", fn := fun _ => fun
  | [d1, d2, d3] => { results := [.lit (.bool true)], args := [d1, d2, d3] }
  | _ => none }
def fnExactHomesRightRow : OpenClaim := { program := "ytbmjmaahcaoajaa", sum := "876241078ad8633dca9e3a3784306b0039ff1b1a480175349adf41460dfe31cf", func := "loop.example/g00219/laws.FnExactHomesRight", spec := "fnExactHomesRight", unfollowed := true, recurses := true, apart := false }
def FnExactHomesRightSaid : Prop := fnExactHomesRightRow.holds Try.pinned (OpenSpec.ofChange fnExactHomesRightSpec)

/-- ITS FALSE NEIGHBOUR: 'it returns false'. Refute it at one input. -/
def fnExactHomesRightWrong : ChangeSpec := { name := "fnExactHomesRight", fn := fun _ => fun
  | [d1, d2, d3] => { results := [.lit (.bool false)], args := [d1, d2, d3] }
  | _ => none }
def FnExactHomesRightWrongFalsely : Prop := fnExactHomesRightRow.holds Try.pinned (OpenSpec.ofChange fnExactHomesRightWrong)

/-- 'laws.FnExactMixTold': WHATEVER THE INPUT: true; the input reads as it did. -/
def fnExactMixToldSpec : ChangeSpec := { name := "fnExactMixTold", fn := fun _ => fun
  | [d] => { results := [.lit (.bool true)], args := [d] }
  | _ => none }
def fnExactMixToldRow : OpenClaim := { program := "ytbmjmaahcaoajaa", sum := "876241078ad8633dca9e3a3784306b0039ff1b1a480175349adf41460dfe31cf", func := "loop.example/g00219/laws.FnExactMixTold", spec := "fnExactMixTold", apart := false }
def FnExactMixToldSaid : Prop := fnExactMixToldRow.holds Try.pinned (OpenSpec.ofChange fnExactMixToldSpec)

/-- ITS FALSE NEIGHBOUR: 'it returns false'. Refute it at one input. -/
def fnExactMixToldWrong : ChangeSpec := { name := "fnExactMixTold", fn := fun _ => fun
  | [d] => { results := [.lit (.bool false)], args := [d] }
  | _ => none }
def FnExactMixToldWrongFalsely : Prop := fnExactMixToldRow.holds Try.pinned (OpenSpec.ofChange fnExactMixToldWrong)

/-- 'laws.FnExactStateRight': WHATEVER THE INPUT: true; the input reads as it did. -/
def fnExactStateRightSpec : ChangeSpec := { name := "fnExactStateRight", fn := fun _ => fun
  | [d1, d2] => { results := [.lit (.bool true)], args := [d1, d2] }
  | _ => none }
def fnExactStateRightRow : OpenClaim := { program := "ytbmjmaahcaoajaa", sum := "876241078ad8633dca9e3a3784306b0039ff1b1a480175349adf41460dfe31cf", func := "loop.example/g00219/laws.FnExactStateRight", spec := "fnExactStateRight", apart := false }
def FnExactStateRightSaid : Prop := fnExactStateRightRow.holds Try.pinned (OpenSpec.ofChange fnExactStateRightSpec)

/-- ITS FALSE NEIGHBOUR: 'it returns false'. Refute it at one input. -/
def fnExactStateRightWrong : ChangeSpec := { name := "fnExactStateRight", fn := fun _ => fun
  | [d1, d2] => { results := [.lit (.bool false)], args := [d1, d2] }
  | _ => none }
def FnExactStateRightWrongFalsely : Prop := fnExactStateRightRow.holds Try.pinned (OpenSpec.ofChange fnExactStateRightWrong)

/- THE SECOND FORM. 'bulk': how many values and letters a reading holds, each counted each time it is reached (what is shared counts as often as it is met; a slice's spare places count too). A statement '..UptoSaid' is the law's where the arguments, and the package variables that the reading takes, are together of bulk at most 1048576: NARROWER than '..Said'. Prove '..Said' where nothing that the law and all that it calls make is longer than what came in: it says more and counts as full. Else prove '..UptoSaid'. A law counts once. -/
mutual
def uptoBulk {H : Type} : DataW H → Nat
  | .lit (.string bytes) => bytes.length + 1
  | .lit _ => 1
  | .nil => 1
  | .ptr d => uptoBulk d + 1
  | .slice elems spare => uptoBulkAll elems + uptoBulkAll spare + 1
  | .agg parts => uptoBulkAll parts + 1
  | .iface _ d => uptoBulk d + 1
  | .map entries => uptoBulkEntries entries + 1
  | .held _ => 1
def uptoBulkAll {H : Type} : List (DataW H) → Nat
  | [] => 0
  | d :: r => uptoBulk d + uptoBulkAll r
def uptoBulkEntries {H : Type} : List (Lit × DataW H) → Nat
  | [] => 0
  | x :: r => uptoBulkEntry x + uptoBulkEntries r
def uptoBulkEntry {H : Type} : Lit × DataW H → Nat
  | (.string bytes, d) => bytes.length + uptoBulk d + 1
  | (_, d) => uptoBulk d + 1
 end
def uptoSmall : (H : Type) → List (DataW H) → Bool := fun _ ds => decide (uptoBulkAll ds ≤ 1048576)
def OpenSpec.upto (s : _root_.Go.ChangeSpec) : _root_.Go.OpenSpec := { _root_.Go.OpenSpec.ofChange s with cond := some uptoSmall }

/-- 'laws.FnExactHeights', WHERE WHAT IT READS IS OF BULK AT MOST 1048576: true; the input reads as it did. -/
def fnExactHeightsUptoRow : OpenClaim := { program := "ytbmjmaahcaoajaa", sum := "876241078ad8633dca9e3a3784306b0039ff1b1a480175349adf41460dfe31cf", func := "loop.example/g00219/laws.FnExactHeights", spec := "fnExactHeights", apart := false, narrowed := true }
def FnExactHeightsUptoSaid : Prop := fnExactHeightsUptoRow.holds Try.pinned (OpenSpec.upto fnExactHeightsSpec)

/-- 'laws.FnExactFileBytes', WHERE WHAT IT READS IS OF BULK AT MOST 1048576: true; the input reads as it did. -/
def fnExactFileBytesUptoRow : OpenClaim := { program := "ytbmjmaahcaoajaa", sum := "876241078ad8633dca9e3a3784306b0039ff1b1a480175349adf41460dfe31cf", func := "loop.example/g00219/laws.FnExactFileBytes", spec := "fnExactFileBytes", apart := false, narrowed := true }
def FnExactFileBytesUptoSaid : Prop := fnExactFileBytesUptoRow.holds Try.pinned (OpenSpec.upto fnExactFileBytesSpec)

/-- 'laws.FnExactHeaders', WHERE WHAT IT READS IS OF BULK AT MOST 1048576: true; the input reads as it did. -/
def fnExactHeadersUptoRow : OpenClaim := { program := "ytbmjmaahcaoajaa", sum := "876241078ad8633dca9e3a3784306b0039ff1b1a480175349adf41460dfe31cf", func := "loop.example/g00219/laws.FnExactHeaders", spec := "fnExactHeaders", apart := false, narrowed := true }
def FnExactHeadersUptoSaid : Prop := fnExactHeadersUptoRow.holds Try.pinned (OpenSpec.upto fnExactHeadersSpec)

/-- 'laws.FnExactSeenRight', WHERE WHAT IT READS IS OF BULK AT MOST 1048576: true; the input reads as it did. -/
def fnExactSeenRightUptoRow : OpenClaim := { program := "ytbmjmaahcaoajaa", sum := "876241078ad8633dca9e3a3784306b0039ff1b1a480175349adf41460dfe31cf", func := "loop.example/g00219/laws.FnExactSeenRight", spec := "fnExactSeenRight", apart := false, narrowed := true }
def FnExactSeenRightUptoSaid : Prop := fnExactSeenRightUptoRow.holds Try.pinned (OpenSpec.upto fnExactSeenRightSpec)

/-- 'laws.FnExactPlainSize', WHERE WHAT IT READS IS OF BULK AT MOST 1048576: true; the input reads as it did. -/
def fnExactPlainSizeUptoRow : OpenClaim := { program := "ytbmjmaahcaoajaa", sum := "876241078ad8633dca9e3a3784306b0039ff1b1a480175349adf41460dfe31cf", func := "loop.example/g00219/laws.FnExactPlainSize", spec := "fnExactPlainSize", unfollowed := true, recurses := true, apart := false, narrowed := true }
def FnExactPlainSizeUptoSaid : Prop := fnExactPlainSizeUptoRow.holds Try.pinned (OpenSpec.upto fnExactPlainSizeSpec)

/-- 'laws.FnExactGuess', WHERE WHAT IT READS IS OF BULK AT MOST 1048576: true; the input reads as it did. -/
def fnExactGuessUptoRow : OpenClaim := { program := "ytbmjmaahcaoajaa", sum := "876241078ad8633dca9e3a3784306b0039ff1b1a480175349adf41460dfe31cf", func := "loop.example/g00219/laws.FnExactGuess", spec := "fnExactGuess", unfollowed := true, recurses := true, apart := false, narrowed := true }
def FnExactGuessUptoSaid : Prop := fnExactGuessUptoRow.holds Try.pinned (OpenSpec.upto fnExactGuessSpec)

/-- 'laws.FnExactLive', WHERE WHAT IT READS IS OF BULK AT MOST 1048576: true; the input reads as it did. -/
def fnExactLiveUptoRow : OpenClaim := { program := "ytbmjmaahcaoajaa", sum := "876241078ad8633dca9e3a3784306b0039ff1b1a480175349adf41460dfe31cf", func := "loop.example/g00219/laws.FnExactLive", spec := "fnExactLive", apart := false, narrowed := true }
def FnExactLiveUptoSaid : Prop := fnExactLiveUptoRow.holds Try.pinned (OpenSpec.upto fnExactLiveSpec)

/-- 'laws.FnExactBegin', WHERE WHAT IT READS IS OF BULK AT MOST 1048576: true; the input reads as it did. -/
def fnExactBeginUptoRow : OpenClaim := { program := "ytbmjmaahcaoajaa", sum := "876241078ad8633dca9e3a3784306b0039ff1b1a480175349adf41460dfe31cf", func := "loop.example/g00219/laws.FnExactBegin", spec := "fnExactBegin", apart := false, narrowed := true }
def FnExactBeginUptoSaid : Prop := fnExactBeginUptoRow.holds Try.pinned (OpenSpec.upto fnExactBeginSpec)

/-- 'laws.FnExactHomesRight', WHERE WHAT IT READS IS OF BULK AT MOST 1048576: true; the input reads as it did. -/
def fnExactHomesRightUptoRow : OpenClaim := { program := "ytbmjmaahcaoajaa", sum := "876241078ad8633dca9e3a3784306b0039ff1b1a480175349adf41460dfe31cf", func := "loop.example/g00219/laws.FnExactHomesRight", spec := "fnExactHomesRight", unfollowed := true, recurses := true, apart := false, narrowed := true }
def FnExactHomesRightUptoSaid : Prop := fnExactHomesRightUptoRow.holds Try.pinned (OpenSpec.upto fnExactHomesRightSpec)

/-- 'laws.FnExactMixTold', WHERE WHAT IT READS IS OF BULK AT MOST 1048576: true; the input reads as it did. -/
def fnExactMixToldUptoRow : OpenClaim := { program := "ytbmjmaahcaoajaa", sum := "876241078ad8633dca9e3a3784306b0039ff1b1a480175349adf41460dfe31cf", func := "loop.example/g00219/laws.FnExactMixTold", spec := "fnExactMixTold", apart := false, narrowed := true }
def FnExactMixToldUptoSaid : Prop := fnExactMixToldUptoRow.holds Try.pinned (OpenSpec.upto fnExactMixToldSpec)

/-- 'laws.FnExactStateRight', WHERE WHAT IT READS IS OF BULK AT MOST 1048576: true; the input reads as it did. -/
def fnExactStateRightUptoRow : OpenClaim := { program := "ytbmjmaahcaoajaa", sum := "876241078ad8633dca9e3a3784306b0039ff1b1a480175349adf41460dfe31cf", func := "loop.example/g00219/laws.FnExactStateRight", spec := "fnExactStateRight", apart := false, narrowed := true }
def FnExactStateRightUptoSaid : Prop := fnExactStateRightUptoRow.holds Try.pinned (OpenSpec.upto fnExactStateRightSpec)

end Rows
end Go.Proofs.Ytbmjmaahcaoajaa
