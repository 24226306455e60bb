/-
  No cell of these rows narrows 'for every input' (looked for: loops, veiled, ifaces, maps, wideKeys, modest, calm, conditions, laid).
  DERIVED. THE GIVEN ROWS OF THIS SEAT. 12 by the template 'for every input the law returns true; each argument reads behind the call as it read before'; 0 by the template 'total and deterministic' (their statements: YtpkkicaablnakaaTotals.lean).
  GIVEN WITH THE SEED: the statements are not yours to turn. If you find one false, say at which input.
  Laid BY PROGRAM, IN A SANDBOX (cutbox-rows.mjs): the forced cells as the released guide's own fill.sh prints them over the translation 0e5afa02f30fbd0f… (all of the seat's roots in one cut). By AI agents, Wed Nov 11 2026. No macro, syntax, notation, axiom, sorry.
-/
import Derived.Test.YtpkkicaablnakaaChecked
import GoSem.Claim
import GoSem.ClaimJoined
import GoSem.ClaimMapViews
import Derived.JoinedTies
import Derived.KernelRfl
namespace Go.Proofs.Ytpkkicaablnakaa
/- THE CELL 'sum', in the pinned program and in every row, IS THE sha256 OF THE DUMP (.gsa) THAT YtpkkicaablnakaaProg.lean LOADS. Nothing in Lean hashes anything: it is a label: what it is worth is what the hold of that sum in a sandbox is worth. -/
noncomputable def Try.pinned : Pinned := { name := "ytpkkicaablnakaa", sum := "0e5afa02f30fbd0f534fa8c981664c61db4d9f3f95cfe737800593ca0a62ae0b", checked := Try.checked }
namespace Rows
def none {H : Type} : Left H := { results := [], args := [] }

/-- 'laws.FnHomes': WHATEVER THE INPUT: true; the input reads as it did. -/
def fnHomesSpec : ChangeSpec := { name := "fnHomes", fn := fun _ => fun
  | [d] => { results := [.lit (.bool true)], args := [d] }
  | _ => none }
def fnHomesRow : OpenClaim := { program := "ytpkkicaablnakaa", sum := "0e5afa02f30fbd0f534fa8c981664c61db4d9f3f95cfe737800593ca0a62ae0b", func := "loop.example/g00219/laws.FnHomes", spec := "fnHomes", unfollowed := true, recurses := true, apart := false }
def FnHomesSaid : Prop := fnHomesRow.holds Try.pinned (OpenSpec.ofChange fnHomesSpec)

/-- ITS FALSE NEIGHBOUR: 'it returns false'. Refute it at one input. -/
def fnHomesWrong : ChangeSpec := { name := "fnHomes", fn := fun _ => fun
  | [d] => { results := [.lit (.bool false)], args := [d] }
  | _ => none }
def FnHomesWrongFalsely : Prop := fnHomesRow.holds Try.pinned (OpenSpec.ofChange fnHomesWrong)

/-- 'laws.FnOpNames': WHATEVER THE INPUT: true; the input reads as it did. -/
def fnOpNamesSpec : ChangeSpec := { name := "fnOpNames", fn := fun _ => fun
  | [d] => { results := [.lit (.bool true)], args := [d] }
  | _ => none }
def fnOpNamesRow : OpenClaim := { program := "ytpkkicaablnakaa", sum := "0e5afa02f30fbd0f534fa8c981664c61db4d9f3f95cfe737800593ca0a62ae0b", func := "loop.example/g00219/laws.FnOpNames", spec := "fnOpNames", apart := false }
def FnOpNamesSaid : Prop := fnOpNamesRow.holds Try.pinned (OpenSpec.ofChange fnOpNamesSpec)

/-- ITS FALSE NEIGHBOUR: 'it returns false'. Refute it at one input. -/
def fnOpNamesWrong : ChangeSpec := { name := "fnOpNames", fn := fun _ => fun
  | [d] => { results := [.lit (.bool false)], args := [d] }
  | _ => none }
def FnOpNamesWrongFalsely : Prop := fnOpNamesRow.holds Try.pinned (OpenSpec.ofChange fnOpNamesWrong)

/-- 'laws.FnNums': WHATEVER THE INPUT: true; the input reads as it did. -/
def fnNumsSpec : ChangeSpec := { name := "fnNums", fn := fun _ => fun
  | [d1, d2] => { results := [.lit (.bool true)], args := [d1, d2] }
  | _ => none }
def fnNumsRow : OpenClaim := { program := "ytpkkicaablnakaa", sum := "0e5afa02f30fbd0f534fa8c981664c61db4d9f3f95cfe737800593ca0a62ae0b", func := "loop.example/g00219/laws.FnNums", spec := "fnNums", apart := false }
def FnNumsSaid : Prop := fnNumsRow.holds Try.pinned (OpenSpec.ofChange fnNumsSpec)

/-- ITS FALSE NEIGHBOUR: 'it returns false'. Refute it at one input. -/
def fnNumsWrong : ChangeSpec := { name := "fnNums", fn := fun _ => fun
  | [d1, d2] => { results := [.lit (.bool false)], args := [d1, d2] }
  | _ => none }
def FnNumsWrongFalsely : Prop := fnNumsRow.holds Try.pinned (OpenSpec.ofChange fnNumsWrong)

/-- 'laws.FnArith': WHATEVER THE INPUT: true; the input reads as it did. -/
def fnArithSpec : ChangeSpec := { name := "fnArith", fn := fun _ => fun
  | [d] => { results := [.lit (.bool true)], args := [d] }
  | _ => none }
def fnArithRow : OpenClaim := { program := "ytpkkicaablnakaa", sum := "0e5afa02f30fbd0f534fa8c981664c61db4d9f3f95cfe737800593ca0a62ae0b", func := "loop.example/g00219/laws.FnArith", spec := "fnArith", apart := false }
def FnArithSaid : Prop := fnArithRow.holds Try.pinned (OpenSpec.ofChange fnArithSpec)

/-- ITS FALSE NEIGHBOUR: 'it returns false'. Refute it at one input. -/
def fnArithWrong : ChangeSpec := { name := "fnArith", fn := fun _ => fun
  | [d] => { results := [.lit (.bool false)], args := [d] }
  | _ => none }
def FnArithWrongFalsely : Prop := fnArithRow.holds Try.pinned (OpenSpec.ofChange fnArithWrong)

/-- 'laws.FnExactTakes': WHATEVER THE INPUT: true; the input reads as it did. -/
def fnExactTakesSpec : ChangeSpec := { name := "fnExactTakes", fn := fun _ => fun
  | [d1, d2] => { results := [.lit (.bool true)], args := [d1, d2] }
  | _ => none }
def fnExactTakesRow : OpenClaim := { program := "ytpkkicaablnakaa", sum := "0e5afa02f30fbd0f534fa8c981664c61db4d9f3f95cfe737800593ca0a62ae0b", func := "loop.example/g00219/laws.FnExactTakes", spec := "fnExactTakes", apart := false }
def FnExactTakesSaid : Prop := fnExactTakesRow.holds Try.pinned (OpenSpec.ofChange fnExactTakesSpec)

/-- ITS FALSE NEIGHBOUR: 'it returns false'. Refute it at one input. -/
def fnExactTakesWrong : ChangeSpec := { name := "fnExactTakes", fn := fun _ => fun
  | [d1, d2] => { results := [.lit (.bool false)], args := [d1, d2] }
  | _ => none }
def FnExactTakesWrongFalsely : Prop := fnExactTakesRow.holds Try.pinned (OpenSpec.ofChange fnExactTakesWrong)

/-- 'laws.FnExactProgramSame': WHATEVER THE INPUT: true; the input reads as it did. -/
def fnExactProgramSameSpec : ChangeSpec := { name := "fnExactProgramSame", fn := fun _ => fun
  | [d1, d2] => { results := [.lit (.bool true)], args := [d1, d2] }
  | _ => none }
def fnExactProgramSameRow : OpenClaim := { program := "ytpkkicaablnakaa", sum := "0e5afa02f30fbd0f534fa8c981664c61db4d9f3f95cfe737800593ca0a62ae0b", func := "loop.example/g00219/laws.FnExactProgramSame", spec := "fnExactProgramSame", unfollowed := true, recurses := true, apart := false }
def FnExactProgramSameSaid : Prop := fnExactProgramSameRow.holds Try.pinned (OpenSpec.ofChange fnExactProgramSameSpec)

/-- ITS FALSE NEIGHBOUR: 'it returns false'. Refute it at one input. -/
def fnExactProgramSameWrong : ChangeSpec := { name := "fnExactProgramSame", fn := fun _ => fun
  | [d1, d2] => { results := [.lit (.bool false)], args := [d1, d2] }
  | _ => none }
def FnExactProgramSameWrongFalsely : Prop := fnExactProgramSameRow.holds Try.pinned (OpenSpec.ofChange fnExactProgramSameWrong)

/-- 'laws.FnExactInsRight': WHATEVER THE INPUT: true; the input reads as it did. -/
def fnExactInsRightSpec : ChangeSpec := { name := "fnExactInsRight", fn := fun _ => fun
  | [d1, d2, d3] => { results := [.lit (.bool true)], args := [d1, d2, d3] }
  | _ => none }
def fnExactInsRightRow : OpenClaim := { program := "ytpkkicaablnakaa", sum := "0e5afa02f30fbd0f534fa8c981664c61db4d9f3f95cfe737800593ca0a62ae0b", func := "loop.example/g00219/laws.FnExactInsRight", spec := "fnExactInsRight", apart := false }
def FnExactInsRightSaid : Prop := fnExactInsRightRow.holds Try.pinned (OpenSpec.ofChange fnExactInsRightSpec)

/-- ITS FALSE NEIGHBOUR: 'it returns false'. Refute it at one input. -/
def fnExactInsRightWrong : ChangeSpec := { name := "fnExactInsRight", fn := fun _ => fun
  | [d1, d2, d3] => { results := [.lit (.bool false)], args := [d1, d2, d3] }
  | _ => none }
def FnExactInsRightWrongFalsely : Prop := fnExactInsRightRow.holds Try.pinned (OpenSpec.ofChange fnExactInsRightWrong)

/-- 'laws.FnExactGuards': WHATEVER THE INPUT: true; the input reads as it did. -/
def fnExactGuardsSpec : ChangeSpec := { name := "fnExactGuards", fn := fun _ => fun
  | [d] => { results := [.lit (.bool true)], args := [d] }
  | _ => none }
def fnExactGuardsRow : OpenClaim := { program := "ytpkkicaablnakaa", sum := "0e5afa02f30fbd0f534fa8c981664c61db4d9f3f95cfe737800593ca0a62ae0b", func := "loop.example/g00219/laws.FnExactGuards", spec := "fnExactGuards", apart := false }
def FnExactGuardsSaid : Prop := fnExactGuardsRow.holds Try.pinned (OpenSpec.ofChange fnExactGuardsSpec)

/-- ITS FALSE NEIGHBOUR: 'it returns false'. Refute it at one input. -/
def fnExactGuardsWrong : ChangeSpec := { name := "fnExactGuards", fn := fun _ => fun
  | [d] => { results := [.lit (.bool false)], args := [d] }
  | _ => none }
def FnExactGuardsWrongFalsely : Prop := fnExactGuardsRow.holds Try.pinned (OpenSpec.ofChange fnExactGuardsWrong)

/-- 'laws.FnExactStateSame': WHATEVER THE INPUT: true; the input reads as it did. -/
def fnExactStateSameSpec : ChangeSpec := { name := "fnExactStateSame", fn := fun _ => fun
  | [d1, d2] => { results := [.lit (.bool true)], args := [d1, d2] }
  | _ => none }
def fnExactStateSameRow : OpenClaim := { program := "ytpkkicaablnakaa", sum := "0e5afa02f30fbd0f534fa8c981664c61db4d9f3f95cfe737800593ca0a62ae0b", func := "loop.example/g00219/laws.FnExactStateSame", spec := "fnExactStateSame", unfollowed := true, recurses := true, apart := false }
def FnExactStateSameSaid : Prop := fnExactStateSameRow.holds Try.pinned (OpenSpec.ofChange fnExactStateSameSpec)

/-- ITS FALSE NEIGHBOUR: 'it returns false'. Refute it at one input. -/
def fnExactStateSameWrong : ChangeSpec := { name := "fnExactStateSame", fn := fun _ => fun
  | [d1, d2] => { results := [.lit (.bool false)], args := [d1, d2] }
  | _ => none }
def FnExactStateSameWrongFalsely : Prop := fnExactStateSameRow.holds Try.pinned (OpenSpec.ofChange fnExactStateSameWrong)

/-- 'laws.FnExactAsmSame': WHATEVER THE INPUT: true; the input reads as it did. -/
def fnExactAsmSameSpec : ChangeSpec := { name := "fnExactAsmSame", fn := fun _ => fun
  | [d1, d2] => { results := [.lit (.bool true)], args := [d1, d2] }
  | _ => none }
def fnExactAsmSameRow : OpenClaim := { program := "ytpkkicaablnakaa", sum := "0e5afa02f30fbd0f534fa8c981664c61db4d9f3f95cfe737800593ca0a62ae0b", func := "loop.example/g00219/laws.FnExactAsmSame", spec := "fnExactAsmSame", unfollowed := true, recurses := true, apart := false }
def FnExactAsmSameSaid : Prop := fnExactAsmSameRow.holds Try.pinned (OpenSpec.ofChange fnExactAsmSameSpec)

/-- ITS FALSE NEIGHBOUR: 'it returns false'. Refute it at one input. -/
def fnExactAsmSameWrong : ChangeSpec := { name := "fnExactAsmSame", fn := fun _ => fun
  | [d1, d2] => { results := [.lit (.bool false)], args := [d1, d2] }
  | _ => none }
def FnExactAsmSameWrongFalsely : Prop := fnExactAsmSameRow.holds Try.pinned (OpenSpec.ofChange fnExactAsmSameWrong)

/-- 'laws.FnExactSlots': WHATEVER THE INPUT: true; the input reads as it did. -/
def fnExactSlotsSpec : ChangeSpec := { name := "fnExactSlots", fn := fun _ => fun
  | [d1, d2, d3] => { results := [.lit (.bool true)], args := [d1, d2, d3] }
  | _ => none }
def fnExactSlotsRow : OpenClaim := { program := "ytpkkicaablnakaa", sum := "0e5afa02f30fbd0f534fa8c981664c61db4d9f3f95cfe737800593ca0a62ae0b", func := "loop.example/g00219/laws.FnExactSlots", spec := "fnExactSlots", apart := false }
def FnExactSlotsSaid : Prop := fnExactSlotsRow.holds Try.pinned (OpenSpec.ofChange fnExactSlotsSpec)

/-- ITS FALSE NEIGHBOUR: 'it returns false'. Refute it at one input. -/
def fnExactSlotsWrong : ChangeSpec := { name := "fnExactSlots", fn := fun _ => fun
  | [d1, d2, d3] => { results := [.lit (.bool false)], args := [d1, d2, d3] }
  | _ => none }
def FnExactSlotsWrongFalsely : Prop := fnExactSlotsRow.holds Try.pinned (OpenSpec.ofChange fnExactSlotsWrong)

/-- 'laws.FnExactHeights': WHATEVER THE INPUT: true; the input reads as it did. -/
def fnExactHeightsSpec : ChangeSpec := { name := "fnExactHeights", fn := fun _ => fun
  | [d1, d2] => { results := [.lit (.bool true)], args := [d1, d2] }
  | _ => none }
def fnExactHeightsRow : OpenClaim := { program := "ytpkkicaablnakaa", sum := "0e5afa02f30fbd0f534fa8c981664c61db4d9f3f95cfe737800593ca0a62ae0b", func := "loop.example/g00219/laws.FnExactHeights", spec := "fnExactHeights", apart := false }
def FnExactHeightsSaid : Prop := fnExactHeightsRow.holds Try.pinned (OpenSpec.ofChange fnExactHeightsSpec)

/-- ITS FALSE NEIGHBOUR: 'it returns false'. Refute it at one input. -/
def fnExactHeightsWrong : ChangeSpec := { name := "fnExactHeights", fn := fun _ => fun
  | [d1, d2] => { results := [.lit (.bool false)], args := [d1, d2] }
  | _ => none }
def FnExactHeightsWrongFalsely : Prop := fnExactHeightsRow.holds Try.pinned (OpenSpec.ofChange fnExactHeightsWrong)

/- THE SECOND FORM. 'bulk': how many values and letters a reading holds, each counted each time it is reached (what is shared counts as often as it is met; a slice's spare places count too). A statement '..UptoSaid' is the law's where the arguments, and the package variables that the reading takes, are together of bulk at most 1048576: NARROWER than '..Said'. Prove '..Said' where nothing that the law and all that it calls make is longer than what came in: it says more and counts as full. Else prove '..UptoSaid'. A law counts once. -/
mutual
def uptoBulk {H : Type} : DataW H → Nat
  | .lit (.string bytes) => bytes.length + 1
  | .lit _ => 1
  | .nil => 1
  | .ptr d => uptoBulk d + 1
  | .slice elems spare => uptoBulkAll elems + uptoBulkAll spare + 1
  | .agg parts => uptoBulkAll parts + 1
  | .iface _ d => uptoBulk d + 1
  | .map entries => uptoBulkEntries entries + 1
  | .held _ => 1
def uptoBulkAll {H : Type} : List (DataW H) → Nat
  | [] => 0
  | d :: r => uptoBulk d + uptoBulkAll r
def uptoBulkEntries {H : Type} : List (Lit × DataW H) → Nat
  | [] => 0
  | x :: r => uptoBulkEntry x + uptoBulkEntries r
def uptoBulkEntry {H : Type} : Lit × DataW H → Nat
  | (.string bytes, d) => bytes.length + uptoBulk d + 1
  | (_, d) => uptoBulk d + 1
 end
def uptoSmall : (H : Type) → List (DataW H) → Bool := fun _ ds => decide (uptoBulkAll ds ≤ 1048576)
def OpenSpec.upto (s : _root_.Go.ChangeSpec) : _root_.Go.OpenSpec := { _root_.Go.OpenSpec.ofChange s with cond := some uptoSmall }

/-- 'laws.FnHomes', WHERE WHAT IT READS IS OF BULK AT MOST 1048576: true; the input reads as it did. -/
def fnHomesUptoRow : OpenClaim := { program := "ytpkkicaablnakaa", sum := "0e5afa02f30fbd0f534fa8c981664c61db4d9f3f95cfe737800593ca0a62ae0b", func := "loop.example/g00219/laws.FnHomes", spec := "fnHomes", unfollowed := true, recurses := true, apart := false, narrowed := true }
def FnHomesUptoSaid : Prop := fnHomesUptoRow.holds Try.pinned (OpenSpec.upto fnHomesSpec)

/-- 'laws.FnOpNames', WHERE WHAT IT READS IS OF BULK AT MOST 1048576: true; the input reads as it did. -/
def fnOpNamesUptoRow : OpenClaim := { program := "ytpkkicaablnakaa", sum := "0e5afa02f30fbd0f534fa8c981664c61db4d9f3f95cfe737800593ca0a62ae0b", func := "loop.example/g00219/laws.FnOpNames", spec := "fnOpNames", apart := false, narrowed := true }
def FnOpNamesUptoSaid : Prop := fnOpNamesUptoRow.holds Try.pinned (OpenSpec.upto fnOpNamesSpec)

/-- 'laws.FnNums', WHERE WHAT IT READS IS OF BULK AT MOST 1048576: true; the input reads as it did. -/
def fnNumsUptoRow : OpenClaim := { program := "ytpkkicaablnakaa", sum := "0e5afa02f30fbd0f534fa8c981664c61db4d9f3f95cfe737800593ca0a62ae0b", func := "loop.example/g00219/laws.FnNums", spec := "fnNums", apart := false, narrowed := true }
def FnNumsUptoSaid : Prop := fnNumsUptoRow.holds Try.pinned (OpenSpec.upto fnNumsSpec)

/-- 'laws.FnArith', WHERE WHAT IT READS IS OF BULK AT MOST 1048576: true; the input reads as it did. -/
def fnArithUptoRow : OpenClaim := { program := "ytpkkicaablnakaa", sum := "0e5afa02f30fbd0f534fa8c981664c61db4d9f3f95cfe737800593ca0a62ae0b", func := "loop.example/g00219/laws.FnArith", spec := "fnArith", apart := false, narrowed := true }
def FnArithUptoSaid : Prop := fnArithUptoRow.holds Try.pinned (OpenSpec.upto fnArithSpec)

/-- 'laws.FnExactTakes', WHERE WHAT IT READS IS OF BULK AT MOST 1048576: true; the input reads as it did. -/
def fnExactTakesUptoRow : OpenClaim := { program := "ytpkkicaablnakaa", sum := "0e5afa02f30fbd0f534fa8c981664c61db4d9f3f95cfe737800593ca0a62ae0b", func := "loop.example/g00219/laws.FnExactTakes", spec := "fnExactTakes", apart := false, narrowed := true }
def FnExactTakesUptoSaid : Prop := fnExactTakesUptoRow.holds Try.pinned (OpenSpec.upto fnExactTakesSpec)

/-- 'laws.FnExactProgramSame', WHERE WHAT IT READS IS OF BULK AT MOST 1048576: true; the input reads as it did. -/
def fnExactProgramSameUptoRow : OpenClaim := { program := "ytpkkicaablnakaa", sum := "0e5afa02f30fbd0f534fa8c981664c61db4d9f3f95cfe737800593ca0a62ae0b", func := "loop.example/g00219/laws.FnExactProgramSame", spec := "fnExactProgramSame", unfollowed := true, recurses := true, apart := false, narrowed := true }
def FnExactProgramSameUptoSaid : Prop := fnExactProgramSameUptoRow.holds Try.pinned (OpenSpec.upto fnExactProgramSameSpec)

/-- 'laws.FnExactInsRight', WHERE WHAT IT READS IS OF BULK AT MOST 1048576: true; the input reads as it did. -/
def fnExactInsRightUptoRow : OpenClaim := { program := "ytpkkicaablnakaa", sum := "0e5afa02f30fbd0f534fa8c981664c61db4d9f3f95cfe737800593ca0a62ae0b", func := "loop.example/g00219/laws.FnExactInsRight", spec := "fnExactInsRight", apart := false, narrowed := true }
def FnExactInsRightUptoSaid : Prop := fnExactInsRightUptoRow.holds Try.pinned (OpenSpec.upto fnExactInsRightSpec)

/-- 'laws.FnExactGuards', WHERE WHAT IT READS IS OF BULK AT MOST 1048576: true; the input reads as it did. -/
def fnExactGuardsUptoRow : OpenClaim := { program := "ytpkkicaablnakaa", sum := "0e5afa02f30fbd0f534fa8c981664c61db4d9f3f95cfe737800593ca0a62ae0b", func := "loop.example/g00219/laws.FnExactGuards", spec := "fnExactGuards", apart := false, narrowed := true }
def FnExactGuardsUptoSaid : Prop := fnExactGuardsUptoRow.holds Try.pinned (OpenSpec.upto fnExactGuardsSpec)

/-- 'laws.FnExactStateSame', WHERE WHAT IT READS IS OF BULK AT MOST 1048576: true; the input reads as it did. -/
def fnExactStateSameUptoRow : OpenClaim := { program := "ytpkkicaablnakaa", sum := "0e5afa02f30fbd0f534fa8c981664c61db4d9f3f95cfe737800593ca0a62ae0b", func := "loop.example/g00219/laws.FnExactStateSame", spec := "fnExactStateSame", unfollowed := true, recurses := true, apart := false, narrowed := true }
def FnExactStateSameUptoSaid : Prop := fnExactStateSameUptoRow.holds Try.pinned (OpenSpec.upto fnExactStateSameSpec)

/-- 'laws.FnExactAsmSame', WHERE WHAT IT READS IS OF BULK AT MOST 1048576: true; the input reads as it did. -/
def fnExactAsmSameUptoRow : OpenClaim := { program := "ytpkkicaablnakaa", sum := "0e5afa02f30fbd0f534fa8c981664c61db4d9f3f95cfe737800593ca0a62ae0b", func := "loop.example/g00219/laws.FnExactAsmSame", spec := "fnExactAsmSame", unfollowed := true, recurses := true, apart := false, narrowed := true }
def FnExactAsmSameUptoSaid : Prop := fnExactAsmSameUptoRow.holds Try.pinned (OpenSpec.upto fnExactAsmSameSpec)

/-- 'laws.FnExactSlots', WHERE WHAT IT READS IS OF BULK AT MOST 1048576: true; the input reads as it did. -/
def fnExactSlotsUptoRow : OpenClaim := { program := "ytpkkicaablnakaa", sum := "0e5afa02f30fbd0f534fa8c981664c61db4d9f3f95cfe737800593ca0a62ae0b", func := "loop.example/g00219/laws.FnExactSlots", spec := "fnExactSlots", apart := false, narrowed := true }
def FnExactSlotsUptoSaid : Prop := fnExactSlotsUptoRow.holds Try.pinned (OpenSpec.upto fnExactSlotsSpec)

/-- 'laws.FnExactHeights', WHERE WHAT IT READS IS OF BULK AT MOST 1048576: true; the input reads as it did. -/
def fnExactHeightsUptoRow : OpenClaim := { program := "ytpkkicaablnakaa", sum := "0e5afa02f30fbd0f534fa8c981664c61db4d9f3f95cfe737800593ca0a62ae0b", func := "loop.example/g00219/laws.FnExactHeights", spec := "fnExactHeights", apart := false, narrowed := true }
def FnExactHeightsUptoSaid : Prop := fnExactHeightsUptoRow.holds Try.pinned (OpenSpec.upto fnExactHeightsSpec)

end Rows
end Go.Proofs.Ytpkkicaablnakaa
