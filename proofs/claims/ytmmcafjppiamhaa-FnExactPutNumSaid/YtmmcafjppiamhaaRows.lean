/-
  No cell of these rows narrows 'for every input' (looked for: loops, veiled, ifaces, maps, wideKeys, modest, calm, conditions, laid).
  DERIVED. THE GIVEN ROWS OF THIS SEAT. 12 by the template 'for every input the law returns true; each argument reads behind the call as it read before'; 0 by the template 'total and deterministic' (their statements: YtmmcafjppiamhaaTotals.lean).
  GIVEN WITH THE SEED: the statements are not yours to turn. If you find one false, say at which input.
  Laid BY PROGRAM, IN A SANDBOX (cutbox-rows.mjs): the forced cells as the released guide's own fill.sh prints them over the translation 7b7a970040a1f22a… (all of the seat's roots in one cut). By AI agents, Wed Nov 11 2026. No macro, syntax, notation, axiom, sorry.
-/
import Derived.Test.YtmmcafjppiamhaaChecked
import GoSem.Claim
import GoSem.ClaimJoined
import GoSem.ClaimMapViews
import Derived.JoinedTies
import Derived.KernelRfl
namespace Go.Proofs.Ytmmcafjppiamhaa
/- THE CELL 'sum', in the pinned program and in every row, IS THE sha256 OF THE DUMP (.gsa) THAT YtmmcafjppiamhaaProg.lean LOADS. Nothing in Lean hashes anything: it is a label: what it is worth is what the hold of that sum in a sandbox is worth. -/
noncomputable def Try.pinned : Pinned := { name := "ytmmcafjppiamhaa", sum := "7b7a970040a1f22adcd7e223e9fd1469adcc223ce531e6b3226b27805b47d3ab", checked := Try.checked }
namespace Rows
def none {H : Type} : Left H := { results := [], args := [] }

/-- 'laws.FnExactConstants': WHATEVER THE INPUT: true; the input reads as it did. -/
def fnExactConstantsSpec : ChangeSpec := { name := "fnExactConstants", fn := fun _ => fun
  | [] => { results := [.lit (.bool true)], args := [] }
  | _ => none }
def fnExactConstantsRow : OpenClaim := { program := "ytmmcafjppiamhaa", sum := "7b7a970040a1f22adcd7e223e9fd1469adcc223ce531e6b3226b27805b47d3ab", func := "loop.example/g00219/laws.FnExactConstants", spec := "fnExactConstants", apart := false }
def FnExactConstantsSaid : Prop := fnExactConstantsRow.holds Try.pinned (OpenSpec.ofChange fnExactConstantsSpec)

/-- ITS FALSE NEIGHBOUR: 'it returns false'. Refute it at one input. -/
def fnExactConstantsWrong : ChangeSpec := { name := "fnExactConstants", fn := fun _ => fun
  | [] => { results := [.lit (.bool false)], args := [] }
  | _ => none }
def FnExactConstantsWrongFalsely : Prop := fnExactConstantsRow.holds Try.pinned (OpenSpec.ofChange fnExactConstantsWrong)

/-- 'laws.FnExactFits': WHATEVER THE INPUT: true; the input reads as it did. -/
def fnExactFitsSpec : ChangeSpec := { name := "fnExactFits", fn := fun _ => fun
  | [d1, d2] => { results := [.lit (.bool true)], args := [d1, d2] }
  | _ => none }
def fnExactFitsRow : OpenClaim := { program := "ytmmcafjppiamhaa", sum := "7b7a970040a1f22adcd7e223e9fd1469adcc223ce531e6b3226b27805b47d3ab", func := "loop.example/g00219/laws.FnExactFits", spec := "fnExactFits", apart := false }
def FnExactFitsSaid : Prop := fnExactFitsRow.holds Try.pinned (OpenSpec.ofChange fnExactFitsSpec)

/-- ITS FALSE NEIGHBOUR: 'it returns false'. Refute it at one input. -/
def fnExactFitsWrong : ChangeSpec := { name := "fnExactFits", fn := fun _ => fun
  | [d1, d2] => { results := [.lit (.bool false)], args := [d1, d2] }
  | _ => none }
def FnExactFitsWrongFalsely : Prop := fnExactFitsRow.holds Try.pinned (OpenSpec.ofChange fnExactFitsWrong)

/-- 'laws.FnExactSum': WHATEVER THE INPUT: true; the input reads as it did. -/
def fnExactSumSpec : ChangeSpec := { name := "fnExactSum", fn := fun _ => fun
  | [d] => { results := [.lit (.bool true)], args := [d] }
  | _ => none }
def fnExactSumRow : OpenClaim := { program := "ytmmcafjppiamhaa", sum := "7b7a970040a1f22adcd7e223e9fd1469adcc223ce531e6b3226b27805b47d3ab", func := "loop.example/g00219/laws.FnExactSum", spec := "fnExactSum", apart := false }
def FnExactSumSaid : Prop := fnExactSumRow.holds Try.pinned (OpenSpec.ofChange fnExactSumSpec)

/-- ITS FALSE NEIGHBOUR: 'it returns false'. Refute it at one input. -/
def fnExactSumWrong : ChangeSpec := { name := "fnExactSum", fn := fun _ => fun
  | [d] => { results := [.lit (.bool false)], args := [d] }
  | _ => none }
def FnExactSumWrongFalsely : Prop := fnExactSumRow.holds Try.pinned (OpenSpec.ofChange fnExactSumWrong)

/-- 'laws.FnExactOpName': WHATEVER THE INPUT: true; the input reads as it did. -/
def fnExactOpNameSpec : ChangeSpec := { name := "fnExactOpName", fn := fun _ => fun
  | [d] => { results := [.lit (.bool true)], args := [d] }
  | _ => none }
def fnExactOpNameRow : OpenClaim := { program := "ytmmcafjppiamhaa", sum := "7b7a970040a1f22adcd7e223e9fd1469adcc223ce531e6b3226b27805b47d3ab", func := "loop.example/g00219/laws.FnExactOpName", spec := "fnExactOpName", apart := false }
def FnExactOpNameSaid : Prop := fnExactOpNameRow.holds Try.pinned (OpenSpec.ofChange fnExactOpNameSpec)

/-- ITS FALSE NEIGHBOUR: 'it returns false'. Refute it at one input. -/
def fnExactOpNameWrong : ChangeSpec := { name := "fnExactOpName", fn := fun _ => fun
  | [d] => { results := [.lit (.bool false)], args := [d] }
  | _ => none }
def FnExactOpNameWrongFalsely : Prop := fnExactOpNameRow.holds Try.pinned (OpenSpec.ofChange fnExactOpNameWrong)

/-- 'laws.FnExactPutNum': WHATEVER THE INPUT: true; the input reads as it did. -/
def fnExactPutNumSpec : ChangeSpec := { name := "fnExactPutNum", fn := fun _ => fun
  | [d] => { results := [.lit (.bool true)], args := [d] }
  | _ => none }
def fnExactPutNumRow : OpenClaim := { program := "ytmmcafjppiamhaa", sum := "7b7a970040a1f22adcd7e223e9fd1469adcc223ce531e6b3226b27805b47d3ab", func := "loop.example/g00219/laws.FnExactPutNum", spec := "fnExactPutNum", apart := false }
def FnExactPutNumSaid : Prop := fnExactPutNumRow.holds Try.pinned (OpenSpec.ofChange fnExactPutNumSpec)

/-- ITS FALSE NEIGHBOUR: 'it returns false'. Refute it at one input. -/
def fnExactPutNumWrong : ChangeSpec := { name := "fnExactPutNum", fn := fun _ => fun
  | [d] => { results := [.lit (.bool false)], args := [d] }
  | _ => none }
def FnExactPutNumWrongFalsely : Prop := fnExactPutNumRow.holds Try.pinned (OpenSpec.ofChange fnExactPutNumWrong)

/-- 'laws.FnExactPuts': WHATEVER THE INPUT: true; the input reads as it did. -/
def fnExactPutsSpec : ChangeSpec := { name := "fnExactPuts", fn := fun _ => fun
  | [d] => { results := [.lit (.bool true)], args := [d] }
  | _ => none }
def fnExactPutsRow : OpenClaim := { program := "ytmmcafjppiamhaa", sum := "7b7a970040a1f22adcd7e223e9fd1469adcc223ce531e6b3226b27805b47d3ab", func := "loop.example/g00219/laws.FnExactPuts", spec := "fnExactPuts", apart := false }
def FnExactPutsSaid : Prop := fnExactPutsRow.holds Try.pinned (OpenSpec.ofChange fnExactPutsSpec)

/-- ITS FALSE NEIGHBOUR: 'it returns false'. Refute it at one input. -/
def fnExactPutsWrong : ChangeSpec := { name := "fnExactPuts", fn := fun _ => fun
  | [d] => { results := [.lit (.bool false)], args := [d] }
  | _ => none }
def FnExactPutsWrongFalsely : Prop := fnExactPutsRow.holds Try.pinned (OpenSpec.ofChange fnExactPutsWrong)

/-- 'laws.FnExactUnary': WHATEVER THE INPUT: true; the input reads as it did. -/
def fnExactUnarySpec : ChangeSpec := { name := "fnExactUnary", fn := fun _ => fun
  | [d1, d2] => { results := [.lit (.bool true)], args := [d1, d2] }
  | _ => none }
def fnExactUnaryRow : OpenClaim := { program := "ytmmcafjppiamhaa", sum := "7b7a970040a1f22adcd7e223e9fd1469adcc223ce531e6b3226b27805b47d3ab", func := "loop.example/g00219/laws.FnExactUnary", spec := "fnExactUnary", apart := false }
def FnExactUnarySaid : Prop := fnExactUnaryRow.holds Try.pinned (OpenSpec.ofChange fnExactUnarySpec)

/-- ITS FALSE NEIGHBOUR: 'it returns false'. Refute it at one input. -/
def fnExactUnaryWrong : ChangeSpec := { name := "fnExactUnary", fn := fun _ => fun
  | [d1, d2] => { results := [.lit (.bool false)], args := [d1, d2] }
  | _ => none }
def FnExactUnaryWrongFalsely : Prop := fnExactUnaryRow.holds Try.pinned (OpenSpec.ofChange fnExactUnaryWrong)

/-- 'laws.FnExactPutNums': WHATEVER THE INPUT: true; the input reads as it did. -/
def fnExactPutNumsSpec : ChangeSpec := { name := "fnExactPutNums", fn := fun _ => fun
  | [d] => { results := [.lit (.bool true)], args := [d] }
  | _ => none }
def fnExactPutNumsRow : OpenClaim := { program := "ytmmcafjppiamhaa", sum := "7b7a970040a1f22adcd7e223e9fd1469adcc223ce531e6b3226b27805b47d3ab", func := "loop.example/g00219/laws.FnExactPutNums", spec := "fnExactPutNums", apart := false }
def FnExactPutNumsSaid : Prop := fnExactPutNumsRow.holds Try.pinned (OpenSpec.ofChange fnExactPutNumsSpec)

/-- ITS FALSE NEIGHBOUR: 'it returns false'. Refute it at one input. -/
def fnExactPutNumsWrong : ChangeSpec := { name := "fnExactPutNums", fn := fun _ => fun
  | [d] => { results := [.lit (.bool false)], args := [d] }
  | _ => none }
def FnExactPutNumsWrongFalsely : Prop := fnExactPutNumsRow.holds Try.pinned (OpenSpec.ofChange fnExactPutNumsWrong)

/-- 'laws.FnSum': WHATEVER THE INPUT: true; the input reads as it did. -/
def fnSumSpec : ChangeSpec := { name := "fnSum", fn := fun _ => fun
  | [d1, d2] => { results := [.lit (.bool true)], args := [d1, d2] }
  | _ => none }
def fnSumRow : OpenClaim := { program := "ytmmcafjppiamhaa", sum := "7b7a970040a1f22adcd7e223e9fd1469adcc223ce531e6b3226b27805b47d3ab", func := "loop.example/g00219/laws.FnSum", spec := "fnSum", apart := false }
def FnSumSaid : Prop := fnSumRow.holds Try.pinned (OpenSpec.ofChange fnSumSpec)

/-- ITS FALSE NEIGHBOUR: 'it returns false'. Refute it at one input. -/
def fnSumWrong : ChangeSpec := { name := "fnSum", fn := fun _ => fun
  | [d1, d2] => { results := [.lit (.bool false)], args := [d1, d2] }
  | _ => none }
def FnSumWrongFalsely : Prop := fnSumRow.holds Try.pinned (OpenSpec.ofChange fnSumWrong)

/-- 'laws.FnConv': WHATEVER THE INPUT: true; the input reads as it did. -/
def fnConvSpec : ChangeSpec := { name := "fnConv", fn := fun _ => fun
  | [d] => { results := [.lit (.bool true)], args := [d] }
  | _ => none }
def fnConvRow : OpenClaim := { program := "ytmmcafjppiamhaa", sum := "7b7a970040a1f22adcd7e223e9fd1469adcc223ce531e6b3226b27805b47d3ab", func := "loop.example/g00219/laws.FnConv", spec := "fnConv", apart := false }
def FnConvSaid : Prop := fnConvRow.holds Try.pinned (OpenSpec.ofChange fnConvSpec)

/-- ITS FALSE NEIGHBOUR: 'it returns false'. Refute it at one input. -/
def fnConvWrong : ChangeSpec := { name := "fnConv", fn := fun _ => fun
  | [d] => { results := [.lit (.bool false)], args := [d] }
  | _ => none }
def FnConvWrongFalsely : Prop := fnConvRow.holds Try.pinned (OpenSpec.ofChange fnConvWrong)

/-- 'laws.FnExactFuncSame': WHATEVER THE INPUT: true; the input reads as it did. -/
def fnExactFuncSameSpec : ChangeSpec := { name := "fnExactFuncSame", fn := fun _ => fun
  | [d1, d2] => { results := [.lit (.bool true)], args := [d1, d2] }
  | _ => none }
def fnExactFuncSameRow : OpenClaim := { program := "ytmmcafjppiamhaa", sum := "7b7a970040a1f22adcd7e223e9fd1469adcc223ce531e6b3226b27805b47d3ab", func := "loop.example/g00219/laws.FnExactFuncSame", spec := "fnExactFuncSame", apart := false }
def FnExactFuncSameSaid : Prop := fnExactFuncSameRow.holds Try.pinned (OpenSpec.ofChange fnExactFuncSameSpec)

/-- ITS FALSE NEIGHBOUR: 'it returns false'. Refute it at one input. -/
def fnExactFuncSameWrong : ChangeSpec := { name := "fnExactFuncSame", fn := fun _ => fun
  | [d1, d2] => { results := [.lit (.bool false)], args := [d1, d2] }
  | _ => none }
def FnExactFuncSameWrongFalsely : Prop := fnExactFuncSameRow.holds Try.pinned (OpenSpec.ofChange fnExactFuncSameWrong)

/-- 'laws.FnExactBinary': WHATEVER THE INPUT: true; the input reads as it did. -/
def fnExactBinarySpec : ChangeSpec := { name := "fnExactBinary", fn := fun _ => fun
  | [d1, d2, d3] => { results := [.lit (.bool true)], args := [d1, d2, d3] }
  | _ => none }
def fnExactBinaryRow : OpenClaim := { program := "ytmmcafjppiamhaa", sum := "7b7a970040a1f22adcd7e223e9fd1469adcc223ce531e6b3226b27805b47d3ab", func := "loop.example/g00219/laws.FnExactBinary", spec := "fnExactBinary", apart := false }
def FnExactBinarySaid : Prop := fnExactBinaryRow.holds Try.pinned (OpenSpec.ofChange fnExactBinarySpec)

/-- ITS FALSE NEIGHBOUR: 'it returns false'. Refute it at one input. -/
def fnExactBinaryWrong : ChangeSpec := { name := "fnExactBinary", fn := fun _ => fun
  | [d1, d2, d3] => { results := [.lit (.bool false)], args := [d1, d2, d3] }
  | _ => none }
def FnExactBinaryWrongFalsely : Prop := fnExactBinaryRow.holds Try.pinned (OpenSpec.ofChange fnExactBinaryWrong)

/- THE SECOND FORM. 'bulk': how many values and letters a reading holds, each counted each time it is reached (what is shared counts as often as it is met; a slice's spare places count too). A statement '..UptoSaid' is the law's where the arguments, and the package variables that the reading takes, are together of bulk at most 1048576: NARROWER than '..Said'. Prove '..Said' where nothing that the law and all that it calls make is longer than what came in: it says more and counts as full. Else prove '..UptoSaid'. A law counts once. -/
mutual
def uptoBulk {H : Type} : DataW H → Nat
  | .lit (.string bytes) => bytes.length + 1
  | .lit _ => 1
  | .nil => 1
  | .ptr d => uptoBulk d + 1
  | .slice elems spare => uptoBulkAll elems + uptoBulkAll spare + 1
  | .agg parts => uptoBulkAll parts + 1
  | .iface _ d => uptoBulk d + 1
  | .map entries => uptoBulkEntries entries + 1
  | .held _ => 1
def uptoBulkAll {H : Type} : List (DataW H) → Nat
  | [] => 0
  | d :: r => uptoBulk d + uptoBulkAll r
def uptoBulkEntries {H : Type} : List (Lit × DataW H) → Nat
  | [] => 0
  | x :: r => uptoBulkEntry x + uptoBulkEntries r
def uptoBulkEntry {H : Type} : Lit × DataW H → Nat
  | (.string bytes, d) => bytes.length + uptoBulk d + 1
  | (_, d) => uptoBulk d + 1
 end
def uptoSmall : (H : Type) → List (DataW H) → Bool := fun _ ds => decide (uptoBulkAll ds ≤ 1048576)
def OpenSpec.upto (s : _root_.Go.ChangeSpec) : _root_.Go.OpenSpec := { _root_.Go.OpenSpec.ofChange s with cond := some uptoSmall }

/-- 'laws.FnExactConstants', WHERE WHAT IT READS IS OF BULK AT MOST 1048576: true; the input reads as it did. -/
def fnExactConstantsUptoRow : OpenClaim := { program := "ytmmcafjppiamhaa", sum := "7b7a970040a1f22adcd7e223e9fd1469adcc223ce531e6b3226b27805b47d3ab", func := "loop.example/g00219/laws.FnExactConstants", spec := "fnExactConstants", apart := false, narrowed := true }
def FnExactConstantsUptoSaid : Prop := fnExactConstantsUptoRow.holds Try.pinned (OpenSpec.upto fnExactConstantsSpec)

/-- 'laws.FnExactFits', WHERE WHAT IT READS IS OF BULK AT MOST 1048576: true; the input reads as it did. -/
def fnExactFitsUptoRow : OpenClaim := { program := "ytmmcafjppiamhaa", sum := "7b7a970040a1f22adcd7e223e9fd1469adcc223ce531e6b3226b27805b47d3ab", func := "loop.example/g00219/laws.FnExactFits", spec := "fnExactFits", apart := false, narrowed := true }
def FnExactFitsUptoSaid : Prop := fnExactFitsUptoRow.holds Try.pinned (OpenSpec.upto fnExactFitsSpec)

/-- 'laws.FnExactSum', WHERE WHAT IT READS IS OF BULK AT MOST 1048576: true; the input reads as it did. -/
def fnExactSumUptoRow : OpenClaim := { program := "ytmmcafjppiamhaa", sum := "7b7a970040a1f22adcd7e223e9fd1469adcc223ce531e6b3226b27805b47d3ab", func := "loop.example/g00219/laws.FnExactSum", spec := "fnExactSum", apart := false, narrowed := true }
def FnExactSumUptoSaid : Prop := fnExactSumUptoRow.holds Try.pinned (OpenSpec.upto fnExactSumSpec)

/-- 'laws.FnExactOpName', WHERE WHAT IT READS IS OF BULK AT MOST 1048576: true; the input reads as it did. -/
def fnExactOpNameUptoRow : OpenClaim := { program := "ytmmcafjppiamhaa", sum := "7b7a970040a1f22adcd7e223e9fd1469adcc223ce531e6b3226b27805b47d3ab", func := "loop.example/g00219/laws.FnExactOpName", spec := "fnExactOpName", apart := false, narrowed := true }
def FnExactOpNameUptoSaid : Prop := fnExactOpNameUptoRow.holds Try.pinned (OpenSpec.upto fnExactOpNameSpec)

/-- 'laws.FnExactPutNum', WHERE WHAT IT READS IS OF BULK AT MOST 1048576: true; the input reads as it did. -/
def fnExactPutNumUptoRow : OpenClaim := { program := "ytmmcafjppiamhaa", sum := "7b7a970040a1f22adcd7e223e9fd1469adcc223ce531e6b3226b27805b47d3ab", func := "loop.example/g00219/laws.FnExactPutNum", spec := "fnExactPutNum", apart := false, narrowed := true }
def FnExactPutNumUptoSaid : Prop := fnExactPutNumUptoRow.holds Try.pinned (OpenSpec.upto fnExactPutNumSpec)

/-- 'laws.FnExactPuts', WHERE WHAT IT READS IS OF BULK AT MOST 1048576: true; the input reads as it did. -/
def fnExactPutsUptoRow : OpenClaim := { program := "ytmmcafjppiamhaa", sum := "7b7a970040a1f22adcd7e223e9fd1469adcc223ce531e6b3226b27805b47d3ab", func := "loop.example/g00219/laws.FnExactPuts", spec := "fnExactPuts", apart := false, narrowed := true }
def FnExactPutsUptoSaid : Prop := fnExactPutsUptoRow.holds Try.pinned (OpenSpec.upto fnExactPutsSpec)

/-- 'laws.FnExactUnary', WHERE WHAT IT READS IS OF BULK AT MOST 1048576: true; the input reads as it did. -/
def fnExactUnaryUptoRow : OpenClaim := { program := "ytmmcafjppiamhaa", sum := "7b7a970040a1f22adcd7e223e9fd1469adcc223ce531e6b3226b27805b47d3ab", func := "loop.example/g00219/laws.FnExactUnary", spec := "fnExactUnary", apart := false, narrowed := true }
def FnExactUnaryUptoSaid : Prop := fnExactUnaryUptoRow.holds Try.pinned (OpenSpec.upto fnExactUnarySpec)

/-- 'laws.FnExactPutNums', WHERE WHAT IT READS IS OF BULK AT MOST 1048576: true; the input reads as it did. -/
def fnExactPutNumsUptoRow : OpenClaim := { program := "ytmmcafjppiamhaa", sum := "7b7a970040a1f22adcd7e223e9fd1469adcc223ce531e6b3226b27805b47d3ab", func := "loop.example/g00219/laws.FnExactPutNums", spec := "fnExactPutNums", apart := false, narrowed := true }
def FnExactPutNumsUptoSaid : Prop := fnExactPutNumsUptoRow.holds Try.pinned (OpenSpec.upto fnExactPutNumsSpec)

/-- 'laws.FnSum', WHERE WHAT IT READS IS OF BULK AT MOST 1048576: true; the input reads as it did. -/
def fnSumUptoRow : OpenClaim := { program := "ytmmcafjppiamhaa", sum := "7b7a970040a1f22adcd7e223e9fd1469adcc223ce531e6b3226b27805b47d3ab", func := "loop.example/g00219/laws.FnSum", spec := "fnSum", apart := false, narrowed := true }
def FnSumUptoSaid : Prop := fnSumUptoRow.holds Try.pinned (OpenSpec.upto fnSumSpec)

/-- 'laws.FnConv', WHERE WHAT IT READS IS OF BULK AT MOST 1048576: true; the input reads as it did. -/
def fnConvUptoRow : OpenClaim := { program := "ytmmcafjppiamhaa", sum := "7b7a970040a1f22adcd7e223e9fd1469adcc223ce531e6b3226b27805b47d3ab", func := "loop.example/g00219/laws.FnConv", spec := "fnConv", apart := false, narrowed := true }
def FnConvUptoSaid : Prop := fnConvUptoRow.holds Try.pinned (OpenSpec.upto fnConvSpec)

/-- 'laws.FnExactFuncSame', WHERE WHAT IT READS IS OF BULK AT MOST 1048576: true; the input reads as it did. -/
def fnExactFuncSameUptoRow : OpenClaim := { program := "ytmmcafjppiamhaa", sum := "7b7a970040a1f22adcd7e223e9fd1469adcc223ce531e6b3226b27805b47d3ab", func := "loop.example/g00219/laws.FnExactFuncSame", spec := "fnExactFuncSame", apart := false, narrowed := true }
def FnExactFuncSameUptoSaid : Prop := fnExactFuncSameUptoRow.holds Try.pinned (OpenSpec.upto fnExactFuncSameSpec)

/-- 'laws.FnExactBinary', WHERE WHAT IT READS IS OF BULK AT MOST 1048576: true; the input reads as it did. -/
def fnExactBinaryUptoRow : OpenClaim := { program := "ytmmcafjppiamhaa", sum := "7b7a970040a1f22adcd7e223e9fd1469adcc223ce531e6b3226b27805b47d3ab", func := "loop.example/g00219/laws.FnExactBinary", spec := "fnExactBinary", apart := false, narrowed := true }
def FnExactBinaryUptoSaid : Prop := fnExactBinaryUptoRow.holds Try.pinned (OpenSpec.upto fnExactBinarySpec)

end Rows
end Go.Proofs.Ytmmcafjppiamhaa
