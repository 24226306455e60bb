/-
  No cell of these rows narrows 'for every input' (looked for: loops, veiled, ifaces, maps, wideKeys, modest, calm, conditions, laid).
  DERIVED. THE GIVEN ROWS OF THIS SEAT. 10 by the template 'for every input the law returns true; each argument reads behind the call as it read before'; 0 by the template 'total and deterministic' (their statements: YtkmohnlkldkhdaaTotals.lean).
  GIVEN WITH THE SEED: the statements are not yours to turn. If you find one false, say at which input.
  Laid BY PROGRAM, IN A SANDBOX (cutbox-rows.mjs): the forced cells as the released guide's own fill.sh prints them over the translation 4fb6d1ad2a9d4742… (all of the seat's roots in one cut). By AI agents, Wed Nov 11 2026. No macro, syntax, notation, axiom, sorry.
-/
import Derived.Test.YtkmohnlkldkhdaaChecked
import GoSem.Claim
import GoSem.ClaimJoined
import GoSem.ClaimMapViews
import Derived.JoinedTies
import Derived.KernelRfl
namespace Go.Proofs.Ytkmohnlkldkhdaa
/- THE CELL 'sum', in the pinned program and in every row, IS THE sha256 OF THE DUMP (.gsa) THAT YtkmohnlkldkhdaaProg.lean LOADS. Nothing in Lean hashes anything: it is a label: what it is worth is what the hold of that sum in a sandbox is worth. -/
noncomputable def Try.pinned : Pinned := { name := "ytkmohnlkldkhdaa", sum := "4fb6d1ad2a9d4742855d6a6476eeb62c2b5a5cef58f98b2de36e5d0d304f9588", checked := Try.checked }
namespace Rows
def none {H : Type} : Left H := { results := [], args := [] }

/-- 'laws.FnExactFits': WHATEVER THE INPUT: true; the input reads as it did. -/
def fnExactFitsSpec : ChangeSpec := { name := "fnExactFits", fn := fun _ => fun
  | [d1, d2] => { results := [.lit (.bool true)], args := [d1, d2] }
  | _ => none }
def fnExactFitsRow : OpenClaim := { program := "ytkmohnlkldkhdaa", sum := "4fb6d1ad2a9d4742855d6a6476eeb62c2b5a5cef58f98b2de36e5d0d304f9588", func := "loop.example/g00219/laws.FnExactFits", spec := "fnExactFits", apart := false }
def FnExactFitsSaid : Prop := fnExactFitsRow.holds Try.pinned (OpenSpec.ofChange fnExactFitsSpec)

/-- ITS FALSE NEIGHBOUR: 'it returns false'. Refute it at one input. -/
def fnExactFitsWrong : ChangeSpec := { name := "fnExactFits", fn := fun _ => fun
  | [d1, d2] => { results := [.lit (.bool false)], args := [d1, d2] }
  | _ => none }
def FnExactFitsWrongFalsely : Prop := fnExactFitsRow.holds Try.pinned (OpenSpec.ofChange fnExactFitsWrong)

/-- 'laws.FnOpNames': WHATEVER THE INPUT: true; the input reads as it did. -/
def fnOpNamesSpec : ChangeSpec := { name := "fnOpNames", fn := fun _ => fun
  | [d] => { results := [.lit (.bool true)], args := [d] }
  | _ => none }
def fnOpNamesRow : OpenClaim := { program := "ytkmohnlkldkhdaa", sum := "4fb6d1ad2a9d4742855d6a6476eeb62c2b5a5cef58f98b2de36e5d0d304f9588", func := "loop.example/g00219/laws.FnOpNames", spec := "fnOpNames", apart := false }
def FnOpNamesSaid : Prop := fnOpNamesRow.holds Try.pinned (OpenSpec.ofChange fnOpNamesSpec)

/-- ITS FALSE NEIGHBOUR: 'it returns false'. Refute it at one input. -/
def fnOpNamesWrong : ChangeSpec := { name := "fnOpNames", fn := fun _ => fun
  | [d] => { results := [.lit (.bool false)], args := [d] }
  | _ => none }
def FnOpNamesWrongFalsely : Prop := fnOpNamesRow.holds Try.pinned (OpenSpec.ofChange fnOpNamesWrong)

/-- 'laws.FnExactPutNums': WHATEVER THE INPUT: true; the input reads as it did. -/
def fnExactPutNumsSpec : ChangeSpec := { name := "fnExactPutNums", fn := fun _ => fun
  | [d] => { results := [.lit (.bool true)], args := [d] }
  | _ => none }
def fnExactPutNumsRow : OpenClaim := { program := "ytkmohnlkldkhdaa", sum := "4fb6d1ad2a9d4742855d6a6476eeb62c2b5a5cef58f98b2de36e5d0d304f9588", func := "loop.example/g00219/laws.FnExactPutNums", spec := "fnExactPutNums", apart := false }
def FnExactPutNumsSaid : Prop := fnExactPutNumsRow.holds Try.pinned (OpenSpec.ofChange fnExactPutNumsSpec)

/-- ITS FALSE NEIGHBOUR: 'it returns false'. Refute it at one input. -/
def fnExactPutNumsWrong : ChangeSpec := { name := "fnExactPutNums", fn := fun _ => fun
  | [d] => { results := [.lit (.bool false)], args := [d] }
  | _ => none }
def FnExactPutNumsWrongFalsely : Prop := fnExactPutNumsRow.holds Try.pinned (OpenSpec.ofChange fnExactPutNumsWrong)

/-- 'laws.FnSum': WHATEVER THE INPUT: true; the input reads as it did. -/
def fnSumSpec : ChangeSpec := { name := "fnSum", fn := fun _ => fun
  | [d1, d2] => { results := [.lit (.bool true)], args := [d1, d2] }
  | _ => none }
def fnSumRow : OpenClaim := { program := "ytkmohnlkldkhdaa", sum := "4fb6d1ad2a9d4742855d6a6476eeb62c2b5a5cef58f98b2de36e5d0d304f9588", func := "loop.example/g00219/laws.FnSum", spec := "fnSum", apart := false }
def FnSumSaid : Prop := fnSumRow.holds Try.pinned (OpenSpec.ofChange fnSumSpec)

/-- ITS FALSE NEIGHBOUR: 'it returns false'. Refute it at one input. -/
def fnSumWrong : ChangeSpec := { name := "fnSum", fn := fun _ => fun
  | [d1, d2] => { results := [.lit (.bool false)], args := [d1, d2] }
  | _ => none }
def FnSumWrongFalsely : Prop := fnSumRow.holds Try.pinned (OpenSpec.ofChange fnSumWrong)

/-- 'laws.FnConv': WHATEVER THE INPUT: true; the input reads as it did. -/
def fnConvSpec : ChangeSpec := { name := "fnConv", fn := fun _ => fun
  | [d] => { results := [.lit (.bool true)], args := [d] }
  | _ => none }
def fnConvRow : OpenClaim := { program := "ytkmohnlkldkhdaa", sum := "4fb6d1ad2a9d4742855d6a6476eeb62c2b5a5cef58f98b2de36e5d0d304f9588", func := "loop.example/g00219/laws.FnConv", spec := "fnConv", apart := false }
def FnConvSaid : Prop := fnConvRow.holds Try.pinned (OpenSpec.ofChange fnConvSpec)

/-- ITS FALSE NEIGHBOUR: 'it returns false'. Refute it at one input. -/
def fnConvWrong : ChangeSpec := { name := "fnConv", fn := fun _ => fun
  | [d] => { results := [.lit (.bool false)], args := [d] }
  | _ => none }
def FnConvWrongFalsely : Prop := fnConvRow.holds Try.pinned (OpenSpec.ofChange fnConvWrong)

/-- 'laws.FnNums': WHATEVER THE INPUT: true; the input reads as it did. -/
def fnNumsSpec : ChangeSpec := { name := "fnNums", fn := fun _ => fun
  | [d1, d2] => { results := [.lit (.bool true)], args := [d1, d2] }
  | _ => none }
def fnNumsRow : OpenClaim := { program := "ytkmohnlkldkhdaa", sum := "4fb6d1ad2a9d4742855d6a6476eeb62c2b5a5cef58f98b2de36e5d0d304f9588", func := "loop.example/g00219/laws.FnNums", spec := "fnNums", apart := false }
def FnNumsSaid : Prop := fnNumsRow.holds Try.pinned (OpenSpec.ofChange fnNumsSpec)

/-- ITS FALSE NEIGHBOUR: 'it returns false'. Refute it at one input. -/
def fnNumsWrong : ChangeSpec := { name := "fnNums", fn := fun _ => fun
  | [d1, d2] => { results := [.lit (.bool false)], args := [d1, d2] }
  | _ => none }
def FnNumsWrongFalsely : Prop := fnNumsRow.holds Try.pinned (OpenSpec.ofChange fnNumsWrong)

/-- 'laws.FnArith': WHATEVER THE INPUT: true; the input reads as it did. -/
def fnArithSpec : ChangeSpec := { name := "fnArith", fn := fun _ => fun
  | [d] => { results := [.lit (.bool true)], args := [d] }
  | _ => none }
def fnArithRow : OpenClaim := { program := "ytkmohnlkldkhdaa", sum := "4fb6d1ad2a9d4742855d6a6476eeb62c2b5a5cef58f98b2de36e5d0d304f9588", func := "loop.example/g00219/laws.FnArith", spec := "fnArith", apart := false }
def FnArithSaid : Prop := fnArithRow.holds Try.pinned (OpenSpec.ofChange fnArithSpec)

/-- ITS FALSE NEIGHBOUR: 'it returns false'. Refute it at one input. -/
def fnArithWrong : ChangeSpec := { name := "fnArith", fn := fun _ => fun
  | [d] => { results := [.lit (.bool false)], args := [d] }
  | _ => none }
def FnArithWrongFalsely : Prop := fnArithRow.holds Try.pinned (OpenSpec.ofChange fnArithWrong)

/-- 'laws.FnExactProgramSame': WHATEVER THE INPUT: true; the input reads as it did. -/
def fnExactProgramSameSpec : ChangeSpec := { name := "fnExactProgramSame", fn := fun _ => fun
  | [d1, d2] => { results := [.lit (.bool true)], args := [d1, d2] }
  | _ => none }
def fnExactProgramSameRow : OpenClaim := { program := "ytkmohnlkldkhdaa", sum := "4fb6d1ad2a9d4742855d6a6476eeb62c2b5a5cef58f98b2de36e5d0d304f9588", func := "loop.example/g00219/laws.FnExactProgramSame", spec := "fnExactProgramSame", unfollowed := true, recurses := true, apart := false }
def FnExactProgramSameSaid : Prop := fnExactProgramSameRow.holds Try.pinned (OpenSpec.ofChange fnExactProgramSameSpec)

/-- ITS FALSE NEIGHBOUR: 'it returns false'. Refute it at one input. -/
def fnExactProgramSameWrong : ChangeSpec := { name := "fnExactProgramSame", fn := fun _ => fun
  | [d1, d2] => { results := [.lit (.bool false)], args := [d1, d2] }
  | _ => none }
def FnExactProgramSameWrongFalsely : Prop := fnExactProgramSameRow.holds Try.pinned (OpenSpec.ofChange fnExactProgramSameWrong)

/-- 'laws.FnExactStateSame': WHATEVER THE INPUT: true; the input reads as it did. -/
def fnExactStateSameSpec : ChangeSpec := { name := "fnExactStateSame", fn := fun _ => fun
  | [d1, d2] => { results := [.lit (.bool true)], args := [d1, d2] }
  | _ => none }
def fnExactStateSameRow : OpenClaim := { program := "ytkmohnlkldkhdaa", sum := "4fb6d1ad2a9d4742855d6a6476eeb62c2b5a5cef58f98b2de36e5d0d304f9588", func := "loop.example/g00219/laws.FnExactStateSame", spec := "fnExactStateSame", unfollowed := true, recurses := true, apart := false }
def FnExactStateSameSaid : Prop := fnExactStateSameRow.holds Try.pinned (OpenSpec.ofChange fnExactStateSameSpec)

/-- ITS FALSE NEIGHBOUR: 'it returns false'. Refute it at one input. -/
def fnExactStateSameWrong : ChangeSpec := { name := "fnExactStateSame", fn := fun _ => fun
  | [d1, d2] => { results := [.lit (.bool false)], args := [d1, d2] }
  | _ => none }
def FnExactStateSameWrongFalsely : Prop := fnExactStateSameRow.holds Try.pinned (OpenSpec.ofChange fnExactStateSameWrong)

/-- 'laws.FnExactAsmSame': WHATEVER THE INPUT: true; the input reads as it did. -/
def fnExactAsmSameSpec : ChangeSpec := { name := "fnExactAsmSame", fn := fun _ => fun
  | [d1, d2] => { results := [.lit (.bool true)], args := [d1, d2] }
  | _ => none }
def fnExactAsmSameRow : OpenClaim := { program := "ytkmohnlkldkhdaa", sum := "4fb6d1ad2a9d4742855d6a6476eeb62c2b5a5cef58f98b2de36e5d0d304f9588", func := "loop.example/g00219/laws.FnExactAsmSame", spec := "fnExactAsmSame", unfollowed := true, recurses := true, apart := false }
def FnExactAsmSameSaid : Prop := fnExactAsmSameRow.holds Try.pinned (OpenSpec.ofChange fnExactAsmSameSpec)

/-- ITS FALSE NEIGHBOUR: 'it returns false'. Refute it at one input. -/
def fnExactAsmSameWrong : ChangeSpec := { name := "fnExactAsmSame", fn := fun _ => fun
  | [d1, d2] => { results := [.lit (.bool false)], args := [d1, d2] }
  | _ => none }
def FnExactAsmSameWrongFalsely : Prop := fnExactAsmSameRow.holds Try.pinned (OpenSpec.ofChange fnExactAsmSameWrong)

/- THE SECOND FORM. 'bulk': how many values and letters a reading holds, each counted each time it is reached (what is shared counts as often as it is met; a slice's spare places count too). A statement '..UptoSaid' is the law's where the arguments, and the package variables that the reading takes, are together of bulk at most 1048576: NARROWER than '..Said'. Prove '..Said' where nothing that the law and all that it calls make is longer than what came in: it says more and counts as full. Else prove '..UptoSaid'. A law counts once. -/
mutual
def uptoBulk {H : Type} : DataW H → Nat
  | .lit (.string bytes) => bytes.length + 1
  | .lit _ => 1
  | .nil => 1
  | .ptr d => uptoBulk d + 1
  | .slice elems spare => uptoBulkAll elems + uptoBulkAll spare + 1
  | .agg parts => uptoBulkAll parts + 1
  | .iface _ d => uptoBulk d + 1
  | .map entries => uptoBulkEntries entries + 1
  | .held _ => 1
def uptoBulkAll {H : Type} : List (DataW H) → Nat
  | [] => 0
  | d :: r => uptoBulk d + uptoBulkAll r
def uptoBulkEntries {H : Type} : List (Lit × DataW H) → Nat
  | [] => 0
  | x :: r => uptoBulkEntry x + uptoBulkEntries r
def uptoBulkEntry {H : Type} : Lit × DataW H → Nat
  | (.string bytes, d) => bytes.length + uptoBulk d + 1
  | (_, d) => uptoBulk d + 1
 end
def uptoSmall : (H : Type) → List (DataW H) → Bool := fun _ ds => decide (uptoBulkAll ds ≤ 1048576)
def OpenSpec.upto (s : _root_.Go.ChangeSpec) : _root_.Go.OpenSpec := { _root_.Go.OpenSpec.ofChange s with cond := some uptoSmall }

/-- 'laws.FnExactFits', WHERE WHAT IT READS IS OF BULK AT MOST 1048576: true; the input reads as it did. -/
def fnExactFitsUptoRow : OpenClaim := { program := "ytkmohnlkldkhdaa", sum := "4fb6d1ad2a9d4742855d6a6476eeb62c2b5a5cef58f98b2de36e5d0d304f9588", func := "loop.example/g00219/laws.FnExactFits", spec := "fnExactFits", apart := false, narrowed := true }
def FnExactFitsUptoSaid : Prop := fnExactFitsUptoRow.holds Try.pinned (OpenSpec.upto fnExactFitsSpec)

/-- 'laws.FnOpNames', WHERE WHAT IT READS IS OF BULK AT MOST 1048576: true; the input reads as it did. -/
def fnOpNamesUptoRow : OpenClaim := { program := "ytkmohnlkldkhdaa", sum := "4fb6d1ad2a9d4742855d6a6476eeb62c2b5a5cef58f98b2de36e5d0d304f9588", func := "loop.example/g00219/laws.FnOpNames", spec := "fnOpNames", apart := false, narrowed := true }
def FnOpNamesUptoSaid : Prop := fnOpNamesUptoRow.holds Try.pinned (OpenSpec.upto fnOpNamesSpec)

/-- 'laws.FnExactPutNums', WHERE WHAT IT READS IS OF BULK AT MOST 1048576: true; the input reads as it did. -/
def fnExactPutNumsUptoRow : OpenClaim := { program := "ytkmohnlkldkhdaa", sum := "4fb6d1ad2a9d4742855d6a6476eeb62c2b5a5cef58f98b2de36e5d0d304f9588", func := "loop.example/g00219/laws.FnExactPutNums", spec := "fnExactPutNums", apart := false, narrowed := true }
def FnExactPutNumsUptoSaid : Prop := fnExactPutNumsUptoRow.holds Try.pinned (OpenSpec.upto fnExactPutNumsSpec)

/-- 'laws.FnSum', WHERE WHAT IT READS IS OF BULK AT MOST 1048576: true; the input reads as it did. -/
def fnSumUptoRow : OpenClaim := { program := "ytkmohnlkldkhdaa", sum := "4fb6d1ad2a9d4742855d6a6476eeb62c2b5a5cef58f98b2de36e5d0d304f9588", func := "loop.example/g00219/laws.FnSum", spec := "fnSum", apart := false, narrowed := true }
def FnSumUptoSaid : Prop := fnSumUptoRow.holds Try.pinned (OpenSpec.upto fnSumSpec)

/-- 'laws.FnConv', WHERE WHAT IT READS IS OF BULK AT MOST 1048576: true; the input reads as it did. -/
def fnConvUptoRow : OpenClaim := { program := "ytkmohnlkldkhdaa", sum := "4fb6d1ad2a9d4742855d6a6476eeb62c2b5a5cef58f98b2de36e5d0d304f9588", func := "loop.example/g00219/laws.FnConv", spec := "fnConv", apart := false, narrowed := true }
def FnConvUptoSaid : Prop := fnConvUptoRow.holds Try.pinned (OpenSpec.upto fnConvSpec)

/-- 'laws.FnNums', WHERE WHAT IT READS IS OF BULK AT MOST 1048576: true; the input reads as it did. -/
def fnNumsUptoRow : OpenClaim := { program := "ytkmohnlkldkhdaa", sum := "4fb6d1ad2a9d4742855d6a6476eeb62c2b5a5cef58f98b2de36e5d0d304f9588", func := "loop.example/g00219/laws.FnNums", spec := "fnNums", apart := false, narrowed := true }
def FnNumsUptoSaid : Prop := fnNumsUptoRow.holds Try.pinned (OpenSpec.upto fnNumsSpec)

/-- 'laws.FnArith', WHERE WHAT IT READS IS OF BULK AT MOST 1048576: true; the input reads as it did. -/
def fnArithUptoRow : OpenClaim := { program := "ytkmohnlkldkhdaa", sum := "4fb6d1ad2a9d4742855d6a6476eeb62c2b5a5cef58f98b2de36e5d0d304f9588", func := "loop.example/g00219/laws.FnArith", spec := "fnArith", apart := false, narrowed := true }
def FnArithUptoSaid : Prop := fnArithUptoRow.holds Try.pinned (OpenSpec.upto fnArithSpec)

/-- 'laws.FnExactProgramSame', WHERE WHAT IT READS IS OF BULK AT MOST 1048576: true; the input reads as it did. -/
def fnExactProgramSameUptoRow : OpenClaim := { program := "ytkmohnlkldkhdaa", sum := "4fb6d1ad2a9d4742855d6a6476eeb62c2b5a5cef58f98b2de36e5d0d304f9588", func := "loop.example/g00219/laws.FnExactProgramSame", spec := "fnExactProgramSame", unfollowed := true, recurses := true, apart := false, narrowed := true }
def FnExactProgramSameUptoSaid : Prop := fnExactProgramSameUptoRow.holds Try.pinned (OpenSpec.upto fnExactProgramSameSpec)

/-- 'laws.FnExactStateSame', WHERE WHAT IT READS IS OF BULK AT MOST 1048576: true; the input reads as it did. -/
def fnExactStateSameUptoRow : OpenClaim := { program := "ytkmohnlkldkhdaa", sum := "4fb6d1ad2a9d4742855d6a6476eeb62c2b5a5cef58f98b2de36e5d0d304f9588", func := "loop.example/g00219/laws.FnExactStateSame", spec := "fnExactStateSame", unfollowed := true, recurses := true, apart := false, narrowed := true }
def FnExactStateSameUptoSaid : Prop := fnExactStateSameUptoRow.holds Try.pinned (OpenSpec.upto fnExactStateSameSpec)

/-- 'laws.FnExactAsmSame', WHERE WHAT IT READS IS OF BULK AT MOST 1048576: true; the input reads as it did. -/
def fnExactAsmSameUptoRow : OpenClaim := { program := "ytkmohnlkldkhdaa", sum := "4fb6d1ad2a9d4742855d6a6476eeb62c2b5a5cef58f98b2de36e5d0d304f9588", func := "loop.example/g00219/laws.FnExactAsmSame", spec := "fnExactAsmSame", unfollowed := true, recurses := true, apart := false, narrowed := true }
def FnExactAsmSameUptoSaid : Prop := fnExactAsmSameUptoRow.holds Try.pinned (OpenSpec.upto fnExactAsmSameSpec)

end Rows
end Go.Proofs.Ytkmohnlkldkhdaa
