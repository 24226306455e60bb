/-
  No cell of these rows narrows 'for every input' (looked for: loops, veiled, ifaces, maps, wideKeys, modest, calm, conditions, laid).
  DERIVED. THE GIVEN ROWS OF THIS SEAT. 6 by the template 'for every input the law returns true; each argument reads behind the call as it read before'; 0 by the template 'total and deterministic' (their statements: YthdfokebbcheoaaTotals.lean).
  GIVEN WITH THE SEED: the statements are not yours to turn. If you find one false, say at which input.
  Laid BY PROGRAM, IN A SANDBOX (cutbox-rows.mjs): the forced cells as the released guide's own fill.sh prints them over the translation 04b7354a6c6bc28f… (all of the seat's roots in one cut). By AI agents, Wed Nov 11 2026. No macro, syntax, notation, axiom, sorry.
-/
import Derived.Test.YthdfokebbcheoaaChecked
import GoSem.Claim
import GoSem.ClaimJoined
import GoSem.ClaimMapViews
import Derived.JoinedTies
import Derived.KernelRfl
namespace Go.Proofs.Ythdfokebbcheoaa
/- THE CELL 'sum', in the pinned program and in every row, IS THE sha256 OF THE DUMP (.gsa) THAT YthdfokebbcheoaaProg.lean LOADS. Nothing in Lean hashes anything: it is a label: what it is worth is what the hold of that sum in a sandbox is worth. -/
noncomputable def Try.pinned : Pinned := { name := "ythdfokebbcheoaa", sum := "04b7354a6c6bc28ff06df428575c3d27bd44330836a0f51504776990f37ea2b6", checked := Try.checked }
namespace Rows
def none {H : Type} : Left H := { results := [], args := [] }

/-- 'laws.FnExactPlainSize': WHATEVER THE INPUT: true; the input reads as it did. -/
def fnExactPlainSizeSpec : ChangeSpec := { name := "fnExactPlainSize", fn := fun _ => fun
  | [d1, d2] => { results := [.lit (.bool true)], args := [d1, d2] }
  | _ => none }
def fnExactPlainSizeRow : OpenClaim := { program := "ythdfokebbcheoaa", sum := "04b7354a6c6bc28ff06df428575c3d27bd44330836a0f51504776990f37ea2b6", func := "loop.example/g00219/laws.FnExactPlainSize", spec := "fnExactPlainSize", unfollowed := true, recurses := true, apart := false }
def FnExactPlainSizeSaid : Prop := fnExactPlainSizeRow.holds Try.pinned (OpenSpec.ofChange fnExactPlainSizeSpec)

/-- ITS FALSE NEIGHBOUR: 'it returns false'. Refute it at one input. -/
def fnExactPlainSizeWrong : ChangeSpec := { name := "fnExactPlainSize", fn := fun _ => fun
  | [d1, d2] => { results := [.lit (.bool false)], args := [d1, d2] }
  | _ => none }
def FnExactPlainSizeWrongFalsely : Prop := fnExactPlainSizeRow.holds Try.pinned (OpenSpec.ofChange fnExactPlainSizeWrong)

/-- 'laws.FnExactPlain': WHATEVER THE INPUT: true; the input reads as it did. -/
def fnExactPlainSpec : ChangeSpec := { name := "fnExactPlain", fn := fun _ => fun
  | [d1, d2] => { results := [.lit (.bool true)], args := [d1, d2] }
  | _ => none }
def fnExactPlainRow : OpenClaim := { program := "ythdfokebbcheoaa", sum := "04b7354a6c6bc28ff06df428575c3d27bd44330836a0f51504776990f37ea2b6", func := "loop.example/g00219/laws.FnExactPlain", spec := "fnExactPlain", unfollowed := true, recurses := true, apart := false }
def FnExactPlainSaid : Prop := fnExactPlainRow.holds Try.pinned (OpenSpec.ofChange fnExactPlainSpec)

/-- ITS FALSE NEIGHBOUR: 'it returns false'. Refute it at one input. -/
def fnExactPlainWrong : ChangeSpec := { name := "fnExactPlain", fn := fun _ => fun
  | [d1, d2] => { results := [.lit (.bool false)], args := [d1, d2] }
  | _ => none }
def FnExactPlainWrongFalsely : Prop := fnExactPlainRow.holds Try.pinned (OpenSpec.ofChange fnExactPlainWrong)

/-- 'laws.FnExactBegin': WHATEVER THE INPUT: true; the input reads as it did. -/
def fnExactBeginSpec : ChangeSpec := { name := "fnExactBegin", fn := fun _ => fun
  | [d1, d2, d3, d4] => { results := [.lit (.bool true)], args := [d1, d2, d3, d4] }
  | _ => none }
def fnExactBeginRow : OpenClaim := { program := "ythdfokebbcheoaa", sum := "04b7354a6c6bc28ff06df428575c3d27bd44330836a0f51504776990f37ea2b6", func := "loop.example/g00219/laws.FnExactBegin", spec := "fnExactBegin", apart := false }
def FnExactBeginSaid : Prop := fnExactBeginRow.holds Try.pinned (OpenSpec.ofChange fnExactBeginSpec)

/-- ITS FALSE NEIGHBOUR: 'it returns false'. Refute it at one input. -/
def fnExactBeginWrong : ChangeSpec := { name := "fnExactBegin", fn := fun _ => fun
  | [d1, d2, d3, d4] => { results := [.lit (.bool false)], args := [d1, d2, d3, d4] }
  | _ => none }
def FnExactBeginWrongFalsely : Prop := fnExactBeginRow.holds Try.pinned (OpenSpec.ofChange fnExactBeginWrong)

/-- 'laws.FnExactMixTold': WHATEVER THE INPUT: true; the input reads as it did. -/
def fnExactMixToldSpec : ChangeSpec := { name := "fnExactMixTold", fn := fun _ => fun
  | [d] => { results := [.lit (.bool true)], args := [d] }
  | _ => none }
def fnExactMixToldRow : OpenClaim := { program := "ythdfokebbcheoaa", sum := "04b7354a6c6bc28ff06df428575c3d27bd44330836a0f51504776990f37ea2b6", func := "loop.example/g00219/laws.FnExactMixTold", spec := "fnExactMixTold", apart := false }
def FnExactMixToldSaid : Prop := fnExactMixToldRow.holds Try.pinned (OpenSpec.ofChange fnExactMixToldSpec)

/-- ITS FALSE NEIGHBOUR: 'it returns false'. Refute it at one input. -/
def fnExactMixToldWrong : ChangeSpec := { name := "fnExactMixTold", fn := fun _ => fun
  | [d] => { results := [.lit (.bool false)], args := [d] }
  | _ => none }
def FnExactMixToldWrongFalsely : Prop := fnExactMixToldRow.holds Try.pinned (OpenSpec.ofChange fnExactMixToldWrong)

/-- 'laws.FnExactPutNums': WHATEVER THE INPUT: true; the input reads as it did. -/
def fnExactPutNumsSpec : ChangeSpec := { name := "fnExactPutNums", fn := fun _ => fun
  | [d] => { results := [.lit (.bool true)], args := [d] }
  | _ => none }
def fnExactPutNumsRow : OpenClaim := { program := "ythdfokebbcheoaa", sum := "04b7354a6c6bc28ff06df428575c3d27bd44330836a0f51504776990f37ea2b6", func := "loop.example/g00219/laws.FnExactPutNums", spec := "fnExactPutNums", apart := false }
def FnExactPutNumsSaid : Prop := fnExactPutNumsRow.holds Try.pinned (OpenSpec.ofChange fnExactPutNumsSpec)

/-- ITS FALSE NEIGHBOUR: 'it returns false'. Refute it at one input. -/
def fnExactPutNumsWrong : ChangeSpec := { name := "fnExactPutNums", fn := fun _ => fun
  | [d] => { results := [.lit (.bool false)], args := [d] }
  | _ => none }
def FnExactPutNumsWrongFalsely : Prop := fnExactPutNumsRow.holds Try.pinned (OpenSpec.ofChange fnExactPutNumsWrong)

/-- 'laws.FnSum': WHATEVER THE INPUT: true; the input reads as it did. -/
def fnSumSpec : ChangeSpec := { name := "fnSum", fn := fun _ => fun
  | [d1, d2] => { results := [.lit (.bool true)], args := [d1, d2] }
  | _ => none }
def fnSumRow : OpenClaim := { program := "ythdfokebbcheoaa", sum := "04b7354a6c6bc28ff06df428575c3d27bd44330836a0f51504776990f37ea2b6", func := "loop.example/g00219/laws.FnSum", spec := "fnSum", apart := false }
def FnSumSaid : Prop := fnSumRow.holds Try.pinned (OpenSpec.ofChange fnSumSpec)

/-- ITS FALSE NEIGHBOUR: 'it returns false'. Refute it at one input. -/
def fnSumWrong : ChangeSpec := { name := "fnSum", fn := fun _ => fun
  | [d1, d2] => { results := [.lit (.bool false)], args := [d1, d2] }
  | _ => none }
def FnSumWrongFalsely : Prop := fnSumRow.holds Try.pinned (OpenSpec.ofChange fnSumWrong)

/- THE SECOND FORM. 'bulk': how many values and letters a reading holds, each counted each time it is reached (what is shared counts as often as it is met; a slice's spare places count too). A statement '..UptoSaid' is the law's where the arguments, and the package variables that the reading takes, are together of bulk at most 1048576: NARROWER than '..Said'. Prove '..Said' where nothing that the law and all that it calls make is longer than what came in: it says more and counts as full. Else prove '..UptoSaid'. A law counts once. -/
mutual
def uptoBulk {H : Type} : DataW H → Nat
  | .lit (.string bytes) => bytes.length + 1
  | .lit _ => 1
  | .nil => 1
  | .ptr d => uptoBulk d + 1
  | .slice elems spare => uptoBulkAll elems + uptoBulkAll spare + 1
  | .agg parts => uptoBulkAll parts + 1
  | .iface _ d => uptoBulk d + 1
  | .map entries => uptoBulkEntries entries + 1
  | .held _ => 1
def uptoBulkAll {H : Type} : List (DataW H) → Nat
  | [] => 0
  | d :: r => uptoBulk d + uptoBulkAll r
def uptoBulkEntries {H : Type} : List (Lit × DataW H) → Nat
  | [] => 0
  | x :: r => uptoBulkEntry x + uptoBulkEntries r
def uptoBulkEntry {H : Type} : Lit × DataW H → Nat
  | (.string bytes, d) => bytes.length + uptoBulk d + 1
  | (_, d) => uptoBulk d + 1
 end
def uptoSmall : (H : Type) → List (DataW H) → Bool := fun _ ds => decide (uptoBulkAll ds ≤ 1048576)
def OpenSpec.upto (s : _root_.Go.ChangeSpec) : _root_.Go.OpenSpec := { _root_.Go.OpenSpec.ofChange s with cond := some uptoSmall }

/-- 'laws.FnExactPlainSize', WHERE WHAT IT READS IS OF BULK AT MOST 1048576: true; the input reads as it did. -/
def fnExactPlainSizeUptoRow : OpenClaim := { program := "ythdfokebbcheoaa", sum := "04b7354a6c6bc28ff06df428575c3d27bd44330836a0f51504776990f37ea2b6", func := "loop.example/g00219/laws.FnExactPlainSize", spec := "fnExactPlainSize", unfollowed := true, recurses := true, apart := false, narrowed := true }
def FnExactPlainSizeUptoSaid : Prop := fnExactPlainSizeUptoRow.holds Try.pinned (OpenSpec.upto fnExactPlainSizeSpec)

/-- 'laws.FnExactPlain', WHERE WHAT IT READS IS OF BULK AT MOST 1048576: true; the input reads as it did. -/
def fnExactPlainUptoRow : OpenClaim := { program := "ythdfokebbcheoaa", sum := "04b7354a6c6bc28ff06df428575c3d27bd44330836a0f51504776990f37ea2b6", func := "loop.example/g00219/laws.FnExactPlain", spec := "fnExactPlain", unfollowed := true, recurses := true, apart := false, narrowed := true }
def FnExactPlainUptoSaid : Prop := fnExactPlainUptoRow.holds Try.pinned (OpenSpec.upto fnExactPlainSpec)

/-- 'laws.FnExactBegin', WHERE WHAT IT READS IS OF BULK AT MOST 1048576: true; the input reads as it did. -/
def fnExactBeginUptoRow : OpenClaim := { program := "ythdfokebbcheoaa", sum := "04b7354a6c6bc28ff06df428575c3d27bd44330836a0f51504776990f37ea2b6", func := "loop.example/g00219/laws.FnExactBegin", spec := "fnExactBegin", apart := false, narrowed := true }
def FnExactBeginUptoSaid : Prop := fnExactBeginUptoRow.holds Try.pinned (OpenSpec.upto fnExactBeginSpec)

/-- 'laws.FnExactMixTold', WHERE WHAT IT READS IS OF BULK AT MOST 1048576: true; the input reads as it did. -/
def fnExactMixToldUptoRow : OpenClaim := { program := "ythdfokebbcheoaa", sum := "04b7354a6c6bc28ff06df428575c3d27bd44330836a0f51504776990f37ea2b6", func := "loop.example/g00219/laws.FnExactMixTold", spec := "fnExactMixTold", apart := false, narrowed := true }
def FnExactMixToldUptoSaid : Prop := fnExactMixToldUptoRow.holds Try.pinned (OpenSpec.upto fnExactMixToldSpec)

/-- 'laws.FnExactPutNums', WHERE WHAT IT READS IS OF BULK AT MOST 1048576: true; the input reads as it did. -/
def fnExactPutNumsUptoRow : OpenClaim := { program := "ythdfokebbcheoaa", sum := "04b7354a6c6bc28ff06df428575c3d27bd44330836a0f51504776990f37ea2b6", func := "loop.example/g00219/laws.FnExactPutNums", spec := "fnExactPutNums", apart := false, narrowed := true }
def FnExactPutNumsUptoSaid : Prop := fnExactPutNumsUptoRow.holds Try.pinned (OpenSpec.upto fnExactPutNumsSpec)

/-- 'laws.FnSum', WHERE WHAT IT READS IS OF BULK AT MOST 1048576: true; the input reads as it did. -/
def fnSumUptoRow : OpenClaim := { program := "ythdfokebbcheoaa", sum := "04b7354a6c6bc28ff06df428575c3d27bd44330836a0f51504776990f37ea2b6", func := "loop.example/g00219/laws.FnSum", spec := "fnSum", apart := false, narrowed := true }
def FnSumUptoSaid : Prop := fnSumUptoRow.holds Try.pinned (OpenSpec.upto fnSumSpec)

end Rows
end Go.Proofs.Ythdfokebbcheoaa
