/-
  No cell of these rows narrows 'for every input' (looked for: loops, veiled, ifaces, maps, wideKeys, modest, calm, conditions, laid).
  DERIVED. THE GIVEN ROWS OF THIS SEAT. 4 by the template 'for every input the law returns true; each argument reads behind the call as it read before'; 0 by the template 'total and deterministic' (their statements: YtkhpiicijkhpkaaTotals.lean).
  GIVEN WITH THE SEED: the statements are not yours to turn. If you find one false, say at which input.
  Laid BY PROGRAM, IN A SANDBOX (cutbox-rows.mjs): the forced cells as the released guide's own fill.sh prints them over the translation 8ddc0bf9467ca8c3… (all of the seat's roots in one cut). By AI agents, Wed Nov 11 2026. No macro, syntax, notation, axiom, sorry.
-/
import Derived.Test.YtkhpiicijkhpkaaChecked
import GoSem.Claim
import GoSem.ClaimJoined
import GoSem.ClaimMapViews
import Derived.JoinedTies
import Derived.KernelRfl
namespace Go.Proofs.Ytkhpiicijkhpkaa
/- THE CELL 'sum', in the pinned program and in every row, IS THE sha256 OF THE DUMP (.gsa) THAT YtkhpiicijkhpkaaProg.lean LOADS. Nothing in Lean hashes anything: it is a label: what it is worth is what the hold of that sum in a sandbox is worth. -/
noncomputable def Try.pinned : Pinned := { name := "ytkhpiicijkhpkaa", sum := "8ddc0bf9467ca8c339584a236779f5af933f9dfe31a4f5163b221f3ea88f9eba", checked := Try.checked }
namespace Rows
def none {H : Type} : Left H := { results := [], args := [] }

/-- 'laws.FnExactSeenAdd': WHATEVER THE INPUT: true; the input reads as it did. -/
def fnExactSeenAddSpec : ChangeSpec := { name := "fnExactSeenAdd", fn := fun _ => fun
  | [d1, d2, d3] => { results := [.lit (.bool true)], args := [d1, d2, d3] }
  | _ => none }
def fnExactSeenAddRow : OpenClaim := { program := "ytkhpiicijkhpkaa", sum := "8ddc0bf9467ca8c339584a236779f5af933f9dfe31a4f5163b221f3ea88f9eba", func := "loop.example/g00219/laws.FnExactSeenAdd", spec := "fnExactSeenAdd", inPlace := ["slices.overlaps[loop.example/g00219/impl.Seen]"], unfollowed := true, recurses := true, apart := false }
def FnExactSeenAddSaid : Prop := fnExactSeenAddRow.holds Try.pinned (OpenSpec.ofChange fnExactSeenAddSpec)

/-- ITS FALSE NEIGHBOUR: 'it returns false'. Refute it at one input. -/
def fnExactSeenAddWrong : ChangeSpec := { name := "fnExactSeenAdd", fn := fun _ => fun
  | [d1, d2, d3] => { results := [.lit (.bool false)], args := [d1, d2, d3] }
  | _ => none }
def FnExactSeenAddWrongFalsely : Prop := fnExactSeenAddRow.holds Try.pinned (OpenSpec.ofChange fnExactSeenAddWrong)

/-- 'laws.FnExactAsmBytes': WHATEVER THE INPUT: true; the input reads as it did. -/
def fnExactAsmBytesSpec : ChangeSpec := { name := "fnExactAsmBytes", fn := fun _ => fun
  | [d1, d2] => { results := [.lit (.bool true)], args := [d1, d2] }
  | _ => none }
def fnExactAsmBytesRow : OpenClaim := { program := "ytkhpiicijkhpkaa", sum := "8ddc0bf9467ca8c339584a236779f5af933f9dfe31a4f5163b221f3ea88f9eba", func := "loop.example/g00219/laws.FnExactAsmBytes", spec := "fnExactAsmBytes", unfollowed := true, recurses := true, apart := false }
def FnExactAsmBytesSaid : Prop := fnExactAsmBytesRow.holds Try.pinned (OpenSpec.ofChange fnExactAsmBytesSpec)

/-- ITS FALSE NEIGHBOUR: 'it returns false'. Refute it at one input. -/
def fnExactAsmBytesWrong : ChangeSpec := { name := "fnExactAsmBytes", fn := fun _ => fun
  | [d1, d2] => { results := [.lit (.bool false)], args := [d1, d2] }
  | _ => none }
def FnExactAsmBytesWrongFalsely : Prop := fnExactAsmBytesRow.holds Try.pinned (OpenSpec.ofChange fnExactAsmBytesWrong)

/-- 'laws.FnExactSaved': WHATEVER THE INPUT: true; the input reads as it did. -/
def fnExactSavedSpec : ChangeSpec := { name := "fnExactSaved", fn := fun _ => fun
  | [d1, d2] => { results := [.lit (.bool true)], args := [d1, d2] }
  | _ => none }
def fnExactSavedRow : OpenClaim := { program := "ytkhpiicijkhpkaa", sum := "8ddc0bf9467ca8c339584a236779f5af933f9dfe31a4f5163b221f3ea88f9eba", func := "loop.example/g00219/laws.FnExactSaved", spec := "fnExactSaved", unfollowed := true, recurses := true, apart := false }
def FnExactSavedSaid : Prop := fnExactSavedRow.holds Try.pinned (OpenSpec.ofChange fnExactSavedSpec)

/-- ITS FALSE NEIGHBOUR: 'it returns false'. Refute it at one input. -/
def fnExactSavedWrong : ChangeSpec := { name := "fnExactSaved", fn := fun _ => fun
  | [d1, d2] => { results := [.lit (.bool false)], args := [d1, d2] }
  | _ => none }
def FnExactSavedWrongFalsely : Prop := fnExactSavedRow.holds Try.pinned (OpenSpec.ofChange fnExactSavedWrong)

/-- 'laws.FnExactAsmRead': WHATEVER THE INPUT: true; the input reads as it did. -/
def fnExactAsmReadSpec : ChangeSpec := { name := "fnExactAsmRead", fn := fun _ => fun
  | [d1, d2] => { results := [.lit (.bool true)], args := [d1, d2] }
  | _ => none }
def fnExactAsmReadRow : OpenClaim := { program := "ytkhpiicijkhpkaa", sum := "8ddc0bf9467ca8c339584a236779f5af933f9dfe31a4f5163b221f3ea88f9eba", func := "loop.example/g00219/laws.FnExactAsmRead", spec := "fnExactAsmRead", apart := false }
def FnExactAsmReadSaid : Prop := fnExactAsmReadRow.holds Try.pinned (OpenSpec.ofChange fnExactAsmReadSpec)

/-- ITS FALSE NEIGHBOUR: 'it returns false'. Refute it at one input. -/
def fnExactAsmReadWrong : ChangeSpec := { name := "fnExactAsmRead", fn := fun _ => fun
  | [d1, d2] => { results := [.lit (.bool false)], args := [d1, d2] }
  | _ => none }
def FnExactAsmReadWrongFalsely : Prop := fnExactAsmReadRow.holds Try.pinned (OpenSpec.ofChange fnExactAsmReadWrong)

/- THE SECOND FORM. 'bulk': how many values and letters a reading holds, each counted each time it is reached (what is shared counts as often as it is met; a slice's spare places count too). A statement '..UptoSaid' is the law's where the arguments, and the package variables that the reading takes, are together of bulk at most 1048576: NARROWER than '..Said'. Prove '..Said' where nothing that the law and all that it calls make is longer than what came in: it says more and counts as full. Else prove '..UptoSaid'. A law counts once. -/
mutual
def uptoBulk {H : Type} : DataW H → Nat
  | .lit (.string bytes) => bytes.length + 1
  | .lit _ => 1
  | .nil => 1
  | .ptr d => uptoBulk d + 1
  | .slice elems spare => uptoBulkAll elems + uptoBulkAll spare + 1
  | .agg parts => uptoBulkAll parts + 1
  | .iface _ d => uptoBulk d + 1
  | .map entries => uptoBulkEntries entries + 1
  | .held _ => 1
def uptoBulkAll {H : Type} : List (DataW H) → Nat
  | [] => 0
  | d :: r => uptoBulk d + uptoBulkAll r
def uptoBulkEntries {H : Type} : List (Lit × DataW H) → Nat
  | [] => 0
  | x :: r => uptoBulkEntry x + uptoBulkEntries r
def uptoBulkEntry {H : Type} : Lit × DataW H → Nat
  | (.string bytes, d) => bytes.length + uptoBulk d + 1
  | (_, d) => uptoBulk d + 1
 end
def uptoSmall : (H : Type) → List (DataW H) → Bool := fun _ ds => decide (uptoBulkAll ds ≤ 1048576)
def OpenSpec.upto (s : _root_.Go.ChangeSpec) : _root_.Go.OpenSpec := { _root_.Go.OpenSpec.ofChange s with cond := some uptoSmall }

/-- 'laws.FnExactSeenAdd', WHERE WHAT IT READS IS OF BULK AT MOST 1048576: true; the input reads as it did. -/
def fnExactSeenAddUptoRow : OpenClaim := { program := "ytkhpiicijkhpkaa", sum := "8ddc0bf9467ca8c339584a236779f5af933f9dfe31a4f5163b221f3ea88f9eba", func := "loop.example/g00219/laws.FnExactSeenAdd", spec := "fnExactSeenAdd", inPlace := ["slices.overlaps[loop.example/g00219/impl.Seen]"], unfollowed := true, recurses := true, apart := false, narrowed := true }
def FnExactSeenAddUptoSaid : Prop := fnExactSeenAddUptoRow.holds Try.pinned (OpenSpec.upto fnExactSeenAddSpec)

/-- 'laws.FnExactAsmBytes', WHERE WHAT IT READS IS OF BULK AT MOST 1048576: true; the input reads as it did. -/
def fnExactAsmBytesUptoRow : OpenClaim := { program := "ytkhpiicijkhpkaa", sum := "8ddc0bf9467ca8c339584a236779f5af933f9dfe31a4f5163b221f3ea88f9eba", func := "loop.example/g00219/laws.FnExactAsmBytes", spec := "fnExactAsmBytes", unfollowed := true, recurses := true, apart := false, narrowed := true }
def FnExactAsmBytesUptoSaid : Prop := fnExactAsmBytesUptoRow.holds Try.pinned (OpenSpec.upto fnExactAsmBytesSpec)

/-- 'laws.FnExactSaved', WHERE WHAT IT READS IS OF BULK AT MOST 1048576: true; the input reads as it did. -/
def fnExactSavedUptoRow : OpenClaim := { program := "ytkhpiicijkhpkaa", sum := "8ddc0bf9467ca8c339584a236779f5af933f9dfe31a4f5163b221f3ea88f9eba", func := "loop.example/g00219/laws.FnExactSaved", spec := "fnExactSaved", unfollowed := true, recurses := true, apart := false, narrowed := true }
def FnExactSavedUptoSaid : Prop := fnExactSavedUptoRow.holds Try.pinned (OpenSpec.upto fnExactSavedSpec)

/-- 'laws.FnExactAsmRead', WHERE WHAT IT READS IS OF BULK AT MOST 1048576: true; the input reads as it did. -/
def fnExactAsmReadUptoRow : OpenClaim := { program := "ytkhpiicijkhpkaa", sum := "8ddc0bf9467ca8c339584a236779f5af933f9dfe31a4f5163b221f3ea88f9eba", func := "loop.example/g00219/laws.FnExactAsmRead", spec := "fnExactAsmRead", apart := false, narrowed := true }
def FnExactAsmReadUptoSaid : Prop := fnExactAsmReadUptoRow.holds Try.pinned (OpenSpec.upto fnExactAsmReadSpec)

end Rows
end Go.Proofs.Ytkhpiicijkhpkaa
