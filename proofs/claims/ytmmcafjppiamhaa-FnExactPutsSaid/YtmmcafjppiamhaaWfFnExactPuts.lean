/- What the parameters of FnExactPuts are, as data: their numbers are of their kinds. -/
import Derived.Test.YtmmcafjppiamhaaPFnExactPutsx0
import Derived.Test.YtmmcafjppiamhaaOpen
namespace Go.Proofs.Ytmmcafjppiamhaa.PFnExactPuts
open Go.RowKit Go.Proofs.YtmmcafjppiamhaaW.PrintWords
set_option linter.unusedVariables false
structure S29 where
  f0 : Int
  f1 : Int
def k29 : Kd S29 := Kd.iso (Kd.pair (Kd.int .i64) (Kd.int .i64)) (fun x : S29 => (x.f0, x.f1))
def wf29 (x : S29) : Prop := (Lit.int .i64 x.f0).wf = true ∧ (Lit.int .i64 x.f1).wf = true
theorem opens29_ : Opn.Opens Try.prog 29 k29 wf29 := Opn.opens_struct Try.underlying29 (Opn.opens_more (Opn.opens_int Try.underlying2) (Opn.opens_last (by kernel_rfl) (Opn.opens_int Try.underlying2))) (fun x : S29 => (x.f0, x.f1)) (fun x => ⟨x.1, x.2⟩) (fun _ => rfl)
theorem k29_parts {w : World} {x : S29} {cs : List Value} (h : k29.K w x cs) : cs = [.int .i64 x.f0, .int .i64 x.f1] := by
  obtain ⟨_, _, rfl, rfl, rfl⟩ := h
  exact rfl
end Go.Proofs.Ytmmcafjppiamhaa.PFnExactPuts
