/- What the parameters of FnExactFuncSame are, as data: their numbers are of their kinds. -/
import Derived.Test.YtmmcafjppiamhaaPFnExactFuncSamex0
import Derived.Test.YtmmcafjppiamhaaOpen
namespace Go.Proofs.Ytmmcafjppiamhaa.PFnExactFuncSame
open Go.RowKit Go.Proofs.YtmmcafjppiamhaaW.PrintWords
set_option linter.unusedVariables false
def wf29 (x : S29) : Prop := (Lit.int .i64 x.f0).wf = true ∧ (Lit.int .i64 x.f1).wf = true
theorem opens29_ : Opn.Opens Try.prog 29 k29 wf29 := Opn.opens_struct Try.underlying29 (Opn.opens_more (Opn.opens_int Try.underlying2) (Opn.opens_last (by kernel_rfl) (Opn.opens_int Try.underlying2))) (fun x : S29 => (x.f0, x.f1)) (fun x => ⟨x.1, x.2⟩) (fun _ => rfl)
theorem k29_parts {w : World} {x : S29} {cs : List Value} (h : k29.K w x cs) : cs = [.int .i64 x.f0, .int .i64 x.f1] := by
  obtain ⟨_, _, rfl, rfl, rfl⟩ := h
  exact rfl
structure S53 where
  f0 : Int
  f1 : Int
  f2 : (List S29)
def k53 : Kd S53 := Kd.iso (Kd.pair (Kd.int .i64) (Kd.pair (Kd.int .i64) (Kd.slice 29 k29))) (fun x : S53 => (x.f0, x.f1, x.f2))
def wf53 (x : S53) : Prop := (Lit.int .i64 x.f0).wf = true ∧ (Lit.int .i64 x.f1).wf = true ∧ (x.f2.length ≤ 9223372036854775807 ∧ ∀ z ∈ x.f2, wf29 z)
theorem opens53_ : Opn.Opens Try.prog 53 k53 wf53 := Opn.opens_struct Try.underlying53 (Opn.opens_more (Opn.opens_int Try.underlying2) (Opn.opens_more (Opn.opens_int Try.underlying2) (Opn.opens_last (by kernel_rfl) (Opn.opens_slice Try.underlying51 (by kernel_rfl) (opens29_))))) (fun x : S53 => (x.f0, x.f1, x.f2)) (fun x => ⟨x.1, x.2.1, x.2.2⟩) (fun _ => rfl)
theorem k53_parts {w : World} {x : S53} {cs : List Value} (h : k53.K w x cs) : ∃ (A2 : Option Addr) (c2 : Nat), cs = [.int .i64 x.f0, .int .i64 x.f1, .slice A2 x.f2.length c2] ∧ x.f2.length ≤ c2 ∧ Kd.C k29 w A2 x.f2.length x.f2 := by
  obtain ⟨_, _, rfl, rfl, ⟨_, _, rfl, rfl, ⟨A2, c2, rfl, hl2, hr2⟩⟩⟩ := h
  exact ⟨A2, c2, rfl, hl2, hr2⟩
end Go.Proofs.Ytmmcafjppiamhaa.PFnExactFuncSame
