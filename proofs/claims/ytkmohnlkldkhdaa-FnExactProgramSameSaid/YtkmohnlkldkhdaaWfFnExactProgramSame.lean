/- What the parameters of FnExactProgramSame are, as data: their numbers are of their kinds. -/
import Derived.Test.YtkmohnlkldkhdaaQFnExactProgramSamex0
import Derived.Test.YtkmohnlkldkhdaaOpen
namespace Go.Proofs.Ytkmohnlkldkhdaa.QFnExactProgramSame
open Go.RowKit Go.Proofs.YtkmohnlkldkhdaaW.PrintWords
set_option linter.unusedVariables false
def wf166 (x : S166) : Prop := (Lit.int .i64 x.f0).wf = true ∧ (Lit.int .i64 x.f1).wf = true
set_option maxRecDepth 100000 in
theorem opens166_ : Opn.Opens Try.prog 166 k166 wf166 := Opn.opens_struct Try.underlying166 (Opn.opens_more (Opn.opens_int Try.underlying2) (Opn.opens_last (by kernel_rfl) (Opn.opens_int Try.underlying2))) (fun x : S166 => (x.f0, x.f1)) (fun x => ⟨x.1, x.2⟩) (fun _ => rfl)
theorem k166_parts {w : World} {x : S166} {cs : List Value} (h : k166.K w x cs) : cs = [.int .i64 x.f0, .int .i64 x.f1] := by
  obtain ⟨_, _, rfl, rfl, rfl⟩ := h
  exact rfl
def wf138 (x : S138) : Prop := (Lit.int .i64 x.f0).wf = true ∧ (Lit.int .i64 x.f1).wf = true ∧ (x.f2.length ≤ 9223372036854775807 ∧ ∀ z ∈ x.f2, wf166 z)
set_option maxRecDepth 100000 in
theorem opens138_ : Opn.Opens Try.prog 138 k138 wf138 := Opn.opens_struct Try.underlying138 (Opn.opens_more (Opn.opens_int Try.underlying2) (Opn.opens_more (Opn.opens_int Try.underlying2) (Opn.opens_last (by kernel_rfl) (Opn.opens_slice Try.underlying136 (by kernel_rfl) (opens166_))))) (fun x : S138 => (x.f0, x.f1, x.f2)) (fun x => ⟨x.1, x.2.1, x.2.2⟩) (fun _ => rfl)
theorem k138_parts {w : World} {x : S138} {cs : List Value} (h : k138.K w x cs) : ∃ (A2 : Option Addr) (c2 : Nat), cs = [.int .i64 x.f0, .int .i64 x.f1, .slice A2 x.f2.length c2] ∧ x.f2.length ≤ c2 ∧ Kd.C k166 w A2 x.f2.length x.f2 := by
  obtain ⟨_, _, rfl, rfl, ⟨_, _, rfl, rfl, ⟨A2, c2, rfl, hl2, hr2⟩⟩⟩ := h
  exact ⟨A2, c2, rfl, hl2, hr2⟩
structure S51 where
  f0 : (List S138)
def k51 : Kd S51 := Kd.iso (Kd.slice 138 k138) (fun x : S51 => x.f0)
def wf51 (x : S51) : Prop := (x.f0.length ≤ 9223372036854775807 ∧ ∀ z ∈ x.f0, wf138 z)
set_option maxRecDepth 100000 in
theorem opens51_ : Opn.Opens Try.prog 51 k51 wf51 := Opn.opens_struct Try.underlying51 (Opn.opens_last (by kernel_rfl) (Opn.opens_slice Try.underlying49 (by kernel_rfl) (opens138_))) (fun x : S51 => x.f0) (fun x => ⟨x⟩) (fun _ => rfl)
theorem k51_parts {w : World} {x : S51} {cs : List Value} (h : k51.K w x cs) : ∃ (A0 : Option Addr) (c0 : Nat), cs = [.slice A0 x.f0.length c0] ∧ x.f0.length ≤ c0 ∧ Kd.C k138 w A0 x.f0.length x.f0 := by
  obtain ⟨A0, c0, rfl, hl0, hr0⟩ := h
  exact ⟨A0, c0, rfl, hl0, hr0⟩
end Go.Proofs.Ytkmohnlkldkhdaa.QFnExactProgramSame
