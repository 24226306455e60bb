/- What the parameters of FnExactPlainSize are, as data: their numbers are of their kinds. -/
import Derived.Test.YthdfokebbcheoaaCFnExactPlainSizex0
import Derived.Test.YthdfokebbcheoaaCFnExactPlainSizeo
namespace Go.Proofs.Ythdfokebbcheoaa.QFnExactPlainSize
open Go.RowKit Go.Proofs.YthdfokebbcheoaaW.PrintWords
set_option linter.unusedVariables false
def wf191 (x : S191) : Prop := (Lit.int .i64 x.f0).wf = true ∧ (Lit.int .i64 x.f1).wf = true
set_option maxRecDepth 100000 in
theorem opens191_ : Opn.Opens Try.prog 191 k191 wf191 := Opn.opens_struct Try.underlying191 (Opn.opens_more (Opn.opens_int Try.underlying2) (Opn.opens_last (by kernel_rfl) (Opn.opens_int Try.underlying2))) (fun x : S191 => (x.f0, x.f1)) (fun x => ⟨x.1, x.2⟩) (fun _ => rfl)
theorem k191_parts {w : World} {x : S191} {cs : List Value} (h : k191.K w x cs) : cs = [.int .i64 x.f0, .int .i64 x.f1] := by
  obtain ⟨_, _, rfl, rfl, rfl⟩ := h
  exact rfl
def wf135 (x : S135) : Prop := (Lit.int .i64 x.f0).wf = true ∧ (Lit.int .i64 x.f1).wf = true ∧ (x.f2.length ≤ 9223372036854775807 ∧ ∀ z ∈ x.f2, wf191 z)
set_option maxRecDepth 100000 in
theorem opens135_ : Opn.Opens Try.prog 135 k135 wf135 := Opn.opens_struct Try.underlying135 (Opn.opens_more (Opn.opens_int Try.underlying2) (Opn.opens_more (Opn.opens_int Try.underlying2) (Opn.opens_last (by kernel_rfl) (Opn.opens_slice Try.underlying133 (by kernel_rfl) (opens191_))))) (fun x : S135 => (x.f0, x.f1, x.f2)) (fun x => ⟨x.1, x.2.1, x.2.2⟩) (fun _ => rfl)
theorem k135_parts {w : World} {x : S135} {cs : List Value} (h : k135.K w x cs) : ∃ (A2 : Option Addr) (c2 : Nat), cs = [.int .i64 x.f0, .int .i64 x.f1, .slice A2 x.f2.length c2] ∧ x.f2.length ≤ c2 ∧ Kd.C k191 w A2 x.f2.length x.f2 := by
  obtain ⟨_, _, rfl, rfl, ⟨_, _, rfl, rfl, ⟨A2, c2, rfl, hl2, hr2⟩⟩⟩ := h
  exact ⟨A2, c2, rfl, hl2, hr2⟩
structure S24 where
  f0 : (List S135)
def k24 : Kd S24 := Kd.iso (Kd.slice 135 k135) (fun x : S24 => x.f0)
def wf24 (x : S24) : Prop := (x.f0.length ≤ 9223372036854775807 ∧ ∀ z ∈ x.f0, wf135 z)
set_option maxRecDepth 100000 in
theorem opens24_ : Opn.Opens Try.prog 24 k24 wf24 := Opn.opens_struct Try.underlying24 (Opn.opens_last (by kernel_rfl) (Opn.opens_slice Try.underlying22 (by kernel_rfl) (opens135_))) (fun x : S24 => x.f0) (fun x => ⟨x⟩) (fun _ => rfl)
theorem k24_parts {w : World} {x : S24} {cs : List Value} (h : k24.K w x cs) : ∃ (A0 : Option Addr) (c0 : Nat), cs = [.slice A0 x.f0.length c0] ∧ x.f0.length ≤ c0 ∧ Kd.C k135 w A0 x.f0.length x.f0 := by
  obtain ⟨A0, c0, rfl, hl0, hr0⟩ := h
  exact ⟨A0, c0, rfl, hl0, hr0⟩
end Go.Proofs.Ythdfokebbcheoaa.QFnExactPlainSize
