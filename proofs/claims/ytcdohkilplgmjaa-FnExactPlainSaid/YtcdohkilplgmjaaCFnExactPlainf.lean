/- What the parameters of FnExactPlain are, as data: their numbers are of their kinds. -/
import Derived.Test.YtcdohkilplgmjaaCFnExactPlainx0
import Derived.Test.YtcdohkilplgmjaaCFnExactPlaino
namespace Go.Proofs.Ytcdohkilplgmjaa.QFnExactPlain
open Go.RowKit Go.Proofs.YtcdohkilplgmjaaW.PrintWords
set_option linter.unusedVariables false
def wf111 (x : S111) : Prop := (Lit.int .i64 x.f0).wf = true ∧ (Lit.int .i64 x.f1).wf = true
set_option maxRecDepth 100000 in
theorem opens111_ : Opn.Opens Try.prog 111 k111 wf111 := Opn.opens_struct Try.underlying111 (Opn.opens_more (Opn.opens_int Try.underlying2) (Opn.opens_last (by kernel_rfl) (Opn.opens_int Try.underlying2))) (fun x : S111 => (x.f0, x.f1)) (fun x => ⟨x.1, x.2⟩) (fun _ => rfl)
theorem k111_parts {w : World} {x : S111} {cs : List Value} (h : k111.K w x cs) : cs = [.int .i64 x.f0, .int .i64 x.f1] := by
  obtain ⟨_, _, rfl, rfl, rfl⟩ := h
  exact rfl
def wf74 (x : S74) : Prop := (Lit.int .i64 x.f0).wf = true ∧ (Lit.int .i64 x.f1).wf = true ∧ (x.f2.length ≤ 9223372036854775807 ∧ ∀ z ∈ x.f2, wf111 z)
set_option maxRecDepth 100000 in
theorem opens74_ : Opn.Opens Try.prog 74 k74 wf74 := Opn.opens_struct Try.underlying74 (Opn.opens_more (Opn.opens_int Try.underlying2) (Opn.opens_more (Opn.opens_int Try.underlying2) (Opn.opens_last (by kernel_rfl) (Opn.opens_slice Try.underlying72 (by kernel_rfl) (opens111_))))) (fun x : S74 => (x.f0, x.f1, x.f2)) (fun x => ⟨x.1, x.2.1, x.2.2⟩) (fun _ => rfl)
theorem k74_parts {w : World} {x : S74} {cs : List Value} (h : k74.K w x cs) : ∃ (A2 : Option Addr) (c2 : Nat), cs = [.int .i64 x.f0, .int .i64 x.f1, .slice A2 x.f2.length c2] ∧ x.f2.length ≤ c2 ∧ Kd.C k111 w A2 x.f2.length x.f2 := by
  obtain ⟨_, _, rfl, rfl, ⟨_, _, rfl, rfl, ⟨A2, c2, rfl, hl2, hr2⟩⟩⟩ := h
  exact ⟨A2, c2, rfl, hl2, hr2⟩
structure S24 where
  f0 : (List S74)
def k24 : Kd S24 := Kd.iso (Kd.slice 74 k74) (fun x : S24 => x.f0)
def wf24 (x : S24) : Prop := (x.f0.length ≤ 9223372036854775807 ∧ ∀ z ∈ x.f0, wf74 z)
set_option maxRecDepth 100000 in
theorem opens24_ : Opn.Opens Try.prog 24 k24 wf24 := Opn.opens_struct Try.underlying24 (Opn.opens_last (by kernel_rfl) (Opn.opens_slice Try.underlying22 (by kernel_rfl) (opens74_))) (fun x : S24 => x.f0) (fun x => ⟨x⟩) (fun _ => rfl)
theorem k24_parts {w : World} {x : S24} {cs : List Value} (h : k24.K w x cs) : ∃ (A0 : Option Addr) (c0 : Nat), cs = [.slice A0 x.f0.length c0] ∧ x.f0.length ≤ c0 ∧ Kd.C k74 w A0 x.f0.length x.f0 := by
  obtain ⟨A0, c0, rfl, hl0, hr0⟩ := h
  exact ⟨A0, c0, rfl, hl0, hr0⟩
end Go.Proofs.Ytcdohkilplgmjaa.QFnExactPlain
