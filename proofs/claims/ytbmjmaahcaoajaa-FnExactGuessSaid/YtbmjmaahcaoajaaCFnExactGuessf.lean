/- What the parameters of FnExactGuess are, as data: their numbers are of their kinds. -/
import Derived.Test.YtbmjmaahcaoajaaCFnExactGuessx0
import Derived.Test.YtbmjmaahcaoajaaCFnExactGuesso
namespace Go.Proofs.Ytbmjmaahcaoajaa.QFnExactGuess
open Go.RowKit Go.Proofs.YtbmjmaahcaoajaaW.PrintWords
set_option linter.unusedVariables false
def wf235 (x : S235) : Prop := (Lit.int .i64 x.f0).wf = true ∧ (Lit.int .i64 x.f1).wf = true
set_option maxRecDepth 100000 in
theorem opens235_ : Opn.Opens Try.prog 235 k235 wf235 := Opn.opens_struct Try.underlying235 (Opn.opens_more (Opn.opens_int Try.underlying2) (Opn.opens_last (by kernel_rfl) (Opn.opens_int Try.underlying2))) (fun x : S235 => (x.f0, x.f1)) (fun x => ⟨x.1, x.2⟩) (fun _ => rfl)
theorem k235_parts {w : World} {x : S235} {cs : List Value} (h : k235.K w x cs) : cs = [.int .i64 x.f0, .int .i64 x.f1] := by
  obtain ⟨_, _, rfl, rfl, rfl⟩ := h
  exact rfl
def wf165 (x : S165) : Prop := (Lit.int .i64 x.f0).wf = true ∧ (Lit.int .i64 x.f1).wf = true ∧ (x.f2.length ≤ 9223372036854775807 ∧ ∀ z ∈ x.f2, wf235 z)
set_option maxRecDepth 100000 in
theorem opens165_ : Opn.Opens Try.prog 165 k165 wf165 := Opn.opens_struct Try.underlying165 (Opn.opens_more (Opn.opens_int Try.underlying2) (Opn.opens_more (Opn.opens_int Try.underlying2) (Opn.opens_last (by kernel_rfl) (Opn.opens_slice Try.underlying163 (by kernel_rfl) (opens235_))))) (fun x : S165 => (x.f0, x.f1, x.f2)) (fun x => ⟨x.1, x.2.1, x.2.2⟩) (fun _ => rfl)
theorem k165_parts {w : World} {x : S165} {cs : List Value} (h : k165.K w x cs) : ∃ (A2 : Option Addr) (c2 : Nat), cs = [.int .i64 x.f0, .int .i64 x.f1, .slice A2 x.f2.length c2] ∧ x.f2.length ≤ c2 ∧ Kd.C k235 w A2 x.f2.length x.f2 := by
  obtain ⟨_, _, rfl, rfl, ⟨_, _, rfl, rfl, ⟨A2, c2, rfl, hl2, hr2⟩⟩⟩ := h
  exact ⟨A2, c2, rfl, hl2, hr2⟩
structure S24 where
  f0 : (List S165)
def k24 : Kd S24 := Kd.iso (Kd.slice 165 k165) (fun x : S24 => x.f0)
def wf24 (x : S24) : Prop := (x.f0.length ≤ 9223372036854775807 ∧ ∀ z ∈ x.f0, wf165 z)
set_option maxRecDepth 100000 in
theorem opens24_ : Opn.Opens Try.prog 24 k24 wf24 := Opn.opens_struct Try.underlying24 (Opn.opens_last (by kernel_rfl) (Opn.opens_slice Try.underlying22 (by kernel_rfl) (opens165_))) (fun x : S24 => x.f0) (fun x => ⟨x⟩) (fun _ => rfl)
theorem k24_parts {w : World} {x : S24} {cs : List Value} (h : k24.K w x cs) : ∃ (A0 : Option Addr) (c0 : Nat), cs = [.slice A0 x.f0.length c0] ∧ x.f0.length ≤ c0 ∧ Kd.C k165 w A0 x.f0.length x.f0 := by
  obtain ⟨A0, c0, rfl, hl0, hr0⟩ := h
  exact ⟨A0, c0, rfl, hl0, hr0⟩
def wf112 (x : S112) : Prop := (Lit.int .i64 x.f0).wf = true ∧ (Lit.int .i64 x.f1).wf = true ∧ (Lit.int .i64 x.f2).wf = true ∧ (Lit.int .i64 x.f3).wf = true
set_option maxRecDepth 100000 in
theorem opens112_ : Opn.Opens Try.prog 112 k112 wf112 := Opn.opens_struct Try.underlying112 (Opn.opens_more (Opn.opens_int Try.underlying2) (Opn.opens_more (Opn.opens_int Try.underlying2) (Opn.opens_more (Opn.opens_int Try.underlying2) (Opn.opens_last (by kernel_rfl) (Opn.opens_int Try.underlying2))))) (fun x : S112 => (x.f0, x.f1, x.f2, x.f3)) (fun x => ⟨x.1, x.2.1, x.2.2.1, x.2.2.2⟩) (fun _ => rfl)
theorem k112_parts {w : World} {x : S112} {cs : List Value} (h : k112.K w x cs) : cs = [.int .i64 x.f0, .int .i64 x.f1, .int .i64 x.f2, .int .i64 x.f3] := by
  obtain ⟨_, _, rfl, rfl, ⟨_, _, rfl, rfl, ⟨_, _, rfl, rfl, rfl⟩⟩⟩ := h
  exact rfl
end Go.Proofs.Ytbmjmaahcaoajaa.QFnExactGuess
