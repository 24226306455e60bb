/- What the parameters of FnExactBegin are, as data: their numbers are of their kinds. -/
import Derived.Test.YtoegdbeajgddiaaCFnExactBeginx0
import Derived.Test.YtoegdbeajgddiaaCFnExactBegino
namespace Go.Proofs.Ytoegdbeajgddiaa.QFnExactBegin
open Go.RowKit Go.Proofs.YtoegdbeajgddiaaW.PrintWords
set_option linter.unusedVariables false
def wf88 (x : S88) : Prop := (Lit.int .i64 x.f0).wf = true ∧ (Lit.int .i64 x.f1).wf = true
set_option maxRecDepth 100000 in
theorem opens88_ : Opn.Opens Try.prog 88 k88 wf88 := Opn.opens_struct Try.underlying88 (Opn.opens_more (Opn.opens_int Try.underlying2) (Opn.opens_last (by kernel_rfl) (Opn.opens_int Try.underlying2))) (fun x : S88 => (x.f0, x.f1)) (fun x => ⟨x.1, x.2⟩) (fun _ => rfl)
theorem k88_parts {w : World} {x : S88} {cs : List Value} (h : k88.K w x cs) : cs = [.int .i64 x.f0, .int .i64 x.f1] := by
  obtain ⟨_, _, rfl, rfl, rfl⟩ := h
  exact rfl
def wf67 (x : S67) : Prop := (Lit.int .i64 x.f0).wf = true ∧ (Lit.int .i64 x.f1).wf = true ∧ (x.f2.length ≤ 9223372036854775807 ∧ ∀ z ∈ x.f2, wf88 z)
set_option maxRecDepth 100000 in
theorem opens67_ : Opn.Opens Try.prog 67 k67 wf67 := Opn.opens_struct Try.underlying67 (Opn.opens_more (Opn.opens_int Try.underlying2) (Opn.opens_more (Opn.opens_int Try.underlying2) (Opn.opens_last (by kernel_rfl) (Opn.opens_slice Try.underlying65 (by kernel_rfl) (opens88_))))) (fun x : S67 => (x.f0, x.f1, x.f2)) (fun x => ⟨x.1, x.2.1, x.2.2⟩) (fun _ => rfl)
theorem k67_parts {w : World} {x : S67} {cs : List Value} (h : k67.K w x cs) : ∃ (A2 : Option Addr) (c2 : Nat), cs = [.int .i64 x.f0, .int .i64 x.f1, .slice A2 x.f2.length c2] ∧ x.f2.length ≤ c2 ∧ Kd.C k88 w A2 x.f2.length x.f2 := by
  obtain ⟨_, _, rfl, rfl, ⟨_, _, rfl, rfl, ⟨A2, c2, rfl, hl2, hr2⟩⟩⟩ := h
  exact ⟨A2, c2, rfl, hl2, hr2⟩
structure S24 where
  f0 : (List S67)
def k24 : Kd S24 := Kd.iso (Kd.slice 67 k67) (fun x : S24 => x.f0)
def wf24 (x : S24) : Prop := (x.f0.length ≤ 9223372036854775807 ∧ ∀ z ∈ x.f0, wf67 z)
set_option maxRecDepth 100000 in
theorem opens24_ : Opn.Opens Try.prog 24 k24 wf24 := Opn.opens_struct Try.underlying24 (Opn.opens_last (by kernel_rfl) (Opn.opens_slice Try.underlying22 (by kernel_rfl) (opens67_))) (fun x : S24 => x.f0) (fun x => ⟨x⟩) (fun _ => rfl)
theorem k24_parts {w : World} {x : S24} {cs : List Value} (h : k24.K w x cs) : ∃ (A0 : Option Addr) (c0 : Nat), cs = [.slice A0 x.f0.length c0] ∧ x.f0.length ≤ c0 ∧ Kd.C k67 w A0 x.f0.length x.f0 := by
  obtain ⟨A0, c0, rfl, hl0, hr0⟩ := h
  exact ⟨A0, c0, rfl, hl0, hr0⟩
end Go.Proofs.Ytoegdbeajgddiaa.QFnExactBegin
