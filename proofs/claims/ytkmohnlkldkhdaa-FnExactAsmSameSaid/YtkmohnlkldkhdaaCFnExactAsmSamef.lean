/- What the parameters of FnExactAsmSame are, as data: their numbers are of their kinds. -/
import Derived.Test.YtkmohnlkldkhdaaCFnExactAsmSamex0
import Derived.Test.YtkmohnlkldkhdaaCFnExactAsmSameo
namespace Go.Proofs.Ytkmohnlkldkhdaa.QFnExactAsmSame
open Go.RowKit Go.Proofs.YtkmohnlkldkhdaaW.PrintWords
set_option linter.unusedVariables false
def wf163 (x : S163) : Prop := (Lit.int .i64 x.f0).wf = true ∧ (Lit.int .i64 x.f1).wf = true
set_option maxRecDepth 100000 in
theorem opens163_ : Opn.Opens Try.prog 163 k163 wf163 := Opn.opens_struct Try.underlying163 (Opn.opens_more (Opn.opens_int Try.underlying2) (Opn.opens_last (by kernel_rfl) (Opn.opens_int Try.underlying2))) (fun x : S163 => (x.f0, x.f1)) (fun x => ⟨x.1, x.2⟩) (fun _ => rfl)
theorem k163_parts {w : World} {x : S163} {cs : List Value} (h : k163.K w x cs) : cs = [.int .i64 x.f0, .int .i64 x.f1] := by
  obtain ⟨_, _, rfl, rfl, rfl⟩ := h
  exact rfl
def wf170 (x : S170) : Prop := (Lit.int .i64 x.f0).wf = true ∧ wf163 x.f1
set_option maxRecDepth 100000 in
theorem opens170_ : Opn.Opens Try.prog 170 k170 wf170 := Opn.opens_struct Try.underlying170 (Opn.opens_more (Opn.opens_int Try.underlying2) (Opn.opens_last (by kernel_rfl) (opens163_))) (fun x : S170 => (x.f0, x.f1)) (fun x => ⟨x.1, x.2⟩) (fun _ => rfl)
theorem k170_parts {w : World} {x : S170} {cs : List Value} (h : k170.K w x cs) : cs = [.int .i64 x.f0, .int .i64 x.f1.f0, .int .i64 x.f1.f1] := by
  obtain ⟨_, _, rfl, rfl, ⟨_, _, rfl, rfl, rfl⟩⟩ := h
  exact rfl
def wf151 (x : S151) : Prop := (x.f0.length ≤ 9223372036854775807 ∧ ∀ z ∈ x.f0, wf170 z) ∧ (Lit.int .i64 x.f1).wf = true ∧ (Lit.int .i64 x.f2).wf = true ∧ (x.f3.length ≤ 9223372036854775807 ∧ ∀ z ∈ x.f3, wf163 z) ∧ (Lit.int .i64 x.f4).wf = true
set_option maxRecDepth 100000 in
theorem opens151_ : Opn.Opens Try.prog 151 k151 wf151 := Opn.opens_struct Try.underlying151 (Opn.opens_more (Opn.opens_slice Try.underlying148 (by kernel_rfl) (opens170_)) (Opn.opens_more (Opn.opens_int Try.underlying2) (Opn.opens_more (Opn.opens_int Try.underlying2) (Opn.opens_more (Opn.opens_slice Try.underlying149 (by kernel_rfl) (opens163_)) (Opn.opens_last (by kernel_rfl) (Opn.opens_int Try.underlying2)))))) (fun x : S151 => (x.f0, x.f1, x.f2, x.f3, x.f4)) (fun x => ⟨x.1, x.2.1, x.2.2.1, x.2.2.2.1, x.2.2.2.2⟩) (fun _ => rfl)
theorem k151_parts {w : World} {x : S151} {cs : List Value} (h : k151.K w x cs) : ∃ (A0 : Option Addr) (c0 : Nat), ∃ (A3 : Option Addr) (c3 : Nat), cs = [.slice A0 x.f0.length c0, .int .i64 x.f1, .int .i64 x.f2, .slice A3 x.f3.length c3, .int .i64 x.f4] ∧ x.f0.length ≤ c0 ∧ Kd.C k170 w A0 x.f0.length x.f0 ∧ x.f3.length ≤ c3 ∧ Kd.C k163 w A3 x.f3.length x.f3 := by
  obtain ⟨_, _, rfl, ⟨A0, c0, rfl, hl0, hr0⟩, ⟨_, _, rfl, rfl, ⟨_, _, rfl, rfl, ⟨_, _, rfl, ⟨A3, c3, rfl, hl3, hr3⟩, rfl⟩⟩⟩⟩ := h
  exact ⟨A0, c0, A3, c3, rfl, hl0, hr0, hl3, hr3⟩
structure S73 where
  f0 : Int
  f1 : (List S151)
  f2 : (List (List S163))
def k73 : Kd S73 := Kd.iso (Kd.pair (Kd.int .i64) (Kd.pair (Kd.slice 151 k151) (Kd.slice 149 (Kd.slice 163 k163)))) (fun x : S73 => (x.f0, x.f1, x.f2))
def wf73 (x : S73) : Prop := (Lit.int .i64 x.f0).wf = true ∧ (x.f1.length ≤ 9223372036854775807 ∧ ∀ z ∈ x.f1, wf151 z) ∧ (x.f2.length ≤ 9223372036854775807 ∧ ∀ z ∈ x.f2, (z.length ≤ 9223372036854775807 ∧ ∀ z1 ∈ z, wf163 z1))
set_option maxRecDepth 100000 in
theorem opens73_ : Opn.Opens Try.prog 73 k73 wf73 := Opn.opens_struct Try.underlying73 (Opn.opens_more (Opn.opens_int Try.underlying2) (Opn.opens_more (Opn.opens_slice Try.underlying70 (by kernel_rfl) (opens151_)) (Opn.opens_last (by kernel_rfl) (Opn.opens_slice Try.underlying71 (by kernel_rfl) (Opn.opens_slice Try.underlying149 (by kernel_rfl) (opens163_)))))) (fun x : S73 => (x.f0, x.f1, x.f2)) (fun x => ⟨x.1, x.2.1, x.2.2⟩) (fun _ => rfl)
theorem k73_parts {w : World} {x : S73} {cs : List Value} (h : k73.K w x cs) : ∃ (A1 : Option Addr) (c1 : Nat), ∃ (A2 : Option Addr) (c2 : Nat), cs = [.int .i64 x.f0, .slice A1 x.f1.length c1, .slice A2 x.f2.length c2] ∧ x.f1.length ≤ c1 ∧ Kd.C k151 w A1 x.f1.length x.f1 ∧ x.f2.length ≤ c2 ∧ Kd.C (Kd.slice 163 k163) w A2 x.f2.length x.f2 := by
  obtain ⟨_, _, rfl, rfl, ⟨_, _, rfl, ⟨A1, c1, rfl, hl1, hr1⟩, ⟨A2, c2, rfl, hl2, hr2⟩⟩⟩ := h
  exact ⟨A1, c1, A2, c2, rfl, hl1, hr1, hl2, hr2⟩
end Go.Proofs.Ytkmohnlkldkhdaa.QFnExactAsmSame
