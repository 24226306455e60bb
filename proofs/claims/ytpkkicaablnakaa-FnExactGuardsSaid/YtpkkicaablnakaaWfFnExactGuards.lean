/- What the parameters of FnExactGuards are, as data: their numbers are of their kinds. -/
import Derived.Test.YtpkkicaablnakaaQFnExactGuardsx0
import Derived.Test.YtpkkicaablnakaaOpen
namespace Go.Proofs.Ytpkkicaablnakaa.QFnExactGuards
open Go.RowKit Go.Proofs.YtpkkicaablnakaaW.PrintWords
set_option linter.unusedVariables false
def wf219 (x : S219) : Prop := (Lit.int .i64 x.f0).wf = true ∧ (Lit.int .i64 x.f1).wf = true
set_option maxRecDepth 100000 in
theorem opens219_ : Opn.Opens Try.prog 219 k219 wf219 := Opn.opens_struct Try.underlying219 (Opn.opens_more (Opn.opens_int Try.underlying2) (Opn.opens_last (by kernel_rfl) (Opn.opens_int Try.underlying2))) (fun x : S219 => (x.f0, x.f1)) (fun x => ⟨x.1, x.2⟩) (fun _ => rfl)
theorem k219_parts {w : World} {x : S219} {cs : List Value} (h : k219.K w x cs) : cs = [.int .i64 x.f0, .int .i64 x.f1] := by
  obtain ⟨_, _, rfl, rfl, rfl⟩ := h
  exact rfl
def wf232 (x : S232) : Prop := (Lit.int .i64 x.f0).wf = true ∧ wf219 x.f1
set_option maxRecDepth 100000 in
theorem opens232_ : Opn.Opens Try.prog 232 k232 wf232 := Opn.opens_struct Try.underlying232 (Opn.opens_more (Opn.opens_int Try.underlying2) (Opn.opens_last (by kernel_rfl) (opens219_))) (fun x : S232 => (x.f0, x.f1)) (fun x => ⟨x.1, x.2⟩) (fun _ => rfl)
theorem k232_parts {w : World} {x : S232} {cs : List Value} (h : k232.K w x cs) : cs = [.int .i64 x.f0, .int .i64 x.f1.f0, .int .i64 x.f1.f1] := by
  obtain ⟨_, _, rfl, rfl, ⟨_, _, rfl, rfl, rfl⟩⟩ := h
  exact rfl
def wf187 (x : S187) : Prop := (x.f0.length ≤ 9223372036854775807 ∧ ∀ z ∈ x.f0, wf232 z) ∧ (Lit.int .i64 x.f1).wf = true ∧ (Lit.int .i64 x.f2).wf = true ∧ (x.f3.length ≤ 9223372036854775807 ∧ ∀ z ∈ x.f3, wf219 z) ∧ (Lit.int .i64 x.f4).wf = true
set_option maxRecDepth 100000 in
theorem opens187_ : Opn.Opens Try.prog 187 k187 wf187 := Opn.opens_struct Try.underlying187 (Opn.opens_more (Opn.opens_slice Try.underlying184 (by kernel_rfl) (opens232_)) (Opn.opens_more (Opn.opens_int Try.underlying2) (Opn.opens_more (Opn.opens_int Try.underlying2) (Opn.opens_more (Opn.opens_slice Try.underlying185 (by kernel_rfl) (opens219_)) (Opn.opens_last (by kernel_rfl) (Opn.opens_int Try.underlying2)))))) (fun x : S187 => (x.f0, x.f1, x.f2, x.f3, x.f4)) (fun x => ⟨x.1, x.2.1, x.2.2.1, x.2.2.2.1, x.2.2.2.2⟩) (fun _ => rfl)
theorem k187_parts {w : World} {x : S187} {cs : List Value} (h : k187.K w x cs) : ∃ (A0 : Option Addr) (c0 : Nat), ∃ (A3 : Option Addr) (c3 : Nat), cs = [.slice A0 x.f0.length c0, .int .i64 x.f1, .int .i64 x.f2, .slice A3 x.f3.length c3, .int .i64 x.f4] ∧ x.f0.length ≤ c0 ∧ Kd.C k232 w A0 x.f0.length x.f0 ∧ x.f3.length ≤ c3 ∧ Kd.C k219 w A3 x.f3.length x.f3 := by
  obtain ⟨_, _, rfl, ⟨A0, c0, rfl, hl0, hr0⟩, ⟨_, _, rfl, rfl, ⟨_, _, rfl, rfl, ⟨_, _, rfl, ⟨A3, c3, rfl, hl3, hr3⟩, rfl⟩⟩⟩⟩ := h
  exact ⟨A0, c0, A3, c3, rfl, hl0, hr0, hl3, hr3⟩
structure S66 where
  f0 : Int
  f1 : (List S187)
  f2 : (List (List S219))
def k66 : Kd S66 := Kd.iso (Kd.pair (Kd.int .i64) (Kd.pair (Kd.slice 187 k187) (Kd.slice 185 (Kd.slice 219 k219)))) (fun x : S66 => (x.f0, x.f1, x.f2))
def wf66 (x : S66) : Prop := (Lit.int .i64 x.f0).wf = true ∧ (x.f1.length ≤ 9223372036854775807 ∧ ∀ z ∈ x.f1, wf187 z) ∧ (x.f2.length ≤ 9223372036854775807 ∧ ∀ z ∈ x.f2, (z.length ≤ 9223372036854775807 ∧ ∀ z1 ∈ z, wf219 z1))
set_option maxRecDepth 100000 in
theorem opens66_ : Opn.Opens Try.prog 66 k66 wf66 := Opn.opens_struct Try.underlying66 (Opn.opens_more (Opn.opens_int Try.underlying2) (Opn.opens_more (Opn.opens_slice Try.underlying63 (by kernel_rfl) (opens187_)) (Opn.opens_last (by kernel_rfl) (Opn.opens_slice Try.underlying64 (by kernel_rfl) (Opn.opens_slice Try.underlying185 (by kernel_rfl) (opens219_)))))) (fun x : S66 => (x.f0, x.f1, x.f2)) (fun x => ⟨x.1, x.2.1, x.2.2⟩) (fun _ => rfl)
theorem k66_parts {w : World} {x : S66} {cs : List Value} (h : k66.K w x cs) : ∃ (A1 : Option Addr) (c1 : Nat), ∃ (A2 : Option Addr) (c2 : Nat), cs = [.int .i64 x.f0, .slice A1 x.f1.length c1, .slice A2 x.f2.length c2] ∧ x.f1.length ≤ c1 ∧ Kd.C k187 w A1 x.f1.length x.f1 ∧ x.f2.length ≤ c2 ∧ Kd.C (Kd.slice 219 k219) w A2 x.f2.length x.f2 := by
  obtain ⟨_, _, rfl, rfl, ⟨_, _, rfl, ⟨A1, c1, rfl, hl1, hr1⟩, ⟨A2, c2, rfl, hl2, hr2⟩⟩⟩ := h
  exact ⟨A1, c1, A2, c2, rfl, hl1, hr1, hl2, hr2⟩
end Go.Proofs.Ytpkkicaablnakaa.QFnExactGuards
