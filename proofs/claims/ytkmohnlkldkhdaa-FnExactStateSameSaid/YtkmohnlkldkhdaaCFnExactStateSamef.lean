/- What the parameters of FnExactStateSame are, as data: their numbers are of their kinds. -/
import Derived.Test.YtkmohnlkldkhdaaCFnExactStateSamex0
import Derived.Test.YtkmohnlkldkhdaaCFnExactStateSameo
namespace Go.Proofs.Ytkmohnlkldkhdaa.QFnExactStateSame
open Go.RowKit Go.Proofs.YtkmohnlkldkhdaaW.PrintWords
set_option linter.unusedVariables false
def wf144 (x : S144) : Prop := (Lit.int .i64 x.f0).wf = true ∧ (Lit.int .i64 x.f1).wf = true ∧ (x.f2.length ≤ 9223372036854775807 ∧ ∀ z ∈ x.f2, (Lit.int .i64 z).wf = true) ∧ (x.f3.length ≤ 9223372036854775807 ∧ ∀ z ∈ x.f3, (Lit.int .i64 z).wf = true)
set_option maxRecDepth 100000 in
theorem opens144_ : Opn.Opens Try.prog 144 k144 wf144 := Opn.opens_struct Try.underlying144 (Opn.opens_more (Opn.opens_int Try.underlying2) (Opn.opens_more (Opn.opens_int Try.underlying2) (Opn.opens_more (Opn.opens_slice Try.underlying27 (by kernel_rfl) (Opn.opens_int Try.underlying2)) (Opn.opens_last (by kernel_rfl) (Opn.opens_slice Try.underlying27 (by kernel_rfl) (Opn.opens_int Try.underlying2)))))) (fun x : S144 => (x.f0, x.f1, x.f2, x.f3)) (fun x => ⟨x.1, x.2.1, x.2.2.1, x.2.2.2⟩) (fun _ => rfl)
theorem k144_parts {w : World} {x : S144} {cs : List Value} (h : k144.K w x cs) : ∃ (A2 : Option Addr) (c2 : Nat), ∃ (A3 : Option Addr) (c3 : Nat), cs = [.int .i64 x.f0, .int .i64 x.f1, .slice A2 x.f2.length c2, .slice A3 x.f3.length c3] ∧ x.f2.length ≤ c2 ∧ Kd.C (Kd.int .i64) w A2 x.f2.length x.f2 ∧ x.f3.length ≤ c3 ∧ Kd.C (Kd.int .i64) w A3 x.f3.length x.f3 := by
  obtain ⟨_, _, rfl, rfl, ⟨_, _, rfl, rfl, ⟨_, _, rfl, ⟨A2, c2, rfl, hl2, hr2⟩, ⟨A3, c3, rfl, hl3, hr3⟩⟩⟩⟩ := h
  exact ⟨A2, c2, A3, c3, rfl, hl2, hr2, hl3, hr3⟩
structure S62 where
  f0 : (List S144)
  f1 : (List (List Int))
  f2 : (List Int)
  f3 : Int
  f4 : Bool
  f5 : Int
  f6 : Int
def k62 : Kd S62 := Kd.iso (Kd.pair (Kd.slice 144 k144) (Kd.pair (Kd.slice 27 (Kd.slice 2 (Kd.int .i64))) (Kd.pair (Kd.slice 2 (Kd.int .i64)) (Kd.pair (Kd.int .i64) (Kd.pair Kd.bool (Kd.pair (Kd.int .i64) (Kd.int .i64))))))) (fun x : S62 => (x.f0, x.f1, x.f2, x.f3, x.f4, x.f5, x.f6))
def wf62 (x : S62) : Prop := (x.f0.length ≤ 9223372036854775807 ∧ ∀ z ∈ x.f0, wf144 z) ∧ (x.f1.length ≤ 9223372036854775807 ∧ ∀ z ∈ x.f1, (z.length ≤ 9223372036854775807 ∧ ∀ z1 ∈ z, (Lit.int .i64 z1).wf = true)) ∧ (x.f2.length ≤ 9223372036854775807 ∧ ∀ z ∈ x.f2, (Lit.int .i64 z).wf = true) ∧ (Lit.int .i64 x.f3).wf = true ∧ True ∧ (Lit.int .i64 x.f5).wf = true ∧ (Lit.int .i64 x.f6).wf = true
set_option maxRecDepth 100000 in
theorem opens62_ : Opn.Opens Try.prog 62 k62 wf62 := Opn.opens_struct Try.underlying62 (Opn.opens_more (Opn.opens_slice Try.underlying59 (by kernel_rfl) (opens144_)) (Opn.opens_more (Opn.opens_slice Try.underlying60 (by kernel_rfl) (Opn.opens_slice Try.underlying27 (by kernel_rfl) (Opn.opens_int Try.underlying2))) (Opn.opens_more (Opn.opens_slice Try.underlying27 (by kernel_rfl) (Opn.opens_int Try.underlying2)) (Opn.opens_more (Opn.opens_int Try.underlying2) (Opn.opens_more (Opn.opens_bool Try.underlying4) (Opn.opens_more (Opn.opens_int Try.underlying2) (Opn.opens_last (by kernel_rfl) (Opn.opens_int Try.underlying2)))))))) (fun x : S62 => (x.f0, x.f1, x.f2, x.f3, x.f4, x.f5, x.f6)) (fun x => ⟨x.1, x.2.1, x.2.2.1, x.2.2.2.1, x.2.2.2.2.1, x.2.2.2.2.2.1, x.2.2.2.2.2.2⟩) (fun _ => rfl)
theorem k62_parts {w : World} {x : S62} {cs : List Value} (h : k62.K w x cs) : ∃ (A0 : Option Addr) (c0 : Nat), ∃ (A1 : Option Addr) (c1 : Nat), ∃ (A2 : Option Addr) (c2 : Nat), cs = [.slice A0 x.f0.length c0, .slice A1 x.f1.length c1, .slice A2 x.f2.length c2, .int .i64 x.f3, .bool x.f4, .int .i64 x.f5, .int .i64 x.f6] ∧ x.f0.length ≤ c0 ∧ Kd.C k144 w A0 x.f0.length x.f0 ∧ x.f1.length ≤ c1 ∧ Kd.C (Kd.slice 2 (Kd.int .i64)) w A1 x.f1.length x.f1 ∧ x.f2.length ≤ c2 ∧ Kd.C (Kd.int .i64) w A2 x.f2.length x.f2 := by
  obtain ⟨_, _, rfl, ⟨A0, c0, rfl, hl0, hr0⟩, ⟨_, _, rfl, ⟨A1, c1, rfl, hl1, hr1⟩, ⟨_, _, rfl, ⟨A2, c2, rfl, hl2, hr2⟩, ⟨_, _, rfl, rfl, ⟨_, _, rfl, rfl, ⟨_, _, rfl, rfl, rfl⟩⟩⟩⟩⟩⟩ := h
  exact ⟨A0, c0, A1, c1, A2, c2, rfl, hl0, hr0, hl1, hr1, hl2, hr2⟩
end Go.Proofs.Ytkmohnlkldkhdaa.QFnExactStateSame
