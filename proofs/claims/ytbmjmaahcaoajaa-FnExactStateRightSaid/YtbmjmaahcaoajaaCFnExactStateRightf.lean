/- What the parameters of FnExactStateRight are, as data: their numbers are of their kinds. -/
import Derived.Test.YtbmjmaahcaoajaaCFnExactStateRightx0
import Derived.Test.YtbmjmaahcaoajaaCFnExactStateRighto
namespace Go.Proofs.Ytbmjmaahcaoajaa.QFnExactStateRight
open Go.RowKit Go.Proofs.YtbmjmaahcaoajaaW.PrintWords
set_option linter.unusedVariables false
def wf235 (x : S235) : Prop := (Lit.int .i64 x.f0).wf = true ∧ (Lit.int .i64 x.f1).wf = true
set_option maxRecDepth 100000 in
theorem opens235_ : Opn.Opens Try.prog 235 k235 wf235 := Opn.opens_struct Try.underlying235 (Opn.opens_more (Opn.opens_int Try.underlying2) (Opn.opens_last (by kernel_rfl) (Opn.opens_int Try.underlying2))) (fun x : S235 => (x.f0, x.f1)) (fun x => ⟨x.1, x.2⟩) (fun _ => rfl)
theorem k235_parts {w : World} {x : S235} {cs : List Value} (h : k235.K w x cs) : cs = [.int .i64 x.f0, .int .i64 x.f1] := by
  obtain ⟨_, _, rfl, rfl, rfl⟩ := h
  exact rfl
def wf165 (x : S165) : Prop := (Lit.int .i64 x.f0).wf = true ∧ (Lit.int .i64 x.f1).wf = true ∧ (x.f2.length ≤ 9223372036854775807 ∧ ∀ z ∈ x.f2, wf235 z)
set_option maxRecDepth 100000 in
theorem opens165_ : Opn.Opens Try.prog 165 k165 wf165 := Opn.opens_struct Try.underlying165 (Opn.opens_more (Opn.opens_int Try.underlying2) (Opn.opens_more (Opn.opens_int Try.underlying2) (Opn.opens_last (by kernel_rfl) (Opn.opens_slice Try.underlying163 (by kernel_rfl) (opens235_))))) (fun x : S165 => (x.f0, x.f1, x.f2)) (fun x => ⟨x.1, x.2.1, x.2.2⟩) (fun _ => rfl)
theorem k165_parts {w : World} {x : S165} {cs : List Value} (h : k165.K w x cs) : ∃ (A2 : Option Addr) (c2 : Nat), cs = [.int .i64 x.f0, .int .i64 x.f1, .slice A2 x.f2.length c2] ∧ x.f2.length ≤ c2 ∧ Kd.C k235 w A2 x.f2.length x.f2 := by
  obtain ⟨_, _, rfl, rfl, ⟨_, _, rfl, rfl, ⟨A2, c2, rfl, hl2, hr2⟩⟩⟩ := h
  exact ⟨A2, c2, rfl, hl2, hr2⟩
structure S24 where
  f0 : (List S165)
def k24 : Kd S24 := Kd.iso (Kd.slice 165 k165) (fun x : S24 => x.f0)
def wf24 (x : S24) : Prop := (x.f0.length ≤ 9223372036854775807 ∧ ∀ z ∈ x.f0, wf165 z)
set_option maxRecDepth 100000 in
theorem opens24_ : Opn.Opens Try.prog 24 k24 wf24 := Opn.opens_struct Try.underlying24 (Opn.opens_last (by kernel_rfl) (Opn.opens_slice Try.underlying22 (by kernel_rfl) (opens165_))) (fun x : S24 => x.f0) (fun x => ⟨x⟩) (fun _ => rfl)
theorem k24_parts {w : World} {x : S24} {cs : List Value} (h : k24.K w x cs) : ∃ (A0 : Option Addr) (c0 : Nat), cs = [.slice A0 x.f0.length c0] ∧ x.f0.length ≤ c0 ∧ Kd.C k165 w A0 x.f0.length x.f0 := by
  obtain ⟨A0, c0, rfl, hl0, hr0⟩ := h
  exact ⟨A0, c0, rfl, hl0, hr0⟩
def wf213 (x : S213) : Prop := (Lit.int .i64 x.f0).wf = true ∧ (Lit.int .i64 x.f1).wf = true ∧ (x.f2.length ≤ 9223372036854775807 ∧ ∀ z ∈ x.f2, (Lit.int .i64 z).wf = true) ∧ (x.f3.length ≤ 9223372036854775807 ∧ ∀ z ∈ x.f3, (Lit.int .i64 z).wf = true)
set_option maxRecDepth 100000 in
theorem opens213_ : Opn.Opens Try.prog 213 k213 wf213 := Opn.opens_struct Try.underlying213 (Opn.opens_more (Opn.opens_int Try.underlying2) (Opn.opens_more (Opn.opens_int Try.underlying2) (Opn.opens_more (Opn.opens_slice Try.underlying26 (by kernel_rfl) (Opn.opens_int Try.underlying2)) (Opn.opens_last (by kernel_rfl) (Opn.opens_slice Try.underlying26 (by kernel_rfl) (Opn.opens_int Try.underlying2)))))) (fun x : S213 => (x.f0, x.f1, x.f2, x.f3)) (fun x => ⟨x.1, x.2.1, x.2.2.1, x.2.2.2⟩) (fun _ => rfl)
theorem k213_parts {w : World} {x : S213} {cs : List Value} (h : k213.K w x cs) : ∃ (A2 : Option Addr) (c2 : Nat), ∃ (A3 : Option Addr) (c3 : Nat), cs = [.int .i64 x.f0, .int .i64 x.f1, .slice A2 x.f2.length c2, .slice A3 x.f3.length c3] ∧ x.f2.length ≤ c2 ∧ Kd.C (Kd.int .i64) w A2 x.f2.length x.f2 ∧ x.f3.length ≤ c3 ∧ Kd.C (Kd.int .i64) w A3 x.f3.length x.f3 := by
  obtain ⟨_, _, rfl, rfl, ⟨_, _, rfl, rfl, ⟨_, _, rfl, ⟨A2, c2, rfl, hl2, hr2⟩, ⟨A3, c3, rfl, hl3, hr3⟩⟩⟩⟩ := h
  exact ⟨A2, c2, A3, c3, rfl, hl2, hr2, hl3, hr3⟩
structure S76 where
  f0 : (List S213)
  f1 : (List (List Int))
  f2 : (List Int)
  f3 : Int
  f4 : Bool
  f5 : Int
  f6 : Int
def k76 : Kd S76 := Kd.iso (Kd.pair (Kd.slice 213 k213) (Kd.pair (Kd.slice 26 (Kd.slice 2 (Kd.int .i64))) (Kd.pair (Kd.slice 2 (Kd.int .i64)) (Kd.pair (Kd.int .i64) (Kd.pair Kd.bool (Kd.pair (Kd.int .i64) (Kd.int .i64))))))) (fun x : S76 => (x.f0, x.f1, x.f2, x.f3, x.f4, x.f5, x.f6))
def wf76 (x : S76) : Prop := (x.f0.length ≤ 9223372036854775807 ∧ ∀ z ∈ x.f0, wf213 z) ∧ (x.f1.length ≤ 9223372036854775807 ∧ ∀ z ∈ x.f1, (z.length ≤ 9223372036854775807 ∧ ∀ z1 ∈ z, (Lit.int .i64 z1).wf = true)) ∧ (x.f2.length ≤ 9223372036854775807 ∧ ∀ z ∈ x.f2, (Lit.int .i64 z).wf = true) ∧ (Lit.int .i64 x.f3).wf = true ∧ True ∧ (Lit.int .i64 x.f5).wf = true ∧ (Lit.int .i64 x.f6).wf = true
set_option maxRecDepth 100000 in
theorem opens76_ : Opn.Opens Try.prog 76 k76 wf76 := Opn.opens_struct Try.underlying76 (Opn.opens_more (Opn.opens_slice Try.underlying74 (by kernel_rfl) (opens213_)) (Opn.opens_more (Opn.opens_slice Try.underlying50 (by kernel_rfl) (Opn.opens_slice Try.underlying26 (by kernel_rfl) (Opn.opens_int Try.underlying2))) (Opn.opens_more (Opn.opens_slice Try.underlying26 (by kernel_rfl) (Opn.opens_int Try.underlying2)) (Opn.opens_more (Opn.opens_int Try.underlying2) (Opn.opens_more (Opn.opens_bool Try.underlying4) (Opn.opens_more (Opn.opens_int Try.underlying2) (Opn.opens_last (by kernel_rfl) (Opn.opens_int Try.underlying2)))))))) (fun x : S76 => (x.f0, x.f1, x.f2, x.f3, x.f4, x.f5, x.f6)) (fun x => ⟨x.1, x.2.1, x.2.2.1, x.2.2.2.1, x.2.2.2.2.1, x.2.2.2.2.2.1, x.2.2.2.2.2.2⟩) (fun _ => rfl)
theorem k76_parts {w : World} {x : S76} {cs : List Value} (h : k76.K w x cs) : ∃ (A0 : Option Addr) (c0 : Nat), ∃ (A1 : Option Addr) (c1 : Nat), ∃ (A2 : Option Addr) (c2 : Nat), cs = [.slice A0 x.f0.length c0, .slice A1 x.f1.length c1, .slice A2 x.f2.length c2, .int .i64 x.f3, .bool x.f4, .int .i64 x.f5, .int .i64 x.f6] ∧ x.f0.length ≤ c0 ∧ Kd.C k213 w A0 x.f0.length x.f0 ∧ x.f1.length ≤ c1 ∧ Kd.C (Kd.slice 2 (Kd.int .i64)) w A1 x.f1.length x.f1 ∧ x.f2.length ≤ c2 ∧ Kd.C (Kd.int .i64) w A2 x.f2.length x.f2 := by
  obtain ⟨_, _, rfl, ⟨A0, c0, rfl, hl0, hr0⟩, ⟨_, _, rfl, ⟨A1, c1, rfl, hl1, hr1⟩, ⟨_, _, rfl, ⟨A2, c2, rfl, hl2, hr2⟩, ⟨_, _, rfl, rfl, ⟨_, _, rfl, rfl, ⟨_, _, rfl, rfl, rfl⟩⟩⟩⟩⟩⟩ := h
  exact ⟨A0, c0, A1, c1, A2, c2, rfl, hl0, hr0, hl1, hr1, hl2, hr2⟩
end Go.Proofs.Ytbmjmaahcaoajaa.QFnExactStateRight
