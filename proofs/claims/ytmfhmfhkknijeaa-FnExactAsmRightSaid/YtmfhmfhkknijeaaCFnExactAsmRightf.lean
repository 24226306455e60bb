/- What the parameters of FnExactAsmRight are, as data: their numbers are of their kinds. -/
import Derived.Test.YtmfhmfhkknijeaaCFnExactAsmRightx0
import Derived.Test.YtmfhmfhkknijeaaCFnExactAsmRighto
namespace Go.Proofs.Ytmfhmfhkknijeaa.QFnExactAsmRight
open Go.RowKit Go.Proofs.YtmfhmfhkknijeaaW.PrintWords
set_option linter.unusedVariables false
def wf128 (x : S128) : Prop := (Lit.int .i64 x.f0).wf = true ∧ (Lit.int .i64 x.f1).wf = true
set_option maxRecDepth 100000 in
theorem opens128_ : Opn.Opens Try.prog 128 k128 wf128 := Opn.opens_struct Try.underlying128 (Opn.opens_more (Opn.opens_int Try.underlying2) (Opn.opens_last (by kernel_rfl) (Opn.opens_int Try.underlying2))) (fun x : S128 => (x.f0, x.f1)) (fun x => ⟨x.1, x.2⟩) (fun _ => rfl)
theorem k128_parts {w : World} {x : S128} {cs : List Value} (h : k128.K w x cs) : cs = [.int .i64 x.f0, .int .i64 x.f1] := by
  obtain ⟨_, _, rfl, rfl, rfl⟩ := h
  exact rfl
def wf77 (x : S77) : Prop := (Lit.int .i64 x.f0).wf = true ∧ (Lit.int .i64 x.f1).wf = true ∧ (x.f2.length ≤ 9223372036854775807 ∧ ∀ z ∈ x.f2, wf128 z)
set_option maxRecDepth 100000 in
theorem opens77_ : Opn.Opens Try.prog 77 k77 wf77 := Opn.opens_struct Try.underlying77 (Opn.opens_more (Opn.opens_int Try.underlying2) (Opn.opens_more (Opn.opens_int Try.underlying2) (Opn.opens_last (by kernel_rfl) (Opn.opens_slice Try.underlying75 (by kernel_rfl) (opens128_))))) (fun x : S77 => (x.f0, x.f1, x.f2)) (fun x => ⟨x.1, x.2.1, x.2.2⟩) (fun _ => rfl)
theorem k77_parts {w : World} {x : S77} {cs : List Value} (h : k77.K w x cs) : ∃ (A2 : Option Addr) (c2 : Nat), cs = [.int .i64 x.f0, .int .i64 x.f1, .slice A2 x.f2.length c2] ∧ x.f2.length ≤ c2 ∧ Kd.C k128 w A2 x.f2.length x.f2 := by
  obtain ⟨_, _, rfl, rfl, ⟨_, _, rfl, rfl, ⟨A2, c2, rfl, hl2, hr2⟩⟩⟩ := h
  exact ⟨A2, c2, rfl, hl2, hr2⟩
structure S24 where
  f0 : (List S77)
def k24 : Kd S24 := Kd.iso (Kd.slice 77 k77) (fun x : S24 => x.f0)
def wf24 (x : S24) : Prop := (x.f0.length ≤ 9223372036854775807 ∧ ∀ z ∈ x.f0, wf77 z)
set_option maxRecDepth 100000 in
theorem opens24_ : Opn.Opens Try.prog 24 k24 wf24 := Opn.opens_struct Try.underlying24 (Opn.opens_last (by kernel_rfl) (Opn.opens_slice Try.underlying22 (by kernel_rfl) (opens77_))) (fun x : S24 => x.f0) (fun x => ⟨x⟩) (fun _ => rfl)
theorem k24_parts {w : World} {x : S24} {cs : List Value} (h : k24.K w x cs) : ∃ (A0 : Option Addr) (c0 : Nat), cs = [.slice A0 x.f0.length c0] ∧ x.f0.length ≤ c0 ∧ Kd.C k77 w A0 x.f0.length x.f0 := by
  obtain ⟨A0, c0, rfl, hl0, hr0⟩ := h
  exact ⟨A0, c0, rfl, hl0, hr0⟩
def wf117 (x : S117) : Prop := (Lit.int .i64 x.f0).wf = true ∧ (Lit.int .i64 x.f1).wf = true
set_option maxRecDepth 100000 in
theorem opens117_ : Opn.Opens Try.prog 117 k117 wf117 := Opn.opens_struct Try.underlying117 (Opn.opens_more (Opn.opens_int Try.underlying2) (Opn.opens_last (by kernel_rfl) (Opn.opens_int Try.underlying2))) (fun x : S117 => (x.f0, x.f1)) (fun x => ⟨x.1, x.2⟩) (fun _ => rfl)
theorem k117_parts {w : World} {x : S117} {cs : List Value} (h : k117.K w x cs) : cs = [.int .i64 x.f0, .int .i64 x.f1] := by
  obtain ⟨_, _, rfl, rfl, rfl⟩ := h
  exact rfl
def wf131 (x : S131) : Prop := (Lit.int .i64 x.f0).wf = true ∧ wf117 x.f1
set_option maxRecDepth 100000 in
theorem opens131_ : Opn.Opens Try.prog 131 k131 wf131 := Opn.opens_struct Try.underlying131 (Opn.opens_more (Opn.opens_int Try.underlying2) (Opn.opens_last (by kernel_rfl) (opens117_))) (fun x : S131 => (x.f0, x.f1)) (fun x => ⟨x.1, x.2⟩) (fun _ => rfl)
theorem k131_parts {w : World} {x : S131} {cs : List Value} (h : k131.K w x cs) : cs = [.int .i64 x.f0, .int .i64 x.f1.f0, .int .i64 x.f1.f1] := by
  obtain ⟨_, _, rfl, rfl, ⟨_, _, rfl, rfl, rfl⟩⟩ := h
  exact rfl
def wf82 (x : S82) : Prop := (x.f0.length ≤ 9223372036854775807 ∧ ∀ z ∈ x.f0, wf131 z) ∧ (Lit.int .i64 x.f1).wf = true ∧ (Lit.int .i64 x.f2).wf = true ∧ (x.f3.length ≤ 9223372036854775807 ∧ ∀ z ∈ x.f3, wf117 z) ∧ (Lit.int .i64 x.f4).wf = true
set_option maxRecDepth 100000 in
theorem opens82_ : Opn.Opens Try.prog 82 k82 wf82 := Opn.opens_struct Try.underlying82 (Opn.opens_more (Opn.opens_slice Try.underlying79 (by kernel_rfl) (opens131_)) (Opn.opens_more (Opn.opens_int Try.underlying2) (Opn.opens_more (Opn.opens_int Try.underlying2) (Opn.opens_more (Opn.opens_slice Try.underlying80 (by kernel_rfl) (opens117_)) (Opn.opens_last (by kernel_rfl) (Opn.opens_int Try.underlying2)))))) (fun x : S82 => (x.f0, x.f1, x.f2, x.f3, x.f4)) (fun x => ⟨x.1, x.2.1, x.2.2.1, x.2.2.2.1, x.2.2.2.2⟩) (fun _ => rfl)
theorem k82_parts {w : World} {x : S82} {cs : List Value} (h : k82.K w x cs) : ∃ (A0 : Option Addr) (c0 : Nat), ∃ (A3 : Option Addr) (c3 : Nat), cs = [.slice A0 x.f0.length c0, .int .i64 x.f1, .int .i64 x.f2, .slice A3 x.f3.length c3, .int .i64 x.f4] ∧ x.f0.length ≤ c0 ∧ Kd.C k131 w A0 x.f0.length x.f0 ∧ x.f3.length ≤ c3 ∧ Kd.C k117 w A3 x.f3.length x.f3 := by
  obtain ⟨_, _, rfl, ⟨A0, c0, rfl, hl0, hr0⟩, ⟨_, _, rfl, rfl, ⟨_, _, rfl, rfl, ⟨_, _, rfl, ⟨A3, c3, rfl, hl3, hr3⟩, rfl⟩⟩⟩⟩ := h
  exact ⟨A0, c0, A3, c3, rfl, hl0, hr0, hl3, hr3⟩
structure S28 where
  f0 : Int
  f1 : (List S82)
  f2 : (List (List S117))
def k28 : Kd S28 := Kd.iso (Kd.pair (Kd.int .i64) (Kd.pair (Kd.slice 82 k82) (Kd.slice 80 (Kd.slice 117 k117)))) (fun x : S28 => (x.f0, x.f1, x.f2))
def wf28 (x : S28) : Prop := (Lit.int .i64 x.f0).wf = true ∧ (x.f1.length ≤ 9223372036854775807 ∧ ∀ z ∈ x.f1, wf82 z) ∧ (x.f2.length ≤ 9223372036854775807 ∧ ∀ z ∈ x.f2, (z.length ≤ 9223372036854775807 ∧ ∀ z1 ∈ z, wf117 z1))
set_option maxRecDepth 100000 in
theorem opens28_ : Opn.Opens Try.prog 28 k28 wf28 := Opn.opens_struct Try.underlying28 (Opn.opens_more (Opn.opens_int Try.underlying2) (Opn.opens_more (Opn.opens_slice Try.underlying25 (by kernel_rfl) (opens82_)) (Opn.opens_last (by kernel_rfl) (Opn.opens_slice Try.underlying26 (by kernel_rfl) (Opn.opens_slice Try.underlying80 (by kernel_rfl) (opens117_)))))) (fun x : S28 => (x.f0, x.f1, x.f2)) (fun x => ⟨x.1, x.2.1, x.2.2⟩) (fun _ => rfl)
theorem k28_parts {w : World} {x : S28} {cs : List Value} (h : k28.K w x cs) : ∃ (A1 : Option Addr) (c1 : Nat), ∃ (A2 : Option Addr) (c2 : Nat), cs = [.int .i64 x.f0, .slice A1 x.f1.length c1, .slice A2 x.f2.length c2] ∧ x.f1.length ≤ c1 ∧ Kd.C k82 w A1 x.f1.length x.f1 ∧ x.f2.length ≤ c2 ∧ Kd.C (Kd.slice 117 k117) w A2 x.f2.length x.f2 := by
  obtain ⟨_, _, rfl, rfl, ⟨_, _, rfl, ⟨A1, c1, rfl, hl1, hr1⟩, ⟨A2, c2, rfl, hl2, hr2⟩⟩⟩ := h
  exact ⟨A1, c1, A2, c2, rfl, hl1, hr1, hl2, hr2⟩
end Go.Proofs.Ytmfhmfhkknijeaa.QFnExactAsmRight
