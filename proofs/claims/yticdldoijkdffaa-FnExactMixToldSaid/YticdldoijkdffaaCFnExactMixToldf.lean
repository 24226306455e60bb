/- What the parameters of FnExactMixTold are, as data: their numbers are of their kinds. -/
import Derived.Test.YticdldoijkdffaaCFnExactMixToldx0
import Derived.Test.YticdldoijkdffaaCFnExactMixToldo
namespace Go.Proofs.Yticdldoijkdffaa.QFnExactMixTold
open Go.RowKit Go.Proofs.YticdldoijkdffaaW.PrintWords
set_option linter.unusedVariables false
def wf69 (x : S69) : Prop := True ∧ (Lit.int .i64 x.f1).wf = true ∧ (Lit.int .i64 x.f2).wf = true ∧ (x.f3.length ≤ 9223372036854775807 ∧ ∀ z ∈ x.f3, (Lit.int .i64 z).wf = true) ∧ (x.f4.length ≤ 9223372036854775807 ∧ ∀ z ∈ x.f4, (Lit.int .i64 z).wf = true) ∧ (x.f5.length ≤ 9223372036854775807 ∧ ∀ z ∈ x.f5, (Lit.int .i64 z).wf = true)
set_option maxRecDepth 100000 in
theorem opens69_ : Opn.Opens Try.prog 69 k69 wf69 := Opn.opens_struct Try.underlying69 (Opn.opens_more (Opn.opens_bool Try.underlying4) (Opn.opens_more (Opn.opens_int Try.underlying2) (Opn.opens_more (Opn.opens_int Try.underlying2) (Opn.opens_more (Opn.opens_slice Try.underlying25 (by kernel_rfl) (Opn.opens_int Try.underlying2)) (Opn.opens_more (Opn.opens_slice Try.underlying25 (by kernel_rfl) (Opn.opens_int Try.underlying2)) (Opn.opens_last (by kernel_rfl) (Opn.opens_slice Try.underlying25 (by kernel_rfl) (Opn.opens_int Try.underlying2)))))))) (fun x : S69 => (x.f0, x.f1, x.f2, x.f3, x.f4, x.f5)) (fun x => ⟨x.1, x.2.1, x.2.2.1, x.2.2.2.1, x.2.2.2.2.1, x.2.2.2.2.2⟩) (fun _ => rfl)
theorem k69_parts {w : World} {x : S69} {cs : List Value} (h : k69.K w x cs) : ∃ (A3 : Option Addr) (c3 : Nat), ∃ (A4 : Option Addr) (c4 : Nat), ∃ (A5 : Option Addr) (c5 : Nat), cs = [.bool x.f0, .int .i64 x.f1, .int .i64 x.f2, .slice A3 x.f3.length c3, .slice A4 x.f4.length c4, .slice A5 x.f5.length c5] ∧ x.f3.length ≤ c3 ∧ Kd.C (Kd.int .i64) w A3 x.f3.length x.f3 ∧ x.f4.length ≤ c4 ∧ Kd.C (Kd.int .i64) w A4 x.f4.length x.f4 ∧ x.f5.length ≤ c5 ∧ Kd.C (Kd.int .i64) w A5 x.f5.length x.f5 := by
  obtain ⟨_, _, rfl, rfl, ⟨_, _, rfl, rfl, ⟨_, _, rfl, rfl, ⟨_, _, rfl, ⟨A3, c3, rfl, hl3, hr3⟩, ⟨_, _, rfl, ⟨A4, c4, rfl, hl4, hr4⟩, ⟨A5, c5, rfl, hl5, hr5⟩⟩⟩⟩⟩⟩ := h
  exact ⟨A3, c3, A4, c4, A5, c5, rfl, hl3, hr3, hl4, hr4, hl5, hr5⟩
def wf113 (x : S113) : Prop := (Lit.int .i64 x.f0).wf = true ∧ (Lit.int .i64 x.f1).wf = true
set_option maxRecDepth 100000 in
theorem opens113_ : Opn.Opens Try.prog 113 k113 wf113 := Opn.opens_struct Try.underlying113 (Opn.opens_more (Opn.opens_int Try.underlying2) (Opn.opens_last (by kernel_rfl) (Opn.opens_int Try.underlying2))) (fun x : S113 => (x.f0, x.f1)) (fun x => ⟨x.1, x.2⟩) (fun _ => rfl)
theorem k113_parts {w : World} {x : S113} {cs : List Value} (h : k113.K w x cs) : cs = [.int .i64 x.f0, .int .i64 x.f1] := by
  obtain ⟨_, _, rfl, rfl, rfl⟩ := h
  exact rfl
def wf118 (x : S118) : Prop := (Lit.int .i64 x.f0).wf = true ∧ wf113 x.f1
set_option maxRecDepth 100000 in
theorem opens118_ : Opn.Opens Try.prog 118 k118 wf118 := Opn.opens_struct Try.underlying118 (Opn.opens_more (Opn.opens_int Try.underlying2) (Opn.opens_last (by kernel_rfl) (opens113_))) (fun x : S118 => (x.f0, x.f1)) (fun x => ⟨x.1, x.2⟩) (fun _ => rfl)
theorem k118_parts {w : World} {x : S118} {cs : List Value} (h : k118.K w x cs) : cs = [.int .i64 x.f0, .int .i64 x.f1.f0, .int .i64 x.f1.f1] := by
  obtain ⟨_, _, rfl, rfl, ⟨_, _, rfl, rfl, rfl⟩⟩ := h
  exact rfl
def wf100 (x : S100) : Prop := (x.f0.length ≤ 9223372036854775807 ∧ ∀ z ∈ x.f0, wf118 z) ∧ (Lit.int .i64 x.f1).wf = true ∧ (Lit.int .i64 x.f2).wf = true ∧ (x.f3.length ≤ 9223372036854775807 ∧ ∀ z ∈ x.f3, wf113 z) ∧ (Lit.int .i64 x.f4).wf = true
set_option maxRecDepth 100000 in
theorem opens100_ : Opn.Opens Try.prog 100 k100 wf100 := Opn.opens_struct Try.underlying100 (Opn.opens_more (Opn.opens_slice Try.underlying97 (by kernel_rfl) (opens118_)) (Opn.opens_more (Opn.opens_int Try.underlying2) (Opn.opens_more (Opn.opens_int Try.underlying2) (Opn.opens_more (Opn.opens_slice Try.underlying98 (by kernel_rfl) (opens113_)) (Opn.opens_last (by kernel_rfl) (Opn.opens_int Try.underlying2)))))) (fun x : S100 => (x.f0, x.f1, x.f2, x.f3, x.f4)) (fun x => ⟨x.1, x.2.1, x.2.2.1, x.2.2.2.1, x.2.2.2.2⟩) (fun _ => rfl)
theorem k100_parts {w : World} {x : S100} {cs : List Value} (h : k100.K w x cs) : ∃ (A0 : Option Addr) (c0 : Nat), ∃ (A3 : Option Addr) (c3 : Nat), cs = [.slice A0 x.f0.length c0, .int .i64 x.f1, .int .i64 x.f2, .slice A3 x.f3.length c3, .int .i64 x.f4] ∧ x.f0.length ≤ c0 ∧ Kd.C k118 w A0 x.f0.length x.f0 ∧ x.f3.length ≤ c3 ∧ Kd.C k113 w A3 x.f3.length x.f3 := by
  obtain ⟨_, _, rfl, ⟨A0, c0, rfl, hl0, hr0⟩, ⟨_, _, rfl, rfl, ⟨_, _, rfl, rfl, ⟨_, _, rfl, ⟨A3, c3, rfl, hl3, hr3⟩, rfl⟩⟩⟩⟩ := h
  exact ⟨A0, c0, A3, c3, rfl, hl0, hr0, hl3, hr3⟩
def wf66 (x : S66) : Prop := (Lit.int .i64 x.f0).wf = true ∧ (x.f1.length ≤ 9223372036854775807 ∧ ∀ z ∈ x.f1, wf100 z) ∧ (x.f2.length ≤ 9223372036854775807 ∧ ∀ z ∈ x.f2, (z.length ≤ 9223372036854775807 ∧ ∀ z1 ∈ z, wf113 z1))
set_option maxRecDepth 100000 in
theorem opens66_ : Opn.Opens Try.prog 66 k66 wf66 := Opn.opens_struct Try.underlying66 (Opn.opens_more (Opn.opens_int Try.underlying2) (Opn.opens_more (Opn.opens_slice Try.underlying63 (by kernel_rfl) (opens100_)) (Opn.opens_last (by kernel_rfl) (Opn.opens_slice Try.underlying64 (by kernel_rfl) (Opn.opens_slice Try.underlying98 (by kernel_rfl) (opens113_)))))) (fun x : S66 => (x.f0, x.f1, x.f2)) (fun x => ⟨x.1, x.2.1, x.2.2⟩) (fun _ => rfl)
theorem k66_parts {w : World} {x : S66} {cs : List Value} (h : k66.K w x cs) : ∃ (A1 : Option Addr) (c1 : Nat), ∃ (A2 : Option Addr) (c2 : Nat), cs = [.int .i64 x.f0, .slice A1 x.f1.length c1, .slice A2 x.f2.length c2] ∧ x.f1.length ≤ c1 ∧ Kd.C k100 w A1 x.f1.length x.f1 ∧ x.f2.length ≤ c2 ∧ Kd.C (Kd.slice 113 k113) w A2 x.f2.length x.f2 := by
  obtain ⟨_, _, rfl, rfl, ⟨_, _, rfl, ⟨A1, c1, rfl, hl1, hr1⟩, ⟨A2, c2, rfl, hl2, hr2⟩⟩⟩ := h
  exact ⟨A1, c1, A2, c2, rfl, hl1, hr1, hl2, hr2⟩
structure S27 where
  f0 : (List S66)
  f1 : (List S69)
  f2 : (List (List Int))
  f3 : (List Int)
  f4 : Int
  f5 : Bool
  f6 : Int
  f7 : Int
def k27 : Kd S27 := Kd.iso (Kd.pair (Kd.slice 66 k66) (Kd.pair (Kd.slice 69 k69) (Kd.pair (Kd.slice 25 (Kd.slice 2 (Kd.int .i64))) (Kd.pair (Kd.slice 2 (Kd.int .i64)) (Kd.pair (Kd.int .i64) (Kd.pair Kd.bool (Kd.pair (Kd.int .i64) (Kd.int .i64)))))))) (fun x : S27 => (x.f0, x.f1, x.f2, x.f3, x.f4, x.f5, x.f6, x.f7))
def wf27 (x : S27) : Prop := (x.f0.length ≤ 9223372036854775807 ∧ ∀ z ∈ x.f0, wf66 z) ∧ (x.f1.length ≤ 9223372036854775807 ∧ ∀ z ∈ x.f1, wf69 z) ∧ (x.f2.length ≤ 9223372036854775807 ∧ ∀ z ∈ x.f2, (z.length ≤ 9223372036854775807 ∧ ∀ z1 ∈ z, (Lit.int .i64 z1).wf = true)) ∧ (x.f3.length ≤ 9223372036854775807 ∧ ∀ z ∈ x.f3, (Lit.int .i64 z).wf = true) ∧ (Lit.int .i64 x.f4).wf = true ∧ True ∧ (Lit.int .i64 x.f6).wf = true ∧ (Lit.int .i64 x.f7).wf = true
set_option maxRecDepth 100000 in
theorem opens27_ : Opn.Opens Try.prog 27 k27 wf27 := Opn.opens_struct Try.underlying27 (Opn.opens_more (Opn.opens_slice Try.underlying22 (by kernel_rfl) (opens66_)) (Opn.opens_more (Opn.opens_slice Try.underlying23 (by kernel_rfl) (opens69_)) (Opn.opens_more (Opn.opens_slice Try.underlying24 (by kernel_rfl) (Opn.opens_slice Try.underlying25 (by kernel_rfl) (Opn.opens_int Try.underlying2))) (Opn.opens_more (Opn.opens_slice Try.underlying25 (by kernel_rfl) (Opn.opens_int Try.underlying2)) (Opn.opens_more (Opn.opens_int Try.underlying2) (Opn.opens_more (Opn.opens_bool Try.underlying4) (Opn.opens_more (Opn.opens_int Try.underlying2) (Opn.opens_last (by kernel_rfl) (Opn.opens_int Try.underlying2))))))))) (fun x : S27 => (x.f0, x.f1, x.f2, x.f3, x.f4, x.f5, x.f6, x.f7)) (fun x => ⟨x.1, x.2.1, x.2.2.1, x.2.2.2.1, x.2.2.2.2.1, x.2.2.2.2.2.1, x.2.2.2.2.2.2.1, x.2.2.2.2.2.2.2⟩) (fun _ => rfl)
theorem k27_parts {w : World} {x : S27} {cs : List Value} (h : k27.K w x cs) : ∃ (A0 : Option Addr) (c0 : Nat), ∃ (A1 : Option Addr) (c1 : Nat), ∃ (A2 : Option Addr) (c2 : Nat), ∃ (A3 : Option Addr) (c3 : Nat), cs = [.slice A0 x.f0.length c0, .slice A1 x.f1.length c1, .slice A2 x.f2.length c2, .slice A3 x.f3.length c3, .int .i64 x.f4, .bool x.f5, .int .i64 x.f6, .int .i64 x.f7] ∧ x.f0.length ≤ c0 ∧ Kd.C k66 w A0 x.f0.length x.f0 ∧ x.f1.length ≤ c1 ∧ Kd.C k69 w A1 x.f1.length x.f1 ∧ x.f2.length ≤ c2 ∧ Kd.C (Kd.slice 2 (Kd.int .i64)) w A2 x.f2.length x.f2 ∧ x.f3.length ≤ c3 ∧ Kd.C (Kd.int .i64) w A3 x.f3.length x.f3 := by
  obtain ⟨_, _, rfl, ⟨A0, c0, rfl, hl0, hr0⟩, ⟨_, _, rfl, ⟨A1, c1, rfl, hl1, hr1⟩, ⟨_, _, rfl, ⟨A2, c2, rfl, hl2, hr2⟩, ⟨_, _, rfl, ⟨A3, c3, rfl, hl3, hr3⟩, ⟨_, _, rfl, rfl, ⟨_, _, rfl, rfl, ⟨_, _, rfl, rfl, rfl⟩⟩⟩⟩⟩⟩⟩ := h
  exact ⟨A0, c0, A1, c1, A2, c2, A3, c3, rfl, hl0, hr0, hl1, hr1, hl2, hr2, hl3, hr3⟩
end Go.Proofs.Yticdldoijkdffaa.QFnExactMixTold
