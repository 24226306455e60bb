/- What the parameters of FnExactSlots are, as data: their numbers are of their kinds. -/
import Derived.Test.YtpkkicaablnakaaCFnExactSlotsx0
import Derived.Test.YtpkkicaablnakaaCFnExactSlotso
namespace Go.Proofs.Ytpkkicaablnakaa.QFnExactSlots
open Go.RowKit Go.Proofs.YtpkkicaablnakaaW.PrintWords
set_option linter.unusedVariables false
def wf52 (x : S52) : Prop := (Lit.int .i64 x.f0).wf = true ∧ (Lit.int .i64 x.f1).wf = true
set_option maxRecDepth 100000 in
theorem opens52_ : Opn.Opens Try.prog 52 k52 wf52 := Opn.opens_struct Try.underlying52 (Opn.opens_more (Opn.opens_int Try.underlying2) (Opn.opens_last (by kernel_rfl) (Opn.opens_int Try.underlying2))) (fun x : S52 => (x.f0, x.f1)) (fun x => ⟨x.1, x.2⟩) (fun _ => rfl)
theorem k52_parts {w : World} {x : S52} {cs : List Value} (h : k52.K w x cs) : cs = [.int .i64 x.f0, .int .i64 x.f1] := by
  obtain ⟨_, _, rfl, rfl, rfl⟩ := h
  exact rfl
def wf180 (x : S180) : Prop := (Lit.int .i64 x.f0).wf = true ∧ (Lit.int .i64 x.f1).wf = true ∧ (x.f2.length ≤ 9223372036854775807 ∧ ∀ z ∈ x.f2, wf52 z)
set_option maxRecDepth 100000 in
theorem opens180_ : Opn.Opens Try.prog 180 k180 wf180 := Opn.opens_struct Try.underlying180 (Opn.opens_more (Opn.opens_int Try.underlying2) (Opn.opens_more (Opn.opens_int Try.underlying2) (Opn.opens_last (by kernel_rfl) (Opn.opens_slice Try.underlying178 (by kernel_rfl) (opens52_))))) (fun x : S180 => (x.f0, x.f1, x.f2)) (fun x => ⟨x.1, x.2.1, x.2.2⟩) (fun _ => rfl)
theorem k180_parts {w : World} {x : S180} {cs : List Value} (h : k180.K w x cs) : ∃ (A2 : Option Addr) (c2 : Nat), cs = [.int .i64 x.f0, .int .i64 x.f1, .slice A2 x.f2.length c2] ∧ x.f2.length ≤ c2 ∧ Kd.C k52 w A2 x.f2.length x.f2 := by
  obtain ⟨_, _, rfl, rfl, ⟨_, _, rfl, rfl, ⟨A2, c2, rfl, hl2, hr2⟩⟩⟩ := h
  exact ⟨A2, c2, rfl, hl2, hr2⟩
structure S50 where
  f0 : (List S180)
def k50 : Kd S50 := Kd.iso (Kd.slice 180 k180) (fun x : S50 => x.f0)
def wf50 (x : S50) : Prop := (x.f0.length ≤ 9223372036854775807 ∧ ∀ z ∈ x.f0, wf180 z)
set_option maxRecDepth 100000 in
theorem opens50_ : Opn.Opens Try.prog 50 k50 wf50 := Opn.opens_struct Try.underlying50 (Opn.opens_last (by kernel_rfl) (Opn.opens_slice Try.underlying48 (by kernel_rfl) (opens180_))) (fun x : S50 => x.f0) (fun x => ⟨x⟩) (fun _ => rfl)
theorem k50_parts {w : World} {x : S50} {cs : List Value} (h : k50.K w x cs) : ∃ (A0 : Option Addr) (c0 : Nat), cs = [.slice A0 x.f0.length c0] ∧ x.f0.length ≤ c0 ∧ Kd.C k180 w A0 x.f0.length x.f0 := by
  obtain ⟨A0, c0, rfl, hl0, hr0⟩ := h
  exact ⟨A0, c0, rfl, hl0, hr0⟩
end Go.Proofs.Ytpkkicaablnakaa.QFnExactSlots
