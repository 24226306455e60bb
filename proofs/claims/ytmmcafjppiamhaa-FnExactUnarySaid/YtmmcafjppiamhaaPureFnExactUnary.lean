/- FnExactUnary: the program's Unary answers what the reference's answers, for every op and every number. No condition. -/
import Derived.Test.YtmmcafjppiamhaaPFnExactUnaryx1
namespace Go.Proofs.Ytmmcafjppiamhaa.Pure
open Go.RowKit Go.Proofs.Ytmmcafjppiamhaa.PFnExactUnary Go.Proofs.YtmmcafjppiamhaaW.PrintWords Go.Proofs.YtmmcafjppiamhaaW.PrintLast

theorem unary_some (a b : Int) : ∃ r, impl_Unary.f a b = some r ∧ spec_Unary.f a b = some r := by
  unfold impl_Unary.f spec_Unary.f
  repeat' split
  all_goals exact ⟨_, rfl, rfl⟩

theorem FnExactUnary : laws_FnExactUnary.Pure := by
  intro a0 a1 _ _
  obtain ⟨r, h1, h2⟩ := unary_some a0 a1
  unfold laws_FnExactUnary.f
  rw [h1, h2]
  simp [laws_eqValue.f]

end Go.Proofs.Ytmmcafjppiamhaa.Pure
