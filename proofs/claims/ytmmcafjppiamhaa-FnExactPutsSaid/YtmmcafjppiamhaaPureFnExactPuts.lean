/- FnExactPuts: the program's Puts answers what the reference's answers, for every instruction. No condition. -/
import Derived.Test.YtmmcafjppiamhaaPFnExactPutsx1
import Derived.Test.YtmmcafjppiamhaaWfFnExactPuts
namespace Go.Proofs.Ytmmcafjppiamhaa.Pure
open Go.RowKit Go.Proofs.Ytmmcafjppiamhaa.PFnExactPuts Go.Proofs.YtmmcafjppiamhaaW.PrintWords Go.Proofs.YtmmcafjppiamhaaW.PrintLast

theorem puts_some (op a : Int) : ∃ r, impl_Puts.f 1 op a = some r ∧ spec_Puts.f 1 op a = some r := by
  by_cases e4 : op = 4
  · subst e4; exact ⟨_, rfl, rfl⟩
  by_cases e1 : op = 1
  · subst e1; exact ⟨_, rfl, rfl⟩
  by_cases e2 : op = 2
  · subst e2; exact ⟨_, rfl, rfl⟩
  by_cases e32 : op = 32
  · subst e32; exact ⟨_, rfl, rfl⟩
  by_cases e34 : op = 34
  · subst e34; exact ⟨_, rfl, rfl⟩
  by_cases e35 : op = 35
  · subst e35; exact ⟨_, rfl, rfl⟩
  by_cases e37 : op = 37
  · subst e37; exact ⟨_, rfl, rfl⟩
  have f37 : (op == 37) = false := by simp [e37]
  by_cases h1 : op ≥ 10
  · by_cases h2 : op ≤ 29
    · refine ⟨1, ?_, ?_⟩
      · simp [impl_Puts.f, impl_Puts.j0, impl_isArith.f, impl_in.f, e4, e1, e2, e32, e34, e35, f37, h1, h2]
      · by_cases h3 : op ≤ 23
        · simp [spec_Puts.f, spec_Puts.j0, spec_l03Binary.f, h1, h3]
        · simp [spec_Puts.f, spec_Puts.j0, spec_l03Binary.f, spec_l03Unary.f, h1, h2, h3, show op ≥ 24 by omega]
    · refine ⟨0, ?_, ?_⟩
      · simp [impl_Puts.f, impl_Puts.j0, impl_isArith.f, impl_in.f, e4, e1, e2, e32, e34, e35, f37, h1, h2]
      · simp [spec_Puts.f, spec_Puts.j0, spec_l03Binary.f, spec_l03Unary.f, h1, h2, show ¬ op ≤ 23 by omega, e4, e1, e2, e32, e34, e35, e37]
  · refine ⟨0, ?_, ?_⟩
    · simp [impl_Puts.f, impl_Puts.j0, impl_isArith.f, impl_in.f, e4, e1, e2, e32, e34, e35, f37, h1]
    · simp [spec_Puts.f, spec_Puts.j0, spec_l03Binary.f, spec_l03Unary.f, h1, show ¬ op ≥ 24 by omega, e4, e1, e2, e32, e34, e35, e37]

theorem FnExactPuts (x : S29) (_ : wf29 x) : ∃ k, laws_FnExactPuts.f k x.f0 x.f1 = some true := by
  obtain ⟨r, h1, h2⟩ := puts_some x.f0 x.f1
  refine ⟨1, ?_⟩
  simp [laws_FnExactPuts.f, laws_toIns.f, h1, h2]

end Go.Proofs.Ytmmcafjppiamhaa.Pure
