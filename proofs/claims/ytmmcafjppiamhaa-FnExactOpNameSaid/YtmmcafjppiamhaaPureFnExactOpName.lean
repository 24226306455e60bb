/- FnExactOpName: the program's OpName answers what the reference's answers, for every number. No condition. -/
import Derived.Test.YtmmcafjppiamhaaPFnExactOpNamex1
namespace Go.Proofs.Ytmmcafjppiamhaa.Pure
open Go.RowKit Go.Proofs.Ytmmcafjppiamhaa.PFnExactOpName Go.Proofs.YtmmcafjppiamhaaW.PrintWords Go.Proofs.YtmmcafjppiamhaaW.PrintLast

theorem FnExactOpName : laws_FnExactOpName.Pure := by
  intro a0 h
  refine ⟨1, ?_⟩
  by_cases hr : 0 ≤ a0 ∧ a0 ≤ 38
  · obtain ⟨n, rfl⟩ := Int.eq_ofNat_of_zero_le hr.1
    have hn : n < 39 := by omega
    clear h hr
    revert n
    decide +kernel
  · have h1 : impl_OpName.f a0 = some ⟨#[]⟩ := by
      unfold impl_OpName.f impl_in.f
      by_cases hc : a0 ≥ 0
      · rw [if_pos hc]
        have : decide (a0 ≤ 38) = false := by simp; omega
        simp [this]
      · rw [if_neg hc]
        simp
    have h2 : spec_OpName.f 1 a0 = some ⟨#[]⟩ := by
      unfold spec_OpName.f
      simp only [Option.bind_some]
      by_cases hc : a0 ≥ 1
      · rw [if_pos hc]
        have : decide (a0 ≤ 5) = false := by simp; omega
        simp only [this, spec_OpName.j0]
        by_cases hd : a0 ≥ 10
        · rw [if_neg (by simp), if_pos hd, if_neg (by omega)]
        · rw [if_neg (by simp), if_neg hd]
      · rw [if_neg hc]
        simp only [spec_OpName.j0]
        rw [if_neg (by simp), if_neg (by omega)]
    unfold laws_FnExactOpName.f
    rw [h1, h2]
    simp

end Go.Proofs.Ytmmcafjppiamhaa.Pure
