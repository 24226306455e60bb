/- FnExactBinary: the program's Binary answers what the reference's answers, for every op and all numbers. No condition. -/
import Derived.Test.YtmmcafjppiamhaaPFnExactBinaryx2
namespace Go.Proofs.Ytmmcafjppiamhaa.Pure
open Go.RowKit Go.Proofs.Ytmmcafjppiamhaa.PFnExactBinary Go.Proofs.YtmmcafjppiamhaaW.PrintWords Go.Proofs.YtmmcafjppiamhaaW.PrintLast

theorem low_six (b : Int) : IntKind.u64.wrap (Go.bits .and .i64 b 63) = Int.tmod (IntKind.u64.wrap b) 64 := by
  have e : Go.bits .and .i64 b 63 = b % 64 := by
    have hx : (BitVec.ofInt 64 b &&& BitVec.ofInt 64 63).toNat = (b % 18446744073709551616).toNat % 64 := by
      rw [BitVec.toNat_and, BitVec.toNat_ofInt, BitVec.toNat_ofInt]
      exact Nat.and_two_pow_sub_one_eq_mod (b % 18446744073709551616).toNat 6
    show IntKind.i64.wrap ((BitVec.ofInt 64 b &&& BitVec.ofInt 64 63).toNat : Int) = b % 64
    rw [hx]
    have hm : (((b % 18446744073709551616).toNat % 64 : Nat) : Int) = b % 64 := by omega
    rw [hm]
    have hw : IntKind.i64.wrap (b % 64) = if b % 64 % 18446744073709551616 ≥ 9223372036854775808 then b % 64 % 18446744073709551616 - 18446744073709551616 else b % 64 % 18446744073709551616 := by
      simp [IntKind.wrap, IntKind.signed, IntKind.bits]
    rw [hw, if_neg (by omega)]
    omega
  have hu : ∀ x : Int, IntKind.u64.wrap x = x % 18446744073709551616 := fun x => by simp [IntKind.wrap, IntKind.signed, IntKind.bits]
  rw [e, hu, hu, Int.tmod_eq_emod_of_nonneg (by omega)]
  omega

theorem ite_some {α : Type} {c : Prop} [Decidable c] {A B : Option α} (h1 : ∃ r, A = some r) (h2 : ∃ r, B = some r) : ∃ r, (if c then A else B) = some r := by
  by_cases h : c
  · rw [if_pos h]; exact h1
  · rw [if_neg h]; exact h2

theorem binary_some (op a b : Int) :
    ∃ r, impl_Binary.f 1 op a b = some r ∧ spec_Binary.f 1 op a b = some r := by
  unfold impl_Binary.f spec_Binary.f
  simp only [impl_Binary.j0, spec_Binary.j0, low_six b]
  have hk : 0 ≤ Int.tmod (IntKind.u64.wrap b) 64 := by
    have hu : IntKind.u64.wrap b = b % 18446744073709551616 := by simp [IntKind.wrap, IntKind.signed, IntKind.bits]
    rw [hu, Int.tmod_eq_emod_of_nonneg (by omega)]
    omega
  simp only [if_pos hk]
  by_cases e13 : op = 13
  · subst e13
    simp only [show ((13 : Int) = 10) = False from by simp, show ((13 : Int) = 11) = False from by simp, show ((13 : Int) = 12) = False from by simp, if_false, if_true, beq_self_eq_true, spec_l02Over.f]
    by_cases hb : b = 0
    · rw [if_pos hb, if_pos hb]
      exact ⟨_, rfl, rfl⟩
    · rw [if_neg hb, if_neg hb]
      by_cases hm : b = -1
      · subst hm
        rw [if_pos rfl]
        exact ⟨_, rfl, by simp [Int.tdiv_neg]⟩
      · rw [if_neg hm]
        exact ⟨_, rfl, rfl⟩
  by_cases e14 : op = 14
  · subst e14
    simp only [show ((14 : Int) = 10) = False from by simp, show ((14 : Int) = 11) = False from by simp, show ((14 : Int) = 12) = False from by simp, show ((14 : Int) = 13) = False from by simp, if_false, if_true, beq_self_eq_true, spec_l02Over.f]
    by_cases hb : b = 0
    · rw [if_pos hb, if_pos hb]
      exact ⟨_, rfl, rfl⟩
    · rw [if_neg hb, if_neg hb]
      by_cases hm : b = -1
      · subst hm
        rw [if_pos rfl]
        exact ⟨_, rfl, by simp [Int.tmod_neg]⟩
      · rw [if_neg hm]
        exact ⟨_, rfl, rfl⟩
  have f13 : (op == 13) = false := by simp [e13]
  have f14 : (op == 14) = false := by simp [e14]
  simp only [f13, f14, if_neg e13, Bool.false_eq_true, if_false]
  have hbit : ∀ c : Bool, ((impl_bit.f c).bind fun bt => some (bt.1, bt.2)) = (spec_l02If.f c).bind fun t => some (t, (0 : Int)) := by
    intro c
    cases c <;> rfl
  simp only [hbit]
  have hone : ∀ c : Bool, ∃ r, ((spec_l02If.f c).bind fun t => some (t, (0 : Int))) = some r := by
    intro c
    cases c <;> exact ⟨_, rfl⟩
  have key : ∀ X : Option (Int × Int), (∃ r, X = some r) → ∃ r, X = some r ∧ X = some r := fun X ⟨r, hr⟩ => ⟨r, hr, hr⟩
  refine key _ ?_
  repeat' (refine ite_some ?_ ?_)
  all_goals first | exact ⟨_, rfl⟩ | exact hone _

theorem FnExactBinary : laws_FnExactBinary.Pure := by
  intro a0 a1 a2 _ _ _
  obtain ⟨r, h3, h4⟩ := binary_some a0 a1 a2
  refine ⟨1, ?_⟩
  unfold laws_FnExactBinary.f
  rw [h3, h4]
  simp [laws_eqValue.f]

end Go.Proofs.Ytmmcafjppiamhaa.Pure
