/- FnExactSum: the program's Sum answers what the reference's answers, for every text. No condition. -/
import Derived.Test.YtmmcafjppiamhaaPFnExactSumx1
namespace Go.Proofs.Ytmmcafjppiamhaa.Pure
open Go.RowKit Go.Proofs.Ytmmcafjppiamhaa.PFnExactSum Go.Proofs.YtmmcafjppiamhaaW.PrintWords Go.Proofs.YtmmcafjppiamhaaW.PrintLast

theorem wrap_next {i : Int} {n : Nat} (h0 : 0 ≤ i) (h : i < (n : Int)) (hn : n ≤ 140737488351232) : wrap64 (i + 1) = i + 1 := by
  unfold wrap64
  omega

/-- Both loops go on alike. -/
theorem loops_alike (s : ByteArray) (hn : s.size ≤ 140737488351232) (d : Nat) : ∀ (k : Nat) (n i : Int), 0 ≤ i → i ≤ s.size → (s.size : Int) - i = d → d < k →
    ∃ r, spec_Sum.l0 k s n i = some r ∧ impl_sum.l0 k s n (s.size : Int) i = some r := by
  induction d with
  | zero =>
    intro k n i h0 h1 hd hk
    obtain ⟨k, rfl⟩ : ∃ m, k = m + 1 := ⟨k - 1, by omega⟩
    refine ⟨n, ?_, ?_⟩
    · simp only [spec_Sum.l0]; rw [if_neg (by omega)]
    · simp only [impl_sum.l0]; rw [if_neg (by omega)]
  | succ d ih =>
    intro k n i h0 h1 hd hk
    obtain ⟨k, rfl⟩ : ∃ m, k = m + 1 := ⟨k - 1, by omega⟩
    have hlt : i < (s.size : Int) := by omega
    have hb := bt_range s i
    have hw : wrap64 (bt s i) = bt s i := by unfold wrap64; omega
    obtain ⟨r, h2, h3⟩ := ih k (Int.tmod (wrap64 (wrap64 (257 * n) + wrap64 (bt s i))) 4294967291) (i + 1) (by omega) (by omega) (by omega) (by omega)
    refine ⟨r, ?_, ?_⟩
    · simp only [spec_Sum.l0]; rw [if_pos hlt, if_pos h0, wrap_next h0 hlt hn]; exact h2
    · simp only [impl_sum.l0]; rw [if_pos hlt, if_pos h0, if_pos hlt, wrap_next h0 hlt hn]; exact h3

theorem FnExactSum : laws_FnExactSum.Pure := by
  intro s hn
  obtain ⟨r, h2, h3⟩ := loops_alike s hn s.size (s.size + 1) 7 0 (by omega) (by omega) (by omega) (by omega)
  refine ⟨s.size + 1, ?_⟩
  unfold laws_FnExactSum.f
  by_cases hb : (s.size : Int) > 1048576
  · rw [if_pos hb]
  · rw [if_neg hb]
    unfold spec_Sum.f impl_Sum.f impl_sum.f
    by_cases hc : (s.size : Int) > 20000
    · rw [if_pos hc, if_pos hc]; simp
    · rw [if_neg hc, if_neg hc, h2, h3]; simp

end Go.Proofs.Ytmmcafjppiamhaa.Pure
