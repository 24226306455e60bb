/- FnExactFits: the program's Fits answers what the reference's answers, for all numbers. No condition. -/
import Derived.Test.YtkmohnlkldkhdaaQFnExactFitsx1
namespace Go.Proofs.Ytkmohnlkldkhdaa.Pure
open Go.RowKit Go.Proofs.Ytkmohnlkldkhdaa.QFnExactFits Go.Proofs.YtkmohnlkldkhdaaW.PrintWords Go.Proofs.YtkmohnlkldkhdaaW.PrintLast
set_option linter.unusedVariables false
set_option linter.unusedSimpArgs false

/-! plain words: rounds, wraps, lists -/
theorem Ev.succ {α : Type} {g : Nat → Option α} {r : α} (h : Ev (fun k => g (k + 1)) r) : Ev g r := Ev.step (fun _ => rfl) h
theorem Ev.yes {α : Type} {c : Prop} [Decidable c] {g f : Nat → Option α} {r : α} (hc : c) (h : Ev g r) : Ev (fun k => if c then g k else f k) r := Ev.congr (fun _ => if_pos hc) h
theorem Ev.no {α : Type} {c : Prop} [Decidable c] {g f : Nat → Option α} {r : α} (hc : ¬ c) (h : Ev f r) : Ev (fun k => if c then g k else f k) r := Ev.congr (fun _ => if_neg hc) h
theorem Ev.cases {α : Type} {c : Prop} [Decidable c] {g f : Nat → Option α} {r : α} (h1 : c → Ev g r) (h2 : ¬ c → Ev f r) : Ev (fun k => if c then g k else f k) r := by
 by_cases hc : c
 ·exact Ev.yes hc (h1 hc)
 ·exact Ev.no hc (h2 hc)
/-- A call that needs no rounds. -/
theorem Ev.flat {α β : Type} {g : Option α} {f : Nat → α → Option β} {a : α} {r : β} (h : g = some a) (k : Ev (fun n => f n a) r) : Ev (fun n => g.bind (f n)) r := Ev.bind (g := fun _ => g) ⟨0, fun _ _ => h⟩ k
theorem wrap_in {n : Int} (h0 : -9223372036854775808 ≤ n) (h1 : n ≤ 9223372036854775807) : wrap64 n = n := by unfold wrap64; omega
theorem wrap_lo (n : Int) : -9223372036854775808 ≤ wrap64 n := by unfold wrap64; omega
theorem wrap_hi (n : Int) : wrap64 n ≤ 9223372036854775807 := by unfold wrap64; omega
theorem wf64 {n : Int} (h : (Lit.int .i64 n).wf = true) : -9223372036854775808 ≤ n ∧ n ≤ 9223372036854775807 := by
 simp only [Lit.wf, IntKind.min, IntKind.max, IntKind.signed, IntKind.bits, Bool.and_eq_true, decide_eq_true_eq, if_true] at h
 omega
theorem drop_at {α : Type} (x : List α) (z : α) (i : Nat) (h : i < x.length) : x.drop i = x.getD i z :: x.drop (i + 1) := by
 rw [List.drop_eq_getElem_cons h, List.getD_eq_getElem?_getD, List.getElem?_eq_getElem h]; rfl
/-- Two lists, place by place. -/
def sameL {α : Type} (s : α → α → Bool) : List α → List α → Bool
 | [], [] => true
 | a :: x, b :: y => s a b && sameL s x y
 | _, _ => false
theorem sameL_refl {α : Type} {s : α → α → Bool} (hs : ∀ a, s a a = true) : ∀ x : List α, sameL s x x = true
 | [] => rfl
 | a :: x => by simp [sameL, hs a, sameL_refl hs x]
theorem sameL_len {α : Type} {s : α → α → Bool} : ∀ x y : List α, x.length ≠ y.length → sameL s x y = false
 | [], [], h => absurd rfl h
 | [], _ :: _, _ => rfl
 | _ :: _, [], _ => rfl
 | a :: x, b :: y, h => by simp [sameL, sameL_len x y (fun e => h (by simp [e]))]
theorem nand {a b : Bool} (h : (a && b) = false) : (!a || !b) = true := by cases a <;> cases b <;> simp_all
theorem beq_no {a b : Int} (h : ¬ a = b) : (a == b) = false := beq_eq_false_iff_ne.2 h
theorem Ev.uniq {α : Type} {g : Nat → Option α} {r r' : α} (h : Ev g r) (h' : Ev g r') : r = r' := by
 obtain ⟨a, ha⟩ := h
 obtain ⟨b, hb⟩ := h'
 have h1 := ha (max a b) (Nat.le_max_left _ _)
 rw [hb (max a b) (Nat.le_max_right _ _)] at h1
 exact (Option.some.inj h1).symm

/-! bits of 64 -/
theorem i64w (n : Int) : IntKind.i64.wrap n = wrap64 n := by
 unfold wrap64
 simp [IntKind.wrap, IntKind.bits, IntKind.signed]
 split <;> omega
theorem toNat64 (x : Int) : (BitVec.ofInt 64 x).toNat = (x % 18446744073709551616).toNat := by rw [BitVec.toNat_ofInt]; rfl
theorem not64 (a : Int) (h0 : -9223372036854775808 ≤ a) (h1 : a ≤ 9223372036854775807) : Go.bits .xor .i64 (-1) a = -a - 1 := by
 show IntKind.i64.wrap ((BitVec.ofInt 64 (-1) ^^^ BitVec.ofInt 64 a).toNat : Int) = _
 have e : BitVec.ofInt 64 (-1) = BitVec.allOnes 64 := by decide +kernel
 rw [e, BitVec.allOnes_xor, BitVec.toNat_not, toNat64, i64w]
 unfold wrap64
 omega
theorem and0 (x : Int) (m : Int) (j : Nat) (hj : j ≤ 32) (hm : m = 2 ^ j - 1) (hx : x % 2 ^ j = 0) : Go.bits .and .i64 x m = 0 := by
 subst hm
 show IntKind.i64.wrap ((BitVec.ofInt 64 x &&& BitVec.ofInt 64 (2 ^ j - 1)).toNat : Int) = _
 have hp : (2 : Int) ^ j = ((2 ^ j : Nat) : Int) := by simp
 have hpos : 0 < 2 ^ j := Nat.two_pow_pos j
 have hlt : 2 ^ j ≤ 2 ^ 32 := Nat.pow_le_pow_right (by decide) hj
 have e2 : (BitVec.ofInt 64 (2 ^ j - 1)).toNat = 2 ^ j - 1 := by
  rw [toNat64, hp]
  omega
 have e1 : (BitVec.ofInt 64 x).toNat % 2 ^ j = 0 := by
  rw [toNat64]
  have hd : (2 : Int) ^ j ∣ x := Int.dvd_of_emod_eq_zero hx
  have h64 : (2 : Int) ^ j ∣ 18446744073709551616 := by
   have : (18446744073709551616 : Int) = 2 ^ 64 := by decide
   rw [this]
   exact ⟨2 ^ (64 - j), by rw [← Int.pow_add, show j + (64 - j) = 64 by omega]⟩
  have hm : (2 : Int) ^ j ∣ x % 18446744073709551616 := by
   rw [Int.emod_def]
   exact Int.dvd_sub hd (Int.dvd_trans h64 (Int.dvd_mul_right _ _))
  have hnn : 0 ≤ x % 18446744073709551616 := Int.emod_nonneg _ (by decide)
  obtain ⟨n, hn⟩ := Int.eq_ofNat_of_zero_le hnn
  rw [hn, Int.toNat_natCast]
  rw [hn, hp] at hm
  exact Nat.mod_eq_zero_of_dvd (Int.natCast_dvd_natCast.1 hm)
 rw [BitVec.toNat_and, e2, Nat.and_two_pow_sub_one_eq_mod, e1]
 rfl

theorem u64e (x : Int) : IntKind.u64.wrap x = x % 18446744073709551616 := by simp [IntKind.wrap, IntKind.signed, IntKind.bits]
theorem shr_at (a : Int) (K : Nat) (hK : K ≤ 63) : shr .i64 a (K : Int) = a / 2 ^ K := by
 have := shr_small (k := .i64) (x := a) (y := (K : Int)) rfl (by simp [IntKind.bits]; omega)
 rw [Int.toNat_natCast] at this
 exact this.symm
theorem FnExactFits : laws_FnExactFits.Pure := by
 intro a b ha hb
 have ha := wf64 ha
 unfold laws_FnExactFits.f
 suffices h : ∃ t, spec_Fits.f a b = some t ∧ impl_Fits.f a b = some t by
  obtain ⟨t, h1, h2⟩ := h
  rw [h1, h2]
  simp
 unfold spec_Fits.f impl_Fits.f impl_in.f
 by_cases h1 : b < 1
 ·have hin : (if b ≥ 1 then some (decide (b ≤ 64)) else some false) = some false := if_neg (by omega)
  rw [if_pos h1, hin]
  exact ⟨false, rfl, by simp⟩
 have hin : (if b ≥ 1 then some (decide (b ≤ 64)) else some false) = some (decide (b ≤ 64)) := if_pos (by omega)
 rw [if_neg h1, hin]
 simp only [Option.bind_some]
 by_cases h2 : b > 64
 ·have hq : ¬ decide (b ≤ 64) = true := by simp; omega
  rw [if_pos h2, if_neg hq]
  exact ⟨false, rfl, rfl⟩
 have hq : decide (b ≤ 64) = true := by simp; omega
 rw [if_neg h2, if_pos hq]
 obtain ⟨K, hK⟩ := Int.eq_ofNat_of_zero_le (show 0 ≤ b - 1 by omega)
 have e : IntKind.u64.wrap (wrap64 (b - 1)) = (K : Int) := by
  rw [u64e]; unfold wrap64; omega
 have c0 : (0 : Int) ≤ (K : Int) := by omega
 simp only [e, if_pos c0, shr_at a K (show K ≤ 63 by omega)]
 have hP : (0 : Int) < 2 ^ K := Int.pow_pos (by decide)
 have hd := Int.mul_ediv_add_emod a (2 ^ K)
 have hm0 := Int.emod_nonneg a (Int.ne_of_gt hP)
 have hm1 := Int.emod_lt_of_pos a hP
 by_cases h3 : a / 2 ^ K = 0
 ·rw [if_pos h3]
  refine ⟨true, rfl, ?_⟩
  rw [h3, Int.mul_zero] at hd
  rw [h3, show a / 9223372036854775808 = 0 by omega]
  rfl
 ·rw [if_neg h3]
  refine ⟨_, rfl, ?_⟩
  by_cases h4 : a / 2 ^ K = -1
  ·rw [h4, Int.mul_neg, Int.mul_one] at hd
   rw [h4, show a / 9223372036854775808 = -1 by omega]
  ·have n1 : (a / 2 ^ K == -1) = false := beq_eq_false_iff_ne.2 h4
   have n2 : (a / 2 ^ K == a / 9223372036854775808) = false := by
    refine beq_eq_false_iff_ne.2 (fun q => ?_)
    have : a / 9223372036854775808 = 0 ∨ a / 9223372036854775808 = -1 := by omega
    rcases this with z | z
    ·exact h3 (q.trans z)
    ·exact h4 (q.trans z)
   rw [n1, n2]

end Go.Proofs.Ytkmohnlkldkhdaa.Pure
