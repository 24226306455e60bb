/- FnArith: of drawn numbers a difference and what was taken off are the sum; a quotient times the divisor, and what is left, are the number; what is left is less than the divisor; shifted to the left and back a number that has room is itself; a bitwise sum taken twice, too. No condition. -/
import Derived.Test.YtkmohnlkldkhdaaQFnArithx
namespace Go.Proofs.Ytkmohnlkldkhdaa.Pure
open Go.RowKit Go.Proofs.Ytkmohnlkldkhdaa.QFnArith Go.Proofs.YtkmohnlkldkhdaaW.PrintWords Go.Proofs.YtkmohnlkldkhdaaW.PrintLast
set_option linter.unusedVariables false
set_option linter.unusedSimpArgs false

/-! plain words: rounds, wraps, lists -/
theorem Ev.succ {α : Type} {g : Nat → Option α} {r : α} (h : Ev (fun k => g (k + 1)) r) : Ev g r := Ev.step (fun _ => rfl) h
theorem Ev.yes {α : Type} {c : Prop} [Decidable c] {g f : Nat → Option α} {r : α} (hc : c) (h : Ev g r) : Ev (fun k => if c then g k else f k) r := Ev.congr (fun _ => if_pos hc) h
theorem Ev.no {α : Type} {c : Prop} [Decidable c] {g f : Nat → Option α} {r : α} (hc : ¬ c) (h : Ev f r) : Ev (fun k => if c then g k else f k) r := Ev.congr (fun _ => if_neg hc) h
theorem Ev.cases {α : Type} {c : Prop} [Decidable c] {g f : Nat → Option α} {r : α} (h1 : c → Ev g r) (h2 : ¬ c → Ev f r) : Ev (fun k => if c then g k else f k) r := by
 by_cases hc : c
 ·exact Ev.yes hc (h1 hc)
 ·exact Ev.no hc (h2 hc)
/-- A call that needs no rounds. -/
theorem Ev.flat {α β : Type} {g : Option α} {f : Nat → α → Option β} {a : α} {r : β} (h : g = some a) (k : Ev (fun n => f n a) r) : Ev (fun n => g.bind (f n)) r := Ev.bind (g := fun _ => g) ⟨0, fun _ _ => h⟩ k
theorem wrap_in {n : Int} (h0 : -9223372036854775808 ≤ n) (h1 : n ≤ 9223372036854775807) : wrap64 n = n := by unfold wrap64; omega
theorem wrap_lo (n : Int) : -9223372036854775808 ≤ wrap64 n := by unfold wrap64; omega
theorem wrap_hi (n : Int) : wrap64 n ≤ 9223372036854775807 := by unfold wrap64; omega
theorem wf64 {n : Int} (h : (Lit.int .i64 n).wf = true) : -9223372036854775808 ≤ n ∧ n ≤ 9223372036854775807 := by
 simp only [Lit.wf, IntKind.min, IntKind.max, IntKind.signed, IntKind.bits, Bool.and_eq_true, decide_eq_true_eq, if_true] at h
 omega
theorem drop_at {α : Type} (x : List α) (z : α) (i : Nat) (h : i < x.length) : x.drop i = x.getD i z :: x.drop (i + 1) := by
 rw [List.drop_eq_getElem_cons h, List.getD_eq_getElem?_getD, List.getElem?_eq_getElem h]; rfl
/-- Two lists, place by place. -/
def sameL {α : Type} (s : α → α → Bool) : List α → List α → Bool
 | [], [] => true
 | a :: x, b :: y => s a b && sameL s x y
 | _, _ => false
theorem sameL_refl {α : Type} {s : α → α → Bool} (hs : ∀ a, s a a = true) : ∀ x : List α, sameL s x x = true
 | [] => rfl
 | a :: x => by simp [sameL, hs a, sameL_refl hs x]
theorem sameL_len {α : Type} {s : α → α → Bool} : ∀ x y : List α, x.length ≠ y.length → sameL s x y = false
 | [], [], h => absurd rfl h
 | [], _ :: _, _ => rfl
 | _ :: _, [], _ => rfl
 | a :: x, b :: y, h => by simp [sameL, sameL_len x y (fun e => h (by simp [e]))]
theorem nand {a b : Bool} (h : (a && b) = false) : (!a || !b) = true := by cases a <;> cases b <;> simp_all
theorem beq_no {a b : Int} (h : ¬ a = b) : (a == b) = false := beq_eq_false_iff_ne.2 h
theorem Ev.uniq {α : Type} {g : Nat → Option α} {r r' : α} (h : Ev g r) (h' : Ev g r') : r = r' := by
 obtain ⟨a, ha⟩ := h
 obtain ⟨b, hb⟩ := h'
 have h1 := ha (max a b) (Nat.le_max_left _ _)
 rw [hb (max a b) (Nat.le_max_right _ _)] at h1
 exact (Option.some.inj h1).symm

/-! numbers that are drawn -/
theorem u64_lo (x : Int) : 0 ≤ IntKind.u64.wrap x := by show 0 ≤ x % _; exact Int.emod_nonneg _ (by decide)
theorem u64_in {x : Int} (h0 : 0 ≤ x) (h1 : x < 18446744073709551616) : IntKind.u64.wrap x = x := Int.emod_eq_of_lt h0 h1
theorem drawn_v {X most : Int} (hX : 0 ≤ X) (h0 : 1 < most) (h1 : most ≤ 9223372036854775807) : ∃ v, wrap64 (Int.tmod X (IntKind.u64.wrap most)) = v ∧ 0 ≤ v ∧ v < most := by
 rw [u64_in (x := most) (by omega) (by omega)]
 have a := Int.tmod_nonneg most hX
 have b := Int.tmod_lt_of_pos X (show 0 < most by omega)
 exact ⟨_, wrap_in (by omega) (by omega), a, b⟩
theorem n_some (b : List Int) (at_ mix size : Int) (ha : 0 ≤ at_ ∧ at_ ≤ b.length) (hb : b.length ≤ 1048576) (most : Int) (h1 : 1 ≤ most) (h2 : most ≤ 9223372036854775807) : ∃ v at1 mix1, spec_l01Src_n.f b at_ mix size most = some (v, at1, mix1, size) ∧ 0 ≤ v ∧ v < most ∧ 0 ≤ at1 ∧ at1 ≤ b.length := by
 unfold spec_l01Src_n.f
 by_cases hm : most ≤ 1
 ·rw [if_pos hm]; exact ⟨0, _, _, rfl, by omega, by omega, ha.1, ha.2⟩
 rw [if_neg hm]
 have hne : ¬ IntKind.u64.wrap most = 0 := by rw [u64_in (by omega) (by omega)]; omega
 by_cases hc : at_ < (b.length : Int)
 ·rw [if_pos hc, if_pos ha.1, if_neg hne]
  obtain ⟨v, e, p, q⟩ := drawn_v (X := IntKind.u64.wrap _) (u64_lo _) (show 1 < most by omega) h2
  refine ⟨v, _, _, by rw [e], p, q, ?_, ?_⟩ <;> rw [wrap_in (by omega) (by omega)] <;> omega
 ·rw [if_neg hc, if_neg hne]
  obtain ⟨v, e, p, q⟩ := drawn_v (X := IntKind.u64.wrap _) (u64_lo _) (show 1 < most by omega) h2
  exact ⟨v, _, _, by rw [e], p, q, ha.1, ha.2⟩
theorem source_ev (l : List Int) (h : l.length ≤ 1048576) : ∃ mix size, Ev (fun k => spec_l01Source.f k l) (l, 0, mix, size) ∧ 0 ≤ size ∧ size ≤ 12 := by
 have fin : ∃ size, (if wrap64 ((l.length : Int) / 20) > 12 then 12 else wrap64 ((l.length : Int) / 20)) = size ∧ 0 ≤ size ∧ size ≤ 12 := by
  have : wrap64 ((l.length : Int) / 20) = (l.length : Int) / 20 := wrap_in (by omega) (by omega)
  rw [this]
  by_cases q : (l.length : Int) / 20 > 12
  ·rw [if_pos q]; exact ⟨12, rfl, by omega, by omega⟩
  ·rw [if_neg q]; exact ⟨_, rfl, by omega, by omega⟩
 obtain ⟨size, he, h0, h1⟩ := fin
 have last : ∀ mix : Int, Ev (fun _ => if wrap64 ((l.length : Int) / 20) > 12 then some (l, (0 : Int), mix, (12 : Int)) else some (l, 0, mix, wrap64 ((l.length : Int) / 20))) (l, 0, mix, size) := by
  intro mix
  by_cases q : wrap64 ((l.length : Int) / 20) > 12
  ·rw [if_pos q] at he; subst he; exact Ev.yes q (Ev.now _)
  ·rw [if_neg q] at he; subst he; exact Ev.no q (Ev.now _)
 have key : ∀ (d i : Nat), i + d = 64 → ∀ mix : Int, ∃ mix', Ev (fun k => spec_l01Source.l0 k l (i : Int) l 0 mix 0) (l, 0, mix', size) := by
  intro d
  induction d with
  | zero =>
   intro i hi mix
   refine ⟨mix, Ev.succ ?_⟩
   simp only [spec_l01Source.l0]
   by_cases hc : (i : Int) < (l.length : Int)
   ·exact Ev.yes hc (Ev.no (by omega) (last mix))
   ·exact Ev.no hc (last mix)
  | succ d ih =>
   intro i hi mix
   by_cases hc : (i : Int) < (l.length : Int)
   ·obtain ⟨m', e⟩ := ih (i + 1) (by omega) (IntKind.u64.wrap ((Go.bits .xor .u64 mix (IntKind.u64.wrap (rd l i))) * 1099511628211))
    refine ⟨m', Ev.succ ?_⟩
    simp only [spec_l01Source.l0]
    refine Ev.yes hc (Ev.yes (by omega) (Ev.yes (by omega) ?_))
    rw [wrap_in (n := (i : Int) + 1) (by omega) (by omega)]
    exact e
   ·refine ⟨mix, Ev.succ ?_⟩
    simp only [spec_l01Source.l0]
    exact Ev.no hc (last mix)
 obtain ⟨mix, e⟩ := key 64 0 (by omega) 88172645463325252
 exact ⟨mix, size, by unfold spec_l01Source.f; exact e, h0, h1⟩

theorem one_some (b : List Int) (at_ mix size : Int) (ha : 0 ≤ at_ ∧ at_ ≤ b.length) (hb : b.length ≤ 1048576) (most : Int) (h1 : 1 ≤ most) (h2 : most ≤ 9223372036854775807) : ∃ t at1 mix1, spec_l01Src_one.f b at_ mix size most = some (t, at1, mix1, size) ∧ 0 ≤ at1 ∧ at1 ≤ b.length := by
 obtain ⟨v, a1, m1, e, _, _, q⟩ := n_some b at_ mix size ha hb most h1 h2
 exact ⟨v == 0, a1, m1, by unfold spec_l01Src_one.f; rw [e]; rfl, q⟩
theorem rd_mem {L : List Int} {v : Int} (h0 : 0 ≤ v) (h1 : v < L.length) : rd L v ∈ L := by
 show L.getD v.toNat 0 ∈ L
 rw [List.getD_eq_getElem?_getD, List.getElem?_eq_getElem (show v.toNat < L.length by omega)]
 exact List.getElem_mem _
def in64 (a : Int) : Prop := -9223372036854775808 ≤ a ∧ a ≤ 9223372036854775807
theorem rd_in64 {L : List Int} (hL : ∀ x ∈ L, -9223372036854775808 ≤ x ∧ x ≤ 9223372036854775807) {v : Int} (h0 : 0 ≤ v) (h1 : v < L.length) : in64 (rd L v) := hL _ (rd_mem h0 h1)
theorem edge_some (b : List Int) (at_ mix size : Int) (ha : 0 ≤ at_ ∧ at_ ≤ b.length) (hb : b.length ≤ 1048576) : ∃ a at1 mix1, spec_l01Src_edge.f b at_ mix size = some (a, at1, mix1, size) ∧ in64 a ∧ 0 ≤ at1 ∧ at1 ≤ b.length := by
 obtain ⟨v, a1, m1, e, v0, v1, q⟩ := n_some b at_ mix size ha hb 14 (by omega) (by omega)
 unfold spec_l01Src_edge.f
 rw [e]
 simp only [Option.bind_some]
 rw [if_pos v0, if_pos (by simp; omega)]
 exact ⟨_, _, _, rfl, rd_in64 (by decide) v0 (by simp; omega), q⟩

theorem num_some (b : List Int) (at_ mix size : Int) (ha : 0 ≤ at_ ∧ at_ ≤ b.length) (hb : b.length ≤ 1048576) : ∃ a at1 mix1, spec_l01Src_l02Num.f b at_ mix size = some (a, at1, mix1, size) ∧ in64 a ∧ 0 ≤ at1 ∧ at1 ≤ b.length := by
 obtain ⟨v, a1, m1, e, v0, v1, q⟩ := n_some b at_ mix size ha hb 5 (by omega) (by omega)
 unfold spec_l01Src_l02Num.f
 rw [e]
 simp only [Option.bind_some]
 by_cases c0 : v = 0
 ·rw [if_pos c0]
  obtain ⟨x, a2, m2, e2, hx, q2⟩ := edge_some b a1 m1 size q hb
  rw [e2]
  exact ⟨x, a2, m2, rfl, hx, q2⟩
 rw [if_neg c0]
 by_cases c1 : v = 1
 ·rw [if_pos c1]
  obtain ⟨x, a2, m2, e2, x0, x1, q2⟩ := n_some b a1 m1 size q hb 9 (by omega) (by omega)
  rw [e2]
  exact ⟨_, a2, m2, rfl, ⟨wrap_lo _, wrap_hi _⟩, q2⟩
 rw [if_neg c1]
 by_cases c2 : v = 2
 ·rw [if_pos c2]
  obtain ⟨x, a2, m2, e2, x0, x1, q2⟩ := n_some b a1 m1 size q hb 10 (by omega) (by omega)
  rw [e2]
  simp only [Option.bind_some]
  rw [if_pos x0, if_pos (by simp; omega)]
  exact ⟨_, a2, m2, rfl, rd_in64 (by decide) x0 (by simp; omega), q2⟩
 rw [if_neg c2]
 obtain ⟨x, a2, m2, e2, x0, x1, q2⟩ := n_some b a1 m1 size q hb 1099511627776 (by omega) (by omega)
 rw [e2]
 exact ⟨_, a2, m2, rfl, ⟨wrap_lo _, wrap_hi _⟩, q2⟩

/-! bits of 64 -/
theorem i64w (n : Int) : IntKind.i64.wrap n = wrap64 n := by
 unfold wrap64
 simp [IntKind.wrap, IntKind.bits, IntKind.signed]
 split <;> omega
theorem toNat64 (x : Int) : (BitVec.ofInt 64 x).toNat = (x % 18446744073709551616).toNat := by rw [BitVec.toNat_ofInt]; rfl
theorem not64 (a : Int) (h0 : -9223372036854775808 ≤ a) (h1 : a ≤ 9223372036854775807) : Go.bits .xor .i64 (-1) a = -a - 1 := by
 show IntKind.i64.wrap ((BitVec.ofInt 64 (-1) ^^^ BitVec.ofInt 64 a).toNat : Int) = _
 have e : BitVec.ofInt 64 (-1) = BitVec.allOnes 64 := by decide +kernel
 rw [e, BitVec.allOnes_xor, BitVec.toNat_not, toNat64, i64w]
 unfold wrap64
 omega
theorem and0 (x : Int) (m : Int) (j : Nat) (hj : j ≤ 32) (hm : m = 2 ^ j - 1) (hx : x % 2 ^ j = 0) : Go.bits .and .i64 x m = 0 := by
 subst hm
 show IntKind.i64.wrap ((BitVec.ofInt 64 x &&& BitVec.ofInt 64 (2 ^ j - 1)).toNat : Int) = _
 have hp : (2 : Int) ^ j = ((2 ^ j : Nat) : Int) := by simp
 have hpos : 0 < 2 ^ j := Nat.two_pow_pos j
 have hlt : 2 ^ j ≤ 2 ^ 32 := Nat.pow_le_pow_right (by decide) hj
 have e2 : (BitVec.ofInt 64 (2 ^ j - 1)).toNat = 2 ^ j - 1 := by
  rw [toNat64, hp]
  omega
 have e1 : (BitVec.ofInt 64 x).toNat % 2 ^ j = 0 := by
  rw [toNat64]
  have hd : (2 : Int) ^ j ∣ x := Int.dvd_of_emod_eq_zero hx
  have h64 : (2 : Int) ^ j ∣ 18446744073709551616 := by
   have : (18446744073709551616 : Int) = 2 ^ 64 := by decide
   rw [this]
   exact ⟨2 ^ (64 - j), by rw [← Int.pow_add, show j + (64 - j) = 64 by omega]⟩
  have hm : (2 : Int) ^ j ∣ x % 18446744073709551616 := by
   rw [Int.emod_def]
   exact Int.dvd_sub hd (Int.dvd_trans h64 (Int.dvd_mul_right _ _))
  have hnn : 0 ≤ x % 18446744073709551616 := Int.emod_nonneg _ (by decide)
  obtain ⟨n, hn⟩ := Int.eq_ofNat_of_zero_le hnn
  rw [hn, Int.toNat_natCast]
  rw [hn, hp] at hm
  exact Nat.mod_eq_zero_of_dvd (Int.natCast_dvd_natCast.1 hm)
 rw [BitVec.toNat_and, e2, Nat.and_two_pow_sub_one_eq_mod, e1]
 rfl

theorem low_six (b : Int) : IntKind.u64.wrap (Go.bits .and .i64 b 63) = Int.tmod (IntKind.u64.wrap b) 64 := by
 have e : Go.bits .and .i64 b 63 = b % 64 := by
  have hx : (BitVec.ofInt 64 b &&& BitVec.ofInt 64 63).toNat = (b % 18446744073709551616).toNat % 64 := by
   rw [BitVec.toNat_and, BitVec.toNat_ofInt, BitVec.toNat_ofInt]
   exact Nat.and_two_pow_sub_one_eq_mod (b % 18446744073709551616).toNat 6
  show IntKind.i64.wrap ((BitVec.ofInt 64 b &&& BitVec.ofInt 64 63).toNat : Int) = b % 64
  rw [hx]
  have hm : (((b % 18446744073709551616).toNat % 64 : Nat) : Int) = b % 64 := by omega
  rw [hm]
  have hw : IntKind.i64.wrap (b % 64) = if b % 64 % 18446744073709551616 ≥ 9223372036854775808 then b % 64 % 18446744073709551616 - 18446744073709551616 else b % 64 % 18446744073709551616 := by
   simp [IntKind.wrap, IntKind.signed, IntKind.bits]
  rw [hw, if_neg (by omega)]
  omega
 have hu : ∀ x : Int, IntKind.u64.wrap x = x % 18446744073709551616 := fun x => by simp [IntKind.wrap, IntKind.signed, IntKind.bits]
 rw [e, hu, hu, Int.tmod_eq_emod_of_nonneg (by omega)]
 omega

theorem ite_somE {α : Type} {c : Prop} [Decidable c] {A B : Option α} (h1 : ∃ r, A = some r) (h2 : ∃ r, B = some r) : ∃ r, (if c then A else B) = some r := by
 by_cases h : c
 ·rw [if_pos h]; exact h1
 ·rw [if_neg h]; exact h2

theorem binary_some (op a b : Int) :
  ∃ r, impl_Binary.f 1 op a b = some r ∧ spec_Binary.f 1 op a b = some r := by
 unfold impl_Binary.f spec_Binary.f
 simp only [impl_Binary.j0, spec_Binary.j0, low_six b]
 have hk : 0 ≤ Int.tmod (IntKind.u64.wrap b) 64 := by
  have hu : IntKind.u64.wrap b = b % 18446744073709551616 := by simp [IntKind.wrap, IntKind.signed, IntKind.bits]
  rw [hu, Int.tmod_eq_emod_of_nonneg (by omega)]
  omega
 simp only [if_pos hk]
 by_cases e13 : op = 13
 ·subst e13
  simp only [show ((13 : Int) = 10) = False from by simp, show ((13 : Int) = 11) = False from by simp, show ((13 : Int) = 12) = False from by simp, if_false, if_true, beq_self_eq_true, spec_l02Over.f]
  by_cases hb : b = 0
  ·rw [if_pos hb, if_pos hb]
   exact ⟨_, rfl, rfl⟩
  ·rw [if_neg hb, if_neg hb]
   by_cases hm : b = -1
   ·subst hm
    rw [if_pos rfl]
    exact ⟨_, rfl, by simp [Int.tdiv_neg]⟩
   ·rw [if_neg hm]
    exact ⟨_, rfl, rfl⟩
 by_cases e14 : op = 14
 ·subst e14
  simp only [show ((14 : Int) = 10) = False from by simp, show ((14 : Int) = 11) = False from by simp, show ((14 : Int) = 12) = False from by simp, show ((14 : Int) = 13) = False from by simp, if_false, if_true, beq_self_eq_true, spec_l02Over.f]
  by_cases hb : b = 0
  ·rw [if_pos hb, if_pos hb]
   exact ⟨_, rfl, rfl⟩
  ·rw [if_neg hb, if_neg hb]
   by_cases hm : b = -1
   ·subst hm
    rw [if_pos rfl]
    exact ⟨_, rfl, by simp [Int.tmod_neg]⟩
   ·rw [if_neg hm]
    exact ⟨_, rfl, rfl⟩
 have f13 : (op == 13) = false := by simp [e13]
 have f14 : (op == 14) = false := by simp [e14]
 simp only [f13, f14, if_neg e13, Bool.false_eq_true, if_false]
 have hbit : ∀ c : Bool, ((impl_bit.f c).bind fun bt => some (bt.1, bt.2)) = (spec_l02If.f c).bind fun t => some (t, (0 : Int)) := by
  intro c
  cases c <;> rfl
 simp only [hbit]
 have hone : ∀ c : Bool, ∃ r, ((spec_l02If.f c).bind fun t => some (t, (0 : Int))) = some r := by
  intro c
  cases c <;> exact ⟨_, rfl⟩
 have key : ∀ X : Option (Int × Int), (∃ r, X = some r) → ∃ r, X = some r ∧ X = some r := fun X ⟨r, hr⟩ => ⟨r, hr, hr⟩
 refine key _ ?_
 repeat' (refine ite_somE ?_ ?_)
 all_goals first | exact ⟨_, rfl⟩ | exact hone _

theorem wrap_mod (x : Int) : ∃ t, wrap64 x = x + 18446744073709551616 * t := ⟨-((x + 9223372036854775808) / 18446744073709551616), by unfold wrap64; omega⟩
theorem wrap_eq {x a : Int} (h0 : -9223372036854775808 ≤ a) (h1 : a ≤ 9223372036854775807) (t : Int) (h : x = a + 18446744073709551616 * t) : wrap64 x = a := by unfold wrap64; omega
theorem ofInt_wrap (n : Int) : BitVec.ofInt 64 (wrap64 n) = BitVec.ofInt 64 n := by
 apply BitVec.eq_of_toNat_eq
 rw [toNat64, toNat64]
 unfold wrap64
 congr 1
 omega
theorem ofInt_nat (Z : BitVec 64) : BitVec.ofInt 64 (Z.toNat : Int) = Z := by
 apply BitVec.eq_of_toNat_eq
 rw [toNat64]
 have := Z.isLt
 omega
theorem xor_twice (a b : Int) (h0 : -9223372036854775808 ≤ a) (h1 : a ≤ 9223372036854775807) : Go.bits .xor .i64 (Go.bits .xor .i64 a b) b = a := by
 show IntKind.i64.wrap ((BitVec.ofInt 64 (IntKind.i64.wrap ((BitVec.ofInt 64 a ^^^ BitVec.ofInt 64 b).toNat : Int)) ^^^ BitVec.ofInt 64 b).toNat : Int) = a
 rw [i64w, i64w, ofInt_wrap, ofInt_nat, BitVec.xor_assoc, BitVec.xor_self, BitVec.xor_zero, toNat64]
 unfold wrap64
 omega
theorem div_back (a b : Int) (h0 : -9223372036854775808 ≤ a) (h1 : a ≤ 9223372036854775807) : wrap64 (wrap64 (wrap64 (Int.tdiv a b) * b) + Int.tmod a b) = a := by
 obtain ⟨t, ht⟩ := wrap_mod (Int.tdiv a b)
 obtain ⟨u, hu⟩ := wrap_mod (wrap64 (Int.tdiv a b) * b)
 refine wrap_eq h0 h1 (t * b + u) ?_
 rw [hu, ht]
 have e : b * Int.tdiv a b + Int.tmod a b = a := Int.mul_tdiv_add_tmod a b
 have e2 : (Int.tdiv a b + 18446744073709551616 * t) * b = b * Int.tdiv a b + 18446744073709551616 * (t * b) := by
  rw [Int.add_mul, Int.mul_comm (Int.tdiv a b) b, Int.mul_assoc]
 rw [e2, Int.mul_add]
 omega
theorem rem_sign (a b : Int) (h : ¬ Int.tmod a b = 0) : decide (Int.tmod a b > 0) = decide (a > 0) := by
 refine decide_eq_decide.2 ?_
 rcases Int.le_total 0 a with q | q
 ·have := Int.tmod_nonneg b q
  constructor
  ·intro h1
   rcases Int.lt_or_eq_of_le q with z | z
   ·exact z
   ·rw [← z] at h1; simp at h1
  ·intro _; omega
 ·have := Int.tmod_nonneg b (show 0 ≤ -a by omega)
  rw [Int.neg_tmod] at this
  omega
theorem low6 (b : Int) : Go.bits .and .i64 b 63 = b % 64 := by
 have hx : (BitVec.ofInt 64 b &&& BitVec.ofInt 64 63).toNat = (b % 18446744073709551616).toNat % 64 := by
  rw [BitVec.toNat_and, BitVec.toNat_ofInt, BitVec.toNat_ofInt]
  exact Nat.and_two_pow_sub_one_eq_mod (b % 18446744073709551616).toNat 6
 show IntKind.i64.wrap ((BitVec.ofInt 64 b &&& BitVec.ofInt 64 63).toNat : Int) = b % 64
 rw [hx, i64w]
 unfold wrap64
 omega
theorem u64e (x : Int) : IntKind.u64.wrap x = x % 18446744073709551616 := by simp [IntKind.wrap, IntKind.signed, IntKind.bits]
theorem shl_at (a : Int) (K : Nat) (hK : K ≤ 63) : shl .i64 a (K : Int) = wrap64 (a * 2 ^ K) := by
 have := shl_small (k := .i64) (x := a) (y := (K : Int)) rfl (by simp [IntKind.bits]; omega)
 rw [Int.toNat_natCast, i64w] at this
 exact this.symm
theorem shr_at (a : Int) (K : Nat) (hK : K ≤ 63) : shr .i64 a (K : Int) = a / 2 ^ K := by
 have := shr_small (k := .i64) (x := a) (y := (K : Int)) rfl (by simp [IntKind.bits]; omega)
 rw [Int.toNat_natCast] at this
 exact this.symm
theorem shift_back (a : Int) (K : Nat) (hK : K ≤ 63) (h0 : -9223372036854775808 ≤ a) (h1 : a ≤ 9223372036854775807) (hf : a / 2 ^ (63 - K) = a / 9223372036854775808) : shr .i64 (shl .i64 a (K : Int)) (K : Int) = a := by
 rw [shl_at a K hK, shr_at _ K hK]
 have hPQ : (2 : Int) ^ K * 2 ^ (63 - K) = 9223372036854775808 := by
  rw [← Int.pow_add, show K + (63 - K) = 63 by omega]; decide
 have hP : (0 : Int) < 2 ^ K := Int.pow_pos (by decide)
 have hQ : (0 : Int) < 2 ^ (63 - K) := Int.pow_pos (by decide)
 have hd := Int.mul_ediv_add_emod a (2 ^ (63 - K))
 have hm0 := Int.emod_nonneg a (Int.ne_of_gt hQ)
 have hm1 := Int.emod_lt_of_pos a hQ
 rw [hf] at hd
 have hb : -(2 ^ (63 - K)) ≤ a ∧ a < 2 ^ (63 - K) := by
  by_cases hn : a < 0
  ·rw [show a / 9223372036854775808 = -1 by omega, Int.mul_neg, Int.mul_one] at hd
   omega
  ·rw [show a / 9223372036854775808 = 0 by omega, Int.mul_zero] at hd
   omega
 have hlo : -(2 ^ (63 - K)) * 2 ^ K ≤ a * 2 ^ K := Int.mul_le_mul_of_nonneg_right hb.1 (Int.le_of_lt hP)
 have hhi : a * 2 ^ K < 2 ^ (63 - K) * 2 ^ K := Int.mul_lt_mul_of_pos_right hb.2 hP
 rw [Int.neg_mul, Int.mul_comm (2 ^ (63 - K)), hPQ] at hlo
 rw [Int.mul_comm (2 ^ (63 - K)), hPQ] at hhi
 rw [wrap_in (by omega) (by omega)]
 exact Int.mul_ediv_cancel a (Int.ne_of_gt hP)
theorem drawBinary_ev (l : List Int) (h : l.length ≤ 1048576) : ∃ op a b, Ev (fun k => spec_DrawBinary.f k l) (op, a, b) ∧ in64 a ∧ in64 b := by
 obtain ⟨mix, size, hs, _, _⟩ := source_ev l h
 obtain ⟨v, s1, s2, hn, _, _, hq⟩ := n_some l 0 mix size ⟨by omega, by omega⟩ h 14 (by omega) (by omega)
 obtain ⟨t, s3, s4, ho, hq2⟩ := one_some l s1 s2 size hq h 20 (by omega) (by omega)
 have rest : ∀ (op at1 mix1 : Int), (0 ≤ at1 ∧ at1 ≤ l.length) → ∃ a b, Ev (fun k => spec_DrawBinary.j0 k op l at1 mix1 size) (op, a, b) ∧ in64 a ∧ in64 b := by
  intro op at1 mix1 q
  obtain ⟨a, t1, t2, ha, hia, q1⟩ := num_some l at1 mix1 size q h
  obtain ⟨b, t3, t4, hb, hib, q2⟩ := num_some l t1 t2 size q1 h
  obtain ⟨c, t5, t6, hc, q3⟩ := one_some l t3 t4 size q2 h 3 (by omega) (by omega)
  cases c with
  | true =>
   obtain ⟨v2, t7, t8, hn2, _, _, _⟩ := n_some l t5 t6 size q3 h 70 (by omega) (by omega)
   refine ⟨a, wrap64 (v2 - 3), Ev.succ ?_, hia, ⟨wrap_lo _, wrap_hi _⟩⟩
   simp only [spec_DrawBinary.j0]
   exact Ev.flat ha (Ev.flat hb (Ev.flat hc (Ev.yes rfl (Ev.flat hn2 (Ev.now _)))))
  | false =>
   refine ⟨a, b, Ev.succ ?_, hia, hib⟩
   simp only [spec_DrawBinary.j0]
   exact Ev.flat ha (Ev.flat hb (Ev.flat hc (Ev.no (by simp) (Ev.now _))))
 unfold spec_DrawBinary.f
 cases t with
 | true =>
  obtain ⟨v2, s5, s6, hn2, _, _, hq3⟩ := n_some l s3 s4 size hq2 h 45 (by omega) (by omega)
  obtain ⟨a, b, e, i1, i2⟩ := rest (wrap64 (v2 - 2)) s5 s6 hq3
  exact ⟨_, a, b, Ev.bind hs (Ev.flat hn (Ev.flat ho (Ev.yes rfl (Ev.flat hn2 e)))), i1, i2⟩
 | false =>
  obtain ⟨a, b, e, i1, i2⟩ := rest (wrap64 (10 + v)) s3 s4 hq2
  exact ⟨_, a, b, Ev.bind hs (Ev.flat hn (Ev.flat ho (Ev.no (by simp) e))), i1, i2⟩
theorem bEv {op a b : Int} {r : Int × Int} (h : impl_Binary.f 1 op a b = some r) : Ev (fun k => impl_Binary.f k op a b) r := Ev.of (fun k => impl_Binary.mono _ _ _ k) h
theorem sEv {op a b : Int} {r : Int × Int} (h : spec_Binary.f 1 op a b = some r) : Ev (fun k => spec_Binary.f k op a b) r := Ev.of (fun k => spec_Binary.mono _ _ _ k) h
theorem b10 (a b : Int) : impl_Binary.f 1 10 a b = some (wrap64 (a + b), 0) := rfl
theorem b11 (a b : Int) : impl_Binary.f 1 11 a b = some (wrap64 (a - b), 0) := rfl
theorem b13 (a b : Int) (h : ¬ b = 0) : impl_Binary.f 1 13 a b = some (wrap64 (Int.tdiv a b), 0) := by simp [impl_Binary.f, impl_Binary.j0, h]
theorem b14 (a b : Int) (h : ¬ b = 0) : impl_Binary.f 1 14 a b = some (Int.tmod a b, 0) := by simp [impl_Binary.f, impl_Binary.j0, h]
theorem b13z (a : Int) : impl_Binary.f 1 13 a 0 = some (0, 11) := by simp [impl_Binary.f, impl_Binary.j0]
theorem b14z (a : Int) : impl_Binary.f 1 14 a 0 = some (0, 11) := by simp [impl_Binary.f, impl_Binary.j0]
theorem b17 (a b : Int) : impl_Binary.f 1 17 a b = some (Go.bits .xor .i64 a b, 0) := by simp [impl_Binary.f, impl_Binary.j0]
theorem b18 (a b : Int) : impl_Binary.f 1 18 a b = some (shl .i64 a (b % 64), 0) := by
 have e : IntKind.u64.wrap (Go.bits .and .i64 b 63) = b % 64 := by rw [low6, u64e]; omega
 simp only [impl_Binary.f, impl_Binary.j0, e]
 simp [show 0 ≤ b % 64 by omega]
theorem b19 (a b : Int) : impl_Binary.f 1 19 a b = some (shr .i64 a (b % 64), 0) := by
 have e : IntKind.u64.wrap (Go.bits .and .i64 b 63) = b % 64 := by rw [low6, u64e]; omega
 simp only [impl_Binary.f, impl_Binary.j0, e]
 simp [show 0 ≤ b % 64 by omega]
theorem b21 (a b : Int) : impl_Binary.f 1 21 a b = some (if a < b then 1 else 0, 0) := by
 by_cases h : a < b <;> simp [impl_Binary.f, impl_Binary.j0, impl_bit.f, h]
theorem b22 (a b : Int) : impl_Binary.f 1 22 a b = some (if a ≤ b then 1 else 0, 0) := by
 by_cases h : a ≤ b <;> simp [impl_Binary.f, impl_Binary.j0, impl_bit.f, h]
theorem b23 (a b : Int) : impl_Binary.f 1 23 a b = some (if a = b then 1 else 0, 0) := by
 by_cases h : a = b <;> simp [impl_Binary.f, impl_Binary.j0, impl_bit.f, h]
theorem fits_at (a : Int) (K : Nat) (hK : K ≤ 63) : impl_Fits.f a (64 - (K : Int)) = some ((a / 2 ^ (63 - K)) == (a / 9223372036854775808)) := by
 unfold impl_Fits.f impl_in.f
 have e : IntKind.u64.wrap (wrap64 (64 - (K : Int) - 1)) = ((63 - K : Nat) : Int) := by
  rw [u64e, wrap_in (by omega) (by omega)]; omega
 rw [if_pos (by omega)]
 simp only [Option.bind_some]
 rw [if_pos (by simp; omega), e, if_pos (by omega), shr_at a (63 - K) (by omega)]
theorem FnArith : laws_FnArith.Pure := by
 intro l0 hl _ hw
 refine Ev.rounds ?_
 unfold laws_FnArith.f
 by_cases hb : (l0.length : Int) > 1048576
 ·exact Ev.yes hb (Ev.now _)
 refine Ev.no hb ?_
 obtain ⟨op, a, b, hd, ⟨ha0, ha1⟩, hb0, hb1⟩ := drawBinary_ev l0 (by omega)
 obtain ⟨r, hr1, hr2⟩ := binary_some op a b
 have j2 : Ev (fun k => laws_FnArith.j2 k a b false) true := by
  refine Ev.succ ?_
  simp only [laws_FnArith.j2]
  refine Ev.no (by simp) (Ev.bind (bEv (b21 a b)) (Ev.bind (bEv (b22 a b)) (Ev.bind (bEv (b23 a b)) ?_)))
  have m : (if a ≤ b then (1 : Int) else 0) = wrap64 ((if a < b then (1 : Int) else 0) + (if a = b then 1 else 0)) ∧ wrap64 ((if a < b then (1 : Int) else 0) * (if a = b then 1 else 0)) = 0 ∧ (if b < a then (1 : Int) else 0) = wrap64 (1 - (if a ≤ b then 1 else 0)) := by
   rcases Int.lt_trichotomy a b with q | q | q
   ·rw [if_pos (by omega), if_pos q, if_neg (by omega), if_neg (by omega)]; decide +kernel
   ·rw [if_pos (by omega), if_neg (by omega), if_pos q, if_neg (by omega)]; decide +kernel
   ·rw [if_neg (by omega), if_neg (by omega), if_neg (by omega), if_pos q]; decide +kernel
  refine Ev.yes m.1 (Ev.yes m.2.1 (Ev.bind (bEv (b21 b a)) ?_))
  rw [show ((if b < a then (1 : Int) else 0) == wrap64 (1 - (if a ≤ b then 1 else 0))) = true by rw [← m.2.2]; simp]
  exact Ev.now _
 have j1 : Ev (fun k => laws_FnArith.j1 k a b false) true := by
  refine Ev.succ ?_
  simp only [laws_FnArith.j1]
  obtain ⟨K, hK⟩ := Int.eq_ofNat_of_zero_le (show 0 ≤ b % 64 by omega)
  have hK2 : K ≤ 63 := by omega
  have hf : impl_Fits.f a (wrap64 (64 - Go.bits .and .i64 b 63)) = some ((a / 2 ^ (63 - K)) == (a / 9223372036854775808)) := by
   rw [low6, hK, wrap_in (by omega) (by omega)]
   exact fits_at a K hK2
  refine Ev.no (by simp) (Ev.bind (bEv (b18 a b)) (Ev.flat hf (Ev.cases (fun q => ?_) (fun _ => j2))))
  refine Ev.bind (bEv (b19 _ b)) ?_
  have e : shr .i64 (shl .i64 a (b % 64)) (b % 64) = a := by
   rw [hK]
   exact shift_back a K hK2 ha0 ha1 (by simpa using q)
  rw [show (shr .i64 (shl .i64 a (b % 64)) (b % 64) != a) = false by rw [e]; simp]
  exact j2
 have j0 : Ev (fun k => laws_FnArith.j0 k a b false) true := by
  refine Ev.succ ?_
  simp only [laws_FnArith.j0]
  by_cases hz : b = 0
  ·subst hz
   refine Ev.no (by simp) (Ev.bind (bEv (b13z a)) (Ev.bind (bEv (b14z a)) (Ev.yes rfl (Ev.yes (by simp) ?_))))
   exact Ev.now _
  ·refine Ev.no (by simp) (Ev.bind (bEv (b13 a b hz)) (Ev.bind (bEv (b14 a b hz)) (Ev.no hz (Ev.yes rfl (Ev.yes rfl (Ev.yes (div_back a b ha0 ha1) (Ev.cases (fun _ => j1) (fun q => ?_))))))))
   rw [rem_sign a b q, show (decide (a > 0) != decide (a > 0)) = false by simp]
   exact j1
 refine Ev.bind hd (Ev.bind (bEv hr1) (Ev.bind (sEv hr2) (Ev.no (by simp) (Ev.bind (bEv (b11 a b)) (Ev.bind (bEv (b10 _ b)) (Ev.yes ?_ (Ev.bind (bEv (b17 a b)) (Ev.bind (bEv (b17 _ b)) ?_))))))))
 ·show wrap64 (wrap64 (a - b) + b) = a
  unfold wrap64; omega
 ·rw [show (Go.bits .xor .i64 (Go.bits .xor .i64 a b) b != a) = false by rw [xor_twice a b ha0 ha1]; simp]
  exact j0

end Go.Proofs.Ytkmohnlkldkhdaa.Pure
