/- FnConv: a drawn number made narrow fits, is itself if it did, and stays as it is when made narrow once more; turned and one more it is its opposite. No condition. -/
import Derived.Test.YtkmohnlkldkhdaaQFnConvx4
namespace Go.Proofs.Ytkmohnlkldkhdaa.Pure
open Go.RowKit Go.Proofs.Ytkmohnlkldkhdaa.QFnConv Go.Proofs.YtkmohnlkldkhdaaW.PrintWords Go.Proofs.YtkmohnlkldkhdaaW.PrintLast
set_option linter.unusedVariables false
set_option linter.unusedSimpArgs false

/-! plain words: rounds, wraps, lists -/
theorem Ev.succ {α : Type} {g : Nat → Option α} {r : α} (h : Ev (fun k => g (k + 1)) r) : Ev g r := Ev.step (fun _ => rfl) h
theorem Ev.yes {α : Type} {c : Prop} [Decidable c] {g f : Nat → Option α} {r : α} (hc : c) (h : Ev g r) : Ev (fun k => if c then g k else f k) r := Ev.congr (fun _ => if_pos hc) h
theorem Ev.no {α : Type} {c : Prop} [Decidable c] {g f : Nat → Option α} {r : α} (hc : ¬ c) (h : Ev f r) : Ev (fun k => if c then g k else f k) r := Ev.congr (fun _ => if_neg hc) h
theorem Ev.cases {α : Type} {c : Prop} [Decidable c] {g f : Nat → Option α} {r : α} (h1 : c → Ev g r) (h2 : ¬ c → Ev f r) : Ev (fun k => if c then g k else f k) r := by
 by_cases hc : c
 ·exact Ev.yes hc (h1 hc)
 ·exact Ev.no hc (h2 hc)
/-- A call that needs no rounds. -/
theorem Ev.flat {α β : Type} {g : Option α} {f : Nat → α → Option β} {a : α} {r : β} (h : g = some a) (k : Ev (fun n => f n a) r) : Ev (fun n => g.bind (f n)) r := Ev.bind (g := fun _ => g) ⟨0, fun _ _ => h⟩ k
theorem wrap_in {n : Int} (h0 : -9223372036854775808 ≤ n) (h1 : n ≤ 9223372036854775807) : wrap64 n = n := by unfold wrap64; omega
theorem wrap_lo (n : Int) : -9223372036854775808 ≤ wrap64 n := by unfold wrap64; omega
theorem wrap_hi (n : Int) : wrap64 n ≤ 9223372036854775807 := by unfold wrap64; omega
theorem wf64 {n : Int} (h : (Lit.int .i64 n).wf = true) : -9223372036854775808 ≤ n ∧ n ≤ 9223372036854775807 := by
 simp only [Lit.wf, IntKind.min, IntKind.max, IntKind.signed, IntKind.bits, Bool.and_eq_true, decide_eq_true_eq, if_true] at h
 omega
theorem drop_at {α : Type} (x : List α) (z : α) (i : Nat) (h : i < x.length) : x.drop i = x.getD i z :: x.drop (i + 1) := by
 rw [List.drop_eq_getElem_cons h, List.getD_eq_getElem?_getD, List.getElem?_eq_getElem h]; rfl
/-- Two lists, place by place. -/
def sameL {α : Type} (s : α → α → Bool) : List α → List α → Bool
 | [], [] => true
 | a :: x, b :: y => s a b && sameL s x y
 | _, _ => false
theorem sameL_refl {α : Type} {s : α → α → Bool} (hs : ∀ a, s a a = true) : ∀ x : List α, sameL s x x = true
 | [] => rfl
 | a :: x => by simp [sameL, hs a, sameL_refl hs x]
theorem sameL_len {α : Type} {s : α → α → Bool} : ∀ x y : List α, x.length ≠ y.length → sameL s x y = false
 | [], [], h => absurd rfl h
 | [], _ :: _, _ => rfl
 | _ :: _, [], _ => rfl
 | a :: x, b :: y, h => by simp [sameL, sameL_len x y (fun e => h (by simp [e]))]
theorem nand {a b : Bool} (h : (a && b) = false) : (!a || !b) = true := by cases a <;> cases b <;> simp_all
theorem beq_no {a b : Int} (h : ¬ a = b) : (a == b) = false := beq_eq_false_iff_ne.2 h
theorem Ev.uniq {α : Type} {g : Nat → Option α} {r r' : α} (h : Ev g r) (h' : Ev g r') : r = r' := by
 obtain ⟨a, ha⟩ := h
 obtain ⟨b, hb⟩ := h'
 have h1 := ha (max a b) (Nat.le_max_left _ _)
 rw [hb (max a b) (Nat.le_max_right _ _)] at h1
 exact (Option.some.inj h1).symm

/-! numbers that are drawn -/
theorem u64_lo (x : Int) : 0 ≤ IntKind.u64.wrap x := by show 0 ≤ x % _; exact Int.emod_nonneg _ (by decide)
theorem u64_in {x : Int} (h0 : 0 ≤ x) (h1 : x < 18446744073709551616) : IntKind.u64.wrap x = x := Int.emod_eq_of_lt h0 h1
theorem drawn_v {X most : Int} (hX : 0 ≤ X) (h0 : 1 < most) (h1 : most ≤ 9223372036854775807) : ∃ v, wrap64 (Int.tmod X (IntKind.u64.wrap most)) = v ∧ 0 ≤ v ∧ v < most := by
 rw [u64_in (x := most) (by omega) (by omega)]
 have a := Int.tmod_nonneg most hX
 have b := Int.tmod_lt_of_pos X (show 0 < most by omega)
 exact ⟨_, wrap_in (by omega) (by omega), a, b⟩
theorem n_some (b : List Int) (at_ mix size : Int) (ha : 0 ≤ at_ ∧ at_ ≤ b.length) (hb : b.length ≤ 1048576) (most : Int) (h1 : 1 ≤ most) (h2 : most ≤ 9223372036854775807) : ∃ v at1 mix1, spec_l01Src_n.f b at_ mix size most = some (v, at1, mix1, size) ∧ 0 ≤ v ∧ v < most ∧ 0 ≤ at1 ∧ at1 ≤ b.length := by
 unfold spec_l01Src_n.f
 by_cases hm : most ≤ 1
 ·rw [if_pos hm]; exact ⟨0, _, _, rfl, by omega, by omega, ha.1, ha.2⟩
 rw [if_neg hm]
 have hne : ¬ IntKind.u64.wrap most = 0 := by rw [u64_in (by omega) (by omega)]; omega
 by_cases hc : at_ < (b.length : Int)
 ·rw [if_pos hc, if_pos ha.1, if_neg hne]
  obtain ⟨v, e, p, q⟩ := drawn_v (X := IntKind.u64.wrap _) (u64_lo _) (show 1 < most by omega) h2
  refine ⟨v, _, _, by rw [e], p, q, ?_, ?_⟩ <;> rw [wrap_in (by omega) (by omega)] <;> omega
 ·rw [if_neg hc, if_neg hne]
  obtain ⟨v, e, p, q⟩ := drawn_v (X := IntKind.u64.wrap _) (u64_lo _) (show 1 < most by omega) h2
  exact ⟨v, _, _, by rw [e], p, q, ha.1, ha.2⟩
theorem source_ev (l : List Int) (h : l.length ≤ 1048576) : ∃ mix size, Ev (fun k => spec_l01Source.f k l) (l, 0, mix, size) ∧ 0 ≤ size ∧ size ≤ 12 := by
 have fin : ∃ size, (if wrap64 ((l.length : Int) / 20) > 12 then 12 else wrap64 ((l.length : Int) / 20)) = size ∧ 0 ≤ size ∧ size ≤ 12 := by
  have : wrap64 ((l.length : Int) / 20) = (l.length : Int) / 20 := wrap_in (by omega) (by omega)
  rw [this]
  by_cases q : (l.length : Int) / 20 > 12
  ·rw [if_pos q]; exact ⟨12, rfl, by omega, by omega⟩
  ·rw [if_neg q]; exact ⟨_, rfl, by omega, by omega⟩
 obtain ⟨size, he, h0, h1⟩ := fin
 have last : ∀ mix : Int, Ev (fun _ => if wrap64 ((l.length : Int) / 20) > 12 then some (l, (0 : Int), mix, (12 : Int)) else some (l, 0, mix, wrap64 ((l.length : Int) / 20))) (l, 0, mix, size) := by
  intro mix
  by_cases q : wrap64 ((l.length : Int) / 20) > 12
  ·rw [if_pos q] at he; subst he; exact Ev.yes q (Ev.now _)
  ·rw [if_neg q] at he; subst he; exact Ev.no q (Ev.now _)
 have key : ∀ (d i : Nat), i + d = 64 → ∀ mix : Int, ∃ mix', Ev (fun k => spec_l01Source.l0 k l (i : Int) l 0 mix 0) (l, 0, mix', size) := by
  intro d
  induction d with
  | zero =>
   intro i hi mix
   refine ⟨mix, Ev.succ ?_⟩
   simp only [spec_l01Source.l0]
   by_cases hc : (i : Int) < (l.length : Int)
   ·exact Ev.yes hc (Ev.no (by omega) (last mix))
   ·exact Ev.no hc (last mix)
  | succ d ih =>
   intro i hi mix
   by_cases hc : (i : Int) < (l.length : Int)
   ·obtain ⟨m', e⟩ := ih (i + 1) (by omega) (IntKind.u64.wrap ((Go.bits .xor .u64 mix (IntKind.u64.wrap (rd l i))) * 1099511628211))
    refine ⟨m', Ev.succ ?_⟩
    simp only [spec_l01Source.l0]
    refine Ev.yes hc (Ev.yes (by omega) (Ev.yes (by omega) ?_))
    rw [wrap_in (n := (i : Int) + 1) (by omega) (by omega)]
    exact e
   ·refine ⟨mix, Ev.succ ?_⟩
    simp only [spec_l01Source.l0]
    exact Ev.no hc (last mix)
 obtain ⟨mix, e⟩ := key 64 0 (by omega) 88172645463325252
 exact ⟨mix, size, by unfold spec_l01Source.f; exact e, h0, h1⟩

theorem one_some (b : List Int) (at_ mix size : Int) (ha : 0 ≤ at_ ∧ at_ ≤ b.length) (hb : b.length ≤ 1048576) (most : Int) (h1 : 1 ≤ most) (h2 : most ≤ 9223372036854775807) : ∃ t at1 mix1, spec_l01Src_one.f b at_ mix size most = some (t, at1, mix1, size) ∧ 0 ≤ at1 ∧ at1 ≤ b.length := by
 obtain ⟨v, a1, m1, e, _, _, q⟩ := n_some b at_ mix size ha hb most h1 h2
 exact ⟨v == 0, a1, m1, by unfold spec_l01Src_one.f; rw [e]; rfl, q⟩
theorem rd_mem {L : List Int} {v : Int} (h0 : 0 ≤ v) (h1 : v < L.length) : rd L v ∈ L := by
 show L.getD v.toNat 0 ∈ L
 rw [List.getD_eq_getElem?_getD, List.getElem?_eq_getElem (show v.toNat < L.length by omega)]
 exact List.getElem_mem _
def in64 (a : Int) : Prop := -9223372036854775808 ≤ a ∧ a ≤ 9223372036854775807
theorem rd_in64 {L : List Int} (hL : ∀ x ∈ L, -9223372036854775808 ≤ x ∧ x ≤ 9223372036854775807) {v : Int} (h0 : 0 ≤ v) (h1 : v < L.length) : in64 (rd L v) := hL _ (rd_mem h0 h1)
theorem edge_some (b : List Int) (at_ mix size : Int) (ha : 0 ≤ at_ ∧ at_ ≤ b.length) (hb : b.length ≤ 1048576) : ∃ a at1 mix1, spec_l01Src_edge.f b at_ mix size = some (a, at1, mix1, size) ∧ in64 a ∧ 0 ≤ at1 ∧ at1 ≤ b.length := by
 obtain ⟨v, a1, m1, e, v0, v1, q⟩ := n_some b at_ mix size ha hb 14 (by omega) (by omega)
 unfold spec_l01Src_edge.f
 rw [e]
 simp only [Option.bind_some]
 rw [if_pos v0, if_pos (by simp; omega)]
 exact ⟨_, _, _, rfl, rd_in64 (by decide) v0 (by simp; omega), q⟩

theorem num_some (b : List Int) (at_ mix size : Int) (ha : 0 ≤ at_ ∧ at_ ≤ b.length) (hb : b.length ≤ 1048576) : ∃ a at1 mix1, spec_l01Src_l02Num.f b at_ mix size = some (a, at1, mix1, size) ∧ in64 a ∧ 0 ≤ at1 ∧ at1 ≤ b.length := by
 obtain ⟨v, a1, m1, e, v0, v1, q⟩ := n_some b at_ mix size ha hb 5 (by omega) (by omega)
 unfold spec_l01Src_l02Num.f
 rw [e]
 simp only [Option.bind_some]
 by_cases c0 : v = 0
 ·rw [if_pos c0]
  obtain ⟨x, a2, m2, e2, hx, q2⟩ := edge_some b a1 m1 size q hb
  rw [e2]
  exact ⟨x, a2, m2, rfl, hx, q2⟩
 rw [if_neg c0]
 by_cases c1 : v = 1
 ·rw [if_pos c1]
  obtain ⟨x, a2, m2, e2, x0, x1, q2⟩ := n_some b a1 m1 size q hb 9 (by omega) (by omega)
  rw [e2]
  exact ⟨_, a2, m2, rfl, ⟨wrap_lo _, wrap_hi _⟩, q2⟩
 rw [if_neg c1]
 by_cases c2 : v = 2
 ·rw [if_pos c2]
  obtain ⟨x, a2, m2, e2, x0, x1, q2⟩ := n_some b a1 m1 size q hb 10 (by omega) (by omega)
  rw [e2]
  simp only [Option.bind_some]
  rw [if_pos x0, if_pos (by simp; omega)]
  exact ⟨_, a2, m2, rfl, rd_in64 (by decide) x0 (by simp; omega), q2⟩
 rw [if_neg c2]
 obtain ⟨x, a2, m2, e2, x0, x1, q2⟩ := n_some b a1 m1 size q hb 1099511627776 (by omega) (by omega)
 rw [e2]
 exact ⟨_, a2, m2, rfl, ⟨wrap_lo _, wrap_hi _⟩, q2⟩

/-! bits of 64 -/
theorem i64w (n : Int) : IntKind.i64.wrap n = wrap64 n := by
 unfold wrap64
 simp [IntKind.wrap, IntKind.bits, IntKind.signed]
 split <;> omega
theorem toNat64 (x : Int) : (BitVec.ofInt 64 x).toNat = (x % 18446744073709551616).toNat := by rw [BitVec.toNat_ofInt]; rfl
theorem not64 (a : Int) (h0 : -9223372036854775808 ≤ a) (h1 : a ≤ 9223372036854775807) : Go.bits .xor .i64 (-1) a = -a - 1 := by
 show IntKind.i64.wrap ((BitVec.ofInt 64 (-1) ^^^ BitVec.ofInt 64 a).toNat : Int) = _
 have e : BitVec.ofInt 64 (-1) = BitVec.allOnes 64 := by decide +kernel
 rw [e, BitVec.allOnes_xor, BitVec.toNat_not, toNat64, i64w]
 unfold wrap64
 omega
theorem and0 (x : Int) (m : Int) (j : Nat) (hj : j ≤ 32) (hm : m = 2 ^ j - 1) (hx : x % 2 ^ j = 0) : Go.bits .and .i64 x m = 0 := by
 subst hm
 show IntKind.i64.wrap ((BitVec.ofInt 64 x &&& BitVec.ofInt 64 (2 ^ j - 1)).toNat : Int) = _
 have hp : (2 : Int) ^ j = ((2 ^ j : Nat) : Int) := by simp
 have hpos : 0 < 2 ^ j := Nat.two_pow_pos j
 have hlt : 2 ^ j ≤ 2 ^ 32 := Nat.pow_le_pow_right (by decide) hj
 have e2 : (BitVec.ofInt 64 (2 ^ j - 1)).toNat = 2 ^ j - 1 := by
  rw [toNat64, hp]
  omega
 have e1 : (BitVec.ofInt 64 x).toNat % 2 ^ j = 0 := by
  rw [toNat64]
  have hd : (2 : Int) ^ j ∣ x := Int.dvd_of_emod_eq_zero hx
  have h64 : (2 : Int) ^ j ∣ 18446744073709551616 := by
   have : (18446744073709551616 : Int) = 2 ^ 64 := by decide
   rw [this]
   exact ⟨2 ^ (64 - j), by rw [← Int.pow_add, show j + (64 - j) = 64 by omega]⟩
  have hm : (2 : Int) ^ j ∣ x % 18446744073709551616 := by
   rw [Int.emod_def]
   exact Int.dvd_sub hd (Int.dvd_trans h64 (Int.dvd_mul_right _ _))
  have hnn : 0 ≤ x % 18446744073709551616 := Int.emod_nonneg _ (by decide)
  obtain ⟨n, hn⟩ := Int.eq_ofNat_of_zero_le hnn
  rw [hn, Int.toNat_natCast]
  rw [hn, hp] at hm
  exact Nat.mod_eq_zero_of_dvd (Int.natCast_dvd_natCast.1 hm)
 rw [BitVec.toNat_and, e2, Nat.and_two_pow_sub_one_eq_mod, e1]
 rfl

theorem i8w (n : Int) : IntKind.i8.wrap n = (n + 128) % 256 - 128 := by
 simp [IntKind.wrap, IntKind.bits, IntKind.signed]
 split <;> omega
theorem i16w (n : Int) : IntKind.i16.wrap n = (n + 32768) % 65536 - 32768 := by
 simp [IntKind.wrap, IntKind.bits, IntKind.signed]
 split <;> omega
theorem fits8 (n : Int) : impl_Fits.f n 8 = some ((n / 128) == (n / 9223372036854775808)) := by kernel_rfl
theorem fits16 (n : Int) : impl_Fits.f n 16 = some ((n / 32768) == (n / 9223372036854775808)) := by kernel_rfl
theorem fits32 (n : Int) : impl_Fits.f n 32 = some ((n / 2147483648) == (n / 9223372036854775808)) := by kernel_rfl
theorem unary_same (op a : Int) : ∃ r, impl_Unary.f op a = some r ∧ spec_Unary.f op a = some r := by
 have e : spec_Unary.f op a = impl_Unary.f op a := rfl
 rw [e]
 have : (impl_Unary.f op a).isSome = true := by
  unfold impl_Unary.f
  repeat' split
  all_goals rfl
 exact ⟨_, (Option.some_get this).symm, (Option.some_get this).symm⟩
theorem drawUnary_ev (l : List Int) (h : l.length ≤ 1048576) : ∃ op a, Ev (fun k => spec_DrawUnary.f k l) (op, a) ∧ in64 a := by
 obtain ⟨mix, size, hs, _, _⟩ := source_ev l h
 obtain ⟨v, s1, s2, hn, _, _, hq⟩ := n_some l 0 mix size ⟨by omega, by omega⟩ h 6 (by omega) (by omega)
 obtain ⟨t, s3, s4, ho, hq2⟩ := one_some l s1 s2 size hq h 20 (by omega) (by omega)
 unfold spec_DrawUnary.f
 cases t with
 | true =>
  obtain ⟨v2, s5, s6, hn2, _, _, hq3⟩ := n_some l s3 s4 size hq2 h 45 (by omega) (by omega)
  obtain ⟨a, s7, s8, ha, hi, _⟩ := num_some l s5 s6 size hq3 h
  exact ⟨_, a, Ev.bind hs (Ev.flat hn (Ev.flat ho (Ev.yes rfl (Ev.flat hn2 (Ev.flat ha (Ev.now _)))))), hi⟩
 | false =>
  obtain ⟨a, s7, s8, ha, hi, _⟩ := num_some l s3 s4 size hq2 h
  exact ⟨_, a, Ev.bind hs (Ev.flat hn (Ev.flat ho (Ev.no (by simp) (Ev.flat ha (Ev.now _))))), hi⟩
theorem u26 (a : Int) : impl_Unary.f (wrap64 (26 + 0)) a = some (wrap64 (IntKind.i8.wrap a), 0) := by kernel_rfl
theorem u27 (a : Int) : impl_Unary.f (wrap64 (26 + 1)) a = some (wrap64 (IntKind.i16.wrap a), 0) := by kernel_rfl
theorem u28 (a : Int) : impl_Unary.f (wrap64 (26 + 2)) a = some (wrap64 (wrap32 a), 0) := by kernel_rfl
theorem wrap64_mod (x : Int) (m : Int) (hm : m = 256 ∨ m = 65536 ∨ m = 4294967296) (h : x % m = 0) : wrap64 x % m = 0 := by
 unfold wrap64
 rcases hm with rfl | rfl | rfl <;> omega
theorem bne_eq {b : Bool} {p q : Int} (h : b = (p == q)) : ¬ (b != (p == q)) = true := by rw [h]; simp
theorem FnConv : laws_FnConv.Pure := by
 intro l0 hl _ hw
 refine Ev.rounds ?_
 unfold laws_FnConv.f
 by_cases hb : (l0.length : Int) > 1048576
 ·exact Ev.yes hb (Ev.now _)
 refine Ev.no hb ?_
 obtain ⟨op, a, hd, ha0, ha1⟩ := drawUnary_ev l0 (by omega)
 obtain ⟨r, hr1, hr2⟩ := unary_same op a
 refine Ev.bind hd (Ev.flat hr1 (Ev.flat hr2 (Ev.no (by simp) ?_)))
 have last : Ev (fun k => laws_FnConv.l0 k a [8, 16, 32] 3) true := by
  refine Ev.succ ?_
  simp only [laws_FnConv.l0]
  have e29 : impl_Unary.f 29 a = some (a % 4294967296, 0) := by kernel_rfl
  have e25 : impl_Unary.f 25 a = some (Go.bits .xor .i64 (-1) a, 0) := rfl
  have e24 : impl_Unary.f 24 a = some (wrap64 (-a), 0) := rfl
  refine Ev.no (by omega) (Ev.flat e29 (Ev.yes (by show a % 4294967296 ≥ 0; omega) (Ev.yes (by show a % 4294967296 < 4294967296; omega) (Ev.yes ?_ (Ev.flat e25 (Ev.flat e24 ?_))))))
  ·exact and0 _ _ 32 (by decide) (by decide +kernel) (wrap64_mod _ _ (by simp) (by show (a - a % 4294967296) % 4294967296 = 0; omega))
  ·rw [show (wrap64 (Go.bits .xor .i64 (-1) a + 1) == wrap64 (-a)) = true by rw [not64 a ha0 ha1, show -a - 1 + 1 = -a by omega]; simp]
   exact Ev.now _
 have round : ∀ (i : Nat) (n m bits : Int), i < 3 → impl_Unary.f (wrap64 (26 + (i : Int))) a = some (n, 0) → rd [8, 16, 32] (i : Int) = bits → (∃ t, impl_Fits.f n bits = some t ∧ t = true) → (∃ t, impl_Fits.f a bits = some t ∧ t = (n == a)) → (impl_Unary.f (wrap64 (26 + (i : Int))) n = some (n, 0)) → 0 ≤ IntKind.u64.wrap bits → Go.bits .and .i64 (wrap64 (a - n)) (wrap64 ((shl .i64 1 (IntKind.u64.wrap bits)) - 1)) = 0 → Ev (fun k => laws_FnConv.l0 k a [8, 16, 32] ((i + 1 : Nat) : Int)) true → Ev (fun k => laws_FnConv.l0 k a [8, 16, 32] (i : Int)) true := by
  intro i n m bits hi h1 h2 h3 h4 h5 h6 h7 h8
  obtain ⟨t3, e3, rfl⟩ := h3
  obtain ⟨t4, e4, q4⟩ := h4
  refine Ev.succ ?_
  simp only [laws_FnConv.l0, h2]
  refine Ev.yes (by omega) (Ev.flat h1 (Ev.yes (by omega) (Ev.yes (by simp; omega) (Ev.flat e3 (Ev.yes rfl (Ev.flat e4 (Ev.no (bne_eq q4) (Ev.flat h5 (Ev.yes rfl (Ev.yes h6 (Ev.yes h7 ?_)))))))))))
  rw [wrap_in (by omega) (by omega)]
  exact h8
 have beq (p q : Int) : (p == q) = decide (p = q) := by by_cases h : p = q <;> simp [h]
 refine round 0 _ 256 8 (by omega) (u26 a) rfl ?_ ?_ ?_ (by decide) ?_ (round 1 _ 65536 16 (by omega) (u27 a) rfl ?_ ?_ ?_ (by decide) ?_ (round 2 _ 4294967296 32 (by omega) (u28 a) rfl ?_ ?_ ?_ (by decide) ?_ last))
 ·refine ⟨_, fits8 _, ?_⟩
  rw [beq, i8w]; simp only [decide_eq_true_eq]; unfold wrap64; omega
 ·refine ⟨_, fits8 _, ?_⟩
  rw [beq, beq, i8w]; unfold wrap64
  exact decide_eq_decide.2 (by omega)
 ·refine (u26 _).trans ?_
  rw [i8w, i8w]; unfold wrap64
  exact congrArg some (Prod.ext (by simp only; omega) rfl)
 ·refine and0 _ _ 8 (by decide) (by decide +kernel) (wrap64_mod _ _ (by simp) ?_)
  rw [i8w]; unfold wrap64; omega
 ·refine ⟨_, fits16 _, ?_⟩
  rw [beq, i16w]; simp only [decide_eq_true_eq]; unfold wrap64; omega
 ·refine ⟨_, fits16 _, ?_⟩
  rw [beq, beq, i16w]; unfold wrap64
  exact decide_eq_decide.2 (by omega)
 ·refine (u27 _).trans ?_
  rw [i16w, i16w]; unfold wrap64
  exact congrArg some (Prod.ext (by simp only; omega) rfl)
 ·refine and0 _ _ 16 (by decide) (by decide +kernel) (wrap64_mod _ _ (by simp) ?_)
  rw [i16w]; unfold wrap64; omega
 ·refine ⟨_, fits32 _, ?_⟩
  rw [beq]; simp only [decide_eq_true_eq]; unfold wrap64 wrap32; omega
 ·refine ⟨_, fits32 _, ?_⟩
  rw [beq, beq]; unfold wrap64 wrap32
  exact decide_eq_decide.2 (by omega)
 ·refine (u28 _).trans ?_
  unfold wrap64 wrap32
  exact congrArg some (Prod.ext (by simp only; omega) rfl)
 ·refine and0 _ _ 32 (by decide) (by decide +kernel) (wrap64_mod _ _ (by simp) ?_)
  unfold wrap64 wrap32; omega

end Go.Proofs.Ytkmohnlkldkhdaa.Pure
