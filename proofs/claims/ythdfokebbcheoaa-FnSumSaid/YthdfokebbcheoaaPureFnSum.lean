/- FnSum: a drawn text of which one byte is another one has another sum; the sum of the empty text is 7. No condition. -/
import Derived.Test.YthdfokebbcheoaaQFnSumx
namespace Go.Proofs.Ythdfokebbcheoaa.Pure
open Go.RowKit Go.Proofs.Ythdfokebbcheoaa.QFnSum Go.Proofs.YthdfokebbcheoaaW.PrintWords Go.Proofs.YthdfokebbcheoaaW.PrintLast
set_option linter.unusedVariables false
set_option linter.unusedSimpArgs false
theorem Ev.succ {α : Type} {g : Nat → Option α} {r : α} (h : Ev (fun k => g (k + 1)) r) : Ev g r := Ev.step (fun _ => rfl) h
theorem Ev.yes {α : Type} {c : Prop} [Decidable c] {g f : Nat → Option α} {r : α} (hc : c) (h : Ev g r) : Ev (fun k => if c then g k else f k) r := Ev.congr (fun _ => if_pos hc) h
theorem Ev.no {α : Type} {c : Prop} [Decidable c] {g f : Nat → Option α} {r : α} (hc : ¬ c) (h : Ev f r) : Ev (fun k => if c then g k else f k) r := Ev.congr (fun _ => if_neg hc) h
theorem Ev.cases {α : Type} {c : Prop} [Decidable c] {g f : Nat → Option α} {r : α} (h1 : c → Ev g r) (h2 : ¬ c → Ev f r) : Ev (fun k => if c then g k else f k) r := by
 by_cases hc : c
 ·exact Ev.yes hc (h1 hc)
 ·exact Ev.no hc (h2 hc)
theorem Ev.flat {α β : Type} {g : Option α} {f : Nat → α → Option β} {a : α} {r : β} (h : g = some a) (k : Ev (fun n => f n a) r) : Ev (fun n => g.bind (f n)) r := Ev.bind (g := fun _ => g) ⟨0, fun _ _ => h⟩ k
theorem wrap_in {n : Int} (h0 : -9223372036854775808 ≤ n) (h1 : n ≤ 9223372036854775807) : wrap64 n = n := by unfold wrap64; omega
theorem u64_lo (x : Int) : 0 ≤ IntKind.u64.wrap x := by show 0 ≤ x % _; exact Int.emod_nonneg _ (by decide)
theorem u64_in {x : Int} (h0 : 0 ≤ x) (h1 : x < 18446744073709551616) : IntKind.u64.wrap x = x := Int.emod_eq_of_lt h0 h1
theorem drawn_v {X most : Int} (hX : 0 ≤ X) (h0 : 1 < most) (h1 : most ≤ 9223372036854775807) : ∃ v, wrap64 (Int.tmod X (IntKind.u64.wrap most)) = v ∧ 0 ≤ v ∧ v < most := by
 rw [u64_in (x := most) (by omega) (by omega)]
 have a := Int.tmod_nonneg most hX
 have b := Int.tmod_lt_of_pos X (show 0 < most by omega)
 exact ⟨_, wrap_in (by omega) (by omega), a, b⟩
theorem n_some (b : List Int) (at_ mix size : Int) (ha : 0 ≤ at_ ∧ at_ ≤ b.length) (hb : b.length ≤ 1048576) (most : Int) (h1 : 1 ≤ most) (h2 : most ≤ 9223372036854775807) : ∃ v at1 mix1, spec_l01Src_n.f b at_ mix size most = some (v, at1, mix1, size) ∧ 0 ≤ v ∧ v < most ∧ 0 ≤ at1 ∧ at1 ≤ b.length := by
 unfold spec_l01Src_n.f
 by_cases hm : most ≤ 1
 ·rw [if_pos hm]; exact ⟨0, _, _, rfl, by omega, by omega, ha.1, ha.2⟩
 rw [if_neg hm]
 have hne : ¬ IntKind.u64.wrap most = 0 := by rw [u64_in (by omega) (by omega)]; omega
 by_cases hc : at_ < (b.length : Int)
 ·rw [if_pos hc, if_pos ha.1, if_neg hne]
  obtain ⟨v, e, p, q⟩ := drawn_v (X := IntKind.u64.wrap _) (u64_lo _) (show 1 < most by omega) h2
  refine ⟨v, _, _, by rw [e], p, q, ?_, ?_⟩ <;> rw [wrap_in (by omega) (by omega)] <;> omega
 ·rw [if_neg hc, if_neg hne]
  obtain ⟨v, e, p, q⟩ := drawn_v (X := IntKind.u64.wrap _) (u64_lo _) (show 1 < most by omega) h2
  exact ⟨v, _, _, by rw [e], p, q, ha.1, ha.2⟩
theorem source_ev (l : List Int) (h : l.length ≤ 1048576) : ∃ mix size, Ev (fun k => spec_l01Source.f k l) (l, 0, mix, size) ∧ 0 ≤ size ∧ size ≤ 12 := by
 have fin : ∃ size, (if wrap64 ((l.length : Int) / 20) > 12 then 12 else wrap64 ((l.length : Int) / 20)) = size ∧ 0 ≤ size ∧ size ≤ 12 := by
  have : wrap64 ((l.length : Int) / 20) = (l.length : Int) / 20 := wrap_in (by omega) (by omega)
  rw [this]
  by_cases q : (l.length : Int) / 20 > 12
  ·rw [if_pos q]; exact ⟨12, rfl, by omega, by omega⟩
  ·rw [if_neg q]; exact ⟨_, rfl, by omega, by omega⟩
 obtain ⟨size, he, h0, h1⟩ := fin
 have last : ∀ mix : Int, Ev (fun _ => if wrap64 ((l.length : Int) / 20) > 12 then some (l, (0 : Int), mix, (12 : Int)) else some (l, 0, mix, wrap64 ((l.length : Int) / 20))) (l, 0, mix, size) := by
  intro mix
  by_cases q : wrap64 ((l.length : Int) / 20) > 12
  ·rw [if_pos q] at he; subst he; exact Ev.yes q (Ev.now _)
  ·rw [if_neg q] at he; subst he; exact Ev.no q (Ev.now _)
 have key : ∀ (d i : Nat), i + d = 64 → ∀ mix : Int, ∃ mix', Ev (fun k => spec_l01Source.l0 k l (i : Int) l 0 mix 0) (l, 0, mix', size) := by
  intro d
  induction d with
  | zero =>
   intro i hi mix
   refine ⟨mix, Ev.succ ?_⟩
   simp only [spec_l01Source.l0]
   by_cases hc : (i : Int) < (l.length : Int)
   ·exact Ev.yes hc (Ev.no (by omega) (last mix))
   ·exact Ev.no hc (last mix)
  | succ d ih =>
   intro i hi mix
   by_cases hc : (i : Int) < (l.length : Int)
   ·obtain ⟨m', e⟩ := ih (i + 1) (by omega) (IntKind.u64.wrap ((Go.bits .xor .u64 mix (IntKind.u64.wrap (rd l i))) * 1099511628211))
    refine ⟨m', Ev.succ ?_⟩
    simp only [spec_l01Source.l0]
    refine Ev.yes hc (Ev.yes (by omega) (Ev.yes (by omega) ?_))
    rw [wrap_in (n := (i : Int) + 1) (by omega) (by omega)]
    exact e
   ·refine ⟨mix, Ev.succ ?_⟩
    simp only [spec_l01Source.l0]
    exact Ev.no hc (last mix)
 obtain ⟨mix, e⟩ := key 64 0 (by omega) 88172645463325252
 exact ⟨mix, size, by unfold spec_l01Source.f; exact e, h0, h1⟩
def sumF (s : Int) : List Int → Int
 | [] => s
 | c :: l => sumF ((257 * s + c) % 4294967291) l
theorem sumF_append (s : Int) (a b : List Int) : sumF s (a ++ b) = sumF (sumF s a) b := by
 induction a generalizing s with
 | nil => rfl
 | cons c a ih => exact ih _
theorem sumF_in (l : List Int) (s : Int) (h : 0 ≤ s ∧ s < 4294967291) : 0 ≤ sumF s l ∧ sumF s l < 4294967291 := by
 induction l generalizing s with
 | nil => exact h
 | cons c l ih => exact ih _ ⟨Int.emod_nonneg _ (by decide), Int.emod_lt_of_pos _ (by decide)⟩
theorem step_inj {s t c : Int} (hs : 0 ≤ s ∧ s < 4294967291) (ht : 0 ≤ t ∧ t < 4294967291) (h : (257 * s + c) % 4294967291 = (257 * t + c) % 4294967291) : s = t := by
 have e1 := Int.mul_ediv_add_emod (257 * s + c) 4294967291
 have e2 := Int.mul_ediv_add_emod (257 * t + c) 4294967291
 generalize (257 * s + c) / 4294967291 = q1 at e1
 generalize (257 * t + c) / 4294967291 = q2 at e2
 omega
theorem step_ne {s a b : Int} (ha : 0 ≤ a ∧ a < 256) (hb : 0 ≤ b ∧ b < 256) (hne : a ≠ b) : (257 * s + a) % 4294967291 ≠ (257 * s + b) % 4294967291 := by
 omega
theorem sumF_ne (l : List Int) {s t : Int} (hs : 0 ≤ s ∧ s < 4294967291) (ht : 0 ≤ t ∧ t < 4294967291) (h : s ≠ t) : sumF s l ≠ sumF t l := by
 induction l generalizing s t with
 | nil => exact h
 | cons c l ih => exact ih ⟨Int.emod_nonneg _ (by decide), Int.emod_lt_of_pos _ (by decide)⟩ ⟨Int.emod_nonneg _ (by decide), Int.emod_lt_of_pos _ (by decide)⟩ (fun e => h (step_inj hs ht e))
theorem bytesOf_range (t : ByteArray) : ∀ x ∈ bytesOf t, 0 ≤ x ∧ x < 256 := by
 intro x hx
 unfold bytesOf at hx
 obtain ⟨b, _, rfl⟩ := List.mem_map.1 hx
 have := b.toNat_lt
 omega
theorem bt_bytes (t : ByteArray) (i : Nat) (h : i < (bytesOf t).length) : bt t (i : Int) = (bytesOf t)[i] := by
 have hs : i < t.size := by rw [bytesOf_length] at h; exact h
 have hi : (i : Int).toNat = i := Int.toNat_natCast i
 have e1 : bt t (i : Int) = ((t[i]'hs).toNat : Int) := by
  unfold bt
  simp only [hi]
  rw [dif_pos hs]
 have e2 : (bytesOf t)[i] = (((t.data.toList)[i]'(by simpa using hs)).toNat : Int) := by simp [bytesOf]
 rw [e1, e2]
 rfl
theorem implSum_l (t : ByteArray) (ht : t.size ≤ 20000) : ∀ (d i : Nat) (s : Int), i + d = t.size → 0 ≤ s ∧ s < 4294967291 → Ev (fun k => impl_sum.l0 k t s (t.size : Int) (i : Int)) (sumF s ((bytesOf t).drop i)) := by
 have hl := bytesOf_length t
 intro d
 induction d with
 | zero =>
  intro i s h hs
  rw [List.drop_eq_nil_iff.2 (by omega)]
  refine Ev.succ ?_
  simp only [impl_sum.l0]
  exact Ev.no (by omega) (Ev.now _)
 | succ d ih =>
  intro i s h hs
  have hi : i < (bytesOf t).length := by omega
  rw [List.drop_eq_getElem_cons hi]
  refine Ev.succ ?_
  simp only [impl_sum.l0]
  refine Ev.yes (by omega) (Ev.yes (by omega) (Ev.yes (by omega) ?_))
  have hb := bytesOf_range t _ (List.getElem_mem hi)
  rw [bt_bytes t i hi, wrap_in (n := (bytesOf t)[i]) (by omega) (by omega), wrap_in (n := 257 * s) (by omega) (by omega), wrap_in (n := 257 * s + (bytesOf t)[i]) (by omega) (by omega), wrap_in (n := (i : Int) + 1) (by omega) (by omega), Int.tmod_eq_emod_of_nonneg (by omega)]
  exact ih (i + 1) _ (by omega) ⟨Int.emod_nonneg _ (by decide), Int.emod_lt_of_pos _ (by decide)⟩
theorem specSum_l (t : ByteArray) (ht : t.size ≤ 20000) : ∀ (d i : Nat) (s : Int), i + d = t.size → 0 ≤ s ∧ s < 4294967291 → Ev (fun k => spec_Sum.l0 k t s (i : Int)) (sumF s ((bytesOf t).drop i)) := by
 have hl := bytesOf_length t
 intro d
 induction d with
 | zero =>
  intro i s h hs
  rw [List.drop_eq_nil_iff.2 (by omega)]
  refine Ev.succ ?_
  simp only [spec_Sum.l0]
  exact Ev.no (by omega) (Ev.now _)
 | succ d ih =>
  intro i s h hs
  have hi : i < (bytesOf t).length := by omega
  rw [List.drop_eq_getElem_cons hi]
  refine Ev.succ ?_
  simp only [spec_Sum.l0]
  refine Ev.yes (by omega) (Ev.yes (by omega) ?_)
  have hb := bytesOf_range t _ (List.getElem_mem hi)
  rw [bt_bytes t i hi, wrap_in (n := (bytesOf t)[i]) (by omega) (by omega), wrap_in (n := 257 * s) (by omega) (by omega), wrap_in (n := 257 * s + (bytesOf t)[i]) (by omega) (by omega), wrap_in (n := (i : Int) + 1) (by omega) (by omega), Int.tmod_eq_emod_of_nonneg (by omega)]
  exact ih (i + 1) _ (by omega) ⟨Int.emod_nonneg _ (by decide), Int.emod_lt_of_pos _ (by decide)⟩
theorem implSum_ev (t : ByteArray) (ht : t.size ≤ 20000) : Ev (fun k => impl_Sum.f k t) (sumF 7 (bytesOf t)) := by
 unfold impl_Sum.f impl_sum.f
 exact Ev.no (by omega) (Ev.bind (implSum_l t ht t.size 0 7 (by omega) (by decide)) (Ev.now _))
theorem specSum_ev (t : ByteArray) (ht : t.size ≤ 20000) : Ev (fun k => spec_Sum.f k t) (sumF 7 (bytesOf t)) := by
 unfold spec_Sum.f
 exact Ev.no (by omega) (specSum_l t ht t.size 0 7 (by omega) (by decide))
theorem bytes_l (b : List Int) (hb : b.length ≤ 1048576) (n : Int) (hn : n ≤ 1000) : ∀ (d : Nat) (i : Int) (acc : List Int) (at_ mix size : Int), i + d = n → 0 ≤ i → acc.length + d ≤ 1000 → 0 ≤ at_ ∧ at_ ≤ b.length →
  ∃ t a1 m1 s1, Ev (fun k => spec_l01Src_bytes.l0 k n acc i b at_ mix size) (t, a1, m1, s1) ∧ t.size ≤ acc.length + d := by
 intro d
 induction d with
 | zero =>
  intro i acc at_ mix size h1 h2 h3 h4
  refine ⟨strOfNums acc, at_, mix, size, Ev.succ ?_, by rw [strOfNums_size]; omega⟩
  simp only [spec_l01Src_bytes.l0]
  exact Ev.no (by omega) (Ev.now _)
 | succ d ih =>
  intro i acc at_ mix size h1 h2 h3 h4
  obtain ⟨v, at1, mix1, e, _, _, p, q⟩ := n_some b at_ mix size h4 hb 256 (by decide) (by decide)
  obtain ⟨t, a1, m1, s1, e2, e3⟩ := ih (i + 1) (acc ++ [v % 256]) at1 mix1 size (by omega) (by omega) (by simp; omega) ⟨p, q⟩
  refine ⟨t, a1, m1, s1, Ev.succ ?_, by simp at e3; omega⟩
  simp only [spec_l01Src_bytes.l0]
  refine Ev.yes (by omega) (Ev.flat e (Ev.yes (by omega) ?_))
  rw [wrap_in (n := i + 1) (by omega) (by omega)]
  exact e2
theorem draw_ev (l : List Int) (h : l.length ≤ 1048576) : ∃ t, Ev (fun k => spec_DrawSum.f k l) t ∧ t.size ≤ 60 := by
 obtain ⟨mix, size, e1, _⟩ := source_ev l h
 obtain ⟨v, at1, mix1, e2, p0, p1, p2, p3⟩ := n_some l 0 mix size ⟨by omega, by omega⟩ h 60 (by decide) (by decide)
 obtain ⟨t, a1, m1, s1, e3, e4⟩ := bytes_l l h v (by omega) v.toNat 0 [] at1 mix1 size (by omega) (by omega) (by simp; omega) ⟨p2, p3⟩
 refine ⟨t, ?_, by simp at e4; omega⟩
 unfold spec_DrawSum.f spec_l01Src_bytes.f
 exact Ev.bind e1 (Ev.flat e2 (Ev.bind e3 (Ev.now _)))
theorem lwAt_some (l : List Int) (hl : ∀ x ∈ l, 0 ≤ x ∧ x < 256) (h : l.length ≤ 1048576) (i n : Int) (hi : 0 ≤ i ∧ i ≤ 1) (hn : 1 ≤ n) (hn2 : n ≤ 1000) : ∃ v, laws_lwAt.f l i n = some v ∧ 0 ≤ v ∧ v < n := by
 unfold laws_lwAt.f
 by_cases h1 : n ≤ 1
 ·rw [if_pos h1]; exact ⟨0, rfl, by omega, by omega⟩
 rw [if_neg h1]
 by_cases h2 : (l.length : Int) = 0
 ·rw [if_pos h2]; exact ⟨0, rfl, by omega, by omega⟩
 rw [if_neg h2, Int.tmod_eq_emod_of_nonneg hi.1]
 have a := Int.emod_nonneg i h2
 have b := Int.emod_lt_of_pos i (show 0 < (l.length : Int) by omega)
 rw [if_pos a, if_pos b, if_neg (by omega)]
 have hr : rd l (i % (l.length : Int)) = l[(i % (l.length : Int)).toNat]'(by omega) := by
  have hlt : (i % (l.length : Int)).toNat < l.length := by omega
  simp [rd, List.getD_eq_getElem?_getD, List.getElem?_eq_getElem hlt]
 have hx := hl (rd l (i % (l.length : Int))) (by rw [hr]; exact List.getElem_mem _)
 refine ⟨_, rfl, ?_⟩
 rw [wrap_in (by omega) (by omega), Int.tmod_eq_emod_of_nonneg (by omega)]
 exact ⟨Int.emod_nonneg _ (by omega), Int.emod_lt_of_pos _ (by omega)⟩
theorem bytes_nums (l : List Int) (h : ∀ x ∈ l, 0 ≤ x ∧ x < 256) : bytesOf (strOfNums l) = l := by
 unfold bytesOf
 rw [strOfNums_data, List.map_map]
 conv => rhs; rw [← List.map_id l]
 refine List.map_congr_left (fun x hx => ?_)
 have := h x hx
 simp only [Function.comp, id, UInt8.toNat_ofNat']
 omega
theorem sum_other (B : List Int) (hB : ∀ x ∈ B, 0 ≤ x ∧ x < 256) (k : Nat) (hk : k < B.length) (b : Int) (hb : 0 ≤ b ∧ b < 256) (hne : b ≠ B[k]) : sumF 7 (B.set k b) ≠ sumF 7 B := by
 have e1 : B.set k b = B.take k ++ b :: B.drop (k + 1) := List.set_eq_take_append_cons_drop.trans (by rw [if_pos hk])
 have e2 : B = B.take k ++ B[k] :: B.drop (k + 1) := by rw [← List.drop_eq_getElem_cons hk, List.take_append_drop]
 have hs := sumF_in (B.take k) 7 (by decide)
 rw [e1]
 conv => rhs; rw [e2]
 rw [sumF_append, sumF_append]
 exact sumF_ne _ ⟨Int.emod_nonneg _ (by decide), Int.emod_lt_of_pos _ (by decide)⟩ ⟨Int.emod_nonneg _ (by decide), Int.emod_lt_of_pos _ (by decide)⟩ (step_ne hb (hB _ (List.getElem_mem hk)) hne)
theorem wf8 {n : Int} (h : (Lit.int .u8 n).wf = true) : 0 ≤ n ∧ n < 256 := by
 simp only [Lit.wf, IntKind.min, IntKind.max, IntKind.signed, IntKind.bits, Bool.and_eq_true, decide_eq_true_eq] at h
 simp at h
 omega
theorem FnSum : laws_FnSum.Pure := by
 intro l m hl1 hl2 hw hm1 hm2 hv
 refine Ev.rounds ?_
 unfold laws_FnSum.f
 have jt : Ev (fun k => laws_FnSum.j0 k l m true) true := by
  refine Ev.succ ?_
  simp only [laws_FnSum.j0]
  exact Ev.yes (by simp) (Ev.now _)
 refine Ev.cases (fun _ => jt) (fun hL => ?_)
 by_cases hM : (m.length : Int) > 1048576
 ·rw [decide_eq_true hM]; exact jt
 rw [decide_eq_false hM]
 obtain ⟨t, e1, e2⟩ := draw_ev l (by omega)
 have hbl := bytesOf_length t
 refine Ev.succ ?_
 simp only [laws_FnSum.j0]
 refine Ev.no (by simp) (Ev.bind e1 (Ev.bind (implSum_ev t (by omega)) (Ev.bind (specSum_ev t (by omega)) (Ev.yes rfl ?_))))
 refine Ev.cases (fun h0 => ?_) (fun h0 => ?_)
 ·have : bytesOf t = [] := by
   have hz : t.toList = [] := h0
   have : t.size = 0 := by
    have hs : t.toList.length = t.size := by rw [ByteArray.toList_eq]; simp
    rw [hz] at hs; exact hs.symm
   exact List.eq_nil_of_length_eq_zero (by omega)
  rw [this]
  exact Ev.now _
 ·have hpos : 1 ≤ t.size := by
   rcases Nat.eq_zero_or_pos t.size with h | h
   ·exfalso
    apply h0
    have hs : t.toList.length = t.size := by rw [ByteArray.toList_eq]; simp
    exact List.eq_nil_of_length_eq_zero (by omega)
   ·exact h
  refine Ev.yes (by omega) ?_
  simp only [Option.bind_some]
  have hm : ∀ x ∈ m, 0 ≤ x ∧ x < 256 := fun x hx => wf8 (hv x hx)
  obtain ⟨k, k1, k2, k3⟩ := lwAt_some m hm (by omega) 0 ((bytesOf t).length : Int) (by omega) (by omega) (by omega)
  obtain ⟨c, c1, c2, c3⟩ := lwAt_some m hm (by omega) 1 255 (by omega) (by omega) (by omega)
  refine Ev.flat k1 (Ev.yes k2 (Ev.yes k3 (Ev.flat c1 ?_)))
  obtain ⟨j, rfl⟩ : ∃ j : Nat, k = (j : Int) := ⟨k.toNat, by omega⟩
  have hj : j < (bytesOf t).length := by omega
  have hr : rd (bytesOf t) (j : Int) = (bytesOf t)[j] := by simp [rd, List.getD_eq_getElem?_getD, List.getElem?_eq_getElem hj]
  have hx := bytesOf_range t _ (List.getElem_mem hj)
  rw [hr, wrap_in (n := 1 + c) (by omega) (by omega), Int.toNat_natCast]
  generalize hz : ((bytesOf t)[j] + (1 + c) % 256) % 256 = z
  have hz2 : 0 ≤ z ∧ z < 256 := by omega
  have hne : z ≠ (bytesOf t)[j] := by omega
  have hset : ∀ x ∈ (bytesOf t).set j z, 0 ≤ x ∧ x < 256 := by
   intro x hx
   rcases List.mem_or_eq_of_mem_set hx with h | h
   ·exact bytesOf_range t x h
   ·rw [h]; exact hz2
  refine Ev.bind (implSum_ev _ (by rw [strOfNums_size, List.length_set]; omega)) ?_
  rw [bytes_nums _ hset]
  have := sum_other (bytesOf t) (bytesOf_range t) j hj z hz2 hne
  rw [show (sumF 7 ((bytesOf t).set j z) != sumF 7 (bytesOf t)) = true from bne_iff_ne.2 this]
  exact Ev.now _
end Go.Proofs.Ythdfokebbcheoaa.Pure
