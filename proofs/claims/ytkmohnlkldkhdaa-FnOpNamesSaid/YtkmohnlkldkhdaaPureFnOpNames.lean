/- FnOpNames: each op has a name that no other op has. No condition. -/
import Derived.Test.YtkmohnlkldkhdaaQFnOpNamesx3
namespace Go.Proofs.Ytkmohnlkldkhdaa.Pure
open Go.RowKit Go.Proofs.Ytkmohnlkldkhdaa.QFnOpNames Go.Proofs.YtkmohnlkldkhdaaW.PrintWords Go.Proofs.YtkmohnlkldkhdaaW.PrintLast
set_option linter.unusedVariables false
set_option linter.unusedSimpArgs false

/-! plain words: rounds, wraps, lists -/
theorem Ev.succ {α : Type} {g : Nat → Option α} {r : α} (h : Ev (fun k => g (k + 1)) r) : Ev g r := Ev.step (fun _ => rfl) h
theorem Ev.yes {α : Type} {c : Prop} [Decidable c] {g f : Nat → Option α} {r : α} (hc : c) (h : Ev g r) : Ev (fun k => if c then g k else f k) r := Ev.congr (fun _ => if_pos hc) h
theorem Ev.no {α : Type} {c : Prop} [Decidable c] {g f : Nat → Option α} {r : α} (hc : ¬ c) (h : Ev f r) : Ev (fun k => if c then g k else f k) r := Ev.congr (fun _ => if_neg hc) h
theorem Ev.cases {α : Type} {c : Prop} [Decidable c] {g f : Nat → Option α} {r : α} (h1 : c → Ev g r) (h2 : ¬ c → Ev f r) : Ev (fun k => if c then g k else f k) r := by
 by_cases hc : c
 ·exact Ev.yes hc (h1 hc)
 ·exact Ev.no hc (h2 hc)
/-- A call that needs no rounds. -/
theorem Ev.flat {α β : Type} {g : Option α} {f : Nat → α → Option β} {a : α} {r : β} (h : g = some a) (k : Ev (fun n => f n a) r) : Ev (fun n => g.bind (f n)) r := Ev.bind (g := fun _ => g) ⟨0, fun _ _ => h⟩ k
theorem wrap_in {n : Int} (h0 : -9223372036854775808 ≤ n) (h1 : n ≤ 9223372036854775807) : wrap64 n = n := by unfold wrap64; omega
theorem wrap_lo (n : Int) : -9223372036854775808 ≤ wrap64 n := by unfold wrap64; omega
theorem wrap_hi (n : Int) : wrap64 n ≤ 9223372036854775807 := by unfold wrap64; omega
theorem wf64 {n : Int} (h : (Lit.int .i64 n).wf = true) : -9223372036854775808 ≤ n ∧ n ≤ 9223372036854775807 := by
 simp only [Lit.wf, IntKind.min, IntKind.max, IntKind.signed, IntKind.bits, Bool.and_eq_true, decide_eq_true_eq, if_true] at h
 omega
theorem drop_at {α : Type} (x : List α) (z : α) (i : Nat) (h : i < x.length) : x.drop i = x.getD i z :: x.drop (i + 1) := by
 rw [List.drop_eq_getElem_cons h, List.getD_eq_getElem?_getD, List.getElem?_eq_getElem h]; rfl
/-- Two lists, place by place. -/
def sameL {α : Type} (s : α → α → Bool) : List α → List α → Bool
 | [], [] => true
 | a :: x, b :: y => s a b && sameL s x y
 | _, _ => false
theorem sameL_refl {α : Type} {s : α → α → Bool} (hs : ∀ a, s a a = true) : ∀ x : List α, sameL s x x = true
 | [] => rfl
 | a :: x => by simp [sameL, hs a, sameL_refl hs x]
theorem sameL_len {α : Type} {s : α → α → Bool} : ∀ x y : List α, x.length ≠ y.length → sameL s x y = false
 | [], [], h => absurd rfl h
 | [], _ :: _, _ => rfl
 | _ :: _, [], _ => rfl
 | a :: x, b :: y, h => by simp [sameL, sameL_len x y (fun e => h (by simp [e]))]
theorem nand {a b : Bool} (h : (a && b) = false) : (!a || !b) = true := by cases a <;> cases b <;> simp_all
theorem beq_no {a b : Int} (h : ¬ a = b) : (a == b) = false := beq_eq_false_iff_ne.2 h
theorem Ev.uniq {α : Type} {g : Nat → Option α} {r r' : α} (h : Ev g r) (h' : Ev g r') : r = r' := by
 obtain ⟨a, ha⟩ := h
 obtain ⟨b, hb⟩ := h'
 have h1 := ha (max a b) (Nat.le_max_left _ _)
 rw [hb (max a b) (Nat.le_max_right _ _)] at h1
 exact (Option.some.inj h1).symm

/-! ops' names -/
def namedB (op : Int) : Bool := (decide (1 ≤ op) && decide (op ≤ 5)) || (decide (10 ≤ op) && decide (op ≤ 38))
def nameV (op : Int) : ByteArray := (impl_OpName.f op).getD ⟨#[]⟩
theorem names_small : ∀ n : Nat, n < 39 → impl_OpName.f (n : Int) = some (nameV (n : Int)) ∧ spec_OpName.f 1 (n : Int) = some (nameV (n : Int)) ∧ (((nameV (n : Int)).toList = []) ↔ namedB (n : Int) = false) := by
 decide +kernel
theorem name_all (op : Int) : impl_OpName.f op = some (nameV op) ∧ spec_OpName.f 1 op = some (nameV op) ∧ (((nameV op).toList = []) ↔ namedB op = false) := by
 by_cases hr : 0 ≤ op ∧ op ≤ 38
 ·obtain ⟨n, rfl⟩ := Int.eq_ofNat_of_zero_le hr.1
  exact names_small n (by omega)
 ·have h1 : impl_OpName.f op = some ⟨#[]⟩ := by
   unfold impl_OpName.f impl_in.f
   by_cases hc : op ≥ 0
   ·rw [if_pos hc]
    have : decide (op ≤ 38) = false := by simp; omega
    simp [this]
   ·rw [if_neg hc]
    simp
  have hv : nameV op = ⟨#[]⟩ := by unfold nameV; rw [h1]; rfl
  rw [hv]
  refine ⟨h1, ?_, ?_⟩
  ·unfold spec_OpName.f
   simp only [Option.bind_some]
   by_cases hc : op ≥ 1
   ·rw [if_pos hc]
    have : decide (op ≤ 5) = false := by simp; omega
    simp only [this, spec_OpName.j0]
    by_cases hd : op ≥ 10
    ·rw [if_neg (by simp), if_pos hd, if_neg (by omega)]
    ·rw [if_neg (by simp), if_neg hd]
   ·rw [if_neg hc]
    simp only [spec_OpName.j0]
    rw [if_neg (by simp), if_neg (by omega)]
  ·have : namedB op = false := by
    unfold namedB
    simp
    omega
   simp [this]
theorem implName_some (op : Int) : impl_OpName.f op = some (nameV op) := (name_all op).1
theorem specName_ev (op : Int) : Ev (fun k => spec_OpName.f k op) (nameV op) := Ev.of (fun k => spec_OpName.mono _ k) (name_all op).2.1
theorem name_none (op : Int) : (nameV op).toList = [] ↔ namedB op = false := (name_all op).2.2

/-! loops that go through a list -/
theorem idx_next {i n : Nat} (h : i < n) (hn : n ≤ 1048576) : wrap64 ((i : Int) + 1) = ((i + 1 : Nat) : Int) := by rw [wrap_in (by omega) (by omega)]; simp
theorem to_loop {α β ρ : Type} {l0 : Nat → List α → List β → Int → Option (List β)} {rdA : List α → Int → α} {E : Nat → α → Option ρ} {mk : ρ → β} {conv : α → β} {zA : α} {zB : β}
  (hl : ∀ k x y i, l0 (k + 1) x y i = if i < (x.length : Int) then (if 0 ≤ i then (E k (rdA x i)).bind fun r => (if i < (y.length : Int) then l0 k x (y.set i.toNat (mk r)) (wrap64 (i + 1)) else none) else none) else some y)
  (hrd : ∀ (x : List α) (i : Nat), rdA x (i : Int) = x.getD i zA) (x : List α) (hx : x.length ≤ 1048576) (hE : ∀ a ∈ x, ∃ r, Ev (fun k => E k a) r ∧ mk r = conv a) :
  Ev (fun k => l0 k x (List.replicate x.length zB) 0) (x.map conv) := by
 have key : ∀ (d i : Nat), i + d = x.length → ∀ y : List β, y.length = x.length → y.take i = (x.take i).map conv → Ev (fun k => l0 k x y (i : Int)) (x.map conv) := by
  intro d
  induction d with
  | zero =>
   intro i hi y hy ht
   refine Ev.succ ?_
   simp only [hl]
   refine Ev.no (by omega) ?_
   rw [List.take_of_length_le (by omega), List.take_of_length_le (by omega)] at ht
   subst ht
   exact Ev.now _
  | succ d ih =>
   intro i hi y hy ht
   have hli : i < x.length := by omega
   refine Ev.succ ?_
   simp only [hl]
   have hr : rdA x (i : Int) = x[i] := by rw [hrd, List.getD_eq_getElem?_getD, List.getElem?_eq_getElem hli]; rfl
   obtain ⟨r, h1, h2⟩ := hE x[i] (List.getElem_mem hli)
   simp only [hr]
   refine Ev.yes (by omega) (Ev.yes (by omega) (Ev.bind h1 (Ev.yes (by omega) ?_)))
   rw [idx_next hli hx]
   refine ih (i + 1) (by omega) _ (by simp [hy]) ?_
   simp only [Int.toNat_natCast]
   rw [List.take_succ_eq_append_getElem (by simp; omega), List.take_succ_eq_append_getElem hli, List.map_append, ← ht, List.take_set_of_le (Nat.le_refl _)]
   simp [h2]
 exact key x.length 0 (by omega) _ (by simp) (by simp)
theorem eq_loop {α : Type} {l0 : Nat → List α → List α → Int → Option Bool} {rdA : List α → Int → α} {E : Nat → α → α → Option Bool} {zA : α}
  (hl : ∀ k x y i, l0 (k + 1) x y i = if i < (x.length : Int) then (if 0 ≤ i then (if i < (y.length : Int) then (E k (rdA x i) (rdA y i)).bind fun t => (if t = true then l0 k x y (wrap64 (i + 1)) else some false) else none) else none) else some true)
  (hrd : ∀ (x : List α) (i : Nat), rdA x (i : Int) = x.getD i zA) (x : List α) (hx : x.length ≤ 1048576) (hE : ∀ a ∈ x, Ev (fun k => E k a a) true) : Ev (fun k => l0 k x x 0) true := by
 have key : ∀ (d i : Nat), i + d = x.length → Ev (fun k => l0 k x x (i : Int)) true := by
  intro d
  induction d with
  | zero =>
   intro i hi
   refine Ev.succ ?_
   simp only [hl]
   exact Ev.no (by omega) (Ev.now _)
  | succ d ih =>
   intro i hi
   have hli : i < x.length := by omega
   refine Ev.succ ?_
   simp only [hl]
   have hr : rdA x (i : Int) = x[i] := by rw [hrd, List.getD_eq_getElem?_getD, List.getElem?_eq_getElem hli]; rfl
   simp only [hr]
   refine Ev.yes (by omega) (Ev.yes (by omega) (Ev.yes (by omega) (Ev.bind (hE x[i] (List.getElem_mem hli)) (Ev.yes rfl ?_))))
   rw [idx_next hli hx]
   exact ih (i + 1) (by omega)
 exact key x.length 0 (by omega)
/-- How much is left of a room of 'a'. -/
def left (m a : Int) : Int := if m ≤ a then a - m else -1
def sumL {α : Type} (m : α → Int) (x : List α) : Int := (x.map m).sum
theorem sumL_nonneg {α : Type} {m : α → Int} (hm : ∀ a, 0 ≤ m a) : ∀ x : List α, 0 ≤ sumL m x
 | [] => by simp [sumL]
 | a :: x => by have := hm a; have := sumL_nonneg hm x; simp [sumL] at *; omega
theorem sumL_mem {α : Type} {m : α → Int} (hm : ∀ a, 0 ≤ m a) : ∀ {x : List α} {a : α}, a ∈ x → m a ≤ sumL m x
 | b :: x, a, h => by
  have h0 := sumL_nonneg hm x
  have hb := hm b
  rcases List.mem_cons.1 h with rfl | h
  ·simp [sumL] at *; omega
  ·have := sumL_mem hm h; simp [sumL] at *; omega
theorem sz_loop {α : Type} {l0 : Nat → List α → Int → Int → Option Int} {rdA : List α → Int → α} {E : Nat → α → Int → Option Int} {zA : α} {m : α → Int} (hm : ∀ a, 0 ≤ m a)
  (hl : ∀ k x a i, l0 (k + 1) x a i = if i < (x.length : Int) then (if 0 ≤ i then (E k (rdA x i) a).bind fun t => (if t < 0 then some (-1) else l0 k x t (wrap64 (i + 1))) else none) else some a)
  (hrd : ∀ (x : List α) (i : Nat), rdA x (i : Int) = x.getD i zA) (x : List α) (hx : x.length ≤ 1048576) (hE : ∀ z ∈ x, ∀ a, 0 ≤ a → a ≤ 1048576 → Ev (fun k => E k z a) (left (m z) a)) (a : Int) (h0 : 0 ≤ a) (h1 : a ≤ 1048576) :
  Ev (fun k => l0 k x a 0) (left (sumL m x) a) := by
 have key : ∀ (d i : Nat), i + d = x.length → ∀ a, 0 ≤ a → a ≤ 1048576 → Ev (fun k => l0 k x a (i : Int)) (left (sumL m (x.drop i)) a) := by
  intro d
  induction d with
  | zero =>
   intro i hi a h0 h1
   refine Ev.succ ?_
   simp only [hl]
   rw [List.drop_of_length_le (by omega)]
   refine Ev.no (by omega) ?_
   simp only [left, sumL, List.map_nil, List.sum_nil, Int.sub_zero, if_pos h0]
   exact Ev.now _
  | succ d ih =>
   intro i hi a h0 h1
   have hli : i < x.length := by omega
   refine Ev.succ ?_
   simp only [hl]
   have hr : rdA x (i : Int) = x[i] := by rw [hrd, List.getD_eq_getElem?_getD, List.getElem?_eq_getElem hli]; rfl
   simp only [hr]
   refine Ev.yes (by omega) (Ev.yes (by omega) (Ev.bind (hE x[i] (List.getElem_mem hli) a h0 h1) ?_))
   have hs : sumL m (x.drop i) = m x[i] + sumL m (x.drop (i + 1)) := by rw [List.drop_eq_getElem_cons hli]; unfold sumL; rw [List.map_cons, List.sum_cons]
   have hp := sumL_nonneg hm (x.drop (i + 1))
   have hq := hm x[i]
   rw [hs, idx_next hli hx]
   by_cases hc : m x[i] ≤ a
   ·have e : left (m x[i]) a = a - m x[i] := by simp [left, hc]
    rw [e]
    refine Ev.no (by omega) ?_
    have e2 : left (m x[i] + sumL m (x.drop (i + 1))) a = left (sumL m (x.drop (i + 1))) (a - m x[i]) := by
     unfold left
     by_cases h : m x[i] + sumL m (x.drop (i + 1)) ≤ a
     ·rw [if_pos h, if_pos (by omega)]; omega
     ·rw [if_neg h, if_neg (by omega)]
    rw [e2]
    exact ih (i + 1) (by omega) _ (by omega) (by omega)
   ·have e : left (m x[i]) a = -1 := by simp [left, hc]
    have e2 : left (m x[i] + sumL m (x.drop (i + 1))) a = -1 := by unfold left; rw [if_neg (by omega)]
    rw [e, e2]
    exact Ev.yes (by omega) (Ev.now _)
 simpa using key x.length 0 (by omega) a h0 h1
theorem left_step {m n a : Int} (h : m ≤ a) : left m a = a - m := by simp [left, h]
theorem left_no {m a : Int} (h : ¬ m ≤ a) : left m a = -1 := by simp [left, h]
/-- First one thing takes its room, then another one. -/
theorem sz_then {m n a : Int} {E : Nat → Option Int} {F : Nat → Int → Option Int} (hm : 0 ≤ m) (hn : 0 ≤ n) (h0 : 0 ≤ a) (h1 : a ≤ 1048576) (hE : Ev E (left m a)) (hF : m ≤ a → Ev (fun k => F k (a - m)) (left n (a - m))) :
  Ev (fun k => (E k).bind fun t => if t < 0 then some (-1) else F k t) (left (m + n) a) := by
 refine Ev.bind hE ?_
 by_cases hc : m ≤ a
 ·rw [left_step (n := 0) hc]
  refine Ev.no (by omega) ?_
  have e : left (m + n) a = left n (a - m) := by
   unfold left
   by_cases h : m + n ≤ a
   ·rw [if_pos h, if_pos (by omega)]; omega
   ·rw [if_neg h, if_neg (by omega)]
  rw [e]
  exact hF hc
 ·rw [left_no hc, left_no (by omega)]
  exact Ev.yes (by omega) (Ev.now _)
theorem sz_last {m a : Int} {E : Nat → Option Int} (hm : 0 ≤ m) (hE : Ev E (left m a)) : Ev (fun k => (E k).bind fun t => if t < 0 then some (-1) else some t) (left m a) := by
 refine Ev.bind hE ?_
 by_cases hc : m ≤ a
 ·rw [left_step (n := 0) hc]
  exact Ev.no (by omega) (Ev.now _)
 ·rw [left_no hc]
  exact Ev.yes (by omega) (Ev.now _)
/-- A list takes as much room as it has items. -/
theorem sz_len {n : Nat} {a : Int} {F : Nat → Int → Option Int} {m : Int} (hm : 0 ≤ m) (hn : n ≤ 9223372036854775807) (h0 : 0 ≤ a) (h1 : a ≤ 1048576) (hF : (n : Int) ≤ a → Ev (fun k => F k (a - n)) (left m (a - n))) :
  Ev (fun k => if wrap64 (a - (n : Int)) < 0 then some (-1) else F k (wrap64 (a - (n : Int)))) (left (n + m) a) := by
 have e : wrap64 (a - (n : Int)) = a - n := wrap_in (by omega) (by omega)
 rw [e]
 by_cases hc : (n : Int) ≤ a
 ·refine Ev.no (by omega) ?_
  have e : left (n + m) a = left m (a - n) := by
   unfold left
   by_cases h : n + m ≤ a
   ·rw [if_pos h, if_pos (by omega)]; omega
   ·rw [if_neg h, if_neg (by omega)]
  rw [e]
  exact hF hc
 ·rw [left_no (by omega)]
  exact Ev.yes (by omega) (Ev.now _)
theorem left_zero {a : Int} (h : 0 ≤ a) : left 0 a = a := by simp [left, h]
theorem eq_loop_int {l0 : Nat → List Int → List Int → Int → Option Bool}
  (hl : ∀ k x y i, l0 (k + 1) x y i = if i < (x.length : Int) then (if 0 ≤ i then (if i < (y.length : Int) then (if rd x i = rd y i then l0 k x y (wrap64 (i + 1)) else some false) else none) else none) else some true)
  (x : List Int) (hx : x.length ≤ 1048576) : Ev (fun k => l0 k x x 0) true := by
 have key : ∀ (d i : Nat), i + d = x.length → Ev (fun k => l0 k x x (i : Int)) true := by
  intro d
  induction d with
  | zero =>
   intro i hi
   refine Ev.succ ?_
   simp only [hl]
   exact Ev.no (by omega) (Ev.now _)
  | succ d ih =>
   intro i hi
   refine Ev.succ ?_
   simp only [hl]
   refine Ev.yes (by omega) (Ev.yes (by omega) (Ev.yes (by omega) (Ev.yes (by simp) ?_)))
   rw [idx_next (show i < x.length by omega) hx]
   exact ih (i + 1) (by omega)
 exact key x.length 0 (by omega)
theorem to_loop_int {l0 : Nat → List Int → List Int → Int → Option (List Int)}
  (hl : ∀ k x y i, l0 (k + 1) x y i = if i < (x.length : Int) then (if 0 ≤ i then (if i < (y.length : Int) then l0 k x (y.set i.toNat (rd x i)) (wrap64 (i + 1)) else none) else none) else some y)
  (x : List Int) (hx : x.length ≤ 1048576) (z : Int) : Ev (fun k => l0 k x (List.replicate x.length z) 0) x := by
 have h := to_loop (l0 := l0) (rdA := rd) (E := fun _ a => some a) (mk := fun a => a) (conv := fun a => a) (zA := 0) (zB := z) (fun k x y i => by rw [hl]; rfl) (fun _ _ => rfl) x hx (fun a _ => ⟨a, Ev.now _, rfl⟩)
 simpa using h

/-! numbers that are drawn -/
theorem u64_lo (x : Int) : 0 ≤ IntKind.u64.wrap x := by show 0 ≤ x % _; exact Int.emod_nonneg _ (by decide)
theorem u64_in {x : Int} (h0 : 0 ≤ x) (h1 : x < 18446744073709551616) : IntKind.u64.wrap x = x := Int.emod_eq_of_lt h0 h1
theorem drawn_v {X most : Int} (hX : 0 ≤ X) (h0 : 1 < most) (h1 : most ≤ 9223372036854775807) : ∃ v, wrap64 (Int.tmod X (IntKind.u64.wrap most)) = v ∧ 0 ≤ v ∧ v < most := by
 rw [u64_in (x := most) (by omega) (by omega)]
 have a := Int.tmod_nonneg most hX
 have b := Int.tmod_lt_of_pos X (show 0 < most by omega)
 exact ⟨_, wrap_in (by omega) (by omega), a, b⟩
theorem n_some (b : List Int) (at_ mix size : Int) (ha : 0 ≤ at_ ∧ at_ ≤ b.length) (hb : b.length ≤ 1048576) (most : Int) (h1 : 1 ≤ most) (h2 : most ≤ 9223372036854775807) : ∃ v at1 mix1, spec_l01Src_n.f b at_ mix size most = some (v, at1, mix1, size) ∧ 0 ≤ v ∧ v < most ∧ 0 ≤ at1 ∧ at1 ≤ b.length := by
 unfold spec_l01Src_n.f
 by_cases hm : most ≤ 1
 ·rw [if_pos hm]; exact ⟨0, _, _, rfl, by omega, by omega, ha.1, ha.2⟩
 rw [if_neg hm]
 have hne : ¬ IntKind.u64.wrap most = 0 := by rw [u64_in (by omega) (by omega)]; omega
 by_cases hc : at_ < (b.length : Int)
 ·rw [if_pos hc, if_pos ha.1, if_neg hne]
  obtain ⟨v, e, p, q⟩ := drawn_v (X := IntKind.u64.wrap _) (u64_lo _) (show 1 < most by omega) h2
  refine ⟨v, _, _, by rw [e], p, q, ?_, ?_⟩ <;> rw [wrap_in (by omega) (by omega)] <;> omega
 ·rw [if_neg hc, if_neg hne]
  obtain ⟨v, e, p, q⟩ := drawn_v (X := IntKind.u64.wrap _) (u64_lo _) (show 1 < most by omega) h2
  exact ⟨v, _, _, by rw [e], p, q, ha.1, ha.2⟩
theorem source_ev (l : List Int) (h : l.length ≤ 1048576) : ∃ mix size, Ev (fun k => spec_l01Source.f k l) (l, 0, mix, size) ∧ 0 ≤ size ∧ size ≤ 12 := by
 have fin : ∃ size, (if wrap64 ((l.length : Int) / 20) > 12 then 12 else wrap64 ((l.length : Int) / 20)) = size ∧ 0 ≤ size ∧ size ≤ 12 := by
  have : wrap64 ((l.length : Int) / 20) = (l.length : Int) / 20 := wrap_in (by omega) (by omega)
  rw [this]
  by_cases q : (l.length : Int) / 20 > 12
  ·rw [if_pos q]; exact ⟨12, rfl, by omega, by omega⟩
  ·rw [if_neg q]; exact ⟨_, rfl, by omega, by omega⟩
 obtain ⟨size, he, h0, h1⟩ := fin
 have last : ∀ mix : Int, Ev (fun _ => if wrap64 ((l.length : Int) / 20) > 12 then some (l, (0 : Int), mix, (12 : Int)) else some (l, 0, mix, wrap64 ((l.length : Int) / 20))) (l, 0, mix, size) := by
  intro mix
  by_cases q : wrap64 ((l.length : Int) / 20) > 12
  ·rw [if_pos q] at he; subst he; exact Ev.yes q (Ev.now _)
  ·rw [if_neg q] at he; subst he; exact Ev.no q (Ev.now _)
 have key : ∀ (d i : Nat), i + d = 64 → ∀ mix : Int, ∃ mix', Ev (fun k => spec_l01Source.l0 k l (i : Int) l 0 mix 0) (l, 0, mix', size) := by
  intro d
  induction d with
  | zero =>
   intro i hi mix
   refine ⟨mix, Ev.succ ?_⟩
   simp only [spec_l01Source.l0]
   by_cases hc : (i : Int) < (l.length : Int)
   ·exact Ev.yes hc (Ev.no (by omega) (last mix))
   ·exact Ev.no hc (last mix)
  | succ d ih =>
   intro i hi mix
   by_cases hc : (i : Int) < (l.length : Int)
   ·obtain ⟨m', e⟩ := ih (i + 1) (by omega) (IntKind.u64.wrap ((Go.bits .xor .u64 mix (IntKind.u64.wrap (rd l i))) * 1099511628211))
    refine ⟨m', Ev.succ ?_⟩
    simp only [spec_l01Source.l0]
    refine Ev.yes hc (Ev.yes (by omega) (Ev.yes (by omega) ?_))
    rw [wrap_in (n := (i : Int) + 1) (by omega) (by omega)]
    exact e
   ·refine ⟨mix, Ev.succ ?_⟩
    simp only [spec_l01Source.l0]
    exact Ev.no hc (last mix)
 obtain ⟨mix, e⟩ := key 64 0 (by omega) 88172645463325252
 exact ⟨mix, size, by unfold spec_l01Source.f; exact e, h0, h1⟩

theorem distinct_small : ∀ n : Nat, n < 39 → ∀ m : Nat, m < 50 → m ≠ n → namedB (n : Int) = true → (nameV (m : Int)).toList ≠ (nameV (n : Int)).toList := by
 decide +kernel
theorem unnamed {op : Int} (h : namedB op = false) : (nameV op).toList = [] := (name_all op).2.2.2 h
theorem named_in {op : Int} (h : namedB op = true) : (1 ≤ op ∧ op ≤ 5) ∨ (10 ≤ op ∧ op ≤ 38) := by
 unfold namedB at h
 simpa using h
theorem distinct {op k : Int} (h : namedB op = true) (hk0 : -3 ≤ k) (hk1 : k < 50) (hn : k ≠ op) : (nameV k).toList ≠ (nameV op).toList := by
 have hi := named_in h
 obtain ⟨n, rfl⟩ := Int.eq_ofNat_of_zero_le (show 0 ≤ op by omega)
 by_cases hb : 0 ≤ k
 ·obtain ⟨m, rfl⟩ := Int.eq_ofNat_of_zero_le hb
  exact distinct_small n (by omega) m (by omega) (by omega) h
 ·have hu : namedB k = false := by unfold namedB; simp; omega
  rw [unnamed hu]
  intro e
  have := (name_all (n : Int)).2.2.1 e.symm
  rw [h] at this
  exact absurd this (by simp)
theorem FnOpNames : laws_FnOpNames.Pure := by
 intro l0 hl _ hw
 refine Ev.rounds ?_
 unfold laws_FnOpNames.f
 by_cases hb : (l0.length : Int) > 1048576
 ·exact Ev.yes hb (Ev.now _)
 refine Ev.no hb ?_
 obtain ⟨mix, size, hs, _, _⟩ := source_ev l0 (by omega)
 obtain ⟨v, s1, s2, hn, hv0, hv1, _, _⟩ := n_some l0 0 mix size ⟨by omega, by omega⟩ (by omega) 44 (by omega) (by omega)
 have hd : Ev (fun k => spec_DrawOpName.f k l0) (v - 2) := by
  unfold spec_DrawOpName.f
  refine Ev.bind hs (Ev.flat hn ?_)
  simp only
  rw [wrap_in (by omega) (by omega)]
  exact Ev.now _
 generalize v - 2 = op at hd
 refine Ev.bind hd (Ev.flat (implName_some op) (Ev.bind (specName_ev op) (Ev.yes rfl ?_)))
 by_cases hn : namedB op = true
 case neg =>
  have hn' : namedB op = false := by simpa using hn
  refine Ev.yes (unnamed hn') ?_
  have : ¬ ((1 ≤ op ∧ op ≤ 5) ∨ (10 ≤ op ∧ op ≤ 38)) := by
   intro h; apply hn; unfold namedB; simpa using h
  refine Ev.cases (fun _ => Ev.now _) (fun a => Ev.cases (fun _ => Ev.now _) (fun b => Ev.yes (by omega) ?_))
  rw [show decide (op < 10) = true by simp; omega]
  exact Ev.now _
 have hne : (nameV op).toList ≠ [] := fun e => by have := (name_all op).2.2.1 e; rw [hn] at this; exact absurd this (by simp)
 refine Ev.no hne ?_
 have key : ∀ (d : Nat) (i : Int), i + d = 50 → -3 ≤ i → Ev (fun k => laws_FnOpNames.l0 k op (nameV op) i) true := by
  intro d
  induction d with
  | zero =>
   intro i hi h0
   refine Ev.succ ?_
   simp only [laws_FnOpNames.l0]
   exact Ev.no (by omega) (Ev.now _)
  | succ d ih =>
   intro i hi h0
   refine Ev.succ ?_
   simp only [laws_FnOpNames.l0]
   have hnx : Ev (fun k => laws_FnOpNames.l0 k op (nameV op) (wrap64 (i + 1))) true := by
    rw [wrap_in (by omega) (by omega)]
    exact ih (i + 1) (by omega) (by omega)
   refine Ev.yes (by omega) (Ev.cases (fun _ => hnx) (fun q => Ev.flat (implName_some i) (Ev.no ?_ hnx)))
   exact distinct hn h0 (by omega) q
 exact key 53 (-3) (by omega) (by omega)

end Go.Proofs.Ytkmohnlkldkhdaa.Pure
