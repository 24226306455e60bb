/- FnExactAsmSame: the program's AsmSame answers what the reference's answers, for all code of registers. No condition. -/
import Derived.Test.YtkmohnlkldkhdaaCFnExactAsmSamex
import Derived.Test.YtkmohnlkldkhdaaCFnExactAsmSamef
namespace Go.Proofs.Ytkmohnlkldkhdaa.Pure
open Go.RowKit Go.Proofs.Ytkmohnlkldkhdaa.QFnExactAsmSame Go.Proofs.YtkmohnlkldkhdaaW.PrintWords Go.Proofs.YtkmohnlkldkhdaaW.PrintLast
set_option linter.unusedVariables false
set_option linter.unusedSimpArgs false
structure S79 where
 f0 : Int
 f1 : (List S123)
 f2 : (List (List S130))
theorem Ev.succ {α : Type} {g : Nat → Option α} {r : α} (h : Ev (fun k => g (k + 1)) r) : Ev g r := Ev.step (fun _ => rfl) h
theorem Ev.yes {α : Type} {c : Prop} [Decidable c] {g f : Nat → Option α} {r : α} (hc : c) (h : Ev g r) : Ev (fun k => if c then g k else f k) r := Ev.congr (fun _ => if_pos hc) h
theorem Ev.no {α : Type} {c : Prop} [Decidable c] {g f : Nat → Option α} {r : α} (hc : ¬ c) (h : Ev f r) : Ev (fun k => if c then g k else f k) r := Ev.congr (fun _ => if_neg hc) h
theorem Ev.cases {α : Type} {c : Prop} [Decidable c] {g f : Nat → Option α} {r : α} (h1 : c → Ev g r) (h2 : ¬ c → Ev f r) : Ev (fun k => if c then g k else f k) r := by
 by_cases hc : c
 ·exact Ev.yes hc (h1 hc)
 ·exact Ev.no hc (h2 hc)
/-- A call that needs no rounds. -/
theorem wrap_in {n : Int} (h0 : -9223372036854775808 ≤ n) (h1 : n ≤ 9223372036854775807) : wrap64 n = n := by unfold wrap64; omega
theorem drop_at {α : Type} (x : List α) (z : α) (i : Nat) (h : i < x.length) : x.drop i = x.getD i z :: x.drop (i + 1) := by
 rw [List.drop_eq_getElem_cons h, List.getD_eq_getElem?_getD, List.getElem?_eq_getElem h]; rfl
/-- Two lists, place by place. -/
def sameL {α : Type} (s : α → α → Bool) : List α → List α → Bool
 | [], [] => true
 | a :: x, b :: y => s a b && sameL s x y
 | _, _ => false
theorem sameL_len {α : Type} {s : α → α → Bool} : ∀ x y : List α, x.length ≠ y.length → sameL s x y = false
 | [], [], h => absurd rfl h
 | [], _ :: _, _ => rfl
 | _ :: _, [], _ => rfl
 | a :: x, b :: y, h => by simp [sameL, sameL_len x y (fun e => h (by simp [e]))]
theorem beq_no {a b : Int} (h : ¬ a = b) : (a == b) = false := beq_eq_false_iff_ne.2 h
theorem idx_next {i n : Nat} (h : i < n) (hn : n ≤ 1048576) : wrap64 ((i : Int) + 1) = ((i + 1 : Nat) : Int) := by rw [wrap_in (by omega) (by omega)]; simp
theorem to_loop {α β ρ : Type} {l0 : Nat → List α → List β → Int → Option (List β)} {rdA : List α → Int → α} {E : Nat → α → Option ρ} {mk : ρ → β} {conv : α → β} {zA : α} {zB : β}
  (hl : ∀ k x y i, l0 (k + 1) x y i = if i < (x.length : Int) then (if 0 ≤ i then (E k (rdA x i)).bind fun r => (if i < (y.length : Int) then l0 k x (y.set i.toNat (mk r)) (wrap64 (i + 1)) else none) else none) else some y)
  (hrd : ∀ (x : List α) (i : Nat), rdA x (i : Int) = x.getD i zA) (x : List α) (hx : x.length ≤ 1048576) (hE : ∀ a ∈ x, ∃ r, Ev (fun k => E k a) r ∧ mk r = conv a) :
  Ev (fun k => l0 k x (List.replicate x.length zB) 0) (x.map conv) := by
 have key : ∀ (d i : Nat), i + d = x.length → ∀ y : List β, y.length = x.length → y.take i = (x.take i).map conv → Ev (fun k => l0 k x y (i : Int)) (x.map conv) := by
  intro d
  induction d with
  | zero =>
   intro i hi y hy ht
   refine Ev.succ ?_
   simp only [hl]
   refine Ev.no (by omega) ?_
   rw [List.take_of_length_le (by omega), List.take_of_length_le (by omega)] at ht
   subst ht
   exact Ev.now _
  | succ d ih =>
   intro i hi y hy ht
   have hli : i < x.length := by omega
   refine Ev.succ ?_
   simp only [hl]
   have hr : rdA x (i : Int) = x[i] := by rw [hrd, List.getD_eq_getElem?_getD, List.getElem?_eq_getElem hli]; rfl
   obtain ⟨r, h1, h2⟩ := hE x[i] (List.getElem_mem hli)
   simp only [hr]
   refine Ev.yes (by omega) (Ev.yes (by omega) (Ev.bind h1 (Ev.yes (by omega) ?_)))
   rw [idx_next hli hx]
   refine ih (i + 1) (by omega) _ (by simp [hy]) ?_
   simp only [Int.toNat_natCast]
   rw [List.take_succ_eq_append_getElem (by simp; omega), List.take_succ_eq_append_getElem hli, List.map_append, ← ht, List.take_set_of_le (Nat.le_refl _)]
   simp [h2]
 exact key x.length 0 (by omega) _ (by simp) (by simp)
theorem eq_loop {α : Type} {l0 : Nat → List α → List α → Int → Option Bool} {rdA : List α → Int → α} {E : Nat → α → α → Option Bool} {zA : α}
  (hl : ∀ k x y i, l0 (k + 1) x y i = if i < (x.length : Int) then (if 0 ≤ i then (if i < (y.length : Int) then (E k (rdA x i) (rdA y i)).bind fun t => (if t = true then l0 k x y (wrap64 (i + 1)) else some false) else none) else none) else some true)
  (hrd : ∀ (x : List α) (i : Nat), rdA x (i : Int) = x.getD i zA) (x : List α) (hx : x.length ≤ 1048576) (hE : ∀ a ∈ x, Ev (fun k => E k a a) true) : Ev (fun k => l0 k x x 0) true := by
 have key : ∀ (d i : Nat), i + d = x.length → Ev (fun k => l0 k x x (i : Int)) true := by
  intro d
  induction d with
  | zero =>
   intro i hi
   refine Ev.succ ?_
   simp only [hl]
   exact Ev.no (by omega) (Ev.now _)
  | succ d ih =>
   intro i hi
   have hli : i < x.length := by omega
   refine Ev.succ ?_
   simp only [hl]
   have hr : rdA x (i : Int) = x[i] := by rw [hrd, List.getD_eq_getElem?_getD, List.getElem?_eq_getElem hli]; rfl
   simp only [hr]
   refine Ev.yes (by omega) (Ev.yes (by omega) (Ev.yes (by omega) (Ev.bind (hE x[i] (List.getElem_mem hli)) (Ev.yes rfl ?_))))
   rw [idx_next hli hx]
   exact ih (i + 1) (by omega)
 exact key x.length 0 (by omega)
/-- How much is left of a room of 'a'. -/
def left (m a : Int) : Int := if m ≤ a then a - m else -1
def sumL {α : Type} (m : α → Int) (x : List α) : Int := (x.map m).sum
theorem sumL_nonneg {α : Type} {m : α → Int} (hm : ∀ a, 0 ≤ m a) : ∀ x : List α, 0 ≤ sumL m x
 | [] => by simp [sumL]
 | a :: x => by have := hm a; have := sumL_nonneg hm x; simp [sumL] at *; omega
theorem sumL_mem {α : Type} {m : α → Int} (hm : ∀ a, 0 ≤ m a) : ∀ {x : List α} {a : α}, a ∈ x → m a ≤ sumL m x
 | b :: x, a, h => by
  have h0 := sumL_nonneg hm x
  have hb := hm b
  rcases List.mem_cons.1 h with rfl | h
  ·simp [sumL] at *; omega
  ·have := sumL_mem hm h; simp [sumL] at *; omega
theorem sz_loop {α : Type} {l0 : Nat → List α → Int → Int → Option Int} {rdA : List α → Int → α} {E : Nat → α → Int → Option Int} {zA : α} {m : α → Int} (hm : ∀ a, 0 ≤ m a)
  (hl : ∀ k x a i, l0 (k + 1) x a i = if i < (x.length : Int) then (if 0 ≤ i then (E k (rdA x i) a).bind fun t => (if t < 0 then some (-1) else l0 k x t (wrap64 (i + 1))) else none) else some a)
  (hrd : ∀ (x : List α) (i : Nat), rdA x (i : Int) = x.getD i zA) (x : List α) (hx : x.length ≤ 1048576) (hE : ∀ z ∈ x, ∀ a, 0 ≤ a → a ≤ 1048576 → Ev (fun k => E k z a) (left (m z) a)) (a : Int) (h0 : 0 ≤ a) (h1 : a ≤ 1048576) :
  Ev (fun k => l0 k x a 0) (left (sumL m x) a) := by
 have key : ∀ (d i : Nat), i + d = x.length → ∀ a, 0 ≤ a → a ≤ 1048576 → Ev (fun k => l0 k x a (i : Int)) (left (sumL m (x.drop i)) a) := by
  intro d
  induction d with
  | zero =>
   intro i hi a h0 h1
   refine Ev.succ ?_
   simp only [hl]
   rw [List.drop_of_length_le (by omega)]
   refine Ev.no (by omega) ?_
   simp only [left, sumL, List.map_nil, List.sum_nil, Int.sub_zero, if_pos h0]
   exact Ev.now _
  | succ d ih =>
   intro i hi a h0 h1
   have hli : i < x.length := by omega
   refine Ev.succ ?_
   simp only [hl]
   have hr : rdA x (i : Int) = x[i] := by rw [hrd, List.getD_eq_getElem?_getD, List.getElem?_eq_getElem hli]; rfl
   simp only [hr]
   refine Ev.yes (by omega) (Ev.yes (by omega) (Ev.bind (hE x[i] (List.getElem_mem hli) a h0 h1) ?_))
   have hs : sumL m (x.drop i) = m x[i] + sumL m (x.drop (i + 1)) := by rw [List.drop_eq_getElem_cons hli]; unfold sumL; rw [List.map_cons, List.sum_cons]
   have hp := sumL_nonneg hm (x.drop (i + 1))
   have hq := hm x[i]
   rw [hs, idx_next hli hx]
   by_cases hc : m x[i] ≤ a
   ·have e : left (m x[i]) a = a - m x[i] := by simp [left, hc]
    rw [e]
    refine Ev.no (by omega) ?_
    have e2 : left (m x[i] + sumL m (x.drop (i + 1))) a = left (sumL m (x.drop (i + 1))) (a - m x[i]) := by
     unfold left
     by_cases h : m x[i] + sumL m (x.drop (i + 1)) ≤ a
     ·rw [if_pos h, if_pos (by omega)]; omega
     ·rw [if_neg h, if_neg (by omega)]
    rw [e2]
    exact ih (i + 1) (by omega) _ (by omega) (by omega)
   ·have e : left (m x[i]) a = -1 := by simp [left, hc]
    have e2 : left (m x[i] + sumL m (x.drop (i + 1))) a = -1 := by unfold left; rw [if_neg (by omega)]
    rw [e, e2]
    exact Ev.yes (by omega) (Ev.now _)
 simpa using key x.length 0 (by omega) a h0 h1
theorem left_step {m n a : Int} (h : m ≤ a) : left m a = a - m := by simp [left, h]
theorem left_no {m a : Int} (h : ¬ m ≤ a) : left m a = -1 := by simp [left, h]
/-- First one thing takes its room, then another one. -/
theorem sz_then {m n a : Int} {E : Nat → Option Int} {F : Nat → Int → Option Int} (hm : 0 ≤ m) (hn : 0 ≤ n) (h0 : 0 ≤ a) (h1 : a ≤ 1048576) (hE : Ev E (left m a)) (hF : m ≤ a → Ev (fun k => F k (a - m)) (left n (a - m))) :
  Ev (fun k => (E k).bind fun t => if t < 0 then some (-1) else F k t) (left (m + n) a) := by
 refine Ev.bind hE ?_
 by_cases hc : m ≤ a
 ·rw [left_step (n := 0) hc]
  refine Ev.no (by omega) ?_
  have e : left (m + n) a = left n (a - m) := by
   unfold left
   by_cases h : m + n ≤ a
   ·rw [if_pos h, if_pos (by omega)]; omega
   ·rw [if_neg h, if_neg (by omega)]
  rw [e]
  exact hF hc
 ·rw [left_no hc, left_no (by omega)]
  exact Ev.yes (by omega) (Ev.now _)
theorem sz_last {m a : Int} {E : Nat → Option Int} (hm : 0 ≤ m) (hE : Ev E (left m a)) : Ev (fun k => (E k).bind fun t => if t < 0 then some (-1) else some t) (left m a) := by
 refine Ev.bind hE ?_
 by_cases hc : m ≤ a
 ·rw [left_step (n := 0) hc]
  exact Ev.no (by omega) (Ev.now _)
 ·rw [left_no hc]
  exact Ev.yes (by omega) (Ev.now _)
/-- A list takes as much room as it has items. -/
theorem sz_len {n : Nat} {a : Int} {F : Nat → Int → Option Int} {m : Int} (hm : 0 ≤ m) (hn : n ≤ 9223372036854775807) (h0 : 0 ≤ a) (h1 : a ≤ 1048576) (hF : (n : Int) ≤ a → Ev (fun k => F k (a - n)) (left m (a - n))) :
  Ev (fun k => if wrap64 (a - (n : Int)) < 0 then some (-1) else F k (wrap64 (a - (n : Int)))) (left (n + m) a) := by
 have e : wrap64 (a - (n : Int)) = a - n := wrap_in (by omega) (by omega)
 rw [e]
 by_cases hc : (n : Int) ≤ a
 ·refine Ev.no (by omega) ?_
  have e : left (n + m) a = left m (a - n) := by
   unfold left
   by_cases h : n + m ≤ a
   ·rw [if_pos h, if_pos (by omega)]; omega
   ·rw [if_neg h, if_neg (by omega)]
  rw [e]
  exact hF hc
 ·rw [left_no (by omega)]
  exact Ev.yes (by omega) (Ev.now _)
theorem left_zero {a : Int} (h : 0 ≤ a) : left 0 a = a := by simp [left, h]
def cVal (x : S163) : S130 := ⟨x.f0, x.f1⟩
theorem eqVal_refl (x : S130) : Ev (fun k => laws_eqVal.f x.f0 x.f1 x.f0 x.f1) true := by
 unfold laws_eqVal.f
 exact Ev.yes rfl (Ev.yes rfl (Ev.now _))
def cMov (x : S170) : S154 := ⟨x.f0, (cVal x.f1)⟩
theorem eqMov_refl (x : S154) : Ev (fun k => laws_eqMov.f x.f0 x.f1.f0 x.f1.f1 x.f0 x.f1.f0 x.f1.f1) true := by
 unfold laws_eqMov.f
 exact Ev.yes rfl (Ev.bind (eqVal_refl x.f1) (Ev.yes rfl (Ev.now _)))
def cMovS (x : List S170) : List S154 := x.map cMov
theorem mMovS_nonneg (x : List S170) : (0 : Int) ≤ (x.length : Int) := by omega
theorem szMovS_ev (x : List S170) (w : x.length ≤ 9223372036854775807 ∧ ∀ z ∈ x, wf170 z) (a : Int) (h0 : 0 ≤ a) (h1 : a ≤ 1048576) : Ev (fun _ => laws_szMovS.f x a) (left (x.length : Int) a) := by
 unfold laws_szMovS.f
 have h := sz_len (n := x.length) (a := a) (F := fun _ t => some t) (m := 0) (by omega) w.1 h0 h1 (fun h => by rw [left_zero (by omega)]; exact Ev.now _)
 simpa using h
theorem toMovS_ev (x : List S170) (h : (x.length : Int) ≤ 1048576) : Ev (fun k => laws_toMovS.f k x) (cMovS x) := by
 unfold laws_toMovS.f
 refine Ev.yes (by omega) (Ev.yes (by simp; omega) ?_)
 exact to_loop (l0 := laws_toMovS.l0) (rdA := rd_T170) (E := fun k z => laws_toMov.f z.f0 z.f1.f0 z.f1.f1) (mk := fun r => (⟨r.1, (⟨r.2.1, r.2.2⟩ : S130)⟩ : S154)) (conv := cMov) (zA := z170) (zB := z154) (fun k x y i => by simp only [laws_toMovS.l0]) (fun _ _ => rfl) x (by omega) (fun z hz => ⟨_, ⟨0, fun _ _ => rfl⟩, rfl⟩)
def okMovS (x : List S154) : Prop := x.length ≤ 1048576
theorem okMovS_c (x : List S170) (h : (x.length : Int) ≤ 1048576) : okMovS (cMovS x) := by
 unfold okMovS cMovS
 rw [List.length_map]; omega
theorem eqMovS_refl (x : List S154) (h : okMovS x) : Ev (fun k => laws_eqMovS.f k x x) true := by
 unfold laws_eqMovS.f
 refine Ev.yes rfl ?_
 exact eq_loop (l0 := laws_eqMovS.l0) (rdA := rd_T154) (E := fun k a b => laws_eqMov.f a.f0 a.f1.f0 a.f1.f1 b.f0 b.f1.f0 b.f1.f1) (zA := z154) (fun k x y i => by simp only [laws_eqMovS.l0]) (fun _ _ => rfl) x h (fun a ha => eqMov_refl a)
def cValS (x : List S163) : List S130 := x.map cVal
theorem mValS_nonneg (x : List S163) : (0 : Int) ≤ (x.length : Int) := by omega
def mValS (x : List S163) : Int := (x.length : Int)
theorem mValS_nonneg' (x : List S163) : 0 ≤ mValS x := mValS_nonneg x
theorem szValS_ev (x : List S163) (w : x.length ≤ 9223372036854775807 ∧ ∀ z ∈ x, wf163 z) (a : Int) (h0 : 0 ≤ a) (h1 : a ≤ 1048576) : Ev (fun _ => laws_szValS.f x a) (left (x.length : Int) a) := by
 unfold laws_szValS.f
 have h := sz_len (n := x.length) (a := a) (F := fun _ t => some t) (m := 0) (by omega) w.1 h0 h1 (fun h => by rw [left_zero (by omega)]; exact Ev.now _)
 simpa using h
theorem toValS_ev (x : List S163) (h : (x.length : Int) ≤ 1048576) : Ev (fun k => laws_toValS.f k x) (cValS x) := by
 unfold laws_toValS.f
 refine Ev.yes (by omega) (Ev.yes (by simp; omega) ?_)
 exact to_loop (l0 := laws_toValS.l0) (rdA := rd_T163) (E := fun k z => laws_toVal.f z.f0 z.f1) (mk := fun r => (⟨r.1, r.2⟩ : S130)) (conv := cVal) (zA := z163) (zB := z130) (fun k x y i => by simp only [laws_toValS.l0]) (fun _ _ => rfl) x (by omega) (fun z hz => ⟨_, ⟨0, fun _ _ => rfl⟩, rfl⟩)
def okValS (x : List S130) : Prop := x.length ≤ 1048576
theorem okValS_c (x : List S163) (h : (x.length : Int) ≤ 1048576) : okValS (cValS x) := by
 unfold okValS cValS
 rw [List.length_map]; omega
theorem eqValS_refl (x : List S130) (h : okValS x) : Ev (fun k => laws_eqValS.f k x x) true := by
 unfold laws_eqValS.f
 refine Ev.yes rfl ?_
 exact eq_loop (l0 := laws_eqValS.l0) (rdA := rd_T130) (E := fun k a b => laws_eqVal.f a.f0 a.f1 b.f0 b.f1) (zA := z130) (fun k x y i => by simp only [laws_eqValS.l0]) (fun _ _ => rfl) x h (fun a ha => eqVal_refl a)
def cAsmIns (x : S151) : S123 := ⟨(cMovS x.f0), x.f1, x.f2, (cValS x.f3), x.f4⟩
def mAsmIns (x : S151) : Int := (x.f0.length : Int) + (x.f3.length : Int)
theorem mAsmIns_nonneg (x : S151) : 0 ≤ mAsmIns x := by
 unfold mAsmIns
 have h0 : (0 : Int) ≤ (x.f0.length : Int) := mMovS_nonneg _
 have h3 : (0 : Int) ≤ (x.f3.length : Int) := mValS_nonneg _
 omega
theorem toAsmIns_ev (x : S151) (h : mAsmIns x ≤ 1048576) : Ev (fun k => laws_toAsmIns.f k x.f0 x.f1 x.f2 x.f3 x.f4) ((cMovS x.f0), x.f1, x.f2, (cValS x.f3), x.f4) := by
 unfold mAsmIns at h
 have p0 : (0 : Int) ≤ (x.f0.length : Int) := mMovS_nonneg _
 have p3 : (0 : Int) ≤ (x.f3.length : Int) := mValS_nonneg _
 have h0 : (x.f0.length : Int) ≤ 1048576 := by omega
 have h3 : (x.f3.length : Int) ≤ 1048576 := by omega
 unfold laws_toAsmIns.f
 exact Ev.bind (toMovS_ev x.f0 h0) (Ev.bind (toValS_ev x.f3 h3) (Ev.now _))
theorem szAsmIns_ev (x : S151) (w : wf151 x) (a : Int) (h0 : 0 ≤ a) (h1 : a ≤ 1048576) : Ev (fun k => laws_szAsmIns.f x.f0 x.f1 x.f2 x.f3 x.f4 a) (left (mAsmIns x) a) := by
 obtain ⟨w0, w1, w2, w3, w4⟩ := w
 have p0 : (0 : Int) ≤ (x.f0.length : Int) := mMovS_nonneg _
 have p3 : (0 : Int) ≤ (x.f3.length : Int) := mValS_nonneg _
 have e : mAsmIns x = (x.f0.length : Int) + ((x.f3.length : Int)) := by unfold mAsmIns; omega
 rw [e]
 unfold laws_szAsmIns.f
 exact sz_then (mMovS_nonneg _) (by omega) (by omega) (by omega) (szMovS_ev x.f0 w0 a (by omega) (by omega)) (fun hq0 => sz_last (mValS_nonneg _) (szValS_ev x.f3 w3 (a - (x.f0.length : Int)) (by omega) (by omega)))
def okAsmIns (x : S123) : Prop := okMovS x.f0 ∧ okValS x.f3
theorem okAsmIns_c (x : S151) (h : mAsmIns x ≤ 1048576) : okAsmIns (cAsmIns x) := by
 unfold mAsmIns at h
 have p0 : (0 : Int) ≤ (x.f0.length : Int) := mMovS_nonneg _
 have p3 : (0 : Int) ≤ (x.f3.length : Int) := mValS_nonneg _
 exact ⟨okMovS_c _ (by omega), okValS_c _ (by omega)⟩
theorem eqAsmIns_refl (x : S123) (h : okAsmIns x) : Ev (fun k => laws_eqAsmIns.f k x.f0 x.f1 x.f2 x.f3 x.f4 x.f0 x.f1 x.f2 x.f3 x.f4) true := by
 obtain ⟨h0, h3⟩ := h
 unfold laws_eqAsmIns.f
 exact Ev.bind (eqMovS_refl x.f0 h0) (Ev.yes rfl (Ev.yes rfl (Ev.yes rfl (Ev.bind (eqValS_refl x.f3 h3) (Ev.yes rfl (Ev.yes rfl (Ev.now _)))))))
def cAsmInsS (x : List S151) : List S123 := x.map cAsmIns
theorem mAsmInsS_nonneg (x : List S151) : (0 : Int) ≤ (x.length + sumL mAsmIns x : Int) := by have := sumL_nonneg mAsmIns_nonneg x; omega
theorem szAsmInsS_ev (x : List S151) (w : x.length ≤ 9223372036854775807 ∧ ∀ z ∈ x, wf151 z) (a : Int) (h0 : 0 ≤ a) (h1 : a ≤ 1048576) : Ev (fun k => laws_szAsmInsS.f k x a) (left (x.length + sumL mAsmIns x : Int) a) := by
 unfold laws_szAsmInsS.f
 refine sz_len (F := fun k t => laws_szAsmInsS.l0 k x t 0) (sumL_nonneg mAsmIns_nonneg x) w.1 h0 h1 (fun h => ?_)
 exact sz_loop (l0 := laws_szAsmInsS.l0) (rdA := rd_T151) (E := fun k z a => laws_szAsmIns.f z.f0 z.f1 z.f2 z.f3 z.f4 a) (zA := z151) (m := mAsmIns) mAsmIns_nonneg (fun k x a i => by simp only [laws_szAsmInsS.l0]) (fun _ _ => rfl) x (by omega) (fun z hz a h0 h1 => szAsmIns_ev z (w.2 z hz) a h0 h1) _ (by omega) (by omega)
theorem toAsmInsS_ev (x : List S151) (h : (x.length + sumL mAsmIns x : Int) ≤ 1048576) : Ev (fun k => laws_toAsmInsS.f k x) (cAsmInsS x) := by
 unfold laws_toAsmInsS.f
 have hs := sumL_nonneg mAsmIns_nonneg x
 refine Ev.yes (by omega) (Ev.yes (by simp; omega) ?_)
 exact to_loop (l0 := laws_toAsmInsS.l0) (rdA := rd_T151) (E := fun k z => laws_toAsmIns.f k z.f0 z.f1 z.f2 z.f3 z.f4) (mk := fun r => (⟨r.1, r.2.1, r.2.2.1, r.2.2.2.1, r.2.2.2.2⟩ : S123)) (conv := cAsmIns) (zA := z151) (zB := z123) (fun k x y i => by simp only [laws_toAsmInsS.l0]) (fun _ _ => rfl) x (by omega) (fun z hz => ⟨_, toAsmIns_ev z (by have := sumL_mem mAsmIns_nonneg hz; omega), rfl⟩)
def okAsmInsS (x : List S123) : Prop := x.length ≤ 1048576 ∧ ∀ z ∈ x, okAsmIns z
theorem okAsmInsS_c (x : List S151) (h : (x.length + sumL mAsmIns x : Int) ≤ 1048576) : okAsmInsS (cAsmInsS x) := by
 have hs := sumL_nonneg mAsmIns_nonneg x
 refine ⟨by unfold cAsmInsS; rw [List.length_map]; omega, fun z hz => ?_⟩
 obtain ⟨y, hy, rfl⟩ := List.mem_map.1 hz
 exact okAsmIns_c y (by have := sumL_mem mAsmIns_nonneg hy; omega)
theorem eqAsmInsS_refl (x : List S123) (h : okAsmInsS x) : Ev (fun k => laws_eqAsmInsS.f k x x) true := by
 unfold laws_eqAsmInsS.f
 refine Ev.yes rfl ?_
 exact eq_loop (l0 := laws_eqAsmInsS.l0) (rdA := rd_T123) (E := fun k a b => laws_eqAsmIns.f k a.f0 a.f1 a.f2 a.f3 a.f4 b.f0 b.f1 b.f2 b.f3 b.f4) (zA := z123) (fun k x y i => by simp only [laws_eqAsmInsS.l0]) (fun _ _ => rfl) x h.1 (fun a ha => eqAsmIns_refl a (h.2 a ha))
def cValSS (x : List (List S163)) : List (List S130) := x.map cValS
theorem mValSS_nonneg (x : List (List S163)) : (0 : Int) ≤ (x.length + sumL mValS x : Int) := by have := sumL_nonneg mValS_nonneg' x; omega
theorem szValSS_ev (x : List (List S163)) (w : x.length ≤ 9223372036854775807 ∧ ∀ z ∈ x, (z.length ≤ 9223372036854775807 ∧ ∀ z' ∈ z, wf163 z')) (a : Int) (h0 : 0 ≤ a) (h1 : a ≤ 1048576) : Ev (fun k => laws_szValSS.f k x a) (left (x.length + sumL mValS x : Int) a) := by
 unfold laws_szValSS.f
 refine sz_len (F := fun k t => laws_szValSS.l0 k x t 0) (sumL_nonneg mValS_nonneg' x) w.1 h0 h1 (fun h => ?_)
 exact sz_loop (l0 := laws_szValSS.l0) (rdA := rd_L4) (E := fun k z a => laws_szValS.f z a) (zA := []) (m := mValS) mValS_nonneg' (fun k x a i => by simp only [laws_szValSS.l0]) (fun _ _ => rfl) x (by omega) (fun z hz a h0 h1 => szValS_ev z (w.2 z hz) a h0 h1) _ (by omega) (by omega)
theorem toValSS_ev (x : List (List S163)) (h : (x.length + sumL mValS x : Int) ≤ 1048576) : Ev (fun k => laws_toValSS.f k x) (cValSS x) := by
 unfold laws_toValSS.f
 have hs := sumL_nonneg mValS_nonneg' x
 refine Ev.yes (by omega) (Ev.yes (by simp; omega) ?_)
 exact to_loop (l0 := laws_toValSS.l0) (rdA := rd_L4) (E := fun k z => laws_toValS.f k z) (mk := fun r => r) (conv := cValS) (zA := []) (zB := []) (fun k x y i => by simp only [laws_toValSS.l0]) (fun _ _ => rfl) x (by omega) (fun z hz => ⟨_, toValS_ev z (by have := sumL_mem mValS_nonneg' hz; have e2 : mValS z = (z.length : Int) := rfl; omega), rfl⟩)
def okValSS (x : List (List S130)) : Prop := x.length ≤ 1048576 ∧ ∀ z ∈ x, okValS z
theorem okValSS_c (x : List (List S163)) (h : (x.length + sumL mValS x : Int) ≤ 1048576) : okValSS (cValSS x) := by
 have hs := sumL_nonneg mValS_nonneg' x
 refine ⟨by unfold cValSS; rw [List.length_map]; omega, fun z hz => ?_⟩
 obtain ⟨y, hy, rfl⟩ := List.mem_map.1 hz
 exact okValS_c y (by have := sumL_mem mValS_nonneg' hy; have e2 : mValS y = (y.length : Int) := rfl; omega)
theorem eqValSS_refl (x : List (List S130)) (h : okValSS x) : Ev (fun k => laws_eqValSS.f k x x) true := by
 unfold laws_eqValSS.f
 refine Ev.yes rfl ?_
 exact eq_loop (l0 := laws_eqValSS.l0) (rdA := rd_L9) (E := fun k a b => laws_eqValS.f k a b) (zA := []) (fun k x y i => by simp only [laws_eqValSS.l0]) (fun _ _ => rfl) x h.1 (fun a ha => eqValS_refl a (h.2 a ha))
def cAsm (x : S73) : S79 := ⟨x.f0, (cAsmInsS x.f1), (cValSS x.f2)⟩
def mAsm (x : S73) : Int := (x.f1.length + sumL mAsmIns x.f1 : Int) + (x.f2.length + sumL mValS x.f2 : Int)
theorem mAsm_nonneg (x : S73) : 0 ≤ mAsm x := by
 unfold mAsm
 have h1 : (0 : Int) ≤ (x.f1.length + sumL mAsmIns x.f1 : Int) := mAsmInsS_nonneg _
 have h2 : (0 : Int) ≤ (x.f2.length + sumL mValS x.f2 : Int) := mValSS_nonneg _
 omega
theorem toAsm_ev (x : S73) (h : mAsm x ≤ 1048576) : Ev (fun k => laws_toAsm.f k x.f0 x.f1 x.f2) (x.f0, (cAsmInsS x.f1), (cValSS x.f2)) := by
 unfold mAsm at h
 have p1 : (0 : Int) ≤ (x.f1.length + sumL mAsmIns x.f1 : Int) := mAsmInsS_nonneg _
 have p2 : (0 : Int) ≤ (x.f2.length + sumL mValS x.f2 : Int) := mValSS_nonneg _
 have h1 : (x.f1.length + sumL mAsmIns x.f1 : Int) ≤ 1048576 := by omega
 have h2 : (x.f2.length + sumL mValS x.f2 : Int) ≤ 1048576 := by omega
 unfold laws_toAsm.f
 exact Ev.bind (toAsmInsS_ev x.f1 h1) (Ev.bind (toValSS_ev x.f2 h2) (Ev.now _))
theorem szAsm_ev (x : S73) (w : wf73 x) (a : Int) (h0 : 0 ≤ a) (h1 : a ≤ 1048576) : Ev (fun k => laws_szAsm.f k x.f0 x.f1 x.f2 a) (left (mAsm x) a) := by
 obtain ⟨w0, w1, w2⟩ := w
 have p1 : (0 : Int) ≤ (x.f1.length + sumL mAsmIns x.f1 : Int) := mAsmInsS_nonneg _
 have p2 : (0 : Int) ≤ (x.f2.length + sumL mValS x.f2 : Int) := mValSS_nonneg _
 have e : mAsm x = (x.f1.length + sumL mAsmIns x.f1 : Int) + ((x.f2.length + sumL mValS x.f2 : Int)) := by unfold mAsm; omega
 rw [e]
 unfold laws_szAsm.f
 exact sz_then (mAsmInsS_nonneg _) (by omega) (by omega) (by omega) (szAsmInsS_ev x.f1 w1 a (by omega) (by omega)) (fun hq1 => sz_last (mValSS_nonneg _) (szValSS_ev x.f2 w2 (a - (x.f1.length + sumL mAsmIns x.f1 : Int)) (by omega) (by omega)))
def okAsm (x : S79) : Prop := okAsmInsS x.f1 ∧ okValSS x.f2
theorem okAsm_c (x : S73) (h : mAsm x ≤ 1048576) : okAsm (cAsm x) := by
 unfold mAsm at h
 have p1 : (0 : Int) ≤ (x.f1.length + sumL mAsmIns x.f1 : Int) := mAsmInsS_nonneg _
 have p2 : (0 : Int) ≤ (x.f2.length + sumL mValS x.f2 : Int) := mValSS_nonneg _
 exact ⟨okAsmInsS_c _ (by omega), okValSS_c _ (by omega)⟩
theorem eqAsm_refl (x : S79) (h : okAsm x) : Ev (fun k => laws_eqAsm.f k x.f0 x.f1 x.f2 x.f0 x.f1 x.f2) true := by
 obtain ⟨h1, h2⟩ := h
 unfold laws_eqAsm.f
 exact Ev.yes rfl (Ev.bind (eqAsmInsS_refl x.f1 h1) (Ev.yes rfl (Ev.bind (eqValSS_refl x.f2 h2) (Ev.yes rfl (Ev.now _)))))
theorem same_loop {α : Type} {L : Nat → Int → Option Bool} {E : Nat → α → α → Option Bool} {s : α → α → Bool} {fin : Nat → Option Bool} {R : Bool} (z : α) (x y : List α) (hxy : x.length = y.length) (hx : x.length ≤ 1048576)
  (h1 : ∀ (k i : Nat), i < x.length → L (k + 1) (i : Int) = (E k (x.getD i z) (y.getD i z)).bind fun t => if t = true then L k (wrap64 ((i : Int) + 1)) else some false)
  (h0 : ∀ (k i : Nat), x.length ≤ i → L (k + 1) (i : Int) = fin k)
  (hE : ∀ a ∈ x, ∀ b, Ev (fun k => E k a b) (s a b)) (hf : Ev fin R) : Ev (fun k => L k 0) (sameL s x y && R) := by
 have key : ∀ (d i : Nat), i + d = x.length → Ev (fun k => L k (i : Int)) (sameL s (x.drop i) (y.drop i) && R) := by
  intro d
  induction d with
  | zero =>
   intro i hi
   refine Ev.succ ?_
   simp only [h0 _ i (show x.length ≤ i by omega)]
   rw [List.drop_of_length_le (by omega), List.drop_of_length_le (by omega)]
   simpa [sameL] using hf
  | succ d ih =>
   intro i hi
   have hlt : i < x.length := by omega
   refine Ev.succ ?_
   simp only [h1 _ i hlt]
   rw [drop_at x z i hlt, drop_at y z i (by omega), wrap_in (by omega) (by omega)]
   have hm : x.getD i z ∈ x := by
    rw [List.getD_eq_getElem?_getD, List.getElem?_eq_getElem hlt]; exact List.getElem_mem hlt
   refine Ev.bind (hE _ hm _) ?_
   simp only [sameL]
   cases h : s (x.getD i z) (y.getD i z) with
   | true => exact Ev.yes rfl (by rw [Bool.true_and]; exact ih (i + 1) (by omega))
   | false => exact Ev.no (by simp) (by rw [Bool.false_and, Bool.false_and]; exact Ev.now false)
 exact key x.length 0 (by omega)
theorem neq2 (p q : Bool) (A : Option Bool) : (if (!p || !q) = true then some false else A) = (some (p && q)).bind fun t => if t = true then A else some false := by cases p <;> cases q <;> rfl
theorem neq3 (p q r : Bool) (A : Option Bool) : (if (!p || (!q || !r)) = true then some false else A) = (some (p && (q && r))).bind fun t => if t = true then A else some false := by cases p <;> cases q <;> cases r <;> rfl
def sV (a b : S130) : Bool := a.f0 == b.f0 && a.f1 == b.f1
def sM (a b : S154) : Bool := a.f0 == b.f0 && (a.f1.f0 == b.f1.f0 && a.f1.f1 == b.f1.f1)
def sAI (a b : S123) : Bool := sameL sM a.f0 b.f0 && (a.f1 == b.f1 && (a.f2 == b.f2 && (sameL sV a.f3 b.f3 && a.f4 == b.f4)))
theorem implVals_ev (x y : List S130) (hx : x.length ≤ 1048576) : Ev (fun k => impl_Val_95.f k x y) (sameL sV x y) := by
 unfold impl_Val_95.f
 refine Ev.cases (fun h => ?_) (fun h => by rw [sameL_len x y (by omega)]; exact Ev.now _)
 have := same_loop (L := fun k i => impl_Val_95.l0 k x y (x.length : Int) i) (E := fun _ a b => some (sV a b)) (s := sV) (fin := fun _ => some true) (R := true) z130 x y (by omega) hx
  (fun k i hi => by
   simp only [impl_Val_95.l0]
   rw [if_pos (by omega), if_pos (by omega), if_pos (by omega), if_pos (by omega)]
   exact neq2 _ _ _)
  (fun k i hi => by simp only [impl_Val_95.l0]; rw [if_neg (by omega)]) (fun a _ b => Ev.now _) (Ev.now _)
 rw [Bool.and_true] at this
 exact this
theorem specVals_ev (x y : List S130) (hx : x.length ≤ 1048576) : Ev (fun k => spec_l10SameVals.f k x y) (sameL sV x y) := by
 unfold spec_l10SameVals.f
 refine Ev.cases (fun h => ?_) (fun h => by rw [sameL_len x y (by omega)]; exact Ev.now _)
 have := same_loop (L := fun k i => spec_l10SameVals.l0 k x y i) (E := fun _ a b => some (sV a b)) (s := sV) (fin := fun _ => some true) (R := true) z130 x y (by omega) hx
  (fun k i hi => by
   simp only [spec_l10SameVals.l0]
   rw [if_pos (by omega), if_pos (by omega), if_pos (by omega)]
   exact neq2 _ _ _)
  (fun k i hi => by simp only [spec_l10SameVals.l0]; rw [if_neg (by omega)]) (fun a _ b => Ev.now _) (Ev.now _)
 rw [Bool.and_true] at this
 exact this
theorem implMov_ev (x y : List S154) (hx : x.length ≤ 1048576) : Ev (fun k => impl_Mov.f k x y) (sameL sM x y) := by
 unfold impl_Mov.f
 refine Ev.cases (fun h => ?_) (fun h => by rw [sameL_len x y (by omega)]; exact Ev.now _)
 have := same_loop (L := fun k i => impl_Mov.l0 k x y (x.length : Int) i) (E := fun _ a b => some (sM a b)) (s := sM) (fin := fun _ => some true) (R := true) z154 x y (by omega) hx
  (fun k i hi => by
   simp only [impl_Mov.l0]
   rw [if_pos (by omega), if_pos (by omega), if_pos (by omega), if_pos (by omega)]
   exact neq3 _ _ _ _)
  (fun k i hi => by simp only [impl_Mov.l0]; rw [if_neg (by omega)]) (fun a _ b => Ev.now _) (Ev.now _)
 rw [Bool.and_true] at this
 exact this
theorem implIns_ev (a b : S123) (ha : okAsmIns a) : Ev (fun k => impl_sameIns.f k a.f0 a.f1 a.f2 a.f3 a.f4 b.f0 b.f1 b.f2 b.f3 b.f4) (sAI a b) := by
 unfold impl_sameIns.f sAI
 refine Ev.bind (implMov_ev a.f0 b.f0 ha.1) ?_
 cases sameL sM a.f0 b.f0 with
 | false => exact Ev.no (by simp) (Ev.now _)
 | true =>
  rw [Bool.true_and]
  refine Ev.yes rfl (Ev.cases (fun h1 => ?_) (fun h1 => by rw [beq_no h1]; exact Ev.now _))
  rw [beq_iff_eq.2 h1, Bool.true_and]
  refine Ev.cases (fun h2 => ?_) (fun h2 => by rw [beq_no h2]; exact Ev.now _)
  rw [beq_iff_eq.2 h2, Bool.true_and]
  refine Ev.bind (implVals_ev a.f3 b.f3 ha.2) ?_
  cases sameL sV a.f3 b.f3 with
  | false => exact Ev.no (by simp) (Ev.now _)
  | true => exact Ev.yes rfl (Ev.now _)
theorem specIns_ev (a b : S123) (ha : okAsmIns a) : Ev (fun k => spec_l10SameIns.f k a.f0 a.f1 a.f2 a.f3 a.f4 b.f0 b.f1 b.f2 b.f3 b.f4) (sAI a b) := by
 unfold spec_l10SameIns.f
 have jt : Ev (fun k => spec_l10SameIns.j0 k true a.f0 a.f1 a.f2 a.f3 a.f4 b.f0 b.f1 b.f2 b.f3 b.f4) false := by
  refine Ev.succ ?_
  simp only [spec_l10SameIns.j0]
  exact Ev.yes (by simp) (Ev.now _)
 refine Ev.cases (fun h1 => ?_) (fun h1 => by rw [show sAI a b = false by simp [sAI, h1]]; exact jt)
 refine Ev.cases (fun h2 => ?_) (fun h2 => by rw [show sAI a b = false by simp [sAI, h2]]; exact jt)
 refine Ev.cases (fun h3 => ?_) (fun h3 => by rw [show sAI a b = false by simp [sAI, h3]]; exact jt)
 refine Ev.cases (fun h4 => ?_) (fun h4 => by rw [show sAI a b = false by simp [sAI, sameL_len a.f0 b.f0 (by omega)]]; exact jt)
 refine Ev.bind (specVals_ev a.f3 b.f3 ha.2) ?_
 cases h5 : sameL sV a.f3 b.f3 with
 | false => rw [show sAI a b = false by simp [sAI, h5]]; exact jt
 | true =>
  have e : sAI a b = sameL sM a.f0 b.f0 := by simp [sAI, h1, h2, h3, h5]
  rw [e]
  refine Ev.succ ?_
  simp only [spec_l10SameIns.j0]
  refine Ev.no (by simp) ?_
  have := same_loop (L := fun k i => spec_l10SameIns.l0 k i a.f0 a.f1 a.f2 a.f3 a.f4 b.f0 b.f1 b.f2 b.f3 b.f4) (E := fun _ a b => some (sM a b)) (s := sM) (fin := fun _ => some true) (R := true) z154 a.f0 b.f0 (by omega) ha.1
   (fun k i hi => by
    simp only [spec_l10SameIns.l0]
    rw [if_pos (by omega), if_pos (by omega), if_pos (by omega)]
    exact neq3 _ _ _ _)
   (fun k i hi => by simp only [spec_l10SameIns.l0]; rw [if_neg (by omega)]) (fun a _ b => Ev.now _) (Ev.now _)
  rw [Bool.and_true] at this
  exact this
def sAsm (a b : S79) : Bool := a.f0 == b.f0 && (sameL sAI a.f1 b.f1 && sameL (sameL sV) a.f2 b.f2)
theorem implAsm_ev (a b : S79) (ha : okAsm a) : Ev (fun k => impl_AsmSame.f k a.f0 a.f1 a.f2 b.f0 b.f1 b.f2) (sAsm a b) := by
 unfold impl_AsmSame.f sAsm
 refine Ev.cases (fun h1 => ?_) (fun h1 => by rw [beq_no h1]; exact Ev.now _)
 rw [beq_iff_eq.2 h1, Bool.true_and]
 have c : Ev (fun k => impl_AsmIns.f k a.f1 b.f1) (sameL sAI a.f1 b.f1) := by
  unfold impl_AsmIns.f
  refine Ev.cases (fun h => ?_) (fun h => by rw [sameL_len a.f1 b.f1 (by omega)]; exact Ev.now _)
  have := same_loop (L := fun k i => impl_AsmIns.l0 k b.f1 a.f1 (a.f1.length : Int) i) (E := fun k p q => impl_sameIns.f k p.f0 p.f1 p.f2 p.f3 p.f4 q.f0 q.f1 q.f2 q.f3 q.f4) (s := sAI) (fin := fun _ => some true) (R := true) z123 a.f1 b.f1 (by omega) ha.1.1
   (fun k i hi => by
    simp only [impl_AsmIns.l0]
    rw [if_pos (by omega), if_pos (by omega), if_pos (by omega), if_pos (by omega)]
    rfl)
   (fun k i hi => by simp only [impl_AsmIns.l0]; rw [if_neg (by omega)]) (fun p hp q => implIns_ev p q (ha.1.2 p hp)) (Ev.now _)
  rw [Bool.and_true] at this
  exact this
 have m : Ev (fun k => impl_Val_94.f k a.f2 b.f2) (sameL (sameL sV) a.f2 b.f2) := by
  unfold impl_Val_94.f
  refine Ev.cases (fun h => ?_) (fun h => by rw [sameL_len a.f2 b.f2 (by omega)]; exact Ev.now _)
  have := same_loop (L := fun k i => impl_Val_94.l0 k b.f2 a.f2 (a.f2.length : Int) i) (E := fun k p q => impl_Val_95.f k p q) (s := sameL sV) (fin := fun _ => some true) (R := true) [] a.f2 b.f2 (by omega) ha.2.1
   (fun k i hi => by
    simp only [impl_Val_94.l0]
    rw [if_pos (by omega), if_pos (by omega), if_pos (by omega), if_pos (by omega)]
    rfl)
   (fun k i hi => by simp only [impl_Val_94.l0]; rw [if_neg (by omega)]) (fun p hp q => implVals_ev p q (ha.2.2 p hp)) (Ev.now _)
  rw [Bool.and_true] at this
  exact this
 refine Ev.bind c ?_
 cases sameL sAI a.f1 b.f1 with
 | false => exact Ev.no (by simp) (Ev.now _)
 | true => exact Ev.yes rfl (by rw [Bool.true_and]; exact Ev.bind m (Ev.now _))
theorem specAsm_ev (a b : S79) (ha : okAsm a) : Ev (fun k => spec_AsmSame.f k a.f0 a.f1 a.f2 b.f0 b.f1 b.f2) (sAsm a b) := by
 unfold spec_AsmSame.f
 have jt : Ev (fun k => spec_AsmSame.j0 k true a.f0 a.f1 a.f2 b.f0 b.f1 b.f2) false := by
  refine Ev.succ ?_
  simp only [spec_AsmSame.j0]
  exact Ev.yes (by simp) (Ev.now _)
 refine Ev.cases (fun h1 => ?_) (fun h1 => by rw [show sAsm a b = false by simp [sAsm, h1]]; exact jt)
 refine Ev.cases (fun h2 => ?_) (fun h2 => by rw [show sAsm a b = false by simp [sAsm, sameL_len a.f1 b.f1 (by omega)]]; exact jt)
 by_cases h3 : (a.f2.length : Int) = (b.f2.length : Int)
 case neg =>
  rw [show ((a.f2.length : Int) != (b.f2.length : Int)) = true by simp; omega, show sAsm a b = false by simp [sAsm, sameL_len a.f2 b.f2 (by omega)]]
  exact jt
 rw [show ((a.f2.length : Int) != (b.f2.length : Int)) = false by simp; omega]
 have e : sAsm a b = (sameL sAI a.f1 b.f1 && (sameL (sameL sV) a.f2 b.f2 && true)) := by simp [sAsm, h1]
 rw [e]
 refine Ev.succ ?_
 simp only [spec_AsmSame.j0]
 refine Ev.no (by simp) ?_
 have m := same_loop (L := fun k i => spec_AsmSame.l1 k i a.f0 a.f1 a.f2 b.f0 b.f1 b.f2) (E := fun k p q => spec_l10SameVals.f k p q) (s := sameL sV) (fin := fun _ => some true) (R := true) [] a.f2 b.f2 (by omega) ha.2.1
  (fun k i hi => by
   simp only [spec_AsmSame.l1]
   rw [if_pos (by omega), if_pos (by omega), if_pos (by omega)]
   rfl)
  (fun k i hi => by simp only [spec_AsmSame.l1]; rw [if_neg (by omega)]) (fun p hp q => specVals_ev p q (ha.2.2 p hp)) (Ev.now _)
 exact same_loop (L := fun k i => spec_AsmSame.l0 k i a.f0 a.f1 a.f2 b.f0 b.f1 b.f2) (E := fun k p q => spec_l10SameIns.f k p.f0 p.f1 p.f2 p.f3 p.f4 q.f0 q.f1 q.f2 q.f3 q.f4) (s := sAI) (fin := fun k => spec_AsmSame.l1 k 0 a.f0 a.f1 a.f2 b.f0 b.f1 b.f2) z123 a.f1 b.f1 (by omega) ha.1.1
  (fun k i hi => by
   simp only [spec_AsmSame.l0]
   rw [if_pos (by omega), if_pos (by omega), if_pos (by omega)]
   rfl)
  (fun k i hi => by simp only [spec_AsmSame.l0]; rw [if_neg (by omega)]) (fun p hp q => specIns_ev p q (ha.1.2 p hp)) m
theorem FnExactAsmSame (x : S73) (wx : wf73 x) (y : S73) (wy : wf73 y) : ∃ k, laws_FnExactAsmSame.f k x.f0 x.f1 x.f2 y.f0 y.f1 y.f2 = some true := by
 refine Ev.rounds ?_
 unfold laws_FnExactAsmSame.f
 have hmx := mAsm_nonneg x
 have hmy := mAsm_nonneg y
 refine Ev.bind (szAsm_ev x wx 1048576 (by omega) (by omega)) ?_
 by_cases h : mAsm x ≤ 1048576
 case neg => rw [left_no h]; exact Ev.yes (by omega) (Ev.now _)
 have e1 : left (mAsm x) 1048576 = 1048576 - mAsm x := by simp [left, h]
 rw [e1]
 refine Ev.no (by omega) (Ev.bind (szAsm_ev y wy _ (by omega) (by omega)) ?_)
 by_cases h2 : mAsm y ≤ 1048576 - mAsm x
 case neg => rw [left_no h2]; exact Ev.yes (by omega) (Ev.now _)
 have e2 : left (mAsm y) (1048576 - mAsm x) = 1048576 - mAsm x - mAsm y := by simp [left, h2]
 rw [e2]
 have tx := toAsm_ev x h
 have ty := toAsm_ev y (by omega)
 have ox := okAsm_c x h
 have oy := okAsm_c y (by omega)
 refine Ev.no (by omega) (Ev.bind tx (Ev.bind ty (Ev.bind (specAsm_ev (cAsm x) (cAsm y) ox) (Ev.bind tx (Ev.bind ty (Ev.bind (implAsm_ev (cAsm x) (cAsm y) ox) (Ev.no (by simp) ?_)))))))
 exact Ev.bind tx (Ev.bind (eqAsm_refl (cAsm x) ox) (Ev.yes rfl (Ev.bind ty (Ev.bind (eqAsm_refl (cAsm y) oy) (Ev.yes rfl (Ev.now _))))))
end Go.Proofs.Ytkmohnlkldkhdaa.Pure
