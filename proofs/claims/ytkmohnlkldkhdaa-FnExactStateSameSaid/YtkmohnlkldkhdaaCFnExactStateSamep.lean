/- FnExactStateSame: the program's StateSame answers what the reference's answers, for all states. No condition. -/
import Derived.Test.YtkmohnlkldkhdaaCFnExactStateSamex
import Derived.Test.YtkmohnlkldkhdaaCFnExactStateSamef
namespace Go.Proofs.Ytkmohnlkldkhdaa.Pure
open Go.RowKit Go.Proofs.Ytkmohnlkldkhdaa.QFnExactStateSame Go.Proofs.YtkmohnlkldkhdaaW.PrintWords Go.Proofs.YtkmohnlkldkhdaaW.PrintLast
set_option linter.unusedVariables false
set_option linter.unusedSimpArgs false
structure S67 where
 f0 : (List S111)
 f1 : (List (List Int))
 f2 : (List Int)
 f3 : Int
 f4 : Bool
 f5 : Int
 f6 : Int
theorem Ev.succ {α : Type} {g : Nat → Option α} {r : α} (h : Ev (fun k => g (k + 1)) r) : Ev g r := Ev.step (fun _ => rfl) h
theorem Ev.yes {α : Type} {c : Prop} [Decidable c] {g f : Nat → Option α} {r : α} (hc : c) (h : Ev g r) : Ev (fun k => if c then g k else f k) r := Ev.congr (fun _ => if_pos hc) h
theorem Ev.no {α : Type} {c : Prop} [Decidable c] {g f : Nat → Option α} {r : α} (hc : ¬ c) (h : Ev f r) : Ev (fun k => if c then g k else f k) r := Ev.congr (fun _ => if_neg hc) h
theorem Ev.cases {α : Type} {c : Prop} [Decidable c] {g f : Nat → Option α} {r : α} (h1 : c → Ev g r) (h2 : ¬ c → Ev f r) : Ev (fun k => if c then g k else f k) r := by
 by_cases hc : c
 ·exact Ev.yes hc (h1 hc)
 ·exact Ev.no hc (h2 hc)
/-- A call that needs no rounds. -/
theorem wrap_in {n : Int} (h0 : -9223372036854775808 ≤ n) (h1 : n ≤ 9223372036854775807) : wrap64 n = n := by unfold wrap64; omega
theorem drop_at {α : Type} (x : List α) (z : α) (i : Nat) (h : i < x.length) : x.drop i = x.getD i z :: x.drop (i + 1) := by
 rw [List.drop_eq_getElem_cons h, List.getD_eq_getElem?_getD, List.getElem?_eq_getElem h]; rfl
/-- Two lists, place by place. -/
def sameL {α : Type} (s : α → α → Bool) : List α → List α → Bool
 | [], [] => true
 | a :: x, b :: y => s a b && sameL s x y
 | _, _ => false
theorem sameL_len {α : Type} {s : α → α → Bool} : ∀ x y : List α, x.length ≠ y.length → sameL s x y = false
 | [], [], h => absurd rfl h
 | [], _ :: _, _ => rfl
 | _ :: _, [], _ => rfl
 | a :: x, b :: y, h => by simp [sameL, sameL_len x y (fun e => h (by simp [e]))]
theorem beq_no {a b : Int} (h : ¬ a = b) : (a == b) = false := beq_eq_false_iff_ne.2 h
theorem idx_next {i n : Nat} (h : i < n) (hn : n ≤ 1048576) : wrap64 ((i : Int) + 1) = ((i + 1 : Nat) : Int) := by rw [wrap_in (by omega) (by omega)]; simp
theorem to_loop {α β ρ : Type} {l0 : Nat → List α → List β → Int → Option (List β)} {rdA : List α → Int → α} {E : Nat → α → Option ρ} {mk : ρ → β} {conv : α → β} {zA : α} {zB : β}
  (hl : ∀ k x y i, l0 (k + 1) x y i = if i < (x.length : Int) then (if 0 ≤ i then (E k (rdA x i)).bind fun r => (if i < (y.length : Int) then l0 k x (y.set i.toNat (mk r)) (wrap64 (i + 1)) else none) else none) else some y)
  (hrd : ∀ (x : List α) (i : Nat), rdA x (i : Int) = x.getD i zA) (x : List α) (hx : x.length ≤ 1048576) (hE : ∀ a ∈ x, ∃ r, Ev (fun k => E k a) r ∧ mk r = conv a) :
  Ev (fun k => l0 k x (List.replicate x.length zB) 0) (x.map conv) := by
 have key : ∀ (d i : Nat), i + d = x.length → ∀ y : List β, y.length = x.length → y.take i = (x.take i).map conv → Ev (fun k => l0 k x y (i : Int)) (x.map conv) := by
  intro d
  induction d with
  | zero =>
   intro i hi y hy ht
   refine Ev.succ ?_
   simp only [hl]
   refine Ev.no (by omega) ?_
   rw [List.take_of_length_le (by omega), List.take_of_length_le (by omega)] at ht
   subst ht
   exact Ev.now _
  | succ d ih =>
   intro i hi y hy ht
   have hli : i < x.length := by omega
   refine Ev.succ ?_
   simp only [hl]
   have hr : rdA x (i : Int) = x[i] := by rw [hrd, List.getD_eq_getElem?_getD, List.getElem?_eq_getElem hli]; rfl
   obtain ⟨r, h1, h2⟩ := hE x[i] (List.getElem_mem hli)
   simp only [hr]
   refine Ev.yes (by omega) (Ev.yes (by omega) (Ev.bind h1 (Ev.yes (by omega) ?_)))
   rw [idx_next hli hx]
   refine ih (i + 1) (by omega) _ (by simp [hy]) ?_
   simp only [Int.toNat_natCast]
   rw [List.take_succ_eq_append_getElem (by simp; omega), List.take_succ_eq_append_getElem hli, List.map_append, ← ht, List.take_set_of_le (Nat.le_refl _)]
   simp [h2]
 exact key x.length 0 (by omega) _ (by simp) (by simp)
theorem eq_loop {α : Type} {l0 : Nat → List α → List α → Int → Option Bool} {rdA : List α → Int → α} {E : Nat → α → α → Option Bool} {zA : α}
  (hl : ∀ k x y i, l0 (k + 1) x y i = if i < (x.length : Int) then (if 0 ≤ i then (if i < (y.length : Int) then (E k (rdA x i) (rdA y i)).bind fun t => (if t = true then l0 k x y (wrap64 (i + 1)) else some false) else none) else none) else some true)
  (hrd : ∀ (x : List α) (i : Nat), rdA x (i : Int) = x.getD i zA) (x : List α) (hx : x.length ≤ 1048576) (hE : ∀ a ∈ x, Ev (fun k => E k a a) true) : Ev (fun k => l0 k x x 0) true := by
 have key : ∀ (d i : Nat), i + d = x.length → Ev (fun k => l0 k x x (i : Int)) true := by
  intro d
  induction d with
  | zero =>
   intro i hi
   refine Ev.succ ?_
   simp only [hl]
   exact Ev.no (by omega) (Ev.now _)
  | succ d ih =>
   intro i hi
   have hli : i < x.length := by omega
   refine Ev.succ ?_
   simp only [hl]
   have hr : rdA x (i : Int) = x[i] := by rw [hrd, List.getD_eq_getElem?_getD, List.getElem?_eq_getElem hli]; rfl
   simp only [hr]
   refine Ev.yes (by omega) (Ev.yes (by omega) (Ev.yes (by omega) (Ev.bind (hE x[i] (List.getElem_mem hli)) (Ev.yes rfl ?_))))
   rw [idx_next hli hx]
   exact ih (i + 1) (by omega)
 exact key x.length 0 (by omega)
/-- How much is left of a room of 'a'. -/
def left (m a : Int) : Int := if m ≤ a then a - m else -1
def sumL {α : Type} (m : α → Int) (x : List α) : Int := (x.map m).sum
theorem sumL_nonneg {α : Type} {m : α → Int} (hm : ∀ a, 0 ≤ m a) : ∀ x : List α, 0 ≤ sumL m x
 | [] => by simp [sumL]
 | a :: x => by have := hm a; have := sumL_nonneg hm x; simp [sumL] at *; omega
theorem sumL_mem {α : Type} {m : α → Int} (hm : ∀ a, 0 ≤ m a) : ∀ {x : List α} {a : α}, a ∈ x → m a ≤ sumL m x
 | b :: x, a, h => by
  have h0 := sumL_nonneg hm x
  have hb := hm b
  rcases List.mem_cons.1 h with rfl | h
  ·simp [sumL] at *; omega
  ·have := sumL_mem hm h; simp [sumL] at *; omega
theorem sz_loop {α : Type} {l0 : Nat → List α → Int → Int → Option Int} {rdA : List α → Int → α} {E : Nat → α → Int → Option Int} {zA : α} {m : α → Int} (hm : ∀ a, 0 ≤ m a)
  (hl : ∀ k x a i, l0 (k + 1) x a i = if i < (x.length : Int) then (if 0 ≤ i then (E k (rdA x i) a).bind fun t => (if t < 0 then some (-1) else l0 k x t (wrap64 (i + 1))) else none) else some a)
  (hrd : ∀ (x : List α) (i : Nat), rdA x (i : Int) = x.getD i zA) (x : List α) (hx : x.length ≤ 1048576) (hE : ∀ z ∈ x, ∀ a, 0 ≤ a → a ≤ 1048576 → Ev (fun k => E k z a) (left (m z) a)) (a : Int) (h0 : 0 ≤ a) (h1 : a ≤ 1048576) :
  Ev (fun k => l0 k x a 0) (left (sumL m x) a) := by
 have key : ∀ (d i : Nat), i + d = x.length → ∀ a, 0 ≤ a → a ≤ 1048576 → Ev (fun k => l0 k x a (i : Int)) (left (sumL m (x.drop i)) a) := by
  intro d
  induction d with
  | zero =>
   intro i hi a h0 h1
   refine Ev.succ ?_
   simp only [hl]
   rw [List.drop_of_length_le (by omega)]
   refine Ev.no (by omega) ?_
   simp only [left, sumL, List.map_nil, List.sum_nil, Int.sub_zero, if_pos h0]
   exact Ev.now _
  | succ d ih =>
   intro i hi a h0 h1
   have hli : i < x.length := by omega
   refine Ev.succ ?_
   simp only [hl]
   have hr : rdA x (i : Int) = x[i] := by rw [hrd, List.getD_eq_getElem?_getD, List.getElem?_eq_getElem hli]; rfl
   simp only [hr]
   refine Ev.yes (by omega) (Ev.yes (by omega) (Ev.bind (hE x[i] (List.getElem_mem hli) a h0 h1) ?_))
   have hs : sumL m (x.drop i) = m x[i] + sumL m (x.drop (i + 1)) := by rw [List.drop_eq_getElem_cons hli]; unfold sumL; rw [List.map_cons, List.sum_cons]
   have hp := sumL_nonneg hm (x.drop (i + 1))
   have hq := hm x[i]
   rw [hs, idx_next hli hx]
   by_cases hc : m x[i] ≤ a
   ·have e : left (m x[i]) a = a - m x[i] := by simp [left, hc]
    rw [e]
    refine Ev.no (by omega) ?_
    have e2 : left (m x[i] + sumL m (x.drop (i + 1))) a = left (sumL m (x.drop (i + 1))) (a - m x[i]) := by
     unfold left
     by_cases h : m x[i] + sumL m (x.drop (i + 1)) ≤ a
     ·rw [if_pos h, if_pos (by omega)]; omega
     ·rw [if_neg h, if_neg (by omega)]
    rw [e2]
    exact ih (i + 1) (by omega) _ (by omega) (by omega)
   ·have e : left (m x[i]) a = -1 := by simp [left, hc]
    have e2 : left (m x[i] + sumL m (x.drop (i + 1))) a = -1 := by unfold left; rw [if_neg (by omega)]
    rw [e, e2]
    exact Ev.yes (by omega) (Ev.now _)
 simpa using key x.length 0 (by omega) a h0 h1
theorem left_step {m n a : Int} (h : m ≤ a) : left m a = a - m := by simp [left, h]
theorem left_no {m a : Int} (h : ¬ m ≤ a) : left m a = -1 := by simp [left, h]
/-- First one thing takes its room, then another one. -/
theorem sz_then {m n a : Int} {E : Nat → Option Int} {F : Nat → Int → Option Int} (hm : 0 ≤ m) (hn : 0 ≤ n) (h0 : 0 ≤ a) (h1 : a ≤ 1048576) (hE : Ev E (left m a)) (hF : m ≤ a → Ev (fun k => F k (a - m)) (left n (a - m))) :
  Ev (fun k => (E k).bind fun t => if t < 0 then some (-1) else F k t) (left (m + n) a) := by
 refine Ev.bind hE ?_
 by_cases hc : m ≤ a
 ·rw [left_step (n := 0) hc]
  refine Ev.no (by omega) ?_
  have e : left (m + n) a = left n (a - m) := by
   unfold left
   by_cases h : m + n ≤ a
   ·rw [if_pos h, if_pos (by omega)]; omega
   ·rw [if_neg h, if_neg (by omega)]
  rw [e]
  exact hF hc
 ·rw [left_no hc, left_no (by omega)]
  exact Ev.yes (by omega) (Ev.now _)
theorem sz_last {m a : Int} {E : Nat → Option Int} (hm : 0 ≤ m) (hE : Ev E (left m a)) : Ev (fun k => (E k).bind fun t => if t < 0 then some (-1) else some t) (left m a) := by
 refine Ev.bind hE ?_
 by_cases hc : m ≤ a
 ·rw [left_step (n := 0) hc]
  exact Ev.no (by omega) (Ev.now _)
 ·rw [left_no hc]
  exact Ev.yes (by omega) (Ev.now _)
/-- A list takes as much room as it has items. -/
theorem sz_len {n : Nat} {a : Int} {F : Nat → Int → Option Int} {m : Int} (hm : 0 ≤ m) (hn : n ≤ 9223372036854775807) (h0 : 0 ≤ a) (h1 : a ≤ 1048576) (hF : (n : Int) ≤ a → Ev (fun k => F k (a - n)) (left m (a - n))) :
  Ev (fun k => if wrap64 (a - (n : Int)) < 0 then some (-1) else F k (wrap64 (a - (n : Int)))) (left (n + m) a) := by
 have e : wrap64 (a - (n : Int)) = a - n := wrap_in (by omega) (by omega)
 rw [e]
 by_cases hc : (n : Int) ≤ a
 ·refine Ev.no (by omega) ?_
  have e : left (n + m) a = left m (a - n) := by
   unfold left
   by_cases h : n + m ≤ a
   ·rw [if_pos h, if_pos (by omega)]; omega
   ·rw [if_neg h, if_neg (by omega)]
  rw [e]
  exact hF hc
 ·rw [left_no (by omega)]
  exact Ev.yes (by omega) (Ev.now _)
theorem left_zero {a : Int} (h : 0 ≤ a) : left 0 a = a := by simp [left, h]
theorem eq_loop_int {l0 : Nat → List Int → List Int → Int → Option Bool}
  (hl : ∀ k x y i, l0 (k + 1) x y i = if i < (x.length : Int) then (if 0 ≤ i then (if i < (y.length : Int) then (if rd x i = rd y i then l0 k x y (wrap64 (i + 1)) else some false) else none) else none) else some true)
  (x : List Int) (hx : x.length ≤ 1048576) : Ev (fun k => l0 k x x 0) true := by
 have key : ∀ (d i : Nat), i + d = x.length → Ev (fun k => l0 k x x (i : Int)) true := by
  intro d
  induction d with
  | zero =>
   intro i hi
   refine Ev.succ ?_
   simp only [hl]
   exact Ev.no (by omega) (Ev.now _)
  | succ d ih =>
   intro i hi
   refine Ev.succ ?_
   simp only [hl]
   refine Ev.yes (by omega) (Ev.yes (by omega) (Ev.yes (by omega) (Ev.yes (by simp) ?_)))
   rw [idx_next (show i < x.length by omega) hx]
   exact ih (i + 1) (by omega)
 exact key x.length 0 (by omega)
theorem to_loop_int {l0 : Nat → List Int → List Int → Int → Option (List Int)}
  (hl : ∀ k x y i, l0 (k + 1) x y i = if i < (x.length : Int) then (if 0 ≤ i then (if i < (y.length : Int) then l0 k x (y.set i.toNat (rd x i)) (wrap64 (i + 1)) else none) else none) else some y)
  (x : List Int) (hx : x.length ≤ 1048576) (z : Int) : Ev (fun k => l0 k x (List.replicate x.length z) 0) x := by
 have h := to_loop (l0 := l0) (rdA := rd) (E := fun _ a => some a) (mk := fun a => a) (conv := fun a => a) (zA := 0) (zB := z) (fun k x y i => by rw [hl]; rfl) (fun _ _ => rfl) x hx (fun a _ => ⟨a, Ev.now _, rfl⟩)
 simpa using h
def okInt64S (x : List Int) : Prop := x.length ≤ 1048576
theorem eqInt64S_refl (x : List Int) (h : okInt64S x) : Ev (fun k => laws_eqInt64S.f k x x) true := by
 unfold laws_eqInt64S.f
 refine Ev.yes rfl ?_
 exact eq_loop_int (fun k x y i => by simp only [laws_eqInt64S.l0]) x h
def cInt64S (x : List Int) : List Int := x
theorem mInt64S_nonneg (x : List Int) : (0 : Int) ≤ (x.length : Int) := by omega
def mInt64S (x : List Int) : Int := (x.length : Int)
theorem mInt64S_nonneg' (x : List Int) : 0 ≤ mInt64S x := mInt64S_nonneg x
theorem szInt64S_ev (x : List Int) (w : x.length ≤ 9223372036854775807 ∧ ∀ z ∈ x, (Lit.int .i64 z).wf = true) (a : Int) (h0 : 0 ≤ a) (h1 : a ≤ 1048576) : Ev (fun _ => laws_szInt64S.f x a) (left (x.length : Int) a) := by
 unfold laws_szInt64S.f
 have h := sz_len (n := x.length) (a := a) (F := fun _ t => some t) (m := 0) (by omega) w.1 h0 h1 (fun h => by rw [left_zero (by omega)]; exact Ev.now _)
 simpa using h
theorem toInt64S_ev (x : List Int) (h : (x.length : Int) ≤ 1048576) : Ev (fun k => laws_toInt64S.f k x) (cInt64S x) := by
 unfold laws_toInt64S.f
 refine Ev.yes (by omega) (Ev.yes (by simp; omega) ?_)
 exact to_loop_int (fun k x y i => by simp only [laws_toInt64S.l0]) x (by omega) 0
theorem okInt64S_c (x : List Int) (h : (x.length : Int) ≤ 1048576) : okInt64S (cInt64S x) := by
 unfold okInt64S cInt64S
 omega
def cFrame (x : S144) : S111 := ⟨x.f0, x.f1, (cInt64S x.f2), (cInt64S x.f3)⟩
def mFrame (x : S144) : Int := (x.f2.length : Int) + (x.f3.length : Int)
theorem mFrame_nonneg (x : S144) : 0 ≤ mFrame x := by
 unfold mFrame
 have h2 : (0 : Int) ≤ (x.f2.length : Int) := mInt64S_nonneg _
 have h3 : (0 : Int) ≤ (x.f3.length : Int) := mInt64S_nonneg _
 omega
theorem toFrame_ev (x : S144) (h : mFrame x ≤ 1048576) : Ev (fun k => laws_toFrame.f k x.f0 x.f1 x.f2 x.f3) (x.f0, x.f1, (cInt64S x.f2), (cInt64S x.f3)) := by
 unfold mFrame at h
 have p2 : (0 : Int) ≤ (x.f2.length : Int) := mInt64S_nonneg _
 have p3 : (0 : Int) ≤ (x.f3.length : Int) := mInt64S_nonneg _
 have h2 : (x.f2.length : Int) ≤ 1048576 := by omega
 have h3 : (x.f3.length : Int) ≤ 1048576 := by omega
 unfold laws_toFrame.f
 exact Ev.bind (toInt64S_ev x.f2 h2) (Ev.bind (toInt64S_ev x.f3 h3) (Ev.now _))
theorem szFrame_ev (x : S144) (w : wf144 x) (a : Int) (h0 : 0 ≤ a) (h1 : a ≤ 1048576) : Ev (fun k => laws_szFrame.f x.f0 x.f1 x.f2 x.f3 a) (left (mFrame x) a) := by
 obtain ⟨w0, w1, w2, w3⟩ := w
 have p2 : (0 : Int) ≤ (x.f2.length : Int) := mInt64S_nonneg _
 have p3 : (0 : Int) ≤ (x.f3.length : Int) := mInt64S_nonneg _
 have e : mFrame x = (x.f2.length : Int) + ((x.f3.length : Int)) := by unfold mFrame; omega
 rw [e]
 unfold laws_szFrame.f
 exact sz_then (mInt64S_nonneg _) (by omega) (by omega) (by omega) (szInt64S_ev x.f2 w2 a (by omega) (by omega)) (fun hq2 => sz_last (mInt64S_nonneg _) (szInt64S_ev x.f3 w3 (a - (x.f2.length : Int)) (by omega) (by omega)))
def okFrame (x : S111) : Prop := okInt64S x.f2 ∧ okInt64S x.f3
theorem okFrame_c (x : S144) (h : mFrame x ≤ 1048576) : okFrame (cFrame x) := by
 unfold mFrame at h
 have p2 : (0 : Int) ≤ (x.f2.length : Int) := mInt64S_nonneg _
 have p3 : (0 : Int) ≤ (x.f3.length : Int) := mInt64S_nonneg _
 exact ⟨okInt64S_c x.f2 (by omega), okInt64S_c x.f3 (by omega)⟩
theorem eqFrame_refl (x : S111) (h : okFrame x) : Ev (fun k => laws_eqFrame.f k x.f0 x.f1 x.f2 x.f3 x.f0 x.f1 x.f2 x.f3) true := by
 obtain ⟨h2, h3⟩ := h
 unfold laws_eqFrame.f
 exact Ev.yes rfl (Ev.yes rfl (Ev.bind (eqInt64S_refl x.f2 h2) (Ev.yes rfl (Ev.bind (eqInt64S_refl x.f3 h3) (Ev.yes rfl (Ev.now _))))))
def cFrameS (x : List S144) : List S111 := x.map cFrame
theorem mFrameS_nonneg (x : List S144) : (0 : Int) ≤ (x.length + sumL mFrame x : Int) := by have := sumL_nonneg mFrame_nonneg x; omega
theorem szFrameS_ev (x : List S144) (w : x.length ≤ 9223372036854775807 ∧ ∀ z ∈ x, wf144 z) (a : Int) (h0 : 0 ≤ a) (h1 : a ≤ 1048576) : Ev (fun k => laws_szFrameS.f k x a) (left (x.length + sumL mFrame x : Int) a) := by
 unfold laws_szFrameS.f
 refine sz_len (F := fun k t => laws_szFrameS.l0 k x t 0) (sumL_nonneg mFrame_nonneg x) w.1 h0 h1 (fun h => ?_)
 exact sz_loop (l0 := laws_szFrameS.l0) (rdA := rd_T144) (E := fun k z a => laws_szFrame.f z.f0 z.f1 z.f2 z.f3 a) (zA := z144) (m := mFrame) mFrame_nonneg (fun k x a i => by simp only [laws_szFrameS.l0]) (fun _ _ => rfl) x (by omega) (fun z hz a h0 h1 => szFrame_ev z (w.2 z hz) a h0 h1) _ (by omega) (by omega)
theorem toFrameS_ev (x : List S144) (h : (x.length + sumL mFrame x : Int) ≤ 1048576) : Ev (fun k => laws_toFrameS.f k x) (cFrameS x) := by
 unfold laws_toFrameS.f
 have hs := sumL_nonneg mFrame_nonneg x
 refine Ev.yes (by omega) (Ev.yes (by simp; omega) ?_)
 exact to_loop (l0 := laws_toFrameS.l0) (rdA := rd_T144) (E := fun k z => laws_toFrame.f k z.f0 z.f1 z.f2 z.f3) (mk := fun r => (⟨r.1, r.2.1, r.2.2.1, r.2.2.2⟩ : S111)) (conv := cFrame) (zA := z144) (zB := z111) (fun k x y i => by simp only [laws_toFrameS.l0]) (fun _ _ => rfl) x (by omega) (fun z hz => ⟨_, toFrame_ev z (by have := sumL_mem mFrame_nonneg hz; omega), rfl⟩)
def okFrameS (x : List S111) : Prop := x.length ≤ 1048576 ∧ ∀ z ∈ x, okFrame z
theorem okFrameS_c (x : List S144) (h : (x.length + sumL mFrame x : Int) ≤ 1048576) : okFrameS (cFrameS x) := by
 have hs := sumL_nonneg mFrame_nonneg x
 refine ⟨by unfold cFrameS; rw [List.length_map]; omega, fun z hz => ?_⟩
 obtain ⟨y, hy, rfl⟩ := List.mem_map.1 hz
 exact okFrame_c y (by have := sumL_mem mFrame_nonneg hy; omega)
theorem eqFrameS_refl (x : List S111) (h : okFrameS x) : Ev (fun k => laws_eqFrameS.f k x x) true := by
 unfold laws_eqFrameS.f
 refine Ev.yes rfl ?_
 exact eq_loop (l0 := laws_eqFrameS.l0) (rdA := rd_T111) (E := fun k a b => laws_eqFrame.f k a.f0 a.f1 a.f2 a.f3 b.f0 b.f1 b.f2 b.f3) (zA := z111) (fun k x y i => by simp only [laws_eqFrameS.l0]) (fun _ _ => rfl) x h.1 (fun a ha => eqFrame_refl a (h.2 a ha))
def cInt64SS (x : List (List Int)) : List (List Int) := x.map cInt64S
theorem mInt64SS_nonneg (x : List (List Int)) : (0 : Int) ≤ (x.length + sumL mInt64S x : Int) := by have := sumL_nonneg mInt64S_nonneg' x; omega
theorem szInt64SS_ev (x : List (List Int)) (w : x.length ≤ 9223372036854775807 ∧ ∀ z ∈ x, (z.length ≤ 9223372036854775807 ∧ ∀ z' ∈ z, (Lit.int .i64 z').wf = true)) (a : Int) (h0 : 0 ≤ a) (h1 : a ≤ 1048576) : Ev (fun k => laws_szInt64SS.f k x a) (left (x.length + sumL mInt64S x : Int) a) := by
 unfold laws_szInt64SS.f
 refine sz_len (F := fun k t => laws_szInt64SS.l0 k x t 0) (sumL_nonneg mInt64S_nonneg' x) w.1 h0 h1 (fun h => ?_)
 exact sz_loop (l0 := laws_szInt64SS.l0) (rdA := rd_L1) (E := fun k z a => laws_szInt64S.f z a) (zA := []) (m := mInt64S) mInt64S_nonneg' (fun k x a i => by simp only [laws_szInt64SS.l0]) (fun _ _ => rfl) x (by omega) (fun z hz a h0 h1 => szInt64S_ev z (w.2 z hz) a h0 h1) _ (by omega) (by omega)
theorem toInt64SS_ev (x : List (List Int)) (h : (x.length + sumL mInt64S x : Int) ≤ 1048576) : Ev (fun k => laws_toInt64SS.f k x) (cInt64SS x) := by
 unfold laws_toInt64SS.f
 have hs := sumL_nonneg mInt64S_nonneg' x
 refine Ev.yes (by omega) (Ev.yes (by simp; omega) ?_)
 exact to_loop (l0 := laws_toInt64SS.l0) (rdA := rd_L1) (E := fun k z => laws_toInt64S.f k z) (mk := fun r => r) (conv := cInt64S) (zA := []) (zB := []) (fun k x y i => by simp only [laws_toInt64SS.l0]) (fun _ _ => rfl) x (by omega) (fun z hz => ⟨_, toInt64S_ev z (by have := sumL_mem mInt64S_nonneg' hz; have e2 : mInt64S z = (z.length : Int) := rfl; omega), rfl⟩)
def okInt64SS (x : List (List Int)) : Prop := x.length ≤ 1048576 ∧ ∀ z ∈ x, okInt64S z
theorem okInt64SS_c (x : List (List Int)) (h : (x.length + sumL mInt64S x : Int) ≤ 1048576) : okInt64SS (cInt64SS x) := by
 have hs := sumL_nonneg mInt64S_nonneg' x
 refine ⟨by unfold cInt64SS; rw [List.length_map]; omega, fun z hz => ?_⟩
 obtain ⟨y, hy, rfl⟩ := List.mem_map.1 hz
 exact okInt64S_c y (by have := sumL_mem mInt64S_nonneg' hy; have e2 : mInt64S y = (y.length : Int) := rfl; omega)
theorem eqInt64SS_refl (x : List (List Int)) (h : okInt64SS x) : Ev (fun k => laws_eqInt64SS.f k x x) true := by
 unfold laws_eqInt64SS.f
 refine Ev.yes rfl ?_
 exact eq_loop (l0 := laws_eqInt64SS.l0) (rdA := rd_L1) (E := fun k a b => laws_eqInt64S.f k a b) (zA := []) (fun k x y i => by simp only [laws_eqInt64SS.l0]) (fun _ _ => rfl) x h.1 (fun a ha => eqInt64S_refl a (h.2 a ha))
def cState (x : S62) : S67 := ⟨(cFrameS x.f0), (cInt64SS x.f1), (cInt64S x.f2), x.f3, x.f4, x.f5, x.f6⟩
def mState (x : S62) : Int := (x.f0.length + sumL mFrame x.f0 : Int) + (x.f1.length + sumL mInt64S x.f1 : Int) + (x.f2.length : Int)
theorem mState_nonneg (x : S62) : 0 ≤ mState x := by
 unfold mState
 have h0 : (0 : Int) ≤ (x.f0.length + sumL mFrame x.f0 : Int) := mFrameS_nonneg _
 have h1 : (0 : Int) ≤ (x.f1.length + sumL mInt64S x.f1 : Int) := mInt64SS_nonneg _
 have h2 : (0 : Int) ≤ (x.f2.length : Int) := mInt64S_nonneg _
 omega
theorem toState_ev (x : S62) (h : mState x ≤ 1048576) : Ev (fun k => laws_toState.f k x.f0 x.f1 x.f2 x.f3 x.f4 x.f5 x.f6) ((cFrameS x.f0), (cInt64SS x.f1), (cInt64S x.f2), x.f3, x.f4, x.f5, x.f6) := by
 unfold mState at h
 have p0 : (0 : Int) ≤ (x.f0.length + sumL mFrame x.f0 : Int) := mFrameS_nonneg _
 have p1 : (0 : Int) ≤ (x.f1.length + sumL mInt64S x.f1 : Int) := mInt64SS_nonneg _
 have p2 : (0 : Int) ≤ (x.f2.length : Int) := mInt64S_nonneg _
 have h0 : (x.f0.length + sumL mFrame x.f0 : Int) ≤ 1048576 := by omega
 have h1 : (x.f1.length + sumL mInt64S x.f1 : Int) ≤ 1048576 := by omega
 have h2 : (x.f2.length : Int) ≤ 1048576 := by omega
 unfold laws_toState.f
 exact Ev.bind (toFrameS_ev x.f0 h0) (Ev.bind (toInt64SS_ev x.f1 h1) (Ev.bind (toInt64S_ev x.f2 h2) (Ev.now _)))
theorem szState_ev (x : S62) (w : wf62 x) (a : Int) (h0 : 0 ≤ a) (h1 : a ≤ 1048576) : Ev (fun k => laws_szState.f k x.f0 x.f1 x.f2 x.f3 x.f4 x.f5 x.f6 a) (left (mState x) a) := by
 obtain ⟨w0, w1, w2, w3, w4, w5, w6⟩ := w
 have p0 : (0 : Int) ≤ (x.f0.length + sumL mFrame x.f0 : Int) := mFrameS_nonneg _
 have p1 : (0 : Int) ≤ (x.f1.length + sumL mInt64S x.f1 : Int) := mInt64SS_nonneg _
 have p2 : (0 : Int) ≤ (x.f2.length : Int) := mInt64S_nonneg _
 have e : mState x = (x.f0.length + sumL mFrame x.f0 : Int) + ((x.f1.length + sumL mInt64S x.f1 : Int) + ((x.f2.length : Int))) := by unfold mState; omega
 rw [e]
 unfold laws_szState.f
 exact sz_then (mFrameS_nonneg _) (by omega) (by omega) (by omega) (szFrameS_ev x.f0 w0 a (by omega) (by omega)) (fun hq0 => sz_then (mInt64SS_nonneg _) (by omega) (by omega) (by omega) (szInt64SS_ev x.f1 w1 (a - (x.f0.length + sumL mFrame x.f0 : Int)) (by omega) (by omega)) (fun hq1 => sz_last (mInt64S_nonneg _) (szInt64S_ev x.f2 w2 (a - (x.f0.length + sumL mFrame x.f0 : Int) - (x.f1.length + sumL mInt64S x.f1 : Int)) (by omega) (by omega))))
def okState (x : S67) : Prop := okFrameS x.f0 ∧ okInt64SS x.f1 ∧ okInt64S x.f2
theorem okState_c (x : S62) (h : mState x ≤ 1048576) : okState (cState x) := by
 unfold mState at h
 have p0 : (0 : Int) ≤ (x.f0.length + sumL mFrame x.f0 : Int) := mFrameS_nonneg _
 have p1 : (0 : Int) ≤ (x.f1.length + sumL mInt64S x.f1 : Int) := mInt64SS_nonneg _
 have p2 : (0 : Int) ≤ (x.f2.length : Int) := mInt64S_nonneg _
 exact ⟨okFrameS_c _ (by omega), okInt64SS_c _ (by omega), okInt64S_c x.f2 (by omega)⟩
theorem eqState_refl (x : S67) (h : okState x) : Ev (fun k => laws_eqState.f k x.f0 x.f1 x.f2 x.f3 x.f4 x.f5 x.f6 x.f0 x.f1 x.f2 x.f3 x.f4 x.f5 x.f6) true := by
 obtain ⟨h0, h1, h2⟩ := h
 unfold laws_eqState.f
 exact Ev.bind (eqFrameS_refl x.f0 h0) (Ev.yes rfl (Ev.bind (eqInt64SS_refl x.f1 h1) (Ev.yes rfl (Ev.bind (eqInt64S_refl x.f2 h2) (Ev.yes rfl (Ev.yes rfl (Ev.no (by simp) (Ev.yes rfl (Ev.yes rfl (Ev.now _))))))))))
theorem same_loop {α : Type} {L : Nat → Int → Option Bool} {E : Nat → α → α → Option Bool} {s : α → α → Bool} {fin : Nat → Option Bool} {R : Bool} (z : α) (x y : List α) (hxy : x.length = y.length) (hx : x.length ≤ 1048576)
  (h1 : ∀ (k i : Nat), i < x.length → L (k + 1) (i : Int) = (E k (x.getD i z) (y.getD i z)).bind fun t => if t = true then L k (wrap64 ((i : Int) + 1)) else some false)
  (h0 : ∀ (k i : Nat), x.length ≤ i → L (k + 1) (i : Int) = fin k)
  (hE : ∀ a ∈ x, ∀ b, Ev (fun k => E k a b) (s a b)) (hf : Ev fin R) : Ev (fun k => L k 0) (sameL s x y && R) := by
 have key : ∀ (d i : Nat), i + d = x.length → Ev (fun k => L k (i : Int)) (sameL s (x.drop i) (y.drop i) && R) := by
  intro d
  induction d with
  | zero =>
   intro i hi
   refine Ev.succ ?_
   simp only [h0 _ i (show x.length ≤ i by omega)]
   rw [List.drop_of_length_le (by omega), List.drop_of_length_le (by omega)]
   simpa [sameL] using hf
  | succ d ih =>
   intro i hi
   have hlt : i < x.length := by omega
   refine Ev.succ ?_
   simp only [h1 _ i hlt]
   rw [drop_at x z i hlt, drop_at y z i (by omega), wrap_in (by omega) (by omega)]
   have hm : x.getD i z ∈ x := by
    rw [List.getD_eq_getElem?_getD, List.getElem?_eq_getElem hlt]; exact List.getElem_mem hlt
   refine Ev.bind (hE _ hm _) ?_
   simp only [sameL]
   cases h : s (x.getD i z) (y.getD i z) with
   | true => exact Ev.yes rfl (by rw [Bool.true_and]; exact ih (i + 1) (by omega))
   | false => exact Ev.no (by simp) (by rw [Bool.false_and, Bool.false_and]; exact Ev.now false)
 exact key x.length 0 (by omega)
def sN (a b : Int) : Bool := a == b
def sNs (x y : List Int) : Bool := sameL sN x y
def sFr (a b : S111) : Bool := a.f0 == b.f0 && (a.f1 == b.f1 && (sNs a.f2 b.f2 && sNs a.f3 b.f3))
theorem eq1 (p q : Int) (A : Option Bool) : (if p = q then A else some false) = (some (sN p q)).bind fun t => if t = true then A else some false := by
 by_cases h : p = q
 ·rw [if_pos h]; simp [sN, h]
 ·rw [if_neg h]; simp [sN, h]
theorem implNums_ev (x y : List Int) (hx : x.length ≤ 1048576) : Ev (fun k => slices_Equal_int64_int64.f k x y) (sNs x y) := by
 unfold slices_Equal_int64_int64.f sNs
 refine Ev.cases (fun h => ?_) (fun h => by rw [sameL_len x y (by omega)]; exact Ev.now _)
 have := same_loop (L := fun k i => slices_Equal_int64_int64.l0 k x y (x.length : Int) i) (E := fun _ a b => some (sN a b)) (s := sN) (fin := fun _ => some true) (R := true) 0 x y (by omega) hx
  (fun k i hi => by
   simp only [slices_Equal_int64_int64.l0]
   rw [if_pos (by omega), if_pos (by omega), if_pos (by omega), if_pos (by omega)]
   exact eq1 _ _ _)
  (fun k i hi => by simp only [slices_Equal_int64_int64.l0]; rw [if_neg (by omega)]) (fun a _ b => Ev.now _) (Ev.now _)
 rw [Bool.and_true] at this
 exact this
theorem specNums_ev (x y : List Int) (hx : x.length ≤ 1048576) : Ev (fun k => spec_l06SameNums.f k x y) (sNs x y) := by
 unfold spec_l06SameNums.f sNs
 refine Ev.cases (fun h => ?_) (fun h => by rw [sameL_len x y (by omega)]; exact Ev.now _)
 have := same_loop (L := fun k i => spec_l06SameNums.l0 k x y i) (E := fun _ a b => some (sN a b)) (s := sN) (fin := fun _ => some true) (R := true) 0 x y (by omega) hx
  (fun k i hi => by
   simp only [spec_l06SameNums.l0]
   rw [if_pos (by omega), if_pos (by omega), if_pos (by omega)]
   exact eq1 _ _ _)
  (fun k i hi => by simp only [spec_l06SameNums.l0]; rw [if_neg (by omega)]) (fun a _ b => Ev.now _) (Ev.now _)
 rw [Bool.and_true] at this
 exact this
theorem implHeap_ev (x y : List (List Int)) (ox : okInt64SS x) : Ev (fun k => impl_sameLists.f k x y) (sameL sNs x y) := by
 unfold impl_sameLists.f slices_EqualFunc_int64_int64_int64_int64.f
 refine Ev.bind (a := sameL sNs x y) (Ev.cases (fun h => ?_) (fun h => by rw [sameL_len x y (by omega)]; exact Ev.now _)) (Ev.now _)
 have := same_loop (L := fun k i => slices_EqualFunc_int64_int64_int64_int64.l0 k y x (x.length : Int) i) (E := fun k p q => slices_Equal_int64_int64.f k p q) (s := sNs) (fin := fun _ => some true) (R := true) [] x y (by omega) ox.1
  (fun k i hi => by
   simp only [slices_EqualFunc_int64_int64_int64_int64.l0]
   rw [if_pos (by omega), if_pos (by omega), if_pos (by omega), if_pos (by omega)]
   rfl)
  (fun k i hi => by simp only [slices_EqualFunc_int64_int64_int64_int64.l0]; rw [if_neg (by omega)]) (fun p hp q => implNums_ev p q (ox.2 p hp)) (Ev.now _)
 rw [Bool.and_true] at this
 exact this
theorem specHeap_ev (x y : List (List Int)) (ox : okInt64SS x) : Ev (fun k => spec_l06SameHeap.f k x y) (sameL sNs x y) := by
 unfold spec_l06SameHeap.f
 refine Ev.cases (fun h => ?_) (fun h => by rw [sameL_len x y (by omega)]; exact Ev.now _)
 have := same_loop (L := fun k i => spec_l06SameHeap.l0 k x y i) (E := fun k p q => spec_l06SameNums.f k p q) (s := sNs) (fin := fun _ => some true) (R := true) [] x y (by omega) ox.1
  (fun k i hi => by
   simp only [spec_l06SameHeap.l0]
   rw [if_pos (by omega), if_pos (by omega), if_pos (by omega)]
   rfl)
  (fun k i hi => by simp only [spec_l06SameHeap.l0]; rw [if_neg (by omega)]) (fun p hp q => specNums_ev p q (ox.2 p hp)) (Ev.now _)
 rw [Bool.and_true] at this
 exact this
theorem implFr_ev (a b : S111) (oa : okFrame a) : Ev (fun k => impl_sameFrame.f k a.f0 a.f1 a.f2 a.f3 b.f0 b.f1 b.f2 b.f3) (sFr a b) := by
 unfold impl_sameFrame.f sFr
 refine Ev.cases (fun h1 => ?_) (fun h1 => by rw [beq_no h1]; exact Ev.now _)
 rw [beq_iff_eq.2 h1, Bool.true_and]
 refine Ev.cases (fun h2 => ?_) (fun h2 => by rw [beq_no h2]; exact Ev.now _)
 rw [beq_iff_eq.2 h2, Bool.true_and]
 refine Ev.bind (implNums_ev a.f2 b.f2 oa.1) ?_
 cases sNs a.f2 b.f2 with
 | false => exact Ev.no (by simp) (Ev.now _)
 | true => exact Ev.yes rfl (Ev.bind (implNums_ev a.f3 b.f3 oa.2) (Ev.now _))
def sSt (a b : S67) : Bool := sameL sFr a.f0 b.f0 && (sameL sNs a.f1 b.f1 && (sNs a.f2 b.f2 && (a.f3 == b.f3 && (a.f4 == b.f4 && (a.f5 == b.f5 && a.f6 == b.f6)))))
theorem implFrs_ev (x y : List S111) (ox : okFrameS x) : Ev (fun k => impl_Frame.f k x y) (sameL sFr x y) := by
 unfold impl_Frame.f
 refine Ev.cases (fun h => ?_) (fun h => by rw [sameL_len x y (by omega)]; exact Ev.now _)
 have := same_loop (L := fun k i => impl_Frame.l0 k y x (x.length : Int) i) (E := fun k p q => impl_sameFrame.f k p.f0 p.f1 p.f2 p.f3 q.f0 q.f1 q.f2 q.f3) (s := sFr) (fin := fun _ => some true) (R := true) z111 x y (by omega) ox.1
  (fun k i hi => by
   simp only [impl_Frame.l0]
   rw [if_pos (by omega), if_pos (by omega), if_pos (by omega), if_pos (by omega)]
   rfl)
  (fun k i hi => by simp only [impl_Frame.l0]; rw [if_neg (by omega)]) (fun p hp q => implFr_ev p q (ox.2 p hp)) (Ev.now _)
 rw [Bool.and_true] at this
 exact this
theorem implSt_ev (a b : S67) (oa : okState a) : Ev (fun k => impl_StateSame.f k a.f0 a.f1 a.f2 a.f3 a.f4 a.f5 a.f6 b.f0 b.f1 b.f2 b.f3 b.f4 b.f5 b.f6) (sSt a b) := by
 unfold impl_StateSame.f sSt
 refine Ev.bind (implFrs_ev a.f0 b.f0 oa.1) ?_
 cases sameL sFr a.f0 b.f0 with
 | false => exact Ev.no (by simp) (Ev.now _)
 | true =>
  rw [Bool.true_and]
  refine Ev.yes rfl (Ev.bind (implHeap_ev a.f1 b.f1 oa.2.1) ?_)
  cases sameL sNs a.f1 b.f1 with
  | false => exact Ev.no (by simp) (Ev.now _)
  | true =>
   rw [Bool.true_and]
   refine Ev.yes rfl (Ev.bind (implNums_ev a.f2 b.f2 oa.2.2) ?_)
   cases sNs a.f2 b.f2 with
   | false => exact Ev.no (by simp) (Ev.now _)
   | true =>
    rw [Bool.true_and]
    refine Ev.yes rfl (Ev.cases (fun h1 => ?_) (fun h1 => by rw [beq_no h1]; exact Ev.now _))
    rw [beq_iff_eq.2 h1, Bool.true_and]
    refine Ev.cases (fun h2 => ?_) (fun h2 => by rw [show (a.f4 == b.f4) = false by simpa using h2]; exact Ev.now _)
    rw [h2, Bool.true_and]
    refine Ev.cases (fun h3 => ?_) (fun h3 => by rw [beq_no h3]; exact Ev.now _)
    rw [beq_iff_eq.2 h3, Bool.true_and]
    exact Ev.now _
theorem specSt_ev (a b : S67) (oa : okState a) : Ev (fun k => spec_StateSame.f k a.f0 a.f1 a.f2 a.f3 a.f4 a.f5 a.f6 b.f0 b.f1 b.f2 b.f3 b.f4 b.f5 b.f6) (sSt a b) := by
 unfold spec_StateSame.f
 have jt : Ev (fun k => spec_StateSame.j0 k true a.f0 a.f1 a.f2 a.f3 a.f4 a.f5 a.f6 b.f0 b.f1 b.f2 b.f3 b.f4 b.f5 b.f6) false := by
  refine Ev.succ ?_
  simp only [spec_StateSame.j0]
  exact Ev.yes (by simp) (Ev.now _)
 refine Ev.cases (fun h0 => ?_) (fun h0 => by rw [show sSt a b = false by simp [sSt, sameL_len a.f0 b.f0 (by omega)]]; exact jt)
 refine Ev.cases (fun h1 => ?_) (fun h1 => by rw [show sSt a b = false by simp [sSt, h1]]; exact jt)
 refine Ev.cases (fun h2 => by rw [show sSt a b = false by simp at h2; simp [sSt, h2]]; exact jt) (fun h2 => ?_)
 have h2 : a.f4 = b.f4 := by simpa using h2
 refine Ev.cases (fun h3 => ?_) (fun h3 => by rw [show sSt a b = false by simp [sSt, h3]]; exact jt)
 refine Ev.cases (fun h4 => ?_) (fun h4 => by rw [show sSt a b = false by simp [sSt, h4]]; exact jt)
 refine Ev.bind (specHeap_ev a.f1 b.f1 oa.2.1) ?_
 cases h5 : sameL sNs a.f1 b.f1 with
 | false => exact Ev.no (by simp) (by rw [show sSt a b = false by simp [sSt, h5]]; exact jt)
 | true =>
  refine Ev.yes rfl (Ev.bind (specNums_ev a.f2 b.f2 oa.2.2) ?_)
  cases h6 : sNs a.f2 b.f2 with
  | false => rw [show sSt a b = false by simp [sSt, h6]]; exact jt
  | true =>
   have e : sSt a b = (sameL sFr a.f0 b.f0 && true) := by simp [sSt, h1, h2, h3, h4, h5, h6]
   rw [e]
   refine Ev.succ ?_
   simp only [spec_StateSame.j0]
   refine Ev.no (by simp) ?_
   exact same_loop (L := fun k i => spec_StateSame.l0 k i a.f0 a.f1 a.f2 a.f3 a.f4 a.f5 a.f6 b.f0 b.f1 b.f2 b.f3 b.f4 b.f5 b.f6)
    (E := fun k p q => if p.f0 = q.f0 then (if p.f1 = q.f1 then ((spec_l06SameNums.f k p.f2 q.f2).bind fun t => (if t = true then spec_l06SameNums.f k p.f3 q.f3 else some false)) else some false) else some false) (s := sFr) (fin := fun _ => some true) (R := true) z111 a.f0 b.f0 (by omega) oa.1.1
    (fun k i hi => by
     simp only [spec_StateSame.l0]
     rw [if_pos (by omega), if_pos (by omega), if_pos (by omega)]
     show (if (a.f0.getD i z111).f0 = (b.f0.getD i z111).f0 then (if (a.f0.getD i z111).f1 = (b.f0.getD i z111).f1 then _ else _) else _) = _
     by_cases q1 : (a.f0.getD i z111).f0 = (b.f0.getD i z111).f0
     ·rw [if_pos q1, if_pos q1]
      by_cases q2 : (a.f0.getD i z111).f1 = (b.f0.getD i z111).f1
      ·rw [if_pos q2, if_pos q2, Option.bind_assoc]
       refine congrArg _ (funext fun t => ?_)
       cases t with
       | true => rw [if_pos rfl, if_pos rfl]; rfl
       | false => rw [if_neg (by simp), if_neg (by simp)]; rfl
      ·rw [if_neg q2, if_neg q2]; rfl
     ·rw [if_neg q1, if_neg q1]; rfl)
    (fun k i hi => by simp only [spec_StateSame.l0]; rw [if_neg (by omega)])
    (fun p hp q => by
     unfold sFr
     refine Ev.cases (fun h1 => ?_) (fun h1 => by rw [beq_no h1]; exact Ev.now _)
     rw [beq_iff_eq.2 h1, Bool.true_and]
     refine Ev.cases (fun h2 => ?_) (fun h2 => by rw [beq_no h2]; exact Ev.now _)
     rw [beq_iff_eq.2 h2, Bool.true_and]
     refine Ev.bind (specNums_ev p.f2 q.f2 (oa.1.2 p hp).1) ?_
     cases sNs p.f2 q.f2 with
     | false => exact Ev.no (by simp) (Ev.now _)
     | true => exact Ev.yes rfl (by rw [Bool.true_and]; exact specNums_ev p.f3 q.f3 (oa.1.2 p hp).2)) (Ev.now _)
theorem FnExactStateSame (x : S62) (wx : wf62 x) (y : S62) (wy : wf62 y) : ∃ k, laws_FnExactStateSame.f k x.f0 x.f1 x.f2 x.f3 x.f4 x.f5 x.f6 y.f0 y.f1 y.f2 y.f3 y.f4 y.f5 y.f6 = some true := by
 refine Ev.rounds ?_
 unfold laws_FnExactStateSame.f
 have hmx := mState_nonneg x
 have hmy := mState_nonneg y
 refine Ev.bind (szState_ev x wx 1048576 (by omega) (by omega)) ?_
 by_cases h : mState x ≤ 1048576
 case neg => rw [left_no h]; exact Ev.yes (by omega) (Ev.now _)
 have e1 : left (mState x) 1048576 = 1048576 - mState x := by simp [left, h]
 rw [e1]
 refine Ev.no (by omega) (Ev.bind (szState_ev y wy _ (by omega) (by omega)) ?_)
 by_cases h2 : mState y ≤ 1048576 - mState x
 case neg => rw [left_no h2]; exact Ev.yes (by omega) (Ev.now _)
 have e2 : left (mState y) (1048576 - mState x) = 1048576 - mState x - mState y := by simp [left, h2]
 rw [e2]
 have tx := toState_ev x h
 have ty := toState_ev y (by omega)
 have ox := okState_c x h
 have oy := okState_c y (by omega)
 refine Ev.no (by omega) (Ev.bind tx (Ev.bind ty (Ev.bind (specSt_ev (cState x) (cState y) ox) (Ev.bind tx (Ev.bind ty (Ev.bind (implSt_ev (cState x) (cState y) ox) (Ev.no (by simp) ?_)))))))
 exact Ev.bind tx (Ev.bind (eqState_refl (cState x) ox) (Ev.yes rfl (Ev.bind ty (Ev.bind (eqState_refl (cState y) oy) (Ev.yes rfl (Ev.now _))))))
end Go.Proofs.Ytkmohnlkldkhdaa.Pure
