/- FnExactProgramSame: the program's ProgramSame answers what the reference's answers, for all programs. No condition. -/
import Derived.Test.YtkmohnlkldkhdaaQFnExactProgramSamex
import Derived.Test.YtkmohnlkldkhdaaWfFnExactProgramSame
namespace Go.Proofs.Ytkmohnlkldkhdaa.Pure
open Go.RowKit Go.Proofs.Ytkmohnlkldkhdaa.QFnExactProgramSame Go.Proofs.YtkmohnlkldkhdaaW.PrintWords Go.Proofs.YtkmohnlkldkhdaaW.PrintLast
set_option linter.unusedVariables false
set_option linter.unusedSimpArgs false
structure S56 where
 f0 : (List S102)
theorem Ev.succ {α : Type} {g : Nat → Option α} {r : α} (h : Ev (fun k => g (k + 1)) r) : Ev g r := Ev.step (fun _ => rfl) h
theorem Ev.yes {α : Type} {c : Prop} [Decidable c] {g f : Nat → Option α} {r : α} (hc : c) (h : Ev g r) : Ev (fun k => if c then g k else f k) r := Ev.congr (fun _ => if_pos hc) h
theorem Ev.no {α : Type} {c : Prop} [Decidable c] {g f : Nat → Option α} {r : α} (hc : ¬ c) (h : Ev f r) : Ev (fun k => if c then g k else f k) r := Ev.congr (fun _ => if_neg hc) h
theorem Ev.cases {α : Type} {c : Prop} [Decidable c] {g f : Nat → Option α} {r : α} (h1 : c → Ev g r) (h2 : ¬ c → Ev f r) : Ev (fun k => if c then g k else f k) r := by
 by_cases hc : c
 ·exact Ev.yes hc (h1 hc)
 ·exact Ev.no hc (h2 hc)
/-- A call that needs no rounds. -/
theorem wrap_in {n : Int} (h0 : -9223372036854775808 ≤ n) (h1 : n ≤ 9223372036854775807) : wrap64 n = n := by unfold wrap64; omega
theorem drop_at {α : Type} (x : List α) (z : α) (i : Nat) (h : i < x.length) : x.drop i = x.getD i z :: x.drop (i + 1) := by
 rw [List.drop_eq_getElem_cons h, List.getD_eq_getElem?_getD, List.getElem?_eq_getElem h]; rfl
/-- Two lists, place by place. -/
def sameL {α : Type} (s : α → α → Bool) : List α → List α → Bool
 | [], [] => true
 | a :: x, b :: y => s a b && sameL s x y
 | _, _ => false
theorem sameL_len {α : Type} {s : α → α → Bool} : ∀ x y : List α, x.length ≠ y.length → sameL s x y = false
 | [], [], h => absurd rfl h
 | [], _ :: _, _ => rfl
 | _ :: _, [], _ => rfl
 | a :: x, b :: y, h => by simp [sameL, sameL_len x y (fun e => h (by simp [e]))]
theorem nand {a b : Bool} (h : (a && b) = false) : (!a || !b) = true := by cases a <;> cases b <;> simp_all
theorem beq_no {a b : Int} (h : ¬ a = b) : (a == b) = false := beq_eq_false_iff_ne.2 h
theorem idx_next {i n : Nat} (h : i < n) (hn : n ≤ 1048576) : wrap64 ((i : Int) + 1) = ((i + 1 : Nat) : Int) := by rw [wrap_in (by omega) (by omega)]; simp
theorem to_loop {α β ρ : Type} {l0 : Nat → List α → List β → Int → Option (List β)} {rdA : List α → Int → α} {E : Nat → α → Option ρ} {mk : ρ → β} {conv : α → β} {zA : α} {zB : β}
  (hl : ∀ k x y i, l0 (k + 1) x y i = if i < (x.length : Int) then (if 0 ≤ i then (E k (rdA x i)).bind fun r => (if i < (y.length : Int) then l0 k x (y.set i.toNat (mk r)) (wrap64 (i + 1)) else none) else none) else some y)
  (hrd : ∀ (x : List α) (i : Nat), rdA x (i : Int) = x.getD i zA) (x : List α) (hx : x.length ≤ 1048576) (hE : ∀ a ∈ x, ∃ r, Ev (fun k => E k a) r ∧ mk r = conv a) :
  Ev (fun k => l0 k x (List.replicate x.length zB) 0) (x.map conv) := by
 have key : ∀ (d i : Nat), i + d = x.length → ∀ y : List β, y.length = x.length → y.take i = (x.take i).map conv → Ev (fun k => l0 k x y (i : Int)) (x.map conv) := by
  intro d
  induction d with
  | zero =>
   intro i hi y hy ht
   refine Ev.succ ?_
   simp only [hl]
   refine Ev.no (by omega) ?_
   rw [List.take_of_length_le (by omega), List.take_of_length_le (by omega)] at ht
   subst ht
   exact Ev.now _
  | succ d ih =>
   intro i hi y hy ht
   have hli : i < x.length := by omega
   refine Ev.succ ?_
   simp only [hl]
   have hr : rdA x (i : Int) = x[i] := by rw [hrd, List.getD_eq_getElem?_getD, List.getElem?_eq_getElem hli]; rfl
   obtain ⟨r, h1, h2⟩ := hE x[i] (List.getElem_mem hli)
   simp only [hr]
   refine Ev.yes (by omega) (Ev.yes (by omega) (Ev.bind h1 (Ev.yes (by omega) ?_)))
   rw [idx_next hli hx]
   refine ih (i + 1) (by omega) _ (by simp [hy]) ?_
   simp only [Int.toNat_natCast]
   rw [List.take_succ_eq_append_getElem (by simp; omega), List.take_succ_eq_append_getElem hli, List.map_append, ← ht, List.take_set_of_le (Nat.le_refl _)]
   simp [h2]
 exact key x.length 0 (by omega) _ (by simp) (by simp)
theorem eq_loop {α : Type} {l0 : Nat → List α → List α → Int → Option Bool} {rdA : List α → Int → α} {E : Nat → α → α → Option Bool} {zA : α}
  (hl : ∀ k x y i, l0 (k + 1) x y i = if i < (x.length : Int) then (if 0 ≤ i then (if i < (y.length : Int) then (E k (rdA x i) (rdA y i)).bind fun t => (if t = true then l0 k x y (wrap64 (i + 1)) else some false) else none) else none) else some true)
  (hrd : ∀ (x : List α) (i : Nat), rdA x (i : Int) = x.getD i zA) (x : List α) (hx : x.length ≤ 1048576) (hE : ∀ a ∈ x, Ev (fun k => E k a a) true) : Ev (fun k => l0 k x x 0) true := by
 have key : ∀ (d i : Nat), i + d = x.length → Ev (fun k => l0 k x x (i : Int)) true := by
  intro d
  induction d with
  | zero =>
   intro i hi
   refine Ev.succ ?_
   simp only [hl]
   exact Ev.no (by omega) (Ev.now _)
  | succ d ih =>
   intro i hi
   have hli : i < x.length := by omega
   refine Ev.succ ?_
   simp only [hl]
   have hr : rdA x (i : Int) = x[i] := by rw [hrd, List.getD_eq_getElem?_getD, List.getElem?_eq_getElem hli]; rfl
   simp only [hr]
   refine Ev.yes (by omega) (Ev.yes (by omega) (Ev.yes (by omega) (Ev.bind (hE x[i] (List.getElem_mem hli)) (Ev.yes rfl ?_))))
   rw [idx_next hli hx]
   exact ih (i + 1) (by omega)
 exact key x.length 0 (by omega)
/-- How much is left of a room of 'a'. -/
def left (m a : Int) : Int := if m ≤ a then a - m else -1
def sumL {α : Type} (m : α → Int) (x : List α) : Int := (x.map m).sum
theorem sumL_nonneg {α : Type} {m : α → Int} (hm : ∀ a, 0 ≤ m a) : ∀ x : List α, 0 ≤ sumL m x
 | [] => by simp [sumL]
 | a :: x => by have := hm a; have := sumL_nonneg hm x; simp [sumL] at *; omega
theorem sumL_mem {α : Type} {m : α → Int} (hm : ∀ a, 0 ≤ m a) : ∀ {x : List α} {a : α}, a ∈ x → m a ≤ sumL m x
 | b :: x, a, h => by
  have h0 := sumL_nonneg hm x
  have hb := hm b
  rcases List.mem_cons.1 h with rfl | h
  ·simp [sumL] at *; omega
  ·have := sumL_mem hm h; simp [sumL] at *; omega
theorem sz_loop {α : Type} {l0 : Nat → List α → Int → Int → Option Int} {rdA : List α → Int → α} {E : Nat → α → Int → Option Int} {zA : α} {m : α → Int} (hm : ∀ a, 0 ≤ m a)
  (hl : ∀ k x a i, l0 (k + 1) x a i = if i < (x.length : Int) then (if 0 ≤ i then (E k (rdA x i) a).bind fun t => (if t < 0 then some (-1) else l0 k x t (wrap64 (i + 1))) else none) else some a)
  (hrd : ∀ (x : List α) (i : Nat), rdA x (i : Int) = x.getD i zA) (x : List α) (hx : x.length ≤ 1048576) (hE : ∀ z ∈ x, ∀ a, 0 ≤ a → a ≤ 1048576 → Ev (fun k => E k z a) (left (m z) a)) (a : Int) (h0 : 0 ≤ a) (h1 : a ≤ 1048576) :
  Ev (fun k => l0 k x a 0) (left (sumL m x) a) := by
 have key : ∀ (d i : Nat), i + d = x.length → ∀ a, 0 ≤ a → a ≤ 1048576 → Ev (fun k => l0 k x a (i : Int)) (left (sumL m (x.drop i)) a) := by
  intro d
  induction d with
  | zero =>
   intro i hi a h0 h1
   refine Ev.succ ?_
   simp only [hl]
   rw [List.drop_of_length_le (by omega)]
   refine Ev.no (by omega) ?_
   simp only [left, sumL, List.map_nil, List.sum_nil, Int.sub_zero, if_pos h0]
   exact Ev.now _
  | succ d ih =>
   intro i hi a h0 h1
   have hli : i < x.length := by omega
   refine Ev.succ ?_
   simp only [hl]
   have hr : rdA x (i : Int) = x[i] := by rw [hrd, List.getD_eq_getElem?_getD, List.getElem?_eq_getElem hli]; rfl
   simp only [hr]
   refine Ev.yes (by omega) (Ev.yes (by omega) (Ev.bind (hE x[i] (List.getElem_mem hli) a h0 h1) ?_))
   have hs : sumL m (x.drop i) = m x[i] + sumL m (x.drop (i + 1)) := by rw [List.drop_eq_getElem_cons hli]; unfold sumL; rw [List.map_cons, List.sum_cons]
   have hp := sumL_nonneg hm (x.drop (i + 1))
   have hq := hm x[i]
   rw [hs, idx_next hli hx]
   by_cases hc : m x[i] ≤ a
   ·have e : left (m x[i]) a = a - m x[i] := by simp [left, hc]
    rw [e]
    refine Ev.no (by omega) ?_
    have e2 : left (m x[i] + sumL m (x.drop (i + 1))) a = left (sumL m (x.drop (i + 1))) (a - m x[i]) := by
     unfold left
     by_cases h : m x[i] + sumL m (x.drop (i + 1)) ≤ a
     ·rw [if_pos h, if_pos (by omega)]; omega
     ·rw [if_neg h, if_neg (by omega)]
    rw [e2]
    exact ih (i + 1) (by omega) _ (by omega) (by omega)
   ·have e : left (m x[i]) a = -1 := by simp [left, hc]
    have e2 : left (m x[i] + sumL m (x.drop (i + 1))) a = -1 := by unfold left; rw [if_neg (by omega)]
    rw [e, e2]
    exact Ev.yes (by omega) (Ev.now _)
 simpa using key x.length 0 (by omega) a h0 h1
theorem left_step {m n a : Int} (h : m ≤ a) : left m a = a - m := by simp [left, h]
theorem left_no {m a : Int} (h : ¬ m ≤ a) : left m a = -1 := by simp [left, h]
/-- First one thing takes its room, then another one. -/
theorem sz_last {m a : Int} {E : Nat → Option Int} (hm : 0 ≤ m) (hE : Ev E (left m a)) : Ev (fun k => (E k).bind fun t => if t < 0 then some (-1) else some t) (left m a) := by
 refine Ev.bind hE ?_
 by_cases hc : m ≤ a
 ·rw [left_step (n := 0) hc]
  exact Ev.no (by omega) (Ev.now _)
 ·rw [left_no hc]
  exact Ev.yes (by omega) (Ev.now _)
/-- A list takes as much room as it has items. -/
theorem sz_len {n : Nat} {a : Int} {F : Nat → Int → Option Int} {m : Int} (hm : 0 ≤ m) (hn : n ≤ 9223372036854775807) (h0 : 0 ≤ a) (h1 : a ≤ 1048576) (hF : (n : Int) ≤ a → Ev (fun k => F k (a - n)) (left m (a - n))) :
  Ev (fun k => if wrap64 (a - (n : Int)) < 0 then some (-1) else F k (wrap64 (a - (n : Int)))) (left (n + m) a) := by
 have e : wrap64 (a - (n : Int)) = a - n := wrap_in (by omega) (by omega)
 rw [e]
 by_cases hc : (n : Int) ≤ a
 ·refine Ev.no (by omega) ?_
  have e : left (n + m) a = left m (a - n) := by
   unfold left
   by_cases h : n + m ≤ a
   ·rw [if_pos h, if_pos (by omega)]; omega
   ·rw [if_neg h, if_neg (by omega)]
  rw [e]
  exact hF hc
 ·rw [left_no (by omega)]
  exact Ev.yes (by omega) (Ev.now _)
theorem left_zero {a : Int} (h : 0 ≤ a) : left 0 a = a := by simp [left, h]
def cIns (x : S166) : S140 := ⟨x.f0, x.f1⟩
theorem eqIns_refl (x : S140) : Ev (fun k => laws_eqIns.f x.f0 x.f1 x.f0 x.f1) true := by
 unfold laws_eqIns.f
 exact Ev.yes rfl (Ev.yes rfl (Ev.now _))
def cInsS (x : List S166) : List S140 := x.map cIns
theorem mInsS_nonneg (x : List S166) : (0 : Int) ≤ (x.length : Int) := by omega
theorem szInsS_ev (x : List S166) (w : x.length ≤ 9223372036854775807 ∧ ∀ z ∈ x, wf166 z) (a : Int) (h0 : 0 ≤ a) (h1 : a ≤ 1048576) : Ev (fun _ => laws_szInsS.f x a) (left (x.length : Int) a) := by
 unfold laws_szInsS.f
 have h := sz_len (n := x.length) (a := a) (F := fun _ t => some t) (m := 0) (by omega) w.1 h0 h1 (fun h => by rw [left_zero (by omega)]; exact Ev.now _)
 simpa using h
theorem toInsS_ev (x : List S166) (h : (x.length : Int) ≤ 1048576) : Ev (fun k => laws_toInsS.f k x) (cInsS x) := by
 unfold laws_toInsS.f
 refine Ev.yes (by omega) (Ev.yes (by simp; omega) ?_)
 exact to_loop (l0 := laws_toInsS.l0) (rdA := rd_T166) (E := fun k z => laws_toIns.f z.f0 z.f1) (mk := fun r => (⟨r.1, r.2⟩ : S140)) (conv := cIns) (zA := z166) (zB := z140) (fun k x y i => by simp only [laws_toInsS.l0]) (fun _ _ => rfl) x (by omega) (fun z hz => ⟨_, ⟨0, fun _ _ => rfl⟩, rfl⟩)
def okInsS (x : List S140) : Prop := x.length ≤ 1048576
theorem okInsS_c (x : List S166) (h : (x.length : Int) ≤ 1048576) : okInsS (cInsS x) := by
 unfold okInsS cInsS
 rw [List.length_map]; omega
theorem eqInsS_refl (x : List S140) (h : okInsS x) : Ev (fun k => laws_eqInsS.f k x x) true := by
 unfold laws_eqInsS.f
 refine Ev.yes rfl ?_
 exact eq_loop (l0 := laws_eqInsS.l0) (rdA := rd_T140) (E := fun k a b => laws_eqIns.f a.f0 a.f1 b.f0 b.f1) (zA := z140) (fun k x y i => by simp only [laws_eqInsS.l0]) (fun _ _ => rfl) x h (fun a ha => eqIns_refl a)
def cFunc (x : S138) : S102 := ⟨x.f0, x.f1, (cInsS x.f2)⟩
def mFunc (x : S138) : Int := (x.f2.length : Int)
theorem mFunc_nonneg (x : S138) : 0 ≤ mFunc x := by
 unfold mFunc
 have h2 : (0 : Int) ≤ (x.f2.length : Int) := mInsS_nonneg _
 omega
theorem toFunc_ev (x : S138) (h : mFunc x ≤ 1048576) : Ev (fun k => laws_toFunc.f k x.f0 x.f1 x.f2) (x.f0, x.f1, (cInsS x.f2)) := by
 unfold mFunc at h
 have p2 : (0 : Int) ≤ (x.f2.length : Int) := mInsS_nonneg _
 have h2 : (x.f2.length : Int) ≤ 1048576 := by omega
 unfold laws_toFunc.f
 exact Ev.bind (toInsS_ev x.f2 h2) (Ev.now _)
theorem szFunc_ev (x : S138) (w : wf138 x) (a : Int) (h0 : 0 ≤ a) (h1 : a ≤ 1048576) : Ev (fun k => laws_szFunc.f x.f0 x.f1 x.f2 a) (left (mFunc x) a) := by
 obtain ⟨w0, w1, w2⟩ := w
 have p2 : (0 : Int) ≤ (x.f2.length : Int) := mInsS_nonneg _
 have e : mFunc x = (x.f2.length : Int) := by unfold mFunc; omega
 rw [e]
 unfold laws_szFunc.f
 exact sz_last (mInsS_nonneg _) (szInsS_ev x.f2 w2 a (by omega) (by omega))
def okFunc (x : S102) : Prop := okInsS x.f2
theorem okFunc_c (x : S138) (h : mFunc x ≤ 1048576) : okFunc (cFunc x) := by
 unfold mFunc at h
 have p2 : (0 : Int) ≤ (x.f2.length : Int) := mInsS_nonneg _
 exact okInsS_c _ (by omega)
theorem eqFunc_refl (x : S102) (h : okFunc x) : Ev (fun k => laws_eqFunc.f k x.f0 x.f1 x.f2 x.f0 x.f1 x.f2) true := by
 have h2 := h
 unfold laws_eqFunc.f
 exact Ev.yes rfl (Ev.yes rfl (Ev.bind (eqInsS_refl x.f2 h2) (Ev.yes rfl (Ev.now _))))
def cFuncS (x : List S138) : List S102 := x.map cFunc
theorem mFuncS_nonneg (x : List S138) : (0 : Int) ≤ (x.length + sumL mFunc x : Int) := by have := sumL_nonneg mFunc_nonneg x; omega
theorem szFuncS_ev (x : List S138) (w : x.length ≤ 9223372036854775807 ∧ ∀ z ∈ x, wf138 z) (a : Int) (h0 : 0 ≤ a) (h1 : a ≤ 1048576) : Ev (fun k => laws_szFuncS.f k x a) (left (x.length + sumL mFunc x : Int) a) := by
 unfold laws_szFuncS.f
 refine sz_len (F := fun k t => laws_szFuncS.l0 k x t 0) (sumL_nonneg mFunc_nonneg x) w.1 h0 h1 (fun h => ?_)
 exact sz_loop (l0 := laws_szFuncS.l0) (rdA := rd_T138) (E := fun k z a => laws_szFunc.f z.f0 z.f1 z.f2 a) (zA := z138) (m := mFunc) mFunc_nonneg (fun k x a i => by simp only [laws_szFuncS.l0]) (fun _ _ => rfl) x (by omega) (fun z hz a h0 h1 => szFunc_ev z (w.2 z hz) a h0 h1) _ (by omega) (by omega)
theorem toFuncS_ev (x : List S138) (h : (x.length + sumL mFunc x : Int) ≤ 1048576) : Ev (fun k => laws_toFuncS.f k x) (cFuncS x) := by
 unfold laws_toFuncS.f
 have hs := sumL_nonneg mFunc_nonneg x
 refine Ev.yes (by omega) (Ev.yes (by simp; omega) ?_)
 exact to_loop (l0 := laws_toFuncS.l0) (rdA := rd_T138) (E := fun k z => laws_toFunc.f k z.f0 z.f1 z.f2) (mk := fun r => (⟨r.1, r.2.1, r.2.2⟩ : S102)) (conv := cFunc) (zA := z138) (zB := z102) (fun k x y i => by simp only [laws_toFuncS.l0]) (fun _ _ => rfl) x (by omega) (fun z hz => ⟨_, toFunc_ev z (by have := sumL_mem mFunc_nonneg hz; omega), rfl⟩)
def okFuncS (x : List S102) : Prop := x.length ≤ 1048576 ∧ ∀ z ∈ x, okFunc z
theorem okFuncS_c (x : List S138) (h : (x.length + sumL mFunc x : Int) ≤ 1048576) : okFuncS (cFuncS x) := by
 have hs := sumL_nonneg mFunc_nonneg x
 refine ⟨by unfold cFuncS; rw [List.length_map]; omega, fun z hz => ?_⟩
 obtain ⟨y, hy, rfl⟩ := List.mem_map.1 hz
 exact okFunc_c y (by have := sumL_mem mFunc_nonneg hy; omega)
theorem eqFuncS_refl (x : List S102) (h : okFuncS x) : Ev (fun k => laws_eqFuncS.f k x x) true := by
 unfold laws_eqFuncS.f
 refine Ev.yes rfl ?_
 exact eq_loop (l0 := laws_eqFuncS.l0) (rdA := rd_T102) (E := fun k a b => laws_eqFunc.f k a.f0 a.f1 a.f2 b.f0 b.f1 b.f2) (zA := z102) (fun k x y i => by simp only [laws_eqFuncS.l0]) (fun _ _ => rfl) x h.1 (fun a ha => eqFunc_refl a (h.2 a ha))
def cProgram (x : S51) : S56 := ⟨(cFuncS x.f0)⟩
def mProgram (x : S51) : Int := (x.f0.length + sumL mFunc x.f0 : Int)
theorem mProgram_nonneg (x : S51) : 0 ≤ mProgram x := by
 unfold mProgram
 have h0 : (0 : Int) ≤ (x.f0.length + sumL mFunc x.f0 : Int) := mFuncS_nonneg _
 omega
theorem toProgram_ev (x : S51) (h : mProgram x ≤ 1048576) : Ev (fun k => laws_toProgram.f k x.f0) ((cFuncS x.f0)) := by
 unfold mProgram at h
 have p0 : (0 : Int) ≤ (x.f0.length + sumL mFunc x.f0 : Int) := mFuncS_nonneg _
 have h0 : (x.f0.length + sumL mFunc x.f0 : Int) ≤ 1048576 := by omega
 unfold laws_toProgram.f
 exact Ev.bind (toFuncS_ev x.f0 h0) (Ev.now _)
theorem szProgram_ev (x : S51) (w : wf51 x) (a : Int) (h0 : 0 ≤ a) (h1 : a ≤ 1048576) : Ev (fun k => laws_szProgram.f k x.f0 a) (left (mProgram x) a) := by
 unfold mProgram laws_szProgram.f
 exact sz_last (mFuncS_nonneg _) (szFuncS_ev x.f0 w a h0 h1)
def okProgram (x : S56) : Prop := okFuncS x.f0
theorem okProgram_c (x : S51) (h : mProgram x ≤ 1048576) : okProgram (cProgram x) := by
 unfold mProgram at h
 have p0 : (0 : Int) ≤ (x.f0.length + sumL mFunc x.f0 : Int) := mFuncS_nonneg _
 exact okFuncS_c _ (by omega)
theorem eqProgram_refl (x : S56) (h : okProgram x) : Ev (fun k => laws_eqProgram.f k x.f0 x.f0) true := by
 have h0 := h
 unfold laws_eqProgram.f
 exact Ev.bind (eqFuncS_refl x.f0 h0) (Ev.yes rfl (Ev.now _))
def sameI (a b : S140) : Bool := a.f0 == b.f0 && a.f1 == b.f1
theorem dropI (x : List S140) (i : Nat) (h : i < x.length) : x.drop i = rd_T140 x (i : Int) :: x.drop (i + 1) := drop_at x z140 i h
theorem specIns_l (p q r s : Int) (x y : List S140) (hxy : x.length = y.length) (hx : x.length ≤ 1048576) (d : Nat) : ∀ i : Nat, i + d = x.length → Ev (fun k => spec_FuncSame.l0 k (i : Int) p q x r s y) (sameL sameI (x.drop i) (y.drop i)) := by
 induction d with
 | zero =>
  intro i hi
  refine Ev.succ ?_
  simp only [spec_FuncSame.l0]
  refine Ev.no (by omega) ?_
  rw [List.drop_of_length_le (by omega), List.drop_of_length_le (by omega)]
  exact Ev.now _
 | succ d ih =>
  intro i hi
  refine Ev.succ ?_
  simp only [spec_FuncSame.l0]
  refine Ev.yes (by omega) (Ev.yes (by omega) (Ev.yes (by omega) ?_))
  have e : wrap64 ((i : Int) + 1) = ((i + 1 : Nat) : Int) := by rw [wrap_in (by omega) (by omega)]; simp
  rw [dropI x i (by omega), dropI y i (by omega), e]
  simp only [sameL]
  cases h : sameI (rd_T140 x i) (rd_T140 y i) with
  | true =>
   have h' := h
   simp only [sameI, Bool.and_eq_true, beq_iff_eq] at h'
   exact Ev.no (by rw [h'.1, h'.2]; simp) (by simpa using ih (i + 1) (by omega))
  | false => exact Ev.yes (nand h) (by simpa using Ev.now false)
theorem implIns_l (x y : List S140) (hxy : x.length = y.length) (hx : x.length ≤ 1048576) (d : Nat) : ∀ i : Nat, i + d = x.length → Ev (fun k => impl_Ins.l0 k x y (x.length : Int) (i : Int)) (sameL sameI (x.drop i) (y.drop i)) := by
 induction d with
 | zero =>
  intro i hi
  refine Ev.succ ?_
  simp only [impl_Ins.l0]
  refine Ev.no (by omega) ?_
  rw [List.drop_of_length_le (by omega), List.drop_of_length_le (by omega)]
  exact Ev.now _
 | succ d ih =>
  intro i hi
  refine Ev.succ ?_
  simp only [impl_Ins.l0]
  refine Ev.yes (by omega) (Ev.yes (by omega) (Ev.yes (by omega) (Ev.yes (by omega) ?_)))
  have e : wrap64 ((i : Int) + 1) = ((i + 1 : Nat) : Int) := by rw [wrap_in (by omega) (by omega)]; simp
  rw [dropI x i (by omega), dropI y i (by omega), e]
  simp only [sameL]
  cases h : sameI (rd_T140 x i) (rd_T140 y i) with
  | true =>
   have h' := h
   simp only [sameI, Bool.and_eq_true, beq_iff_eq] at h'
   exact Ev.no (by rw [h'.1, h'.2]; simp) (by simpa using ih (i + 1) (by omega))
  | false => exact Ev.yes (nand h) (by simpa using Ev.now false)
def sameF (p q : Int) (x : List S140) (r s : Int) (y : List S140) : Bool := p == r && (q == s && sameL sameI x y)
theorem specSame_ev (p q r s : Int) (x y : List S140) (hx : x.length ≤ 1048576) : Ev (fun k => spec_FuncSame.f k p q x r s y) (sameF p q x r s y) := by
 unfold spec_FuncSame.f sameF
 have hj : ∀ b : Bool, Ev (fun k => spec_FuncSame.j0 k true p q x r s y) false := fun b => Ev.succ (by simp only [spec_FuncSame.j0, if_true]; exact Ev.now false)
 refine Ev.cases (fun h1 => Ev.cases (fun h2 => ?_) (fun h2 => ?_)) (fun h1 => ?_)
 ·refine Ev.succ ?_
  simp only [spec_FuncSame.j0]
  refine Ev.cases (fun h3 => ?_) (fun h3 => ?_)
  ·rw [sameL_len x y (by simp at h3; omega)]
   simpa using Ev.now false
  ·subst h1 h2
   simpa using specIns_l p q p q x y (by simp at h3; omega) hx x.length 0 (by omega)
 ·rw [beq_no h2]; simpa using hj true
 ·rw [beq_no h1]; simpa using hj true
theorem implSame_ev (p q r s : Int) (x y : List S140) (hx : x.length ≤ 1048576) : Ev (fun k => impl_FuncSame.f k p q x r s y) (sameF p q x r s y) := by
 unfold impl_FuncSame.f sameF impl_Ins.f
 refine Ev.cases (fun h1 => Ev.cases (fun h2 => ?_) (fun h2 => ?_)) (fun h1 => ?_)
 ·refine Ev.bind (a := sameL sameI x y) (Ev.cases (fun h3 => ?_) (fun h3 => ?_)) (by simpa [h1, h2] using Ev.now (sameL sameI x y))
  ·exact implIns_l x y (by omega) hx x.length 0 (by omega)
  ·rw [sameL_len x y (by omega)]
   exact Ev.now _
 ·rw [beq_no h2]; simpa using Ev.now false
 ·rw [beq_no h1]; simpa using Ev.now false
def sameFn (a b : S102) : Bool := sameF a.f0 a.f1 a.f2 b.f0 b.f1 b.f2
theorem dropF (x : List S102) (i : Nat) (h : i < x.length) : x.drop i = rd_T102 x (i : Int) :: x.drop (i + 1) := drop_at x z102 i h
theorem rdF_mem (x : List S102) (i : Nat) (h : i < x.length) : rd_T102 x (i : Int) ∈ x := by
 have e : rd_T102 x (i : Int) = x[i] := by
  show x.getD i _ = _
  rw [List.getD_eq_getElem?_getD, List.getElem?_eq_getElem h]; rfl
 rw [e]; exact List.getElem_mem h
theorem specP_l (x y : List S102) (ox : okFuncS x) (hxy : x.length = y.length) (d : Nat) : ∀ i : Nat, i + d = x.length → Ev (fun k => spec_ProgramSame.l0 k (i : Int) x y) (sameL sameFn (x.drop i) (y.drop i)) := by
 have hx := ox.1
 induction d with
 | zero =>
  intro i hi
  refine Ev.succ ?_
  simp only [spec_ProgramSame.l0]
  refine Ev.no (by omega) ?_
  rw [List.drop_of_length_le (by omega), List.drop_of_length_le (by omega)]
  exact Ev.now _
 | succ d ih =>
  intro i hi
  refine Ev.succ ?_
  simp only [spec_ProgramSame.l0]
  have e : wrap64 ((i : Int) + 1) = ((i + 1 : Nat) : Int) := by rw [wrap_in (by omega) (by omega)]; simp
  rw [dropF x i (by omega), dropF y i (by omega), e]
  refine Ev.yes (by omega) (Ev.yes (by omega) (Ev.yes (by omega) (Ev.bind (specSame_ev _ _ _ _ _ _ (ox.2 _ (rdF_mem x i (by omega)))) ?_)))
  simp only [sameL, sameFn]
  cases h : sameF (rd_T102 x (i : Int)).f0 (rd_T102 x (i : Int)).f1 (rd_T102 x (i : Int)).f2 (rd_T102 y (i : Int)).f0 (rd_T102 y (i : Int)).f1 (rd_T102 y (i : Int)).f2 with
  | true => exact Ev.yes rfl (by simpa using ih (i + 1) (by omega))
  | false => exact Ev.no (by simp) (by simpa using Ev.now false)
theorem implP_l (x y : List S102) (ox : okFuncS x) (hxy : x.length = y.length) (d : Nat) : ∀ i : Nat, i + d = x.length → Ev (fun k => impl_Func.l0 k y x (x.length : Int) (i : Int)) (sameL sameFn (x.drop i) (y.drop i)) := by
 have hx := ox.1
 induction d with
 | zero =>
  intro i hi
  refine Ev.succ ?_
  simp only [impl_Func.l0]
  refine Ev.no (by omega) ?_
  rw [List.drop_of_length_le (by omega), List.drop_of_length_le (by omega)]
  exact Ev.now _
 | succ d ih =>
  intro i hi
  refine Ev.succ ?_
  simp only [impl_Func.l0]
  have e : wrap64 ((i : Int) + 1) = ((i + 1 : Nat) : Int) := by rw [wrap_in (by omega) (by omega)]; simp
  rw [dropF x i (by omega), dropF y i (by omega), e]
  refine Ev.yes (by omega) (Ev.yes (by omega) (Ev.yes (by omega) (Ev.yes (by omega) (Ev.bind (implSame_ev _ _ _ _ _ _ (ox.2 _ (rdF_mem x i (by omega)))) ?_))))
  simp only [sameL, sameFn]
  cases h : sameF (rd_T102 x (i : Int)).f0 (rd_T102 x (i : Int)).f1 (rd_T102 x (i : Int)).f2 (rd_T102 y (i : Int)).f0 (rd_T102 y (i : Int)).f1 (rd_T102 y (i : Int)).f2 with
  | true => exact Ev.yes rfl (by simpa using ih (i + 1) (by omega))
  | false => exact Ev.no (by simp) (by simpa using Ev.now false)
theorem specP_ev (x y : List S102) (ox : okFuncS x) : Ev (fun k => spec_ProgramSame.f k x y) (sameL sameFn x y) := by
 unfold spec_ProgramSame.f
 refine Ev.cases (fun h => ?_) (fun h => ?_)
 ·exact specP_l x y ox (by omega) x.length 0 (by omega)
 ·rw [sameL_len x y (by omega)]; exact Ev.now _
theorem implP_ev (x y : List S102) (ox : okFuncS x) : Ev (fun k => impl_ProgramSame.f k x y) (sameL sameFn x y) := by
 unfold impl_ProgramSame.f impl_Func.f
 refine Ev.bind (a := sameL sameFn x y) (Ev.cases (fun h => ?_) (fun h => ?_)) (Ev.now _)
 ·exact implP_l x y ox (by omega) x.length 0 (by omega)
 ·rw [sameL_len x y (by omega)]; exact Ev.now _
theorem FnExactProgramSame (x : S51) (wx : wf51 x) (y : S51) (wy : wf51 y) : ∃ k, laws_FnExactProgramSame.f k x.f0 y.f0 = some true := by
 refine Ev.rounds ?_
 unfold laws_FnExactProgramSame.f
 have hmx := mProgram_nonneg x
 have hmy := mProgram_nonneg y
 refine Ev.bind (szProgram_ev x wx 1048576 (by omega) (by omega)) ?_
 by_cases h : mProgram x ≤ 1048576
 case neg => rw [left_no h]; exact Ev.yes (by omega) (Ev.now _)
 have e1 : left (mProgram x) 1048576 = 1048576 - mProgram x := by simp [left, h]
 rw [e1]
 refine Ev.no (by omega) (Ev.bind (szProgram_ev y wy _ (by omega) (by omega)) ?_)
 by_cases h2 : mProgram y ≤ 1048576 - mProgram x
 case neg => rw [left_no h2]; exact Ev.yes (by omega) (Ev.now _)
 have e2 : left (mProgram y) (1048576 - mProgram x) = 1048576 - mProgram x - mProgram y := by simp [left, h2]
 rw [e2]
 have tx := toProgram_ev x h
 have ty := toProgram_ev y (by omega)
 have ox := okProgram_c x h
 have oy := okProgram_c y (by omega)
 refine Ev.no (by omega) (Ev.bind tx (Ev.bind ty (Ev.bind (specP_ev _ _ ox) (Ev.bind tx (Ev.bind ty (Ev.bind (implP_ev _ _ ox) (Ev.no (by simp) ?_)))))))
 exact Ev.bind tx (Ev.bind (eqProgram_refl (cProgram x) ox) (Ev.yes rfl (Ev.bind ty (Ev.bind (eqProgram_refl (cProgram y) oy) (Ev.yes rfl (Ev.now _))))))
end Go.Proofs.Ytkmohnlkldkhdaa.Pure
