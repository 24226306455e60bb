import Derived.Test.YticdldoijkdffaaCFnExactMixToldg1
import Derived.Test.YticdldoijkdffaaCFnExactMixToldf
namespace Go.Proofs.Yticdldoijkdffaa.Pure
open Go.RowKit Go.Proofs.Yticdldoijkdffaa.QFnExactMixTold Go.Proofs.YticdldoijkdffaaW.PrintWords Go.Proofs.YticdldoijkdffaaW.PrintLast
set_option linter.unusedVariables false
set_option linter.unusedSimpArgs false
theorem om {Q : Prop} (h : Q := by omega) : Q := h
structure S36 where
 f0 : (List S73)
 f1 : (List S75)
 f2 : (List (List Int))
 f3 : (List Int)
 f4 : Int
 f5 : Bool
 f6 : Int
 f7 : Int
structure S31 where
 f0 : (List S79)
 f1 : (List (List Int))
 f2 : (List Int)
 f3 : Int
 f4 : Bool
 f5 : Int
 f6 : Int
theorem Ev.succ {α : Type} {g : Nat → Option α} {r : α} (h : Ev (fun k => g (k + 1)) r) : Ev g r := Ev.step (fun _ => rfl) h
theorem Ev.yes {α : Type} {c : Prop} [Decidable c] {g f : Nat → Option α} {r : α} (hc : c) (h : Ev g r) : Ev (fun k => if c then g k else f k) r := Ev.congr (fun _ => if_pos hc) h
theorem Ev.no {α : Type} {c : Prop} [Decidable c] {g f : Nat → Option α} {r : α} (hc : ¬ c) (h : Ev f r) : Ev (fun k => if c then g k else f k) r := Ev.congr (fun _ => if_neg hc) h
theorem Ev.flat {α β : Type} {g : Option α} {f : Nat → α → Option β} {a : α} {r : β} (h : g = some a) (k : Ev (fun n => f n a) r) : Ev (fun n => g.bind (f n)) r := Ev.bind (g := fun _ => g) ⟨0, fun _ _ => h⟩ k
theorem wrap_in {n : Int} (h0 : -9223372036854775808 ≤ n) (h1 : n ≤ 9223372036854775807) : wrap64 n = n := by unfold wrap64; omega
theorem idx_next {i n : Nat} (h : i < n) (hn : n ≤ 1048576) : wrap64 ((i : Int) + 1) = ((i + 1 : Nat) : Int) := by rw [wrap_in om om]; simp
theorem to_loop {α β ρ : Type} {l0 : Nat → List α → List β → Int → Option (List β)} {rdA : List α → Int → α} {E : Nat → α → Option ρ} {mk : ρ → β} {conv : α → β} {zA : α} {zB : β}
  (hl : ∀ k x y i, l0 (k + 1) x y i = if i < (x.length : Int) then (if 0 ≤ i then (E k (rdA x i)).bind fun r => (if i < (y.length : Int) then l0 k x (y.set i.toNat (mk r)) (wrap64 (i + 1)) else none) else none) else some y)
  (hrd : ∀ (x : List α) (i : Nat), rdA x (i : Int) = x.getD i zA) (x : List α) (hx : x.length ≤ 1048576) (hE : ∀ a ∈ x, ∃ r, Ev (fun k => E k a) r ∧ mk r = conv a) :
  Ev (fun k => l0 k x (List.replicate x.length zB) 0) (x.map conv) := by
 have key : ∀ (d i : Nat), i + d = x.length → ∀ y : List β, y.length = x.length → y.take i = (x.take i).map conv → Ev (fun k => l0 k x y (i : Int)) (x.map conv) := by
  intro d
  induction d with
  | zero =>
   intro i hi y hy ht
   refine Ev.succ ?_
   simp only [hl]
   refine Ev.no om ?_
   rw [List.take_of_length_le om, List.take_of_length_le om] at ht
   subst ht
   exact Ev.now _
  | succ d ih =>
   intro i hi y hy ht
   have hli : i < x.length := by omega
   refine Ev.succ ?_
   simp only [hl]
   have hr : rdA x (i : Int) = x[i] := by rw [hrd, List.getD_eq_getElem?_getD, List.getElem?_eq_getElem hli]; rfl
   obtain ⟨r, h1, h2⟩ := hE x[i] (List.getElem_mem hli)
   simp only [hr]
   refine Ev.yes om (Ev.yes om (Ev.bind h1 (Ev.yes om ?_)))
   rw [idx_next hli hx]
   refine ih (i + 1) om _ (by simp [hy]) ?_
   simp only [Int.toNat_natCast]
   rw [List.take_succ_eq_append_getElem (by simp; omega), List.take_succ_eq_append_getElem hli, List.map_append, ← ht, List.take_set_of_le (Nat.le_refl _)]
   simp [h2]
 exact key x.length 0 om _ (by simp) (by simp)
theorem eq_loop {α : Type} {l0 : Nat → List α → List α → Int → Option Bool} {rdA : List α → Int → α} {E : Nat → α → α → Option Bool} {zA : α}
  (hl : ∀ k x y i, l0 (k + 1) x y i = if i < (x.length : Int) then (if 0 ≤ i then (if i < (y.length : Int) then (E k (rdA x i) (rdA y i)).bind fun t => (if t = true then l0 k x y (wrap64 (i + 1)) else some false) else none) else none) else some true)
  (hrd : ∀ (x : List α) (i : Nat), rdA x (i : Int) = x.getD i zA) (x : List α) (hx : x.length ≤ 1048576) (hE : ∀ a ∈ x, Ev (fun k => E k a a) true) : Ev (fun k => l0 k x x 0) true := by
 have key : ∀ (d i : Nat), i + d = x.length → Ev (fun k => l0 k x x (i : Int)) true := by
  intro d
  induction d with
  | zero =>
   intro i hi
   refine Ev.succ ?_
   simp only [hl]
   exact Ev.no om (Ev.now _)
  | succ d ih =>
   intro i hi
   have hli : i < x.length := by omega
   refine Ev.succ ?_
   simp only [hl]
   have hr : rdA x (i : Int) = x[i] := by rw [hrd, List.getD_eq_getElem?_getD, List.getElem?_eq_getElem hli]; rfl
   simp only [hr]
   refine Ev.yes om (Ev.yes om (Ev.yes om (Ev.bind (hE x[i] (List.getElem_mem hli)) (Ev.yes rfl ?_))))
   rw [idx_next hli hx]
   exact ih (i + 1) om
 exact key x.length 0 om
def left (m a : Int) : Int := if m ≤ a then a - m else -1
def sumL {α : Type} (m : α → Int) (x : List α) : Int := (x.map m).sum
theorem sumL_nonneg {α : Type} {m : α → Int} (hm : ∀ a, 0 ≤ m a) : ∀ x : List α, 0 ≤ sumL m x
 | [] => by simp [sumL]
 | a :: x => by have := hm a; have := sumL_nonneg hm x; simp [sumL] at *; omega
theorem sumL_mem {α : Type} {m : α → Int} (hm : ∀ a, 0 ≤ m a) : ∀ {x : List α} {a : α}, a ∈ x → m a ≤ sumL m x
 | b :: x, a, h => by
  have h0 := sumL_nonneg hm x
  have hb := hm b
  rcases List.mem_cons.1 h with rfl | h
  ·simp [sumL] at *; omega
  ·have := sumL_mem hm h; simp [sumL] at *; omega
theorem sz_loop {α : Type} {l0 : Nat → List α → Int → Int → Option Int} {rdA : List α → Int → α} {E : Nat → α → Int → Option Int} {zA : α} {m : α → Int} (hm : ∀ a, 0 ≤ m a)
  (hl : ∀ k x a i, l0 (k + 1) x a i = if i < (x.length : Int) then (if 0 ≤ i then (E k (rdA x i) a).bind fun t => (if t < 0 then some (-1) else l0 k x t (wrap64 (i + 1))) else none) else some a)
  (hrd : ∀ (x : List α) (i : Nat), rdA x (i : Int) = x.getD i zA) (x : List α) (hx : x.length ≤ 1048576) (hE : ∀ z ∈ x, ∀ a, 0 ≤ a → a ≤ 1048576 → Ev (fun k => E k z a) (left (m z) a)) (a : Int) (h0 : 0 ≤ a) (h1 : a ≤ 1048576) :
  Ev (fun k => l0 k x a 0) (left (sumL m x) a) := by
 have key : ∀ (d i : Nat), i + d = x.length → ∀ a, 0 ≤ a → a ≤ 1048576 → Ev (fun k => l0 k x a (i : Int)) (left (sumL m (x.drop i)) a) := by
  intro d
  induction d with
  | zero =>
   intro i hi a h0 h1
   refine Ev.succ ?_
   simp only [hl]
   rw [List.drop_of_length_le om]
   refine Ev.no om ?_
   simp only [left, sumL, List.map_nil, List.sum_nil, Int.sub_zero, if_pos h0]
   exact Ev.now _
  | succ d ih =>
   intro i hi a h0 h1
   have hli : i < x.length := by omega
   refine Ev.succ ?_
   simp only [hl]
   have hr : rdA x (i : Int) = x[i] := by rw [hrd, List.getD_eq_getElem?_getD, List.getElem?_eq_getElem hli]; rfl
   simp only [hr]
   refine Ev.yes om (Ev.yes om (Ev.bind (hE x[i] (List.getElem_mem hli) a h0 h1) ?_))
   have hs : sumL m (x.drop i) = m x[i] + sumL m (x.drop (i + 1)) := by rw [List.drop_eq_getElem_cons hli]; unfold sumL; rw [List.map_cons, List.sum_cons]
   have hp := sumL_nonneg hm (x.drop (i + 1))
   have hq := hm x[i]
   rw [hs, idx_next hli hx]
   by_cases hc : m x[i] ≤ a
   ·have e : left (m x[i]) a = a - m x[i] := by simp [left, hc]
    rw [e]
    refine Ev.no om ?_
    have e2 : left (m x[i] + sumL m (x.drop (i + 1))) a = left (sumL m (x.drop (i + 1))) (a - m x[i]) := by
     unfold left
     by_cases h : m x[i] + sumL m (x.drop (i + 1)) ≤ a
     ·rw [if_pos h, if_pos om]; omega
     ·rw [if_neg h, if_neg om]
    rw [e2]
    exact ih (i + 1) om _ om om
   ·have e : left (m x[i]) a = -1 := by simp [left, hc]
    have e2 : left (m x[i] + sumL m (x.drop (i + 1))) a = -1 := by unfold left; rw [if_neg om]
    rw [e, e2]
    exact Ev.yes om (Ev.now _)
 simpa using key x.length 0 om a h0 h1
theorem left_step {m n a : Int} (h : m ≤ a) : left m a = a - m := by simp [left, h]
theorem left_no {m a : Int} (h : ¬ m ≤ a) : left m a = -1 := by simp [left, h]
theorem sz_then {m n a : Int} {E : Nat → Option Int} {F : Nat → Int → Option Int} (hm : 0 ≤ m) (hn : 0 ≤ n) (h0 : 0 ≤ a) (h1 : a ≤ 1048576) (hE : Ev E (left m a)) (hF : m ≤ a → Ev (fun k => F k (a - m)) (left n (a - m))) :
  Ev (fun k => (E k).bind fun t => if t < 0 then some (-1) else F k t) (left (m + n) a) := by
 refine Ev.bind hE ?_
 by_cases hc : m ≤ a
 ·rw [left_step (n := 0) hc]
  refine Ev.no om ?_
  have e : left (m + n) a = left n (a - m) := by
   unfold left
   by_cases h : m + n ≤ a
   ·rw [if_pos h, if_pos om]; omega
   ·rw [if_neg h, if_neg om]
  rw [e]
  exact hF hc
 ·rw [left_no hc, left_no om]
  exact Ev.yes om (Ev.now _)
theorem sz_last {m a : Int} {E : Nat → Option Int} (hm : 0 ≤ m) (hE : Ev E (left m a)) : Ev (fun k => (E k).bind fun t => if t < 0 then some (-1) else some t) (left m a) := by
 refine Ev.bind hE ?_
 by_cases hc : m ≤ a
 ·rw [left_step (n := 0) hc]
  exact Ev.no om (Ev.now _)
 ·rw [left_no hc]
  exact Ev.yes om (Ev.now _)
theorem sz_len {n : Nat} {a : Int} {F : Nat → Int → Option Int} {m : Int} (hm : 0 ≤ m) (hn : n ≤ 9223372036854775807) (h0 : 0 ≤ a) (h1 : a ≤ 1048576) (hF : (n : Int) ≤ a → Ev (fun k => F k (a - n)) (left m (a - n))) :
  Ev (fun k => if wrap64 (a - (n : Int)) < 0 then some (-1) else F k (wrap64 (a - (n : Int)))) (left (n + m) a) := by
 have e : wrap64 (a - (n : Int)) = a - n := wrap_in om om
 rw [e]
 by_cases hc : (n : Int) ≤ a
 ·refine Ev.no om ?_
  have e : left (n + m) a = left m (a - n) := by
   unfold left
   by_cases h : n + m ≤ a
   ·rw [if_pos h, if_pos om]; omega
   ·rw [if_neg h, if_neg om]
  rw [e]
  exact hF hc
 ·rw [left_no om]
  exact Ev.yes om (Ev.now _)
theorem left_zero {a : Int} (h : 0 ≤ a) : left 0 a = a := by simp [left, h]
theorem eq_loop_int {l0 : Nat → List Int → List Int → Int → Option Bool}
  (hl : ∀ k x y i, l0 (k + 1) x y i = if i < (x.length : Int) then (if 0 ≤ i then (if i < (y.length : Int) then (if rd x i = rd y i then l0 k x y (wrap64 (i + 1)) else some false) else none) else none) else some true)
  (x : List Int) (hx : x.length ≤ 1048576) : Ev (fun k => l0 k x x 0) true := by
 have key : ∀ (d i : Nat), i + d = x.length → Ev (fun k => l0 k x x (i : Int)) true := by
  intro d
  induction d with
  | zero =>
   intro i hi
   refine Ev.succ ?_
   simp only [hl]
   exact Ev.no om (Ev.now _)
  | succ d ih =>
   intro i hi
   refine Ev.succ ?_
   simp only [hl]
   refine Ev.yes om (Ev.yes om (Ev.yes om (Ev.yes (by simp) ?_)))
   rw [idx_next (show i < x.length by omega) hx]
   exact ih (i + 1) om
 exact key x.length 0 om
theorem to_loop_int {l0 : Nat → List Int → List Int → Int → Option (List Int)}
  (hl : ∀ k x y i, l0 (k + 1) x y i = if i < (x.length : Int) then (if 0 ≤ i then (if i < (y.length : Int) then l0 k x (y.set i.toNat (rd x i)) (wrap64 (i + 1)) else none) else none) else some y)
  (x : List Int) (hx : x.length ≤ 1048576) (z : Int) : Ev (fun k => l0 k x (List.replicate x.length z) 0) x := by
 have h := to_loop (l0 := l0) (rdA := rd) (E := fun _ a => some a) (mk := fun a => a) (conv := fun a => a) (zA := 0) (zB := z) (fun k x y i => by rw [hl]; rfl) (fun _ _ => rfl) x hx (fun a _ => ⟨a, Ev.now _, rfl⟩)
 simpa using h
def cVal (x : S113) : S107 := ⟨x.f0, x.f1⟩
theorem eqVal_refl (x : S107) : Ev (fun k => laws_eqVal.f x.f0 x.f1 x.f0 x.f1) true := by
 unfold laws_eqVal.f
 exact Ev.yes rfl (Ev.yes rfl (Ev.now _))
def cMov (x : S118) : S109 := ⟨x.f0, (cVal x.f1)⟩
theorem eqMov_refl (x : S109) : Ev (fun k => laws_eqMov.f x.f0 x.f1.f0 x.f1.f1 x.f0 x.f1.f0 x.f1.f1) true := by
 unfold laws_eqMov.f
 exact Ev.yes rfl (Ev.bind (eqVal_refl x.f1) (Ev.yes rfl (Ev.now _)))
def cMovS (x : List S118) : List S109 := x.map cMov
theorem mMovS_nonneg (x : List S118) : (0 : Int) ≤ (x.length : Int) := by omega
theorem szMovS_ev (x : List S118) (w : x.length ≤ 9223372036854775807 ∧ ∀ z ∈ x, wf118 z) (a : Int) (h0 : 0 ≤ a) (h1 : a ≤ 1048576) : Ev (fun _ => laws_szMovS.f x a) (left (x.length : Int) a) := by
 unfold laws_szMovS.f
 have h := sz_len (n := x.length) (a := a) (F := fun _ t => some t) (m := 0) om w.1 h0 h1 (fun h => by rw [left_zero om]; exact Ev.now _)
 simpa using h
theorem toMovS_ev (x : List S118) (h : (x.length : Int) ≤ 1048576) : Ev (fun k => laws_toMovS.f k x) (cMovS x) := by
 unfold laws_toMovS.f
 refine Ev.yes om (Ev.yes (by simp; omega) ?_)
 exact to_loop (l0 := laws_toMovS.l0) (rdA := rd_T118) (E := fun k z => laws_toMov.f z.f0 z.f1.f0 z.f1.f1) (mk := fun r => (⟨r.1, (⟨r.2.1, r.2.2⟩ : S107)⟩ : S109)) (conv := cMov) (zA := z118) (zB := z109) (fun k x y i => by simp only [laws_toMovS.l0]) (fun _ _ => rfl) x om (fun z hz => ⟨_, ⟨0, fun _ _ => rfl⟩, rfl⟩)
def okMovS (x : List S109) : Prop := x.length ≤ 1048576
theorem okMovS_c (x : List S118) (h : (x.length : Int) ≤ 1048576) : okMovS (cMovS x) := by
 unfold okMovS cMovS
 rw [List.length_map]; omega
theorem eqMovS_refl (x : List S109) (h : okMovS x) : Ev (fun k => laws_eqMovS.f k x x) true := by
 unfold laws_eqMovS.f
 refine Ev.yes rfl ?_
 exact eq_loop (l0 := laws_eqMovS.l0) (rdA := rd_T109) (E := fun k a b => laws_eqMov.f a.f0 a.f1.f0 a.f1.f1 b.f0 b.f1.f0 b.f1.f1) (zA := z109) (fun k x y i => by simp only [laws_eqMovS.l0]) (fun _ _ => rfl) x h (fun a ha => eqMov_refl a)
def cValS (x : List S113) : List S107 := x.map cVal
theorem mValS_nonneg (x : List S113) : (0 : Int) ≤ (x.length : Int) := by omega
def mValS (x : List S113) : Int := (x.length : Int)
theorem mValS_nonneg' (x : List S113) : 0 ≤ mValS x := mValS_nonneg x
theorem szValS_ev (x : List S113) (w : x.length ≤ 9223372036854775807 ∧ ∀ z ∈ x, wf113 z) (a : Int) (h0 : 0 ≤ a) (h1 : a ≤ 1048576) : Ev (fun _ => laws_szValS.f x a) (left (x.length : Int) a) := by
 unfold laws_szValS.f
 have h := sz_len (n := x.length) (a := a) (F := fun _ t => some t) (m := 0) om w.1 h0 h1 (fun h => by rw [left_zero om]; exact Ev.now _)
 simpa using h
theorem toValS_ev (x : List S113) (h : (x.length : Int) ≤ 1048576) : Ev (fun k => laws_toValS.f k x) (cValS x) := by
 unfold laws_toValS.f
 refine Ev.yes om (Ev.yes (by simp; omega) ?_)
 exact to_loop (l0 := laws_toValS.l0) (rdA := rd_T113) (E := fun k z => laws_toVal.f z.f0 z.f1) (mk := fun r => (⟨r.1, r.2⟩ : S107)) (conv := cVal) (zA := z113) (zB := z107) (fun k x y i => by simp only [laws_toValS.l0]) (fun _ _ => rfl) x om (fun z hz => ⟨_, ⟨0, fun _ _ => rfl⟩, rfl⟩)
def okValS (x : List S107) : Prop := x.length ≤ 1048576
theorem okValS_c (x : List S113) (h : (x.length : Int) ≤ 1048576) : okValS (cValS x) := by
 unfold okValS cValS
 rw [List.length_map]; omega
theorem eqValS_refl (x : List S107) (h : okValS x) : Ev (fun k => laws_eqValS.f k x x) true := by
 unfold laws_eqValS.f
 refine Ev.yes rfl ?_
 exact eq_loop (l0 := laws_eqValS.l0) (rdA := rd_T107) (E := fun k a b => laws_eqVal.f a.f0 a.f1 b.f0 b.f1) (zA := z107) (fun k x y i => by simp only [laws_eqValS.l0]) (fun _ _ => rfl) x h (fun a ha => eqVal_refl a)
def cAsmIns (x : S100) : S94 := ⟨(cMovS x.f0), x.f1, x.f2, (cValS x.f3), x.f4⟩
def mAsmIns (x : S100) : Int := (x.f0.length : Int) + (x.f3.length : Int)
theorem mAsmIns_nonneg (x : S100) : 0 ≤ mAsmIns x := by
 unfold mAsmIns
 have h0 : (0 : Int) ≤ (x.f0.length : Int) := mMovS_nonneg _
 have h3 : (0 : Int) ≤ (x.f3.length : Int) := mValS_nonneg _
 omega
theorem toAsmIns_ev (x : S100) (h : mAsmIns x ≤ 1048576) : Ev (fun k => laws_toAsmIns.f k x.f0 x.f1 x.f2 x.f3 x.f4) ((cMovS x.f0), x.f1, x.f2, (cValS x.f3), x.f4) := by
 unfold mAsmIns at h
 have p0 : (0 : Int) ≤ (x.f0.length : Int) := mMovS_nonneg _
 have p3 : (0 : Int) ≤ (x.f3.length : Int) := mValS_nonneg _
 have h0 : (x.f0.length : Int) ≤ 1048576 := by omega
 have h3 : (x.f3.length : Int) ≤ 1048576 := by omega
 unfold laws_toAsmIns.f
 exact Ev.bind (toMovS_ev x.f0 h0) (Ev.bind (toValS_ev x.f3 h3) (Ev.now _))
theorem szAsmIns_ev (x : S100) (w : wf100 x) (a : Int) (h0 : 0 ≤ a) (h1 : a ≤ 1048576) : Ev (fun k => laws_szAsmIns.f x.f0 x.f1 x.f2 x.f3 x.f4 a) (left (mAsmIns x) a) := by
 obtain ⟨w0, w1, w2, w3, w4⟩ := w
 have p0 : (0 : Int) ≤ (x.f0.length : Int) := mMovS_nonneg _
 have p3 : (0 : Int) ≤ (x.f3.length : Int) := mValS_nonneg _
 have e : mAsmIns x = (x.f0.length : Int) + ((x.f3.length : Int)) := by unfold mAsmIns; omega
 rw [e]
 unfold laws_szAsmIns.f
 exact sz_then (mMovS_nonneg _) om om om (szMovS_ev x.f0 w0 a om om) (fun hq0 => sz_last (mValS_nonneg _) (szValS_ev x.f3 w3 (a - (x.f0.length : Int)) om om))
def okAsmIns (x : S94) : Prop := okMovS x.f0 ∧ okValS x.f3
theorem okAsmIns_c (x : S100) (h : mAsmIns x ≤ 1048576) : okAsmIns (cAsmIns x) := by
 unfold mAsmIns at h
 have p0 : (0 : Int) ≤ (x.f0.length : Int) := mMovS_nonneg _
 have p3 : (0 : Int) ≤ (x.f3.length : Int) := mValS_nonneg _
 exact ⟨okMovS_c _ om, okValS_c _ om⟩
theorem eqAsmIns_refl (x : S94) (h : okAsmIns x) : Ev (fun k => laws_eqAsmIns.f k x.f0 x.f1 x.f2 x.f3 x.f4 x.f0 x.f1 x.f2 x.f3 x.f4) true := by
 obtain ⟨h0, h3⟩ := h
 unfold laws_eqAsmIns.f
 exact Ev.bind (eqMovS_refl x.f0 h0) (Ev.yes rfl (Ev.yes rfl (Ev.yes rfl (Ev.bind (eqValS_refl x.f3 h3) (Ev.yes rfl (Ev.yes rfl (Ev.now _)))))))
def cAsmInsS (x : List S100) : List S94 := x.map cAsmIns
theorem mAsmInsS_nonneg (x : List S100) : (0 : Int) ≤ (x.length + sumL mAsmIns x : Int) := by have := sumL_nonneg mAsmIns_nonneg x; omega
theorem szAsmInsS_ev (x : List S100) (w : x.length ≤ 9223372036854775807 ∧ ∀ z ∈ x, wf100 z) (a : Int) (h0 : 0 ≤ a) (h1 : a ≤ 1048576) : Ev (fun k => laws_szAsmInsS.f k x a) (left (x.length + sumL mAsmIns x : Int) a) := by
 unfold laws_szAsmInsS.f
 refine sz_len (F := fun k t => laws_szAsmInsS.l0 k x t 0) (sumL_nonneg mAsmIns_nonneg x) w.1 h0 h1 (fun h => ?_)
 exact sz_loop (l0 := laws_szAsmInsS.l0) (rdA := rd_T100) (E := fun k z a => laws_szAsmIns.f z.f0 z.f1 z.f2 z.f3 z.f4 a) (zA := z100) (m := mAsmIns) mAsmIns_nonneg (fun k x a i => by simp only [laws_szAsmInsS.l0]) (fun _ _ => rfl) x om (fun z hz a h0 h1 => szAsmIns_ev z (w.2 z hz) a h0 h1) _ om om
theorem toAsmInsS_ev (x : List S100) (h : (x.length + sumL mAsmIns x : Int) ≤ 1048576) : Ev (fun k => laws_toAsmInsS.f k x) (cAsmInsS x) := by
 unfold laws_toAsmInsS.f
 have hs := sumL_nonneg mAsmIns_nonneg x
 refine Ev.yes om (Ev.yes (by simp; omega) ?_)
 exact to_loop (l0 := laws_toAsmInsS.l0) (rdA := rd_T100) (E := fun k z => laws_toAsmIns.f k z.f0 z.f1 z.f2 z.f3 z.f4) (mk := fun r => (⟨r.1, r.2.1, r.2.2.1, r.2.2.2.1, r.2.2.2.2⟩ : S94)) (conv := cAsmIns) (zA := z100) (zB := z94) (fun k x y i => by simp only [laws_toAsmInsS.l0]) (fun _ _ => rfl) x om (fun z hz => ⟨_, toAsmIns_ev z (by have := sumL_mem mAsmIns_nonneg hz; omega), rfl⟩)
def okAsmInsS (x : List S94) : Prop := x.length ≤ 1048576 ∧ ∀ z ∈ x, okAsmIns z
theorem okAsmInsS_c (x : List S100) (h : (x.length + sumL mAsmIns x : Int) ≤ 1048576) : okAsmInsS (cAsmInsS x) := by
 have hs := sumL_nonneg mAsmIns_nonneg x
 refine ⟨by unfold cAsmInsS; rw [List.length_map]; omega, fun z hz => ?_⟩
 obtain ⟨y, hy, rfl⟩ := List.mem_map.1 hz
 exact okAsmIns_c y (by have := sumL_mem mAsmIns_nonneg hy; omega)
theorem eqAsmInsS_refl (x : List S94) (h : okAsmInsS x) : Ev (fun k => laws_eqAsmInsS.f k x x) true := by
 unfold laws_eqAsmInsS.f
 refine Ev.yes rfl ?_
 exact eq_loop (l0 := laws_eqAsmInsS.l0) (rdA := rd_T94) (E := fun k a b => laws_eqAsmIns.f k a.f0 a.f1 a.f2 a.f3 a.f4 b.f0 b.f1 b.f2 b.f3 b.f4) (zA := z94) (fun k x y i => by simp only [laws_eqAsmInsS.l0]) (fun _ _ => rfl) x h.1 (fun a ha => eqAsmIns_refl a (h.2 a ha))
def cValSS (x : List (List S113)) : List (List S107) := x.map cValS
theorem mValSS_nonneg (x : List (List S113)) : (0 : Int) ≤ (x.length + sumL mValS x : Int) := by have := sumL_nonneg mValS_nonneg' x; omega
theorem szValSS_ev (x : List (List S113)) (w : x.length ≤ 9223372036854775807 ∧ ∀ z ∈ x, (z.length ≤ 9223372036854775807 ∧ ∀ z' ∈ z, wf113 z')) (a : Int) (h0 : 0 ≤ a) (h1 : a ≤ 1048576) : Ev (fun k => laws_szValSS.f k x a) (left (x.length + sumL mValS x : Int) a) := by
 unfold laws_szValSS.f
 refine sz_len (F := fun k t => laws_szValSS.l0 k x t 0) (sumL_nonneg mValS_nonneg' x) w.1 h0 h1 (fun h => ?_)
 exact sz_loop (l0 := laws_szValSS.l0) (rdA := rd_L4) (E := fun k z a => laws_szValS.f z a) (zA := []) (m := mValS) mValS_nonneg' (fun k x a i => by simp only [laws_szValSS.l0]) (fun _ _ => rfl) x om (fun z hz a h0 h1 => szValS_ev z (w.2 z hz) a h0 h1) _ om om
theorem toValSS_ev (x : List (List S113)) (h : (x.length + sumL mValS x : Int) ≤ 1048576) : Ev (fun k => laws_toValSS.f k x) (cValSS x) := by
 unfold laws_toValSS.f
 have hs := sumL_nonneg mValS_nonneg' x
 refine Ev.yes om (Ev.yes (by simp; omega) ?_)
 exact to_loop (l0 := laws_toValSS.l0) (rdA := rd_L4) (E := fun k z => laws_toValS.f k z) (mk := fun r => r) (conv := cValS) (zA := []) (zB := []) (fun k x y i => by simp only [laws_toValSS.l0]) (fun _ _ => rfl) x om (fun z hz => ⟨_, toValS_ev z (by have := sumL_mem mValS_nonneg' hz; have e2 : mValS z = (z.length : Int) := rfl; omega), rfl⟩)
def okValSS (x : List (List S107)) : Prop := x.length ≤ 1048576 ∧ ∀ z ∈ x, okValS z
theorem okValSS_c (x : List (List S113)) (h : (x.length + sumL mValS x : Int) ≤ 1048576) : okValSS (cValSS x) := by
 have hs := sumL_nonneg mValS_nonneg' x
 refine ⟨by unfold cValSS; rw [List.length_map]; omega, fun z hz => ?_⟩
 obtain ⟨y, hy, rfl⟩ := List.mem_map.1 hz
 exact okValS_c y (by have := sumL_mem mValS_nonneg' hy; have e2 : mValS y = (y.length : Int) := rfl; omega)
theorem eqValSS_refl (x : List (List S107)) (h : okValSS x) : Ev (fun k => laws_eqValSS.f k x x) true := by
 unfold laws_eqValSS.f
 refine Ev.yes rfl ?_
 exact eq_loop (l0 := laws_eqValSS.l0) (rdA := rd_L16) (E := fun k a b => laws_eqValS.f k a b) (zA := []) (fun k x y i => by simp only [laws_eqValSS.l0]) (fun _ _ => rfl) x h.1 (fun a ha => eqValS_refl a (h.2 a ha))
def cAsm (x : S66) : S73 := ⟨x.f0, (cAsmInsS x.f1), (cValSS x.f2)⟩
def mAsm (x : S66) : Int := (x.f1.length + sumL mAsmIns x.f1 : Int) + (x.f2.length + sumL mValS x.f2 : Int)
theorem mAsm_nonneg (x : S66) : 0 ≤ mAsm x := by
 unfold mAsm
 have h1 : (0 : Int) ≤ (x.f1.length + sumL mAsmIns x.f1 : Int) := mAsmInsS_nonneg _
 have h2 : (0 : Int) ≤ (x.f2.length + sumL mValS x.f2 : Int) := mValSS_nonneg _
 omega
theorem toAsm_ev (x : S66) (h : mAsm x ≤ 1048576) : Ev (fun k => laws_toAsm.f k x.f0 x.f1 x.f2) (x.f0, (cAsmInsS x.f1), (cValSS x.f2)) := by
 unfold mAsm at h
 have p1 : (0 : Int) ≤ (x.f1.length + sumL mAsmIns x.f1 : Int) := mAsmInsS_nonneg _
 have p2 : (0 : Int) ≤ (x.f2.length + sumL mValS x.f2 : Int) := mValSS_nonneg _
 have h1 : (x.f1.length + sumL mAsmIns x.f1 : Int) ≤ 1048576 := by omega
 have h2 : (x.f2.length + sumL mValS x.f2 : Int) ≤ 1048576 := by omega
 unfold laws_toAsm.f
 exact Ev.bind (toAsmInsS_ev x.f1 h1) (Ev.bind (toValSS_ev x.f2 h2) (Ev.now _))
theorem szAsm_ev (x : S66) (w : wf66 x) (a : Int) (h0 : 0 ≤ a) (h1 : a ≤ 1048576) : Ev (fun k => laws_szAsm.f k x.f0 x.f1 x.f2 a) (left (mAsm x) a) := by
 obtain ⟨w0, w1, w2⟩ := w
 have p1 : (0 : Int) ≤ (x.f1.length + sumL mAsmIns x.f1 : Int) := mAsmInsS_nonneg _
 have p2 : (0 : Int) ≤ (x.f2.length + sumL mValS x.f2 : Int) := mValSS_nonneg _
 have e : mAsm x = (x.f1.length + sumL mAsmIns x.f1 : Int) + ((x.f2.length + sumL mValS x.f2 : Int)) := by unfold mAsm; omega
 rw [e]
 unfold laws_szAsm.f
 exact sz_then (mAsmInsS_nonneg _) om om om (szAsmInsS_ev x.f1 w1 a om om) (fun hq1 => sz_last (mValSS_nonneg _) (szValSS_ev x.f2 w2 (a - (x.f1.length + sumL mAsmIns x.f1 : Int)) om om))
def okAsm (x : S73) : Prop := okAsmInsS x.f1 ∧ okValSS x.f2
theorem okAsm_c (x : S66) (h : mAsm x ≤ 1048576) : okAsm (cAsm x) := by
 unfold mAsm at h
 have p1 : (0 : Int) ≤ (x.f1.length + sumL mAsmIns x.f1 : Int) := mAsmInsS_nonneg _
 have p2 : (0 : Int) ≤ (x.f2.length + sumL mValS x.f2 : Int) := mValSS_nonneg _
 exact ⟨okAsmInsS_c _ om, okValSS_c _ om⟩
theorem eqAsm_refl (x : S73) (h : okAsm x) : Ev (fun k => laws_eqAsm.f k x.f0 x.f1 x.f2 x.f0 x.f1 x.f2) true := by
 obtain ⟨h1, h2⟩ := h
 unfold laws_eqAsm.f
 exact Ev.yes rfl (Ev.bind (eqAsmInsS_refl x.f1 h1) (Ev.yes rfl (Ev.bind (eqValSS_refl x.f2 h2) (Ev.yes rfl (Ev.now _)))))
def cAsmS (x : List S66) : List S73 := x.map cAsm
theorem mAsmS_nonneg (x : List S66) : (0 : Int) ≤ (x.length + sumL mAsm x : Int) := by have := sumL_nonneg mAsm_nonneg x; omega
theorem szAsmS_ev (x : List S66) (w : x.length ≤ 9223372036854775807 ∧ ∀ z ∈ x, wf66 z) (a : Int) (h0 : 0 ≤ a) (h1 : a ≤ 1048576) : Ev (fun k => laws_szAsmS.f k x a) (left (x.length + sumL mAsm x : Int) a) := by
 unfold laws_szAsmS.f
 refine sz_len (F := fun k t => laws_szAsmS.l0 k x t 0) (sumL_nonneg mAsm_nonneg x) w.1 h0 h1 (fun h => ?_)
 exact sz_loop (l0 := laws_szAsmS.l0) (rdA := rd_T66) (E := fun k z a => laws_szAsm.f k z.f0 z.f1 z.f2 a) (zA := z66) (m := mAsm) mAsm_nonneg (fun k x a i => by simp only [laws_szAsmS.l0]) (fun _ _ => rfl) x om (fun z hz a h0 h1 => szAsm_ev z (w.2 z hz) a h0 h1) _ om om
theorem toAsmS_ev (x : List S66) (h : (x.length + sumL mAsm x : Int) ≤ 1048576) : Ev (fun k => laws_toAsmS.f k x) (cAsmS x) := by
 unfold laws_toAsmS.f
 have hs := sumL_nonneg mAsm_nonneg x
 refine Ev.yes om (Ev.yes (by simp; omega) ?_)
 exact to_loop (l0 := laws_toAsmS.l0) (rdA := rd_T66) (E := fun k z => laws_toAsm.f k z.f0 z.f1 z.f2) (mk := fun r => (⟨r.1, r.2.1, r.2.2⟩ : S73)) (conv := cAsm) (zA := z66) (zB := z73) (fun k x y i => by simp only [laws_toAsmS.l0]) (fun _ _ => rfl) x om (fun z hz => ⟨_, toAsm_ev z (by have := sumL_mem mAsm_nonneg hz; omega), rfl⟩)
def okAsmS (x : List S73) : Prop := x.length ≤ 1048576 ∧ ∀ z ∈ x, okAsm z
theorem okAsmS_c (x : List S66) (h : (x.length + sumL mAsm x : Int) ≤ 1048576) : okAsmS (cAsmS x) := by
 have hs := sumL_nonneg mAsm_nonneg x
 refine ⟨by unfold cAsmS; rw [List.length_map]; omega, fun z hz => ?_⟩
 obtain ⟨y, hy, rfl⟩ := List.mem_map.1 hz
 exact okAsm_c y (by have := sumL_mem mAsm_nonneg hy; omega)
theorem eqAsmS_refl (x : List S73) (h : okAsmS x) : Ev (fun k => laws_eqAsmS.f k x x) true := by
 unfold laws_eqAsmS.f
 refine Ev.yes rfl ?_
 exact eq_loop (l0 := laws_eqAsmS.l0) (rdA := rd_T73) (E := fun k a b => laws_eqAsm.f k a.f0 a.f1 a.f2 b.f0 b.f1 b.f2) (zA := z73) (fun k x y i => by simp only [laws_eqAsmS.l0]) (fun _ _ => rfl) x h.1 (fun a ha => eqAsm_refl a (h.2 a ha))
def okInt64S (x : List Int) : Prop := x.length ≤ 1048576
theorem eqInt64S_refl (x : List Int) (h : okInt64S x) : Ev (fun k => laws_eqInt64S.f k x x) true := by
 unfold laws_eqInt64S.f
 refine Ev.yes rfl ?_
 exact eq_loop_int (fun k x y i => by simp only [laws_eqInt64S.l0]) x h
def cInt64S (x : List Int) : List Int := x
theorem mInt64S_nonneg (x : List Int) : (0 : Int) ≤ (x.length : Int) := by omega
def mInt64S (x : List Int) : Int := (x.length : Int)
theorem mInt64S_nonneg' (x : List Int) : 0 ≤ mInt64S x := mInt64S_nonneg x
theorem szInt64S_ev (x : List Int) (w : x.length ≤ 9223372036854775807 ∧ ∀ z ∈ x, (Lit.int .i64 z).wf = true) (a : Int) (h0 : 0 ≤ a) (h1 : a ≤ 1048576) : Ev (fun _ => laws_szInt64S.f x a) (left (x.length : Int) a) := by
 unfold laws_szInt64S.f
 have h := sz_len (n := x.length) (a := a) (F := fun _ t => some t) (m := 0) om w.1 h0 h1 (fun h => by rw [left_zero om]; exact Ev.now _)
 simpa using h
theorem toInt64S_ev (x : List Int) (h : (x.length : Int) ≤ 1048576) : Ev (fun k => laws_toInt64S.f k x) (cInt64S x) := by
 unfold laws_toInt64S.f
 refine Ev.yes om (Ev.yes (by simp; omega) ?_)
 exact to_loop_int (fun k x y i => by simp only [laws_toInt64S.l0]) x om 0
theorem okInt64S_c (x : List Int) (h : (x.length : Int) ≤ 1048576) : okInt64S (cInt64S x) := by
 unfold okInt64S cInt64S
 omega
def cMixFrame (x : S69) : S75 := ⟨x.f0, x.f1, x.f2, (cInt64S x.f3), (cInt64S x.f4), (cInt64S x.f5)⟩
def mMixFrame (x : S69) : Int := (x.f3.length : Int) + (x.f4.length : Int) + (x.f5.length : Int)
theorem mMixFrame_nonneg (x : S69) : 0 ≤ mMixFrame x := by
 unfold mMixFrame
 have h3 : (0 : Int) ≤ (x.f3.length : Int) := mInt64S_nonneg _
 have h4 : (0 : Int) ≤ (x.f4.length : Int) := mInt64S_nonneg _
 have h5 : (0 : Int) ≤ (x.f5.length : Int) := mInt64S_nonneg _
 omega
theorem toMixFrame_ev (x : S69) (h : mMixFrame x ≤ 1048576) : Ev (fun k => laws_toMixFrame.f k x.f0 x.f1 x.f2 x.f3 x.f4 x.f5) (x.f0, x.f1, x.f2, (cInt64S x.f3), (cInt64S x.f4), (cInt64S x.f5)) := by
 unfold mMixFrame at h
 have p3 : (0 : Int) ≤ (x.f3.length : Int) := mInt64S_nonneg _
 have p4 : (0 : Int) ≤ (x.f4.length : Int) := mInt64S_nonneg _
 have p5 : (0 : Int) ≤ (x.f5.length : Int) := mInt64S_nonneg _
 have h3 : (x.f3.length : Int) ≤ 1048576 := by omega
 have h4 : (x.f4.length : Int) ≤ 1048576 := by omega
 have h5 : (x.f5.length : Int) ≤ 1048576 := by omega
 unfold laws_toMixFrame.f
 exact Ev.bind (toInt64S_ev x.f3 h3) (Ev.bind (toInt64S_ev x.f4 h4) (Ev.bind (toInt64S_ev x.f5 h5) (Ev.now _)))
theorem szMixFrame_ev (x : S69) (w : wf69 x) (a : Int) (h0 : 0 ≤ a) (h1 : a ≤ 1048576) : Ev (fun k => laws_szMixFrame.f x.f0 x.f1 x.f2 x.f3 x.f4 x.f5 a) (left (mMixFrame x) a) := by
 obtain ⟨w0, w1, w2, w3, w4, w5⟩ := w
 have p3 : (0 : Int) ≤ (x.f3.length : Int) := mInt64S_nonneg _
 have p4 : (0 : Int) ≤ (x.f4.length : Int) := mInt64S_nonneg _
 have p5 : (0 : Int) ≤ (x.f5.length : Int) := mInt64S_nonneg _
 have e : mMixFrame x = (x.f3.length : Int) + ((x.f4.length : Int) + ((x.f5.length : Int))) := by unfold mMixFrame; omega
 rw [e]
 unfold laws_szMixFrame.f
 exact sz_then (mInt64S_nonneg _) om om om (szInt64S_ev x.f3 w3 a om om) (fun hq3 => sz_then (mInt64S_nonneg _) om om om (szInt64S_ev x.f4 w4 (a - (x.f3.length : Int)) om om) (fun hq4 => sz_last (mInt64S_nonneg _) (szInt64S_ev x.f5 w5 (a - (x.f3.length : Int) - (x.f4.length : Int)) om om)))
def okMixFrame (x : S75) : Prop := okInt64S x.f3 ∧ okInt64S x.f4 ∧ okInt64S x.f5
theorem okMixFrame_c (x : S69) (h : mMixFrame x ≤ 1048576) : okMixFrame (cMixFrame x) := by
 unfold mMixFrame at h
 have p3 : (0 : Int) ≤ (x.f3.length : Int) := mInt64S_nonneg _
 have p4 : (0 : Int) ≤ (x.f4.length : Int) := mInt64S_nonneg _
 have p5 : (0 : Int) ≤ (x.f5.length : Int) := mInt64S_nonneg _
 exact ⟨okInt64S_c x.f3 om, okInt64S_c x.f4 om, okInt64S_c x.f5 om⟩
theorem eqMixFrame_refl (x : S75) (h : okMixFrame x) : Ev (fun k => laws_eqMixFrame.f k x.f0 x.f1 x.f2 x.f3 x.f4 x.f5 x.f0 x.f1 x.f2 x.f3 x.f4 x.f5) true := by
 obtain ⟨h3, h4, h5⟩ := h
 unfold laws_eqMixFrame.f
 exact Ev.no (by simp) (Ev.yes rfl (Ev.yes rfl (Ev.bind (eqInt64S_refl x.f3 h3) (Ev.yes rfl (Ev.bind (eqInt64S_refl x.f4 h4) (Ev.yes rfl (Ev.bind (eqInt64S_refl x.f5 h5) (Ev.yes rfl (Ev.now _)))))))))
def cMixFrameS (x : List S69) : List S75 := x.map cMixFrame
theorem mMixFrameS_nonneg (x : List S69) : (0 : Int) ≤ (x.length + sumL mMixFrame x : Int) := by have := sumL_nonneg mMixFrame_nonneg x; omega
theorem szMixFrameS_ev (x : List S69) (w : x.length ≤ 9223372036854775807 ∧ ∀ z ∈ x, wf69 z) (a : Int) (h0 : 0 ≤ a) (h1 : a ≤ 1048576) : Ev (fun k => laws_szMixFrameS.f k x a) (left (x.length + sumL mMixFrame x : Int) a) := by
 unfold laws_szMixFrameS.f
 refine sz_len (F := fun k t => laws_szMixFrameS.l0 k x t 0) (sumL_nonneg mMixFrame_nonneg x) w.1 h0 h1 (fun h => ?_)
 exact sz_loop (l0 := laws_szMixFrameS.l0) (rdA := rd_T69) (E := fun k z a => laws_szMixFrame.f z.f0 z.f1 z.f2 z.f3 z.f4 z.f5 a) (zA := z69) (m := mMixFrame) mMixFrame_nonneg (fun k x a i => by simp only [laws_szMixFrameS.l0]) (fun _ _ => rfl) x om (fun z hz a h0 h1 => szMixFrame_ev z (w.2 z hz) a h0 h1) _ om om
theorem toMixFrameS_ev (x : List S69) (h : (x.length + sumL mMixFrame x : Int) ≤ 1048576) : Ev (fun k => laws_toMixFrameS.f k x) (cMixFrameS x) := by
 unfold laws_toMixFrameS.f
 have hs := sumL_nonneg mMixFrame_nonneg x
 refine Ev.yes om (Ev.yes (by simp; omega) ?_)
 exact to_loop (l0 := laws_toMixFrameS.l0) (rdA := rd_T69) (E := fun k z => laws_toMixFrame.f k z.f0 z.f1 z.f2 z.f3 z.f4 z.f5) (mk := fun r => (⟨r.1, r.2.1, r.2.2.1, r.2.2.2.1, r.2.2.2.2.1, r.2.2.2.2.2⟩ : S75)) (conv := cMixFrame) (zA := z69) (zB := z75) (fun k x y i => by simp only [laws_toMixFrameS.l0]) (fun _ _ => rfl) x om (fun z hz => ⟨_, toMixFrame_ev z (by have := sumL_mem mMixFrame_nonneg hz; omega), rfl⟩)
def okMixFrameS (x : List S75) : Prop := x.length ≤ 1048576 ∧ ∀ z ∈ x, okMixFrame z
theorem okMixFrameS_c (x : List S69) (h : (x.length + sumL mMixFrame x : Int) ≤ 1048576) : okMixFrameS (cMixFrameS x) := by
 have hs := sumL_nonneg mMixFrame_nonneg x
 refine ⟨by unfold cMixFrameS; rw [List.length_map]; omega, fun z hz => ?_⟩
 obtain ⟨y, hy, rfl⟩ := List.mem_map.1 hz
 exact okMixFrame_c y (by have := sumL_mem mMixFrame_nonneg hy; omega)
theorem eqMixFrameS_refl (x : List S75) (h : okMixFrameS x) : Ev (fun k => laws_eqMixFrameS.f k x x) true := by
 unfold laws_eqMixFrameS.f
 refine Ev.yes rfl ?_
 exact eq_loop (l0 := laws_eqMixFrameS.l0) (rdA := rd_T75) (E := fun k a b => laws_eqMixFrame.f k a.f0 a.f1 a.f2 a.f3 a.f4 a.f5 b.f0 b.f1 b.f2 b.f3 b.f4 b.f5) (zA := z75) (fun k x y i => by simp only [laws_eqMixFrameS.l0]) (fun _ _ => rfl) x h.1 (fun a ha => eqMixFrame_refl a (h.2 a ha))
def cInt64SS (x : List (List Int)) : List (List Int) := x.map cInt64S
theorem mInt64SS_nonneg (x : List (List Int)) : (0 : Int) ≤ (x.length + sumL mInt64S x : Int) := by have := sumL_nonneg mInt64S_nonneg' x; omega
theorem szInt64SS_ev (x : List (List Int)) (w : x.length ≤ 9223372036854775807 ∧ ∀ z ∈ x, (z.length ≤ 9223372036854775807 ∧ ∀ z' ∈ z, (Lit.int .i64 z').wf = true)) (a : Int) (h0 : 0 ≤ a) (h1 : a ≤ 1048576) : Ev (fun k => laws_szInt64SS.f k x a) (left (x.length + sumL mInt64S x : Int) a) := by
 unfold laws_szInt64SS.f
 refine sz_len (F := fun k t => laws_szInt64SS.l0 k x t 0) (sumL_nonneg mInt64S_nonneg' x) w.1 h0 h1 (fun h => ?_)
 exact sz_loop (l0 := laws_szInt64SS.l0) (rdA := rd_L10) (E := fun k z a => laws_szInt64S.f z a) (zA := []) (m := mInt64S) mInt64S_nonneg' (fun k x a i => by simp only [laws_szInt64SS.l0]) (fun _ _ => rfl) x om (fun z hz a h0 h1 => szInt64S_ev z (w.2 z hz) a h0 h1) _ om om
theorem toInt64SS_ev (x : List (List Int)) (h : (x.length + sumL mInt64S x : Int) ≤ 1048576) : Ev (fun k => laws_toInt64SS.f k x) (cInt64SS x) := by
 unfold laws_toInt64SS.f
 have hs := sumL_nonneg mInt64S_nonneg' x
 refine Ev.yes om (Ev.yes (by simp; omega) ?_)
 exact to_loop (l0 := laws_toInt64SS.l0) (rdA := rd_L10) (E := fun k z => laws_toInt64S.f k z) (mk := fun r => r) (conv := cInt64S) (zA := []) (zB := []) (fun k x y i => by simp only [laws_toInt64SS.l0]) (fun _ _ => rfl) x om (fun z hz => ⟨_, toInt64S_ev z (by have := sumL_mem mInt64S_nonneg' hz; have e2 : mInt64S z = (z.length : Int) := rfl; omega), rfl⟩)
def okInt64SS (x : List (List Int)) : Prop := x.length ≤ 1048576 ∧ ∀ z ∈ x, okInt64S z
theorem okInt64SS_c (x : List (List Int)) (h : (x.length + sumL mInt64S x : Int) ≤ 1048576) : okInt64SS (cInt64SS x) := by
 have hs := sumL_nonneg mInt64S_nonneg' x
 refine ⟨by unfold cInt64SS; rw [List.length_map]; omega, fun z hz => ?_⟩
 obtain ⟨y, hy, rfl⟩ := List.mem_map.1 hz
 exact okInt64S_c y (by have := sumL_mem mInt64S_nonneg' hy; have e2 : mInt64S y = (y.length : Int) := rfl; omega)
theorem eqInt64SS_refl (x : List (List Int)) (h : okInt64SS x) : Ev (fun k => laws_eqInt64SS.f k x x) true := by
 unfold laws_eqInt64SS.f
 refine Ev.yes rfl ?_
 exact eq_loop (l0 := laws_eqInt64SS.l0) (rdA := rd_L10) (E := fun k a b => laws_eqInt64S.f k a b) (zA := []) (fun k x y i => by simp only [laws_eqInt64SS.l0]) (fun _ _ => rfl) x h.1 (fun a ha => eqInt64S_refl a (h.2 a ha))
def cMixed (x : S27) : S36 := ⟨(cAsmS x.f0), (cMixFrameS x.f1), (cInt64SS x.f2), (cInt64S x.f3), x.f4, x.f5, x.f6, x.f7⟩
def mMixed (x : S27) : Int := (x.f0.length + sumL mAsm x.f0 : Int) + (x.f1.length + sumL mMixFrame x.f1 : Int) + (x.f2.length + sumL mInt64S x.f2 : Int) + (x.f3.length : Int)
theorem mMixed_nonneg (x : S27) : 0 ≤ mMixed x := by
 unfold mMixed
 have h0 : (0 : Int) ≤ (x.f0.length + sumL mAsm x.f0 : Int) := mAsmS_nonneg _
 have h1 : (0 : Int) ≤ (x.f1.length + sumL mMixFrame x.f1 : Int) := mMixFrameS_nonneg _
 have h2 : (0 : Int) ≤ (x.f2.length + sumL mInt64S x.f2 : Int) := mInt64SS_nonneg _
 have h3 : (0 : Int) ≤ (x.f3.length : Int) := mInt64S_nonneg _
 omega
theorem toMixed_ev (x : S27) (h : mMixed x ≤ 1048576) : Ev (fun k => laws_toMixed.f k x.f0 x.f1 x.f2 x.f3 x.f4 x.f5 x.f6 x.f7) ((cAsmS x.f0), (cMixFrameS x.f1), (cInt64SS x.f2), (cInt64S x.f3), x.f4, x.f5, x.f6, x.f7) := by
 unfold mMixed at h
 have p0 : (0 : Int) ≤ (x.f0.length + sumL mAsm x.f0 : Int) := mAsmS_nonneg _
 have p1 : (0 : Int) ≤ (x.f1.length + sumL mMixFrame x.f1 : Int) := mMixFrameS_nonneg _
 have p2 : (0 : Int) ≤ (x.f2.length + sumL mInt64S x.f2 : Int) := mInt64SS_nonneg _
 have p3 : (0 : Int) ≤ (x.f3.length : Int) := mInt64S_nonneg _
 have h0 : (x.f0.length + sumL mAsm x.f0 : Int) ≤ 1048576 := by omega
 have h1 : (x.f1.length + sumL mMixFrame x.f1 : Int) ≤ 1048576 := by omega
 have h2 : (x.f2.length + sumL mInt64S x.f2 : Int) ≤ 1048576 := by omega
 have h3 : (x.f3.length : Int) ≤ 1048576 := by omega
 unfold laws_toMixed.f
 exact Ev.bind (toAsmS_ev x.f0 h0) (Ev.bind (toMixFrameS_ev x.f1 h1) (Ev.bind (toInt64SS_ev x.f2 h2) (Ev.bind (toInt64S_ev x.f3 h3) (Ev.now _))))
theorem szMixed_ev (x : S27) (w : wf27 x) (a : Int) (h0 : 0 ≤ a) (h1 : a ≤ 1048576) : Ev (fun k => laws_szMixed.f k x.f0 x.f1 x.f2 x.f3 x.f4 x.f5 x.f6 x.f7 a) (left (mMixed x) a) := by
 obtain ⟨w0, w1, w2, w3, w4, w5, w6, w7⟩ := w
 have p0 : (0 : Int) ≤ (x.f0.length + sumL mAsm x.f0 : Int) := mAsmS_nonneg _
 have p1 : (0 : Int) ≤ (x.f1.length + sumL mMixFrame x.f1 : Int) := mMixFrameS_nonneg _
 have p2 : (0 : Int) ≤ (x.f2.length + sumL mInt64S x.f2 : Int) := mInt64SS_nonneg _
 have p3 : (0 : Int) ≤ (x.f3.length : Int) := mInt64S_nonneg _
 have e : mMixed x = (x.f0.length + sumL mAsm x.f0 : Int) + ((x.f1.length + sumL mMixFrame x.f1 : Int) + ((x.f2.length + sumL mInt64S x.f2 : Int) + ((x.f3.length : Int)))) := by unfold mMixed; omega
 rw [e]
 unfold laws_szMixed.f
 exact sz_then (mAsmS_nonneg _) om om om (szAsmS_ev x.f0 w0 a om om) (fun hq0 => sz_then (mMixFrameS_nonneg _) om om om (szMixFrameS_ev x.f1 w1 (a - (x.f0.length + sumL mAsm x.f0 : Int)) om om) (fun hq1 => sz_then (mInt64SS_nonneg _) om om om (szInt64SS_ev x.f2 w2 (a - (x.f0.length + sumL mAsm x.f0 : Int) - (x.f1.length + sumL mMixFrame x.f1 : Int)) om om) (fun hq2 => sz_last (mInt64S_nonneg _) (szInt64S_ev x.f3 w3 (a - (x.f0.length + sumL mAsm x.f0 : Int) - (x.f1.length + sumL mMixFrame x.f1 : Int) - (x.f2.length + sumL mInt64S x.f2 : Int)) om om))))
def okMixed (x : S36) : Prop := okAsmS x.f0 ∧ okMixFrameS x.f1 ∧ okInt64SS x.f2 ∧ okInt64S x.f3
theorem okMixed_c (x : S27) (h : mMixed x ≤ 1048576) : okMixed (cMixed x) := by
 unfold mMixed at h
 have p0 : (0 : Int) ≤ (x.f0.length + sumL mAsm x.f0 : Int) := mAsmS_nonneg _
 have p1 : (0 : Int) ≤ (x.f1.length + sumL mMixFrame x.f1 : Int) := mMixFrameS_nonneg _
 have p2 : (0 : Int) ≤ (x.f2.length + sumL mInt64S x.f2 : Int) := mInt64SS_nonneg _
 have p3 : (0 : Int) ≤ (x.f3.length : Int) := mInt64S_nonneg _
 exact ⟨okAsmS_c _ om, okMixFrameS_c _ om, okInt64SS_c _ om, okInt64S_c x.f3 om⟩
theorem eqMixed_refl (x : S36) (h : okMixed x) : Ev (fun k => laws_eqMixed.f k x.f0 x.f1 x.f2 x.f3 x.f4 x.f5 x.f6 x.f7 x.f0 x.f1 x.f2 x.f3 x.f4 x.f5 x.f6 x.f7) true := by
 obtain ⟨h0, h1, h2, h3⟩ := h
 unfold laws_eqMixed.f
 exact Ev.bind (eqAsmS_refl x.f0 h0) (Ev.yes rfl (Ev.bind (eqMixFrameS_refl x.f1 h1) (Ev.yes rfl (Ev.bind (eqInt64SS_refl x.f2 h2) (Ev.yes rfl (Ev.bind (eqInt64S_refl x.f3 h3) (Ev.yes rfl (Ev.yes rfl (Ev.no (by simp) (Ev.yes rfl (Ev.yes rfl (Ev.now _))))))))))))
def okFrame (x : S79) : Prop := okInt64S x.f2 ∧ okInt64S x.f3
theorem eqFrame_refl (x : S79) (h : okFrame x) : Ev (fun k => laws_eqFrame.f k x.f0 x.f1 x.f2 x.f3 x.f0 x.f1 x.f2 x.f3) true := by
 obtain ⟨h2, h3⟩ := h
 unfold laws_eqFrame.f
 exact Ev.yes rfl (Ev.yes rfl (Ev.bind (eqInt64S_refl x.f2 h2) (Ev.yes rfl (Ev.bind (eqInt64S_refl x.f3 h3) (Ev.yes rfl (Ev.now _))))))
def okFrameS (x : List S79) : Prop := x.length ≤ 1048576 ∧ ∀ z ∈ x, okFrame z
theorem eqFrameS_refl (x : List S79) (h : okFrameS x) : Ev (fun k => laws_eqFrameS.f k x x) true := by
 unfold laws_eqFrameS.f
 refine Ev.yes rfl ?_
 exact eq_loop (l0 := laws_eqFrameS.l0) (rdA := rd_T79) (E := fun k a b => laws_eqFrame.f k a.f0 a.f1 a.f2 a.f3 b.f0 b.f1 b.f2 b.f3) (zA := z79) (fun k x y i => by simp only [laws_eqFrameS.l0]) (fun _ _ => rfl) x h.1 (fun a ha => eqFrame_refl a (h.2 a ha))
def okState (x : S31) : Prop := okFrameS x.f0 ∧ okInt64SS x.f1 ∧ okInt64S x.f2
theorem eqState_refl (x : S31) (h : okState x) : Ev (fun k => laws_eqState.f k x.f0 x.f1 x.f2 x.f3 x.f4 x.f5 x.f6 x.f0 x.f1 x.f2 x.f3 x.f4 x.f5 x.f6) true := by
 obtain ⟨h0, h1, h2⟩ := h
 unfold laws_eqState.f
 exact Ev.bind (eqFrameS_refl x.f0 h0) (Ev.yes rfl (Ev.bind (eqInt64SS_refl x.f1 h1) (Ev.yes rfl (Ev.bind (eqInt64S_refl x.f2 h2) (Ev.yes rfl (Ev.yes rfl (Ev.no (by simp) (Ev.yes rfl (Ev.yes rfl (Ev.now _))))))))))
theorem fold_in {α : Type} {g : Int → α → Int} {B : Int} (hB : 0 ≤ B) : ∀ (l : List α) (k : Int), (∀ x ∈ l, ∀ k, 0 ≤ k → k + B ≤ 9223372036854775807 → k ≤ g k x ∧ g k x ≤ k + B) → 0 ≤ k → k + B * (l.length : Int) ≤ 9223372036854775807 → k ≤ l.foldl g k ∧ l.foldl g k ≤ k + B * (l.length : Int)
 | [], k, _, _, _ => by simp
 | x :: l, k, h, h0, h1 => by
  have hl : 0 ≤ B * (l.length : Int) := Int.mul_nonneg hB om
  have e : B * ((x :: l).length : Int) = B * (l.length : Int) + B := by rw [List.length_cons, Int.natCast_add, Int.mul_add]; show _ + B * 1 = _; rw [Int.mul_one]
  rw [e] at h1 ⊢
  have hx := h x (by simp) k h0 om
  have := fold_in hB l (g k x) (fun y hy => h y (by simp [hy])) om om
  rw [List.foldl_cons]
  omega
theorem fold_cap {α : Type} {g : Int → α → Int} {B : Int} (hB : 0 ≤ B) (l : List α) (hl : l.length ≤ 1048576) (h : ∀ x ∈ l, ∀ k, 0 ≤ k → k + B ≤ 9223372036854775807 → k ≤ g k x ∧ g k x ≤ k + B) (k : Int) (h0 : 0 ≤ k) (h1 : k + B * 1048576 ≤ 9223372036854775807) : k ≤ l.foldl g k ∧ l.foldl g k ≤ k + B * 1048576 := by
 have hm : B * (l.length : Int) ≤ B * 1048576 := Int.mul_le_mul_of_nonneg_left om hB
 have := fold_in hB l k h h0 om
 omega
theorem wrap1 {k : Int} (h0 : 0 ≤ k) (h1 : k + 1 ≤ 9223372036854775807) : wrap64 (k + 1) = k + 1 := wrap_in om h1
theorem wrap2 {k : Int} (h0 : 0 ≤ k) (h1 : k + 2 ≤ 9223372036854775807) : wrap64 (wrap64 (k + 1) + 1) = k + 1 + 1 := by rw [wrap1 h0 om, wrap1 om om]
theorem wrap3 {k : Int} (h0 : 0 ≤ k) (h1 : k + 3 ≤ 9223372036854775807) : wrap64 (wrap64 (wrap64 (k + 1) + 1) + 1) = k + 1 + 1 + 1 := by rw [wrap2 h0 om, wrap1 om om]
theorem markValS_in (l : List S107) (hl : l.length ≤ 1048576) (k : Int) (h0 : 0 ≤ k) (h1 : k + 2097152 ≤ 9223372036854775807) : k ≤ laws_markValS.mk k l ∧ laws_markValS.mk k l ≤ k + 2097152 :=
 fold_cap (B := 2) om l hl (fun x _ k h0 h1 => by unfold laws_markValS.g; rw [wrap2 h0 om]; omega) k h0 om
theorem markMovS_in (l : List S109) (hl : l.length ≤ 1048576) (k : Int) (h0 : 0 ≤ k) (h1 : k + 3145728 ≤ 9223372036854775807) : k ≤ laws_markMovS.mk k l ∧ laws_markMovS.mk k l ≤ k + 3145728 :=
 fold_cap (B := 3) om l hl (fun x _ k h0 h1 => by unfold laws_markMovS.g; rw [wrap3 h0 om]; omega) k h0 om
theorem markAsmInsS_in (l : List S94) (hl : okAsmInsS l) (k : Int) (h0 : 0 ≤ k) (h1 : k + 5497561284608 ≤ 9223372036854775807) : k ≤ laws_markAsmInsS.mk k l ∧ laws_markAsmInsS.mk k l ≤ k + 5497561284608 :=
 fold_cap (B := 5242883) om l hl.1 (fun x hx k h0 h1 => by
  have o := hl.2 x hx
  have a := markMovS_in x.f0 o.1 k h0 om
  unfold laws_markAsmInsS.g
  rw [wrap1 (k := laws_markMovS.mk k x.f0) om om, wrap1 (k := laws_markMovS.mk k x.f0 + 1) om om]
  have b := markValS_in x.f3 o.2 (laws_markMovS.mk k x.f0 + 1 + 1) om om
  rw [wrap1 om om]
  omega) k h0 om
theorem markValSS_in (l : List (List S107)) (hl : okValSS l) (k : Int) (h0 : 0 ≤ k) (h1 : k + 2199023255552 ≤ 9223372036854775807) : k ≤ laws_markValSS.mk k l ∧ laws_markValSS.mk k l ≤ k + 2199023255552 :=
 fold_cap (B := 2097152) om l hl.1 (fun x hx k h0 h1 => markValS_in x (hl.2 x hx) k h0 h1) k h0 om
theorem markI_in (l : List Int) (hl : l.length ≤ 1048576) (k : Int) (h0 : 0 ≤ k) (h1 : k + 1048576 ≤ 9223372036854775807) : k ≤ laws_markInt64S.mk k l ∧ laws_markInt64S.mk k l ≤ k + 1048576 :=
 fold_cap (B := 1) om l hl (fun x _ k h0 h1 => by unfold laws_markInt64S.g; rw [wrap1 h0 h1]; omega) k h0 om
theorem markSS_in (l : List (List Int)) (hl : okInt64SS l) (k : Int) (h0 : 0 ≤ k) (h1 : k + 1099511627776 ≤ 9223372036854775807) : k ≤ laws_markInt64SS.mk k l ∧ laws_markInt64SS.mk k l ≤ k + 1099511627776 :=
 fold_cap (B := 1048576) om l hl.1 (fun x hx k h0 h1 => markI_in x (hl.2 x hx) k h0 h1) k h0 om
theorem take_next {α : Type} {x : List α} {i : Nat} (h : i < x.length) (z : α) : x.take (i + 1) = x.take i ++ [x.getD i z] := by
 rw [List.take_succ_eq_append_getElem h, List.getD_eq_getElem?_getD, List.getElem?_eq_getElem h]
 rfl
theorem mkI_at : ∀ (x : List Int) (s : Int) (i : Nat), i < x.length → (mkI s x).getD i 0 = laws_markInt64S.mk s (x.take i)
 | _ :: _, _, 0, _ => rfl
 | _ :: l, s, i + 1, h => mkI_at l (wrap64 (s + 1)) i (by simpa using h)
theorem mkSS_at : ∀ (x : List (List Int)) (s : Int) (i : Nat), i < x.length → (mkSS s x).getD i [] = mkI (laws_markInt64SS.mk s (x.take i)) (x.getD i [])
 | _ :: _, _, 0, _ => rfl
 | a :: l, s, i + 1, h => mkSS_at l (laws_markInt64S.mk s a) i (by simpa using h)
theorem heldI_ev (x : List Int) (s : Int) (hx : x.length ≤ 1048576) : Ev (fun k => laws_heldInt64S.f k (mkI s x) s) (laws_markInt64S.mk s x) := by
 have hn := mkI_len s x
 have key : ∀ (d i : Nat), i + d = x.length → Ev (fun k => laws_heldInt64S.l0 k (mkI s x) (laws_markInt64S.mk s (x.take i)) (i : Int)) (laws_markInt64S.mk s x) := by
  intro d
  induction d with
  | zero =>
   intro i hi
   refine Ev.succ ?_
   simp only [laws_heldInt64S.l0]
   refine Ev.no om ?_
   rw [List.take_of_length_le om]
   exact Ev.now _
  | succ d ih =>
   intro i hi
   refine Ev.succ ?_
   simp only [laws_heldInt64S.l0]
   refine Ev.yes om (Ev.yes om (Ev.yes (mkI_at x s i om) ?_))
   rw [wrap_in (n := (i : Int) + 1) om om]
   have h := ih (i + 1) om
   rw [take_next (show i < x.length by omega) 0, laws_markInt64S.mk, List.foldl_append] at h
   exact h
 unfold laws_heldInt64S.f
 exact key x.length 0 om
theorem heldSS_ev (x : List (List Int)) (s : Int) (hs : 0 ≤ s ∧ s ≤ 4611686018427387904) (hx : okInt64SS x) : Ev (fun k => laws_heldInt64SS.f k (mkSS s x) s) (laws_markInt64SS.mk s x) := by
 have hn := mkSS_len s x
 have hl := hx.1
 have pos : ∀ i, 0 ≤ laws_markInt64SS.mk s (x.take i) := fun i => by
  have := markSS_in (x.take i) ⟨by rw [List.length_take]; omega, fun z hz => hx.2 z (List.mem_of_mem_take hz)⟩ s hs.1 om
  omega
 have key : ∀ (d i : Nat), i + d = x.length → Ev (fun k => laws_heldInt64SS.l0 k (mkSS s x) (laws_markInt64SS.mk s (x.take i)) (i : Int)) (laws_markInt64SS.mk s x) := by
  intro d
  induction d with
  | zero =>
   intro i hi
   refine Ev.succ ?_
   simp only [laws_heldInt64SS.l0]
   refine Ev.no om ?_
   rw [List.take_of_length_le om]
   exact Ev.now _
  | succ d ih =>
   intro i hi
   refine Ev.succ ?_
   simp only [laws_heldInt64SS.l0]
   refine Ev.yes om (Ev.yes om ?_)
   have e : rd_L10 (mkSS s x) (i : Int) = mkI (laws_markInt64SS.mk s (x.take i)) (x.getD i []) := mkSS_at x s i om
   rw [e]
   have hi' : i < x.length := by omega
   refine Ev.bind (heldI_ev (x.getD i []) _ ?_) ?_
   ·have : x.getD i [] ∈ x := by
     rw [List.getD_eq_getElem?_getD, List.getElem?_eq_getElem hi']
     exact List.getElem_mem hi'
    exact hx.2 _ this
   have e2 : laws_markInt64S.mk (laws_markInt64SS.mk s (x.take i)) (x.getD i []) = laws_markInt64SS.mk s (x.take (i + 1)) := by
    rw [take_next hi' []]
    unfold laws_markInt64SS.mk
    rw [List.foldl_append]
    rfl
   rw [e2, wrap_in (n := (i : Int) + 1) om om]
   exact Ev.no (by have := pos (i + 1); omega) (ih (i + 1) om)
 unfold laws_heldInt64SS.f
 exact key x.length 0 om
/- FnExactMixTold, the plain part: what the law asks at its argument. No condition. -/
theorem markAsmS_in (l : List S73) (hl : okAsmS l) (k : Int) (h0 : 0 ≤ k) (h1 : k + 8070459346756075520 ≤ 9223372036854775807) : k ≤ laws_markAsmS.mk k l ∧ laws_markAsmS.mk k l ≤ k + 8070459346756075520 :=
 fold_cap (B := 7696589800000) om l hl.1 (fun x hx k h0 h1 => by
  have o := hl.2 x hx
  unfold laws_markAsmS.g
  rw [wrap1 h0 om]
  have a := markAsmInsS_in x.f1 o.1 (k + 1) om om
  have b := markValSS_in x.f2 o.2 (laws_markAsmInsS.mk (k + 1) x.f1) om om
  omega) k h0 om |>.imp id (fun h => Int.le_trans h om)
theorem markMixFrameS_in (l : List S75) (hl : okMixFrameS l) (k : Int) (h0 : 0 ≤ k) (h1 : k + 3298538029056 ≤ 9223372036854775807) : k ≤ laws_markMixFrameS.mk k l ∧ laws_markMixFrameS.mk k l ≤ k + 3298538029056 :=
 fold_cap (B := 3145731) om l hl.1 (fun x hx k h0 h1 => by
  have o := hl.2 x hx
  unfold laws_markMixFrameS.g
  rw [wrap3 h0 om]
  have a := markI_in x.f3 o.1 (k + 1 + 1 + 1) om om
  have b := markI_in x.f4 o.2.1 (laws_markInt64S.mk (k + 1 + 1 + 1) x.f3) om om
  have c := markI_in x.f5 o.2.2 (laws_markInt64S.mk (laws_markInt64S.mk (k + 1 + 1 + 1) x.f3) x.f4) om om
  omega) k h0 om |>.imp id (fun h => Int.le_trans h om)
theorem clone_some (l : List Int) (h : l.length ≤ 1048576) : slices_Clone_int64_int64.f l = some l := by
 unfold slices_Clone_int64_int64.f
 show (if 0 + l.length < 17592186044416 then some ([] ++ l) else none) = _
 rw [if_pos om]
 rfl
theorem nums_some (l : List Int) (h : l.length ≤ 1048576) : spec_l06Nums.f l = some l := by
 unfold spec_l06Nums.f
 show (if 0 + l.length < 17592186044416 then some ([] ++ l) else none) = _
 rw [if_pos om]
 rfl
theorem copies_ev (x : List (List Int)) (hx : okInt64SS x) : Ev (fun k => impl_copies.f k x) x := by
 have hl := hx.1
 have key : ∀ (d i : Nat), i + d = x.length → Ev (fun k => impl_copies.l0 k (x.take i) x (x.length : Int) (i : Int)) x := by
  intro d
  induction d with
  | zero =>
   intro i hi
   refine Ev.succ ?_
   simp only [impl_copies.l0]
   refine Ev.no om ?_
   rw [List.take_of_length_le om]
   exact Ev.now _
  | succ d ih =>
   intro i hi
   have hi' : i < x.length := by omega
   refine Ev.succ ?_
   simp only [impl_copies.l0]
   have hm : x.getD i [] ∈ x := by
    rw [List.getD_eq_getElem?_getD, List.getElem?_eq_getElem hi']
    exact List.getElem_mem hi'
   refine Ev.yes om (Ev.yes om (Ev.yes om (Ev.flat (clone_some (x.getD i []) (hx.2 _ hm)) (Ev.yes (by rw [List.length_take]; omega) ?_))))
   rw [← take_next hi' [], wrap_in (n := (i : Int) + 1) om om]
   exact ih (i + 1) om
 unfold impl_copies.f
 exact key x.length 0 om
theorem implTold_ev (C : List S73) (F : List S75) (x : List (List Int)) (o : List Int) (a4 : Int) (a5 : Bool) (a6 a7 : Int) (hx : okInt64SS x) (ho : o.length ≤ 1048576) : Ev (fun k => impl_MixTold.f k C F x o a4 a5 a6 a7) ([], x, o, a4, a5, a6, a7) := by
 unfold impl_MixTold.f impl_Mixed_world.f
 exact Ev.bind (Ev.bind (copies_ev x hx) (Ev.flat (clone_some o ho) (Ev.now _))) (Ev.now _)
theorem specTold_ev (C : List S73) (F : List S75) (x : List (List Int)) (o : List Int) (a4 : Int) (a5 : Bool) (a6 a7 : Int) (hx : okInt64SS x) (ho : o.length ≤ 1048576) : Ev (fun k => spec_MixTold.f k C F x o a4 a5 a6 a7) ([], x, o, a4, a5, a6, a7) := by
 have hl := hx.1
 have key : ∀ (d i : Nat), i + d = x.length → Ev (fun k => spec_MixTold.l0 k (i : Int) C F x o a4 a5 a6 a7 (x.take i) o a4 a5 a6 a7) ([], x, o, a4, a5, a6, a7) := by
  intro d
  induction d with
  | zero =>
   intro i hi
   refine Ev.succ ?_
   simp only [spec_MixTold.l0]
   refine Ev.no om ?_
   rw [List.take_of_length_le om]
   exact Ev.now _
  | succ d ih =>
   intro i hi
   have hi' : i < x.length := by omega
   refine Ev.succ ?_
   simp only [spec_MixTold.l0]
   have hm : x.getD i [] ∈ x := by
    rw [List.getD_eq_getElem?_getD, List.getElem?_eq_getElem hi']
    exact List.getElem_mem hi'
   refine Ev.yes om (Ev.yes om (Ev.flat (nums_some (x.getD i []) (hx.2 _ hm)) (Ev.yes (by rw [List.length_take]; omega) ?_)))
   rw [← take_next hi' [], wrap_in (n := (i : Int) + 1) om om]
   exact ih (i + 1) om
 unfold spec_MixTold.f
 exact Ev.flat (nums_some o ho) (key x.length 0 om)
theorem heldM_ev (x : List (List Int)) (o : List Int) (a4 : Int) (a5 : Bool) (a6 a7 : Int) (hx : okInt64SS x) (ho : o.length ≤ 1048576) : Ev (fun k => laws_heldState.f k [] (mkSS 1 x) (mkI (laws_markInt64SS.mk 1 x) o) a4 a5 a6 a7 1) (laws_markInt64S.mk (laws_markInt64SS.mk 1 x) o) := by
 have b := markSS_in x hx 1 om om
 have c := markI_in o ho (laws_markInt64SS.mk 1 x) om om
 have hf : Ev (fun k => laws_heldFrameS.f k [] 1) 1 := by
  unfold laws_heldFrameS.f
  refine Ev.succ ?_
  simp only [laws_heldFrameS.l0]
  exact Ev.no (by simp) (Ev.now _)
 unfold laws_heldState.f
 exact Ev.bind hf (Ev.no om (Ev.bind (heldSS_ev x 1 om hx) (Ev.no om (Ev.bind (heldI_ev o _ ho) (Ev.no om (Ev.now _))))))
theorem cSS_id (x : List (List Int)) : cInt64SS x = x := List.map_id' x
theorem FnExactMixTold (x : S27) (wx : wf27 x) : LawM x.f0 x.f1 x.f2 x.f3 x.f4 x.f5 x.f6 x.f7 := by
 have hm := mMixed_nonneg x
 have eS := szMixed_ev x wx 1048576 om om
 by_cases h : mMixed x ≤ 1048576
 case neg =>
  rw [left_no h] at eS
  obtain ⟨K, hK⟩ := eS
  exact ⟨K, _, hK K (Nat.le_refl _), fun h0 => absurd (show (-1 : Int) < 0 by omega) h0⟩
 have tp := toMixed_ev x h
 rw [cSS_id] at tp
 have okm := okMixed_c x h
 have okh : okInt64SS x.f2 := by have := okm.2.2.1; rw [show (cMixed x).f2 = x.f2 from cSS_id x.f2] at this; exact this
 have oko : x.f3.length ≤ 1048576 := okm.2.2.2
 have sp := specTold_ev (cAsmS x.f0) (cMixFrameS x.f1) x.f2 x.f3 x.f4 x.f5 x.f6 x.f7 okh oko
 have im := implTold_ev (cAsmS x.f0) (cMixFrameS x.f1) x.f2 x.f3 x.f4 x.f5 x.f6 x.f7 okh oko
 have eqs := eqState_refl (⟨[], x.f2, x.f3, x.f4, x.f5, x.f6, x.f7⟩ : S31) ⟨⟨by simp, by simp⟩, okh, oko⟩
 have eqm := eqMixed_refl (cMixed x) okm
 rw [show (cMixed x).f2 = x.f2 from cSS_id x.f2] at eqm
 have hd := heldM_ev x.f2 x.f3 x.f4 x.f5 x.f6 x.f7 okh oko
 have m1 := markAsmS_in (cAsmS x.f0) okm.1 1 om om
 have m2 := markMixFrameS_in (cMixFrameS x.f1) okm.2.1 _ (Int.le_trans om m1.1) om
 have m3 := markSS_in x.f2 okh (laws_markMixFrameS.mk (laws_markAsmS.mk 1 (cAsmS x.f0)) (cMixFrameS x.f1)) om om
 have m4 := markI_in x.f3 oko (laws_markInt64SS.mk (laws_markMixFrameS.mk (laws_markAsmS.mk 1 (cAsmS x.f0)) (cMixFrameS x.f1)) x.f2) om om
 have n1 := markSS_in x.f2 okh 1 om om
 have n2 := markI_in x.f3 oko (laws_markInt64SS.mk 1 x.f2) om om
 obtain ⟨K1, q1⟩ := eS
 obtain ⟨K2, q2⟩ := tp
 obtain ⟨K3, q3⟩ := sp
 obtain ⟨K4, q4⟩ := im
 obtain ⟨K5, q5⟩ := eqs
 obtain ⟨K6, q6⟩ := eqm
 obtain ⟨K7, q7⟩ := hd
 refine ⟨K1 + K2 + K3 + K4 + K5 + K6 + K7, _, q1 _ om, fun _ => ⟨cAsmS x.f0, cMixFrameS x.f1, _, _, q2 _ om, q3 _ om, q4 _ om, q5 _ om, q6 _ om, ⟨rfl, ?_⟩, q7 _ om, rfl, by omega⟩⟩
 show ¬ laws_markMixed.mk 1 _ _ _ _ < 0
 unfold laws_markMixed.mk
 omega
end Go.Proofs.Yticdldoijkdffaa.Pure
