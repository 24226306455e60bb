import Derived.Test.YtoegdbeajgddiaaCFnExactBeging1
import Derived.Test.YtoegdbeajgddiaaCFnExactBeginf
namespace Go.Proofs.Ytoegdbeajgddiaa.Pure
open Go.RowKit Go.Proofs.Ytoegdbeajgddiaa.QFnExactBegin Go.Proofs.YtoegdbeajgddiaaW.PrintWords Go.Proofs.YtoegdbeajgddiaaW.PrintLast
set_option linter.unusedVariables false
set_option linter.unusedSimpArgs false
theorem om {Q : Prop} (h : Q := by omega) : Q := h
structure S34 where
 f0 : (List S55)
structure S30 where
 f0 : (List S47)
 f1 : (List (List Int))
 f2 : (List Int)
 f3 : Int
 f4 : Bool
 f5 : Int
 f6 : Int
theorem Ev.succ {α : Type} {g : Nat → Option α} {r : α} (h : Ev (fun k => g (k + 1)) r) : Ev g r := Ev.step (fun _ => rfl) h
theorem Ev.yes {α : Type} {c : Prop} [Decidable c] {g f : Nat → Option α} {r : α} (hc : c) (h : Ev g r) : Ev (fun k => if c then g k else f k) r := Ev.congr (fun _ => if_pos hc) h
theorem Ev.no {α : Type} {c : Prop} [Decidable c] {g f : Nat → Option α} {r : α} (hc : ¬ c) (h : Ev f r) : Ev (fun k => if c then g k else f k) r := Ev.congr (fun _ => if_neg hc) h
theorem Ev.cases {α : Type} {c : Prop} [Decidable c] {g f : Nat → Option α} {r : α} (h1 : c → Ev g r) (h2 : ¬ c → Ev f r) : Ev (fun k => if c then g k else f k) r := by
 by_cases hc : c
 ·exact Ev.yes hc (h1 hc)
 ·exact Ev.no hc (h2 hc)
theorem Ev.flat {α β : Type} {g : Option α} {f : Nat → α → Option β} {a : α} {r : β} (h : g = some a) (k : Ev (fun n => f n a) r) : Ev (fun n => g.bind (f n)) r := Ev.bind (g := fun _ => g) ⟨0, fun _ _ => h⟩ k
theorem wrap_in {n : Int} (h0 : -9223372036854775808 ≤ n) (h1 : n ≤ 9223372036854775807) : wrap64 n = n := by unfold wrap64; omega
theorem wrap_lo (n : Int) : -9223372036854775808 ≤ wrap64 n := by unfold wrap64; omega
theorem beq_no {a b : Int} (h : ¬ a = b) : (a == b) = false := beq_eq_false_iff_ne.2 h
theorem Ev.uniq {α : Type} {g : Nat → Option α} {r r' : α} (h : Ev g r) (h' : Ev g r') : r = r' := by
 obtain ⟨a, ha⟩ := h
 obtain ⟨b, hb⟩ := h'
 have h1 := ha (max a b) (Nat.le_max_left _ _)
 rw [hb (max a b) (Nat.le_max_right _ _)] at h1
 exact (Option.some.inj h1).symm
theorem idx_next {i n : Nat} (h : i < n) (hn : n ≤ 1048576) : wrap64 ((i : Int) + 1) = ((i + 1 : Nat) : Int) := by rw [wrap_in om om]; simp
theorem to_loop {α β ρ : Type} {l0 : Nat → List α → List β → Int → Option (List β)} {rdA : List α → Int → α} {E : Nat → α → Option ρ} {mk : ρ → β} {conv : α → β} {zA : α} {zB : β}
  (hl : ∀ k x y i, l0 (k + 1) x y i = if i < (x.length : Int) then (if 0 ≤ i then (E k (rdA x i)).bind fun r => (if i < (y.length : Int) then l0 k x (y.set i.toNat (mk r)) (wrap64 (i + 1)) else none) else none) else some y)
  (hrd : ∀ (x : List α) (i : Nat), rdA x (i : Int) = x.getD i zA) (x : List α) (hx : x.length ≤ 1048576) (hE : ∀ a ∈ x, ∃ r, Ev (fun k => E k a) r ∧ mk r = conv a) :
  Ev (fun k => l0 k x (List.replicate x.length zB) 0) (x.map conv) := by
 have key : ∀ (d i : Nat), i + d = x.length → ∀ y : List β, y.length = x.length → y.take i = (x.take i).map conv → Ev (fun k => l0 k x y (i : Int)) (x.map conv) := by
  intro d
  induction d with
  | zero =>
   intro i hi y hy ht
   refine Ev.succ ?_
   simp only [hl]
   refine Ev.no om ?_
   rw [List.take_of_length_le om, List.take_of_length_le om] at ht
   subst ht
   exact Ev.now _
  | succ d ih =>
   intro i hi y hy ht
   have hli : i < x.length := by omega
   refine Ev.succ ?_
   simp only [hl]
   have hr : rdA x (i : Int) = x[i] := by rw [hrd, List.getD_eq_getElem?_getD, List.getElem?_eq_getElem hli]; rfl
   obtain ⟨r, h1, h2⟩ := hE x[i] (List.getElem_mem hli)
   simp only [hr]
   refine Ev.yes om (Ev.yes om (Ev.bind h1 (Ev.yes om ?_)))
   rw [idx_next hli hx]
   refine ih (i + 1) om _ (by simp [hy]) ?_
   simp only [Int.toNat_natCast]
   rw [List.take_succ_eq_append_getElem (by simp; omega), List.take_succ_eq_append_getElem hli, List.map_append, ← ht, List.take_set_of_le (Nat.le_refl _)]
   simp [h2]
 exact key x.length 0 om _ (by simp) (by simp)
theorem eq_loop {α : Type} {l0 : Nat → List α → List α → Int → Option Bool} {rdA : List α → Int → α} {E : Nat → α → α → Option Bool} {zA : α}
  (hl : ∀ k x y i, l0 (k + 1) x y i = if i < (x.length : Int) then (if 0 ≤ i then (if i < (y.length : Int) then (E k (rdA x i) (rdA y i)).bind fun t => (if t = true then l0 k x y (wrap64 (i + 1)) else some false) else none) else none) else some true)
  (hrd : ∀ (x : List α) (i : Nat), rdA x (i : Int) = x.getD i zA) (x : List α) (hx : x.length ≤ 1048576) (hE : ∀ a ∈ x, Ev (fun k => E k a a) true) : Ev (fun k => l0 k x x 0) true := by
 have key : ∀ (d i : Nat), i + d = x.length → Ev (fun k => l0 k x x (i : Int)) true := by
  intro d
  induction d with
  | zero =>
   intro i hi
   refine Ev.succ ?_
   simp only [hl]
   exact Ev.no om (Ev.now _)
  | succ d ih =>
   intro i hi
   have hli : i < x.length := by omega
   refine Ev.succ ?_
   simp only [hl]
   have hr : rdA x (i : Int) = x[i] := by rw [hrd, List.getD_eq_getElem?_getD, List.getElem?_eq_getElem hli]; rfl
   simp only [hr]
   refine Ev.yes om (Ev.yes om (Ev.yes om (Ev.bind (hE x[i] (List.getElem_mem hli)) (Ev.yes rfl ?_))))
   rw [idx_next hli hx]
   exact ih (i + 1) om
 exact key x.length 0 om
def left (m a : Int) : Int := if m ≤ a then a - m else -1
def sumL {α : Type} (m : α → Int) (x : List α) : Int := (x.map m).sum
theorem sumL_nonneg {α : Type} {m : α → Int} (hm : ∀ a, 0 ≤ m a) : ∀ x : List α, 0 ≤ sumL m x
 | [] => by simp [sumL]
 | a :: x => by have := hm a; have := sumL_nonneg hm x; simp [sumL] at *; omega
theorem sumL_mem {α : Type} {m : α → Int} (hm : ∀ a, 0 ≤ m a) : ∀ {x : List α} {a : α}, a ∈ x → m a ≤ sumL m x
 | b :: x, a, h => by
  have h0 := sumL_nonneg hm x
  have hb := hm b
  rcases List.mem_cons.1 h with rfl | h
  ·simp [sumL] at *; omega
  ·have := sumL_mem hm h; simp [sumL] at *; omega
theorem sz_loop {α : Type} {l0 : Nat → List α → Int → Int → Option Int} {rdA : List α → Int → α} {E : Nat → α → Int → Option Int} {zA : α} {m : α → Int} (hm : ∀ a, 0 ≤ m a)
  (hl : ∀ k x a i, l0 (k + 1) x a i = if i < (x.length : Int) then (if 0 ≤ i then (E k (rdA x i) a).bind fun t => (if t < 0 then some (-1) else l0 k x t (wrap64 (i + 1))) else none) else some a)
  (hrd : ∀ (x : List α) (i : Nat), rdA x (i : Int) = x.getD i zA) (x : List α) (hx : x.length ≤ 1048576) (hE : ∀ z ∈ x, ∀ a, 0 ≤ a → a ≤ 1048576 → Ev (fun k => E k z a) (left (m z) a)) (a : Int) (h0 : 0 ≤ a) (h1 : a ≤ 1048576) :
  Ev (fun k => l0 k x a 0) (left (sumL m x) a) := by
 have key : ∀ (d i : Nat), i + d = x.length → ∀ a, 0 ≤ a → a ≤ 1048576 → Ev (fun k => l0 k x a (i : Int)) (left (sumL m (x.drop i)) a) := by
  intro d
  induction d with
  | zero =>
   intro i hi a h0 h1
   refine Ev.succ ?_
   simp only [hl]
   rw [List.drop_of_length_le om]
   refine Ev.no om ?_
   simp only [left, sumL, List.map_nil, List.sum_nil, Int.sub_zero, if_pos h0]
   exact Ev.now _
  | succ d ih =>
   intro i hi a h0 h1
   have hli : i < x.length := by omega
   refine Ev.succ ?_
   simp only [hl]
   have hr : rdA x (i : Int) = x[i] := by rw [hrd, List.getD_eq_getElem?_getD, List.getElem?_eq_getElem hli]; rfl
   simp only [hr]
   refine Ev.yes om (Ev.yes om (Ev.bind (hE x[i] (List.getElem_mem hli) a h0 h1) ?_))
   have hs : sumL m (x.drop i) = m x[i] + sumL m (x.drop (i + 1)) := by rw [List.drop_eq_getElem_cons hli]; unfold sumL; rw [List.map_cons, List.sum_cons]
   have hp := sumL_nonneg hm (x.drop (i + 1))
   have hq := hm x[i]
   rw [hs, idx_next hli hx]
   by_cases hc : m x[i] ≤ a
   ·have e : left (m x[i]) a = a - m x[i] := by simp [left, hc]
    rw [e]
    refine Ev.no om ?_
    have e2 : left (m x[i] + sumL m (x.drop (i + 1))) a = left (sumL m (x.drop (i + 1))) (a - m x[i]) := by
     unfold left
     by_cases h : m x[i] + sumL m (x.drop (i + 1)) ≤ a
     ·rw [if_pos h, if_pos om]; omega
     ·rw [if_neg h, if_neg om]
    rw [e2]
    exact ih (i + 1) om _ om om
   ·have e : left (m x[i]) a = -1 := by simp [left, hc]
    have e2 : left (m x[i] + sumL m (x.drop (i + 1))) a = -1 := by unfold left; rw [if_neg om]
    rw [e, e2]
    exact Ev.yes om (Ev.now _)
 simpa using key x.length 0 om a h0 h1
theorem left_step {m n a : Int} (h : m ≤ a) : left m a = a - m := by simp [left, h]
theorem left_no {m a : Int} (h : ¬ m ≤ a) : left m a = -1 := by simp [left, h]
theorem sz_last {m a : Int} {E : Nat → Option Int} (hm : 0 ≤ m) (hE : Ev E (left m a)) : Ev (fun k => (E k).bind fun t => if t < 0 then some (-1) else some t) (left m a) := by
 refine Ev.bind hE ?_
 by_cases hc : m ≤ a
 ·rw [left_step (n := 0) hc]
  exact Ev.no om (Ev.now _)
 ·rw [left_no hc]
  exact Ev.yes om (Ev.now _)
theorem sz_len {n : Nat} {a : Int} {F : Nat → Int → Option Int} {m : Int} (hm : 0 ≤ m) (hn : n ≤ 9223372036854775807) (h0 : 0 ≤ a) (h1 : a ≤ 1048576) (hF : (n : Int) ≤ a → Ev (fun k => F k (a - n)) (left m (a - n))) :
  Ev (fun k => if wrap64 (a - (n : Int)) < 0 then some (-1) else F k (wrap64 (a - (n : Int)))) (left (n + m) a) := by
 have e : wrap64 (a - (n : Int)) = a - n := wrap_in om om
 rw [e]
 by_cases hc : (n : Int) ≤ a
 ·refine Ev.no om ?_
  have e : left (n + m) a = left m (a - n) := by
   unfold left
   by_cases h : n + m ≤ a
   ·rw [if_pos h, if_pos om]; omega
   ·rw [if_neg h, if_neg om]
  rw [e]
  exact hF hc
 ·rw [left_no om]
  exact Ev.yes om (Ev.now _)
theorem left_zero {a : Int} (h : 0 ≤ a) : left 0 a = a := by simp [left, h]
theorem eq_loop_int {l0 : Nat → List Int → List Int → Int → Option Bool}
  (hl : ∀ k x y i, l0 (k + 1) x y i = if i < (x.length : Int) then (if 0 ≤ i then (if i < (y.length : Int) then (if rd x i = rd y i then l0 k x y (wrap64 (i + 1)) else some false) else none) else none) else some true)
  (x : List Int) (hx : x.length ≤ 1048576) : Ev (fun k => l0 k x x 0) true := by
 have key : ∀ (d i : Nat), i + d = x.length → Ev (fun k => l0 k x x (i : Int)) true := by
  intro d
  induction d with
  | zero =>
   intro i hi
   refine Ev.succ ?_
   simp only [hl]
   exact Ev.no om (Ev.now _)
  | succ d ih =>
   intro i hi
   refine Ev.succ ?_
   simp only [hl]
   refine Ev.yes om (Ev.yes om (Ev.yes om (Ev.yes (by simp) ?_)))
   rw [idx_next (show i < x.length by omega) hx]
   exact ih (i + 1) om
 exact key x.length 0 om
theorem to_loop_int {l0 : Nat → List Int → List Int → Int → Option (List Int)}
  (hl : ∀ k x y i, l0 (k + 1) x y i = if i < (x.length : Int) then (if 0 ≤ i then (if i < (y.length : Int) then l0 k x (y.set i.toNat (rd x i)) (wrap64 (i + 1)) else none) else none) else some y)
  (x : List Int) (hx : x.length ≤ 1048576) (z : Int) : Ev (fun k => l0 k x (List.replicate x.length z) 0) x := by
 have h := to_loop (l0 := l0) (rdA := rd) (E := fun _ a => some a) (mk := fun a => a) (conv := fun a => a) (zA := 0) (zB := z) (fun k x y i => by rw [hl]; rfl) (fun _ _ => rfl) x hx (fun a _ => ⟨a, Ev.now _, rfl⟩)
 simpa using h
def cIns (x : S88) : S85 := ⟨x.f0, x.f1⟩
theorem eqIns_refl (x : S85) : Ev (fun k => laws_eqIns.f x.f0 x.f1 x.f0 x.f1) true := by
 unfold laws_eqIns.f
 exact Ev.yes rfl (Ev.yes rfl (Ev.now _))
def cInsS (x : List S88) : List S85 := x.map cIns
theorem mInsS_nonneg (x : List S88) : (0 : Int) ≤ (x.length : Int) := by omega
theorem szInsS_ev (x : List S88) (w : x.length ≤ 9223372036854775807 ∧ ∀ z ∈ x, wf88 z) (a : Int) (h0 : 0 ≤ a) (h1 : a ≤ 1048576) : Ev (fun _ => laws_szInsS.f x a) (left (x.length : Int) a) := by
 unfold laws_szInsS.f
 have h := sz_len (n := x.length) (a := a) (F := fun _ t => some t) (m := 0) om w.1 h0 h1 (fun h => by rw [left_zero om]; exact Ev.now _)
 simpa using h
theorem toInsS_ev (x : List S88) (h : (x.length : Int) ≤ 1048576) : Ev (fun k => laws_toInsS.f k x) (cInsS x) := by
 unfold laws_toInsS.f
 refine Ev.yes om (Ev.yes (by simp; omega) ?_)
 exact to_loop (l0 := laws_toInsS.l0) (rdA := rd_T88) (E := fun k z => laws_toIns.f z.f0 z.f1) (mk := fun r => (⟨r.1, r.2⟩ : S85)) (conv := cIns) (zA := z88) (zB := z85) (fun k x y i => by simp only [laws_toInsS.l0]) (fun _ _ => rfl) x om (fun z hz => ⟨_, ⟨0, fun _ _ => rfl⟩, rfl⟩)
def okInsS (x : List S85) : Prop := x.length ≤ 1048576
theorem okInsS_c (x : List S88) (h : (x.length : Int) ≤ 1048576) : okInsS (cInsS x) := by
 unfold okInsS cInsS
 rw [List.length_map]; omega
theorem eqInsS_refl (x : List S85) (h : okInsS x) : Ev (fun k => laws_eqInsS.f k x x) true := by
 unfold laws_eqInsS.f
 refine Ev.yes rfl ?_
 exact eq_loop (l0 := laws_eqInsS.l0) (rdA := rd_T85) (E := fun k a b => laws_eqIns.f a.f0 a.f1 b.f0 b.f1) (zA := z85) (fun k x y i => by simp only [laws_eqInsS.l0]) (fun _ _ => rfl) x h (fun a ha => eqIns_refl a)
def cFunc (x : S67) : S55 := ⟨x.f0, x.f1, (cInsS x.f2)⟩
def mFunc (x : S67) : Int := (x.f2.length : Int)
theorem mFunc_nonneg (x : S67) : 0 ≤ mFunc x := by
 unfold mFunc
 have h2 : (0 : Int) ≤ (x.f2.length : Int) := mInsS_nonneg _
 omega
theorem toFunc_ev (x : S67) (h : mFunc x ≤ 1048576) : Ev (fun k => laws_toFunc.f k x.f0 x.f1 x.f2) (x.f0, x.f1, (cInsS x.f2)) := by
 unfold mFunc at h
 have p2 : (0 : Int) ≤ (x.f2.length : Int) := mInsS_nonneg _
 have h2 : (x.f2.length : Int) ≤ 1048576 := by omega
 unfold laws_toFunc.f
 exact Ev.bind (toInsS_ev x.f2 h2) (Ev.now _)
theorem szFunc_ev (x : S67) (w : wf67 x) (a : Int) (h0 : 0 ≤ a) (h1 : a ≤ 1048576) : Ev (fun k => laws_szFunc.f x.f0 x.f1 x.f2 a) (left (mFunc x) a) := by
 obtain ⟨w0, w1, w2⟩ := w
 have p2 : (0 : Int) ≤ (x.f2.length : Int) := mInsS_nonneg _
 have e : mFunc x = (x.f2.length : Int) := by unfold mFunc; omega
 rw [e]
 unfold laws_szFunc.f
 exact sz_last (mInsS_nonneg _) (szInsS_ev x.f2 w2 a om om)
def okFunc (x : S55) : Prop := okInsS x.f2
theorem okFunc_c (x : S67) (h : mFunc x ≤ 1048576) : okFunc (cFunc x) := by
 unfold mFunc at h
 have p2 : (0 : Int) ≤ (x.f2.length : Int) := mInsS_nonneg _
 exact okInsS_c _ om
theorem eqFunc_refl (x : S55) (h : okFunc x) : Ev (fun k => laws_eqFunc.f k x.f0 x.f1 x.f2 x.f0 x.f1 x.f2) true := by
 have h2 := h
 unfold laws_eqFunc.f
 exact Ev.yes rfl (Ev.yes rfl (Ev.bind (eqInsS_refl x.f2 h2) (Ev.yes rfl (Ev.now _))))
def cFuncS (x : List S67) : List S55 := x.map cFunc
theorem mFuncS_nonneg (x : List S67) : (0 : Int) ≤ (x.length + sumL mFunc x : Int) := by have := sumL_nonneg mFunc_nonneg x; omega
theorem szFuncS_ev (x : List S67) (w : x.length ≤ 9223372036854775807 ∧ ∀ z ∈ x, wf67 z) (a : Int) (h0 : 0 ≤ a) (h1 : a ≤ 1048576) : Ev (fun k => laws_szFuncS.f k x a) (left (x.length + sumL mFunc x : Int) a) := by
 unfold laws_szFuncS.f
 refine sz_len (F := fun k t => laws_szFuncS.l0 k x t 0) (sumL_nonneg mFunc_nonneg x) w.1 h0 h1 (fun h => ?_)
 exact sz_loop (l0 := laws_szFuncS.l0) (rdA := rd_T67) (E := fun k z a => laws_szFunc.f z.f0 z.f1 z.f2 a) (zA := z67) (m := mFunc) mFunc_nonneg (fun k x a i => by simp only [laws_szFuncS.l0]) (fun _ _ => rfl) x om (fun z hz a h0 h1 => szFunc_ev z (w.2 z hz) a h0 h1) _ om om
theorem toFuncS_ev (x : List S67) (h : (x.length + sumL mFunc x : Int) ≤ 1048576) : Ev (fun k => laws_toFuncS.f k x) (cFuncS x) := by
 unfold laws_toFuncS.f
 have hs := sumL_nonneg mFunc_nonneg x
 refine Ev.yes om (Ev.yes (by simp; omega) ?_)
 exact to_loop (l0 := laws_toFuncS.l0) (rdA := rd_T67) (E := fun k z => laws_toFunc.f k z.f0 z.f1 z.f2) (mk := fun r => (⟨r.1, r.2.1, r.2.2⟩ : S55)) (conv := cFunc) (zA := z67) (zB := z55) (fun k x y i => by simp only [laws_toFuncS.l0]) (fun _ _ => rfl) x om (fun z hz => ⟨_, toFunc_ev z (by have := sumL_mem mFunc_nonneg hz; omega), rfl⟩)
def okFuncS (x : List S55) : Prop := x.length ≤ 1048576 ∧ ∀ z ∈ x, okFunc z
theorem okFuncS_c (x : List S67) (h : (x.length + sumL mFunc x : Int) ≤ 1048576) : okFuncS (cFuncS x) := by
 have hs := sumL_nonneg mFunc_nonneg x
 refine ⟨by unfold cFuncS; rw [List.length_map]; omega, fun z hz => ?_⟩
 obtain ⟨y, hy, rfl⟩ := List.mem_map.1 hz
 exact okFunc_c y (by have := sumL_mem mFunc_nonneg hy; omega)
theorem eqFuncS_refl (x : List S55) (h : okFuncS x) : Ev (fun k => laws_eqFuncS.f k x x) true := by
 unfold laws_eqFuncS.f
 refine Ev.yes rfl ?_
 exact eq_loop (l0 := laws_eqFuncS.l0) (rdA := rd_T55) (E := fun k a b => laws_eqFunc.f k a.f0 a.f1 a.f2 b.f0 b.f1 b.f2) (zA := z55) (fun k x y i => by simp only [laws_eqFuncS.l0]) (fun _ _ => rfl) x h.1 (fun a ha => eqFunc_refl a (h.2 a ha))
def cProgram (x : S24) : S34 := ⟨(cFuncS x.f0)⟩
def mProgram (x : S24) : Int := (x.f0.length + sumL mFunc x.f0 : Int)
theorem mProgram_nonneg (x : S24) : 0 ≤ mProgram x := by
 unfold mProgram
 have h0 : (0 : Int) ≤ (x.f0.length + sumL mFunc x.f0 : Int) := mFuncS_nonneg _
 omega
theorem toProgram_ev (x : S24) (h : mProgram x ≤ 1048576) : Ev (fun k => laws_toProgram.f k x.f0) ((cFuncS x.f0)) := by
 unfold mProgram at h
 have p0 : (0 : Int) ≤ (x.f0.length + sumL mFunc x.f0 : Int) := mFuncS_nonneg _
 have h0 : (x.f0.length + sumL mFunc x.f0 : Int) ≤ 1048576 := by omega
 unfold laws_toProgram.f
 exact Ev.bind (toFuncS_ev x.f0 h0) (Ev.now _)
theorem szProgram_ev (x : S24) (w : wf24 x) (a : Int) (h0 : 0 ≤ a) (h1 : a ≤ 1048576) : Ev (fun k => laws_szProgram.f k x.f0 a) (left (mProgram x) a) := by
 unfold mProgram laws_szProgram.f
 exact sz_last (mFuncS_nonneg _) (szFuncS_ev x.f0 w a h0 h1)
def okProgram (x : S34) : Prop := okFuncS x.f0
theorem okProgram_c (x : S24) (h : mProgram x ≤ 1048576) : okProgram (cProgram x) := by
 unfold mProgram at h
 have p0 : (0 : Int) ≤ (x.f0.length + sumL mFunc x.f0 : Int) := mFuncS_nonneg _
 exact okFuncS_c _ om
theorem eqProgram_refl (x : S34) (h : okProgram x) : Ev (fun k => laws_eqProgram.f k x.f0 x.f0) true := by
 have h0 := h
 unfold laws_eqProgram.f
 exact Ev.bind (eqFuncS_refl x.f0 h0) (Ev.yes rfl (Ev.now _))
def okInt64S (x : List Int) : Prop := x.length ≤ 1048576
theorem eqInt64S_refl (x : List Int) (h : okInt64S x) : Ev (fun k => laws_eqInt64S.f k x x) true := by
 unfold laws_eqInt64S.f
 refine Ev.yes rfl ?_
 exact eq_loop_int (fun k x y i => by simp only [laws_eqInt64S.l0]) x h
def cInt64S (x : List Int) : List Int := x
theorem toInt64S_ev (x : List Int) (h : (x.length : Int) ≤ 1048576) : Ev (fun k => laws_toInt64S.f k x) (cInt64S x) := by
 unfold laws_toInt64S.f
 refine Ev.yes om (Ev.yes (by simp; omega) ?_)
 exact to_loop_int (fun k x y i => by simp only [laws_toInt64S.l0]) x om 0
theorem okInt64S_c (x : List Int) (h : (x.length : Int) ≤ 1048576) : okInt64S (cInt64S x) := by
 unfold okInt64S cInt64S
 omega
def okInt64SS (x : List (List Int)) : Prop := x.length ≤ 1048576 ∧ ∀ z ∈ x, okInt64S z
theorem eqInt64SS_refl (x : List (List Int)) (h : okInt64SS x) : Ev (fun k => laws_eqInt64SS.f k x x) true := by
 unfold laws_eqInt64SS.f
 refine Ev.yes rfl ?_
 exact eq_loop (l0 := laws_eqInt64SS.l0) (rdA := rd_L9) (E := fun k a b => laws_eqInt64S.f k a b) (zA := []) (fun k x y i => by simp only [laws_eqInt64SS.l0]) (fun _ _ => rfl) x h.1 (fun a ha => eqInt64S_refl a (h.2 a ha))
def okFrame (x : S47) : Prop := okInt64S x.f2 ∧ okInt64S x.f3
theorem eqFrame_refl (x : S47) (h : okFrame x) : Ev (fun k => laws_eqFrame.f k x.f0 x.f1 x.f2 x.f3 x.f0 x.f1 x.f2 x.f3) true := by
 obtain ⟨h2, h3⟩ := h
 unfold laws_eqFrame.f
 exact Ev.yes rfl (Ev.yes rfl (Ev.bind (eqInt64S_refl x.f2 h2) (Ev.yes rfl (Ev.bind (eqInt64S_refl x.f3 h3) (Ev.yes rfl (Ev.now _))))))
def okFrameS (x : List S47) : Prop := x.length ≤ 1048576 ∧ ∀ z ∈ x, okFrame z
theorem eqFrameS_refl (x : List S47) (h : okFrameS x) : Ev (fun k => laws_eqFrameS.f k x x) true := by
 unfold laws_eqFrameS.f
 refine Ev.yes rfl ?_
 exact eq_loop (l0 := laws_eqFrameS.l0) (rdA := rd_T47) (E := fun k a b => laws_eqFrame.f k a.f0 a.f1 a.f2 a.f3 b.f0 b.f1 b.f2 b.f3) (zA := z47) (fun k x y i => by simp only [laws_eqFrameS.l0]) (fun _ _ => rfl) x h.1 (fun a ha => eqFrame_refl a (h.2 a ha))
def okState (x : S30) : Prop := okFrameS x.f0 ∧ okInt64SS x.f1 ∧ okInt64S x.f2
theorem eqState_refl (x : S30) (h : okState x) : Ev (fun k => laws_eqState.f k x.f0 x.f1 x.f2 x.f3 x.f4 x.f5 x.f6 x.f0 x.f1 x.f2 x.f3 x.f4 x.f5 x.f6) true := by
 obtain ⟨h0, h1, h2⟩ := h
 unfold laws_eqState.f
 exact Ev.bind (eqFrameS_refl x.f0 h0) (Ev.yes rfl (Ev.bind (eqInt64SS_refl x.f1 h1) (Ev.yes rfl (Ev.bind (eqInt64S_refl x.f2 h2) (Ev.yes rfl (Ev.yes rfl (Ev.no (by simp) (Ev.yes rfl (Ev.yes rfl (Ev.now _))))))))))
def isLeast (w : List Bool) (a : Nat) : Prop := a < w.length ∧ w.getD a false = true ∧ ∀ b, b < a → w.getD b false = false
theorem least_ex (w : List Bool) : (∀ b, w.getD b false = false) ∨ ∃ a, isLeast w a := by
 induction w with
 | nil => exact Or.inl (fun b => by simp)
 | cons x w ih =>
  cases x with
  | true => exact Or.inr ⟨0, by simp, by simp, fun b hb => by omega⟩
  | false =>
   rcases ih with h | ⟨a, h1, h2, h3⟩
   ·refine Or.inl (fun b => ?_)
    cases b with
    | zero => simp
    | succ b => simpa using h b
   ·refine Or.inr ⟨a + 1, by simpa using h1, by simpa using h2, fun b hb => ?_⟩
    cases b with
    | zero => simp
    | succ b => simpa using h3 b om
def nexts (len : Nat) (v : Int) : List Int → List Int → List Bool → Except (List Int × Int) (List Int × List Bool)
 | [], h, w => .ok (h, w)
 | n :: r, h, w => if (len : Int) ≤ n then .error (h, 6) else if 0 ≤ rd h n ∧ rd h n ≠ v then .error (h, 5) else if rd h n < 0 then nexts len v r (h.set n.toNat v) (w.set n.toNat true) else nexts len v r h w
structure Mach where
 len : Nat
 bad : Nat → Int → Bool
 v : Nat → Int → Int
 nx : Nat → List Int
def Mach.step (M : Mach) (h : List Int) (w : List Bool) (a : Nat) : Except (List Int × Int) (List Int × List Bool) := if M.bad a (rd h a) = true then .error (h, 5) else nexts M.len (M.v a (rd h a)) (M.nx a) h (w.set a false)
inductive Run (M : Mach) : List Int → List Bool → List Int × Int × Int → Prop
 | stop {h w} : (∀ b, w.getD b false = false) → Run M h w (h, 0, 0)
 | bad {h w a h' c} : isLeast w a → M.step h w a = .error (h', c) → Run M h w (h', (a : Int), c)
 | go {h w a h' w' r} : isLeast w a → M.step h w a = .ok (h', w') → Run M h' w' r → Run M h w r
def sumTo (g : Nat → Nat) : Nat → Nat
 | 0 => 0
 | n + 1 => sumTo g n + g n
theorem sumTo_congr {g g' : Nat → Nat} : ∀ n, (∀ i, i < n → g i = g' i) → sumTo g n = sumTo g' n
 | 0, _ => rfl
 | n + 1, h => by simp only [sumTo]; rw [sumTo_congr n (fun i hi => h i om), h n om]
theorem sumTo_at {g g' : Nat → Nat} {a : Nat} (he : ∀ i, i ≠ a → g i = g' i) : ∀ n, a < n → sumTo g n + g' a = sumTo g' n + g a
 | 0, h => by omega
 | n + 1, h => by
  simp only [sumTo]
  by_cases hn : a = n
  ·subst hn
   rw [sumTo_congr a (fun i hi => he i om)]; omega
  ·have := sumTo_at he n om
   rw [he n (fun e => hn e.symm)]; omega
def wt (len : Nat) (h : List Int) (w : List Bool) (a : Nat) : Nat := (if rd h a < 0 ∨ w.getD a false = true then 2 * len + 1 else 0) + (if rd h a < 0 ∧ w.getD a false = true then len - a else 0)
theorem rd_nat (h : List Int) (a : Nat) : rd h (a : Int) = h.getD a 0 := by simp [rd]
theorem rd_set {h : List Int} {n : Nat} (hn : n < h.length) (x : Int) (i : Nat) : rd (h.set n x) (i : Int) = if i = n then x else rd h i := by
 rw [rd_nat, rd_nat, List.getD_eq_getElem?_getD, List.getD_eq_getElem?_getD, List.getElem?_set]
 by_cases e : n = i
 ·subst e; simp [hn]
 ·rw [if_neg e, if_neg (fun e' => e e'.symm)]
theorem gb_set {w : List Bool} {n : Nat} (hn : n < w.length) (x : Bool) (i : Nat) : (w.set n x).getD i false = if i = n then x else w.getD i false := by
 rw [List.getD_eq_getElem?_getD, List.getD_eq_getElem?_getD, List.getElem?_set]
 by_cases e : n = i
 ·subst e; simp [hn]
 ·rw [if_neg e, if_neg (fun e' => e e'.symm)]
theorem nexts_len (len : Nat) (v : Int) : ∀ (l h : List Int) (w : List Bool), h.length = len → w.length = len → ∀ h' w', nexts len v l h w = .ok (h', w') → h'.length = len ∧ w'.length = len
 | [], h, w, h0, h1, h', w', e => by simp only [nexts, Except.ok.injEq, Prod.mk.injEq] at e; obtain ⟨rfl, rfl⟩ := e; exact ⟨h0, h1⟩
 | n :: r, h, w, h0, h1, h', w', e => by
  simp only [nexts] at e
  split at e
  ·cases e
  ·split at e
   ·cases e
   ·split at e
    ·exact nexts_len len v r _ _ (by simpa using h0) (by simpa using h1) h' w' e
    ·exact nexts_len len v r _ _ h0 h1 h' w' e
theorem nexts_bad (len : Nat) (v : Int) : ∀ (l h : List Int) (w : List Bool), h.length = len → ∀ h' c, nexts len v l h w = .error (h', c) → h'.length = len ∧ (c = 5 ∨ c = 6)
 | [], h, w, h0, h', c, e => by simp [nexts] at e
 | n :: r, h, w, h0, h', c, e => by
  simp only [nexts] at e
  split at e
  ·simp only [Except.error.injEq, Prod.mk.injEq] at e; obtain ⟨rfl, rfl⟩ := e; exact ⟨h0, Or.inr rfl⟩
  ·split at e
   ·simp only [Except.error.injEq, Prod.mk.injEq] at e; obtain ⟨rfl, rfl⟩ := e; exact ⟨h0, Or.inl rfl⟩
   ·split at e
    ·exact nexts_bad len v r _ _ (by simpa using h0) h' c e
    ·exact nexts_bad len v r _ _ h0 h' c e
theorem nexts_wt (len : Nat) (v : Int) : ∀ (l h : List Int) (w : List Bool), h.length = len → w.length = len → (∀ n ∈ l, 0 ≤ n) → ∀ h' w', nexts len v l h w = .ok (h', w') →
  sumTo (wt len h' w') len ≤ sumTo (wt len h w) len + (l.map fun n => len - n.toNat).sum
 | [], h, w, h0, h1, hp, h', w', e => by simp only [nexts, Except.ok.injEq, Prod.mk.injEq] at e; obtain ⟨rfl, rfl⟩ := e; simp
 | n :: r, h, w, h0, h1, hp, h', w', e => by
  have hn := hp n (by simp)
  have hr : ∀ m ∈ r, 0 ≤ m := fun m hm => hp m (by simp [hm])
  simp only [nexts] at e
  simp only [List.map_cons, List.sum_cons]
  split at e
  ·cases e
  rename_i hlt
  split at e
  ·cases e
  split at e
  ·rename_i hneg
   have ih := nexts_wt len v r _ _ (by simpa using h0) (by simpa using h1) hr h' w' e
   have hb : n.toNat < len := by omega
   have eq : ((n.toNat : Nat) : Int) = n := by omega
   have st := sumTo_at (g := wt len (h.set n.toNat v) (w.set n.toNat true)) (g' := wt len h w) (a := n.toNat) (fun i hi => by
    unfold wt
    rw [rd_set om, gb_set om, if_neg hi, if_neg hi]) len hb
   have w1 : wt len (h.set n.toNat v) (w.set n.toNat true) n.toNat ≤ 2 * len + 1 + (len - n.toNat) := by
    unfold wt; split <;> split <;> omega
   have w2 : 2 * len + 1 ≤ wt len h w n.toNat := by
    unfold wt; rw [eq, if_pos (Or.inl hneg)]; omega
   omega
  ·have ih := nexts_wt len v r _ _ h0 h1 hr h' w' e
   omega
structure Mach.Good (M : Mach) : Prop where
 nn : ∀ a, a < M.len → ∀ n ∈ M.nx a, 0 ≤ n
 two : ∀ a, a < M.len → (M.nx a).length ≤ 2
 lo : ∀ a x, -9223372036854775808 ≤ M.v a x
 neg : ∀ a, a < M.len → ∀ x, x < 0 → -9223372036854775808 ≤ x → M.bad a x = false → M.nx a = [] ∨ M.nx a = [(a : Int) + 1]
theorem nexts_all {P : Int → Prop} (len : Nat) (v : Int) (hv : P v) : ∀ (l h : List Int) (w : List Bool), h.length = len → (∀ n ∈ l, 0 ≤ n) → (∀ a : Nat, P (rd h a)) → ∀ h' w', nexts len v l h w = .ok (h', w') → ∀ a : Nat, P (rd h' a)
 | [], h, w, h0, hp, i1, h', w', e => by simp only [nexts, Except.ok.injEq, Prod.mk.injEq] at e; obtain ⟨rfl, rfl⟩ := e; exact i1
 | n :: r, h, w, h0, hp, i1, h', w', e => by
  have hn := hp n (by simp)
  have hr : ∀ m ∈ r, 0 ≤ m := fun m hm => hp m (by simp [hm])
  simp only [nexts] at e
  split at e
  ·cases e
  split at e
  ·cases e
  split at e
  ·refine nexts_all len v hv r _ _ (by simpa using h0) hr (fun a => ?_) h' w' e
   rw [rd_set om]
   split
   ·exact hv
   ·exact i1 a
  ·exact nexts_all len v hv r _ _ h0 hr i1 h' w' e
theorem step_wt {M : Mach} (G : M.Good) {h : List Int} {w : List Bool} {a : Nat} (h0 : h.length = M.len) (h1 : w.length = M.len) (hl : isLeast w a) (hR : ∀ b : Nat, -9223372036854775808 ≤ rd h b) {h' : List Int} {w' : List Bool} (e : M.step h w a = .ok (h', w')) :
  sumTo (wt M.len h' w') M.len < sumTo (wt M.len h w) M.len ∧ (h'.length = M.len ∧ w'.length = M.len) ∧ ∀ b : Nat, -9223372036854775808 ≤ rd h' b := by
 obtain ⟨ha, hw, _⟩ := hl
 have ha' : a < M.len := by omega
 unfold Mach.step at e
 split at e
 ·cases e
 rename_i hb
 have hL := nexts_len _ _ _ _ _ h0 (by simpa using h1) _ _ e
 refine ⟨?_, hL, nexts_all _ _ (G.lo _ _) _ _ _ h0 (G.nn a ha') hR _ _ e⟩
 have hs := nexts_wt _ _ _ _ _ h0 (by simpa using h1) (G.nn a ha') _ _ e
 have st := sumTo_at (g := wt M.len h (w.set a false)) (g' := wt M.len h w) (a := a) (fun i hi => by
  unfold wt
  rw [gb_set ha, if_neg hi]) M.len ha'
 by_cases hx : rd h a < 0
 ·have w1 : wt M.len h (w.set a false) a = 2 * M.len + 1 := by
   unfold wt; rw [gb_set ha]; simp [hx]
  have w2 : wt M.len h w a = 2 * M.len + 1 + (M.len - a) := by
   unfold wt; rw [if_pos (Or.inl hx), if_pos ⟨hx, hw⟩]
  rcases G.neg a ha' _ hx (hR a) (by simpa using hb) with hn | hn
  ·rw [hn] at hs; simp at hs; omega
  ·rw [hn] at hs; simp at hs
   omega
 ·have w1 : wt M.len h (w.set a false) a = 0 := by
   unfold wt; rw [gb_set ha]; simp [hx]
  have w2 : wt M.len h w a = 2 * M.len + 1 := by
   unfold wt; rw [if_pos (Or.inr hw), if_neg (fun c => hx c.1)]
  have h2 := G.two a ha'
  have hs2 : ((M.nx a).map fun n => M.len - n.toNat).sum ≤ 2 * M.len := by
   match hq : M.nx a with
   | [] => simp
   | [x] => simp; omega
   | [x, y] => simp; omega
   | x :: y :: z :: t => rw [hq] at h2; simp at h2
  omega
theorem run_ends {M : Mach} (G : M.Good) : ∀ (m : Nat) (h : List Int) (w : List Bool), h.length = M.len → w.length = M.len → (∀ b : Nat, -9223372036854775808 ≤ rd h b) → sumTo (wt M.len h w) M.len ≤ m → ∃ r, Run M h w r := by
 intro m
 induction m with
 | zero =>
  intro h w h0 h1 hR hm
  rcases least_ex w with hn | ⟨a, ha⟩
  ·exact ⟨_, Run.stop hn⟩
  ·match e : M.step h w a with
   | .error (h', c) => exact ⟨_, Run.bad ha e⟩
   | .ok (h', w') => have := (step_wt G h0 h1 ha hR e).1; omega
 | succ m ih =>
  intro h w h0 h1 hR hm
  rcases least_ex w with hn | ⟨a, ha⟩
  ·exact ⟨_, Run.stop hn⟩
  ·match e : M.step h w a with
   | .error (h', c) => exact ⟨_, Run.bad ha e⟩
   | .ok (h', w') =>
    obtain ⟨hs, hl, hR'⟩ := step_wt G h0 h1 ha hR e
    obtain ⟨r, hr⟩ := ih h' w' hl.1 hl.2 hR' om
    exact ⟨r, Run.go ha e hr⟩
theorem step_bad {M : Mach} {h : List Int} {w : List Bool} {a : Nat} (h0 : h.length = M.len) {h' : List Int} {c : Int} (e : M.step h w a = .error (h', c)) : h'.length = M.len ∧ (c = 5 ∨ c = 6) := by
 unfold Mach.step at e
 split at e
 ·simp only [Except.error.injEq, Prod.mk.injEq] at e; obtain ⟨rfl, rfl⟩ := e; exact ⟨h0, Or.inl rfl⟩
 ·exact nexts_bad _ _ _ _ _ h0 _ _ e
theorem step_len {M : Mach} {h : List Int} {w : List Bool} {a : Nat} (h0 : h.length = M.len) (h1 : w.length = M.len) {h' : List Int} {w' : List Bool} (e : M.step h w a = .ok (h', w')) : h'.length = M.len ∧ w'.length = M.len := by
 unfold Mach.step at e
 split at e
 ·cases e
 ·exact nexts_len _ _ _ _ _ h0 (by simpa using h1) _ _ e
theorem run_len {M : Mach} {h : List Int} {w : List Bool} {r : List Int × Int × Int} (hr : Run M h w r) : h.length = M.len → w.length = M.len → r.1.length = M.len ∧ (r.2.2 = 0 ∨ r.2.2 = 5 ∨ r.2.2 = 6) ∧ (r.2.2 = 0 → r.2.1 = 0) := by
 induction hr with
 | stop hn => intro h0 h1; exact ⟨h0, Or.inl rfl, fun _ => rfl⟩
 | bad ha e => intro h0 h1; have := step_bad h0 e; exact ⟨this.1, Or.inr this.2, fun hc => by have := this.2; simp at hc; omega⟩
 | go ha e _ ih => intro h0 h1; have := step_len h0 h1 e; exact ih this.1 this.2
theorem nexts_ok {P : Int → Prop} (len : Nat) (v : Int) (hv : P v) : ∀ (l h : List Int) (w : List Bool), h.length = len → w.length = len → (∀ n ∈ l, 0 ≤ n) → (∀ a : Nat, w.getD a false = true → P (rd h a)) → (∀ a : Nat, P (rd h a) ∨ rd h a < 0) → ∀ h' w', nexts len v l h w = .ok (h', w') →
  (∀ a : Nat, w'.getD a false = true → P (rd h' a)) ∧ (∀ a : Nat, P (rd h' a) ∨ rd h' a < 0)
 | [], h, w, h0, h1, hp, i1, i2, h', w', e => by simp only [nexts, Except.ok.injEq, Prod.mk.injEq] at e; obtain ⟨rfl, rfl⟩ := e; exact ⟨i1, i2⟩
 | n :: r, h, w, h0, h1, hp, i1, i2, h', w', e => by
  have hn := hp n (by simp)
  have hr : ∀ m ∈ r, 0 ≤ m := fun m hm => hp m (by simp [hm])
  simp only [nexts] at e
  split at e
  ·cases e
  rename_i hlt
  split at e
  ·cases e
  split at e
  ·have hb : n.toNat < len := by omega
   refine nexts_ok len v hv r _ _ (by simpa using h0) (by simpa using h1) hr (fun a ha => ?_) (fun a => ?_) h' w' e
   ·rw [rd_set om]
    rw [gb_set om] at ha
    split
    ·exact hv
    ·rename_i hne; rw [if_neg hne] at ha; exact i1 a ha
   ·rw [rd_set om]
    split
    ·exact Or.inl hv
    ·exact i2 a
  ·exact nexts_ok len v hv r _ _ h0 h1 hr i1 i2 h' w' e
theorem run_same {M M' : Mach} {P : Int → Prop} (e1 : M'.len = M.len) (e2 : M'.v = M.v) (e3 : M'.nx = M.nx) (G : M.Good) (hb : ∀ a, a < M.len → ∀ x, P x → M'.bad a x = M.bad a x) (hv : ∀ a, a < M.len → ∀ x, P x → M.bad a x = false → P (M.v a x))
  {h : List Int} {w : List Bool} {r : List Int × Int × Int} (hr : Run M h w r) : h.length = M.len → w.length = M.len → (∀ a : Nat, w.getD a false = true → P (rd h a)) → (∀ a : Nat, P (rd h a) ∨ rd h a < 0) → Run M' h w r := by
 induction hr with
 | stop hn => intro _ _ _ _; exact Run.stop hn
 | @bad h w a h' c ha e =>
  intro h0 h1 i1 i2
  refine Run.bad ha ?_
  have hl : a < M.len := by have := ha.1; omega
  unfold Mach.step at e ⊢
  rw [hb a hl _ (i1 a ha.2.1), e1, e2, e3]; exact e
 | @go h w a h' w' r ha e _ ih =>
  intro h0 h1 i1 i2
  have hl : a < M.len := by have := ha.1; omega
  have hL := step_len h0 h1 e
  have e' := e
  unfold Mach.step at e
  split at e
  ·cases e
  rename_i hnb
  have := nexts_ok (P := P) M.len (M.v a (rd h a)) (hv a hl _ (i1 a ha.2.1) (by simpa using hnb)) (M.nx a) h (w.set a false) h0 (by simpa using h1) (G.nn a hl) (fun b hb => by
   rw [gb_set ha.1] at hb
   split at hb
   ·cases hb
   ·exact i1 b hb) i2 h' w' e
  refine Run.go ha ?_ (ih hL.1 hL.2 this.1 this.2)
  unfold Mach.step at e' ⊢
  rw [hb a hl _ (i1 a ha.2.1), e1, e2, e3]; exact e'
theorem in_some (a b c : Int) : impl_in.f a b c = some (decide (b ≤ a) && decide (a ≤ c)) := by
 unfold impl_in.f
 by_cases h : a ≥ b
 ·rw [if_pos h]; simp [show b ≤ a from h]
 ·rw [if_neg h]; simp [show ¬ b ≤ a from h]
def hasB {α : Type} (p : List α) (f : Int) : Bool := decide (0 ≤ f) && decide (f < p.length)
theorem hasFunc_some (p : List S55) (f : Int) : impl_hasFunc.f p f = some (hasB p f) := by
 unfold impl_hasFunc.f hasB
 by_cases h : f ≥ 0
 ·rw [if_pos h]; simp [show 0 ≤ f from h]
 ·rw [if_neg h]; simp [show ¬ 0 ≤ f from h]
theorem ite_some' {α : Type} {c : Prop} [Decidable c] {a b : α} : (if c then some a else some b) = some (if c then a else b) := by split <;> rfl
theorem hasB_iff {α : Type} {p : List α} {f : Int} : hasB p f = true ↔ 0 ≤ f ∧ f < p.length := by simp [hasB]
def isBin (op : Int) : Bool := decide (10 ≤ op) && decide (op ≤ 23)
def isUn (op : Int) : Bool := decide (24 ≤ op) && decide (op ≤ 29)
theorem implBin_some (op : Int) : impl_isBinary.f op = some (isBin op) := by unfold impl_isBinary.f; rw [in_some]; rfl
theorem implUn_some (op : Int) : impl_isUnary.f op = some (isUn op) := by unfold impl_isUnary.f; rw [in_some]; rfl
theorem specBin_some (op : Int) : spec_l03Binary.f op = some (isBin op) := by
 unfold spec_l03Binary.f isBin
 by_cases h : op ≥ 10
 ·rw [if_pos h]; simp [show 10 ≤ op from h]
 ·rw [if_neg h]; simp [show ¬ 10 ≤ op from h]
theorem specUn_some (op : Int) : spec_l03Unary.f op = some (isUn op) := by
 unfold spec_l03Unary.f isUn
 by_cases h : op ≥ 24
 ·rw [if_pos h]; simp [show 24 ≤ op from h]
 ·rw [if_neg h]; simp [show ¬ 24 ≤ op from h]
def takesV (p : List S55) (op a : Int) : Int :=
 if isBin op = true then 2 else if op = 35 then 2 else if op = 36 then 3 else if op = 32 then (if hasB p a = true then (rd_T55 p a).f0 else 0)
 else if isUn op = true then 1 else if op = 3 then 1 else if op = 4 then 1 else if op = 5 then 1 else if op = 31 then 1 else if op = 33 then 1 else if op = 34 then 1 else if op = 37 then 1 else if op = 38 then 1 else 0
theorem ite_ite {α : Type} {c : Prop} [Decidable c] (a b d : α) : (if c then (if c then a else b) else d) = (if c then a else d) := by by_cases h : c <;> simp [h]
theorem implTakes_ev (p : List S55) (op a : Int) : Ev (fun k => impl_Takes.f k p op a) (takesV p op a) := by
 refine Ev.of (fun k => impl_Takes.mono _ _ _ k) (k := 2) ?_
 unfold impl_Takes.f takesV
 rw [implBin_some, Option.bind_some]
 by_cases hb : isBin op = true
 ·rw [if_pos hb, if_pos hb]; simp only [impl_Takes.j0]; rw [if_pos hb]
 ·rw [if_neg hb, if_neg hb]
  simp only [impl_Takes.j0, impl_Takes.j1, implUn_some, hasFunc_some, Option.bind_some]
  by_cases h35 : op = 35
  ·rw [if_pos (by simp [h35]), if_pos h35]
  ·rw [if_neg (by simp [h35]), if_neg h35]
   by_cases h32 : op = 32
   ·subst h32
    simp only [show ((32 : Int) = 36) = False from by simp, if_false, if_true]
    by_cases hh : hasB p a = true
    ·have h2 := hasB_iff.1 hh
     simp only [if_pos hh, if_pos h2.1, if_pos h2.2]
    ·simp only [if_neg hh]
   ·rw [if_neg h32, if_neg h32]
    simp only [beq_iff_eq, ite_ite, ite_some']
theorem specTakes_ev (p : List S55) (op a : Int) : Ev (fun k => spec_Takes.f k p op a) (takesV p op a) := by
 refine Ev.of (fun k => spec_Takes.mono _ _ _ k) (k := 2) ?_
 unfold spec_Takes.f takesV
 rw [specBin_some, Option.bind_some]
 by_cases hb : isBin op = true
 ·rw [if_pos hb, if_pos hb]; simp only [spec_Takes.j0, if_true]
 ·rw [if_neg hb, if_neg hb]
  simp only [spec_Takes.j0, spec_Takes.j1, specUn_some, Option.bind_some]
  by_cases h35 : op = 35
  ·rw [if_pos (by simp [h35]), if_pos h35]
  ·rw [if_neg (by simp [h35]), if_neg h35]
   by_cases h32 : op = 32
   ·subst h32
    simp only [show ((32 : Int) = 36) = False from by simp, if_false, if_true]
    by_cases hh : hasB p a = true
    ·have h2 := hasB_iff.1 hh
     rw [if_neg om, if_neg om, if_pos h2.1, if_pos h2.2]; simp only [if_pos hh]
    ·simp only [if_neg hh]
     have h2 : ¬ (0 ≤ a ∧ a < p.length) := fun h => hh (hasB_iff.2 h)
     by_cases h0 : a < 0
     ·rw [if_pos h0]
     ·rw [if_neg h0, if_pos om]
   ·rw [if_neg h32, if_neg h32]
    simp only [beq_iff_eq, ite_ite, ite_some']
def putsV (op : Int) : Int := if isBin op = true then 1 else if isUn op = true then 1 else if op = 4 then 2 else if op = 1 then 1 else if op = 2 then 1 else if op = 32 then 1 else if op = 34 then 1 else if op = 35 then 1 else if op = 37 then 1 else 0
theorem putsV_bd (op : Int) : 0 ≤ putsV op ∧ putsV op ≤ 2 := by unfold putsV; repeat' split <;> omega
theorem isBin_iff {op : Int} : isBin op = true ↔ 10 ≤ op ∧ op ≤ 23 := by simp [isBin]
theorem isUn_iff {op : Int} : isUn op = true ↔ 24 ≤ op ∧ op ≤ 29 := by simp [isUn]
theorem implArith_some (op : Int) : impl_isArith.f op = some (decide (10 ≤ op) && decide (op ≤ 29)) := by unfold impl_isArith.f; rw [in_some]; rfl
theorem arith_split (op : Int) : (decide (10 ≤ op) && decide (op ≤ 29)) = true ↔ isBin op = true ∨ isUn op = true := by
 rw [isBin_iff, isUn_iff]; simp only [Bool.and_eq_true, decide_eq_true_eq]; omega
theorem implPuts_ev (op a : Int) : Ev (fun k => impl_Puts.f k op a) (putsV op) := by
 refine Ev.of (fun k => impl_Puts.mono _ _ k) (k := 1) ?_
 unfold impl_Puts.f putsV
 simp only [impl_Puts.j0, implArith_some, Option.bind_some, arith_split]
 by_cases h4 : op = 4
 ·subst h4; simp [isBin, isUn]
 by_cases h1 : op = 1
 ·subst h1; simp [isBin, isUn]
 by_cases h2 : op = 2
 ·subst h2; simp [isBin, isUn]
 by_cases h32 : op = 32
 ·subst h32; simp [isBin, isUn]
 by_cases h34 : op = 34
 ·subst h34; simp [isBin, isUn]
 by_cases h35 : op = 35
 ·subst h35; simp [isBin, isUn]
 by_cases h37 : op = 37
 ·subst h37; simp [isBin, isUn]
 simp only [if_neg h4, if_neg h1, if_neg h2, if_neg h32, if_neg h34, if_neg h35, beq_no h37, Bool.false_eq_true, if_false, if_neg h37]
 by_cases hb : isBin op = true
 ·simp [hb]
 ·by_cases hu : isUn op = true
  ·simp [hb, hu]
  ·simp [hb, hu]
theorem specPuts_ev (op a : Int) : Ev (fun k => spec_Puts.f k op a) (putsV op) := by
 refine Ev.of (fun k => spec_Puts.mono _ _ k) (k := 2) ?_
 unfold spec_Puts.f putsV
 rw [specBin_some, specUn_some, Option.bind_some, Option.bind_some]
 simp only [spec_Puts.j0, spec_Puts.j1, beq_iff_eq, ite_ite, ite_some', if_true]
def namedB (op : Int) : Bool := (decide (1 ≤ op) && decide (op ≤ 5)) || (decide (10 ≤ op) && decide (op ≤ 38))
def nameV (op : Int) : ByteArray := (impl_OpName.f op).getD ⟨#[]⟩
theorem names_small : ∀ n : Nat, n < 39 → impl_OpName.f (n : Int) = some (nameV (n : Int)) ∧ spec_OpName.f 1 (n : Int) = some (nameV (n : Int)) ∧ (((nameV (n : Int)).toList = []) ↔ namedB (n : Int) = false) := by
 decide +kernel
theorem name_all (op : Int) : impl_OpName.f op = some (nameV op) ∧ spec_OpName.f 1 op = some (nameV op) ∧ (((nameV op).toList = []) ↔ namedB op = false) := by
 by_cases hr : 0 ≤ op ∧ op ≤ 38
 ·obtain ⟨n, rfl⟩ := Int.eq_ofNat_of_zero_le hr.1
  exact names_small n om
 ·have h1 : impl_OpName.f op = some ⟨#[]⟩ := by
   unfold impl_OpName.f impl_in.f
   by_cases hc : op ≥ 0
   ·rw [if_pos hc]
    have : decide (op ≤ 38) = false := by simp; omega
    simp [this]
   ·rw [if_neg hc]
    simp
  have hv : nameV op = ⟨#[]⟩ := by unfold nameV; rw [h1]; rfl
  rw [hv]
  refine ⟨h1, ?_, ?_⟩
  ·unfold spec_OpName.f
   simp only [Option.bind_some]
   by_cases hc : op ≥ 1
   ·rw [if_pos hc]
    have : decide (op ≤ 5) = false := by simp; omega
    simp only [this, spec_OpName.j0]
    by_cases hd : op ≥ 10
    ·rw [if_neg (by simp), if_pos hd, if_neg om]
    ·rw [if_neg (by simp), if_neg hd]
   ·rw [if_neg hc]
    simp only [spec_OpName.j0]
    rw [if_neg (by simp), if_neg om]
  ·have : namedB op = false := by
    unfold namedB
    simp
    omega
   simp [this]
theorem implName_some (op : Int) : impl_OpName.f op = some (nameV op) := (name_all op).1
theorem specName_ev (op : Int) : Ev (fun k => spec_OpName.f k op) (nameV op) := Ev.of (fun k => spec_OpName.mono _ k) (name_all op).2.1
theorem name_none (op : Int) : (nameV op).toList = [] ↔ namedB op = false := (name_all op).2.2
def insRightV (p : List S55) (f op a : Int) : Bool :=
 if hasB p f = true then
  (if op = 1 then true else if op = 2 ∨ op = 3 then decide (0 ≤ a) && decide (a < (rd_T55 p f).f1) else if op = 30 ∨ op = 31 then decide (0 ≤ a) && decide (a < (rd_T55 p f).f2.length)
  else if op = 32 then hasB p a else namedB op && (a == 0))
 else false
theorem and_some (a : Int) (q : Prop) [Decidable q] : (if a ≥ 0 then some (decide q) else some false) = some (decide (0 ≤ a) && decide q) := by
 by_cases h : a ≥ 0
 ·rw [if_pos h]; simp [show 0 ≤ a from h]
 ·rw [if_neg h]; simp [show ¬ 0 ≤ a from h]
theorem implInsRight_ev (p : List S55) (f op a : Int) : Ev (fun k => impl_InsRight.f k p f op a) (insRightV p f op a) := by
 refine Ev.of (fun k => impl_InsRight.mono _ _ _ _ k) (k := 2) ?_
 unfold impl_InsRight.f insRightV
 rw [hasFunc_some, Option.bind_some]
 by_cases hf : hasB p f = true
 ·have h2 := hasB_iff.1 hf
  simp only [if_pos hf, impl_InsRight.j0, impl_InsRight.j1, if_pos h2.1, if_pos h2.2, and_some, hasFunc_some, implName_some, Option.bind_some]
  by_cases h1 : op = 1
  ·simp only [if_pos h1]
  simp only [if_neg h1]
  by_cases h2 : op = 2
  ·subst h2; simp
  by_cases h3 : op = 3
  ·subst h3; simp
  simp only [if_neg h2, beq_no h3, Bool.false_eq_true, if_false, h2, h3, or_self]
  by_cases h30 : op = 30
  ·subst h30; simp
  by_cases h31 : op = 31
  ·subst h31; simp
  simp only [if_neg h30, beq_no h31, Bool.false_eq_true, if_false, h30, h31, or_self]
  by_cases h32 : op = 32
  ·simp only [if_pos h32]
  simp only [if_neg h32, name_none]
  cases namedB op <;> simp
 ·simp only [if_neg hf]
theorem specInsRight_ev (p : List S55) (f op a : Int) : Ev (fun k => spec_InsRight.f k p f op a) (insRightV p f op a) := by
 unfold spec_InsRight.f insRightV
 by_cases h0 : f < 0
 ·have hf : ¬ hasB p f = true := fun h => by have := hasB_iff.1 h; omega
  rw [if_neg hf]
  refine Ev.yes h0 (Ev.succ ?_)
  simp only [spec_InsRight.j0, if_true]
  exact Ev.now _
 refine Ev.no h0 (Ev.succ ?_)
 simp only [spec_InsRight.j0]
 by_cases hl : f ≥ (p.length : Int)
 ·have hf : ¬ hasB p f = true := fun h => by have := hasB_iff.1 h; omega
  rw [if_neg hf]
  exact Ev.yes (by simp [hl]) (Ev.now _)
 have hf : hasB p f = true := hasB_iff.2 ⟨by omega, by omega⟩
 have hg0 : 0 ≤ f := by omega
 have hg1 : f < (p.length : Int) := by omega
 rw [if_pos hf]
 refine Ev.no (by simp; omega) ?_
 by_cases h1 : op = 1
 ·rw [if_pos h1]; exact Ev.yes h1 (Ev.now _)
 refine Ev.no h1 ?_
 rw [if_neg h1]
 have hj2 : ∀ b : Bool, Ev (fun k => spec_InsRight.j2 k f op b p op a) (if b = true then decide (0 ≤ a) && decide (a < (rd_T55 p f).f2.length) else if op = 32 then hasB p a else namedB op && (a == 0)) := by
  intro b
  refine Ev.succ ?_
  simp only [spec_InsRight.j2, if_pos hg0, if_pos hg1, and_some]
  refine Ev.cases (fun hb => ?_) (fun hb => ?_)
  ·rw [if_pos hb]; exact Ev.now _
  ·rw [if_neg hb]
   refine Ev.cases (fun h32 => ?_) (fun h32 => ?_)
   ·rw [if_pos h32]; exact Ev.now _
   ·rw [if_neg h32]
    refine Ev.bind (specName_ev op) ?_
    simp only [name_none]
    cases namedB op
    ·exact Ev.yes rfl (by simpa using Ev.now false)
    ·exact Ev.no (by simp) (by simpa using Ev.now (a == 0))
 have hj1 : ∀ b : Bool, Ev (fun k => spec_InsRight.j1 k f op b p op a) (if b = true then decide (0 ≤ a) && decide (a < (rd_T55 p f).f1) else if op = 30 ∨ op = 31 then decide (0 ≤ a) && decide (a < (rd_T55 p f).f2.length) else if op = 32 then hasB p a else namedB op && (a == 0)) := by
  intro b
  refine Ev.succ ?_
  simp only [spec_InsRight.j1, if_pos hg0, if_pos hg1, and_some]
  refine Ev.cases (fun hb => ?_) (fun hb => ?_)
  ·rw [if_pos hb]; exact Ev.now _
  ·rw [if_neg hb]
   refine Ev.cases (fun h30 => ?_) (fun h30 => ?_)
   ·have := hj2 (op == 30)
    simpa [h30] using this
   ·have := hj2 (op == 31)
    by_cases h31 : op = 31
    ·simpa [h31] using this
    ·simpa [h30, h31] using this
 refine Ev.cases (fun h2 => ?_) (fun h2 => ?_)
 ·simpa [h2] using hj1 (op == 2)
 ·by_cases h3 : op = 3
  ·simpa [h3] using hj1 (op == 3)
  ·simpa [h2, h3] using hj1 (op == 3)
def nxV (op a : Int) (n : Nat) : List Int := if op = 33 then [] else if op = 30 then [a] else if op = 31 then [(n : Int) + 1, a] else [(n : Int) + 1]
def cdI (c : List S85) (a : Nat) : S85 := rd_T85 c (a : Int)
def tkV (p : List S55) (c : List S85) (a : Nat) : Int := takesV p (cdI c a).f0 (cdI c a).f1
def nextH (p : List S55) (c : List S85) (a : Nat) (x : Int) : Int := wrap64 (wrap64 (x - tkV p c a) + putsV (cdI c a).f0)
def machS (p : List S55) (c : List S85) : Mach := ⟨c.length, fun a x => decide (tkV p c a > x) || decide (nextH p c a x > 8), nextH p c, fun a => nxV (cdI c a).f0 (cdI c a).f1 a⟩
def machI (p : List S55) (c : List S85) : Mach := ⟨c.length, fun a x => decide (wrap64 (x - tkV p c a) < 0) || decide (nextH p c a x > 8), nextH p c, fun a => nxV (cdI c a).f0 (cdI c a).f1 a⟩
def okJ (c : List S85) : Prop := ∀ a, a < c.length → (cdI c a).f0 = 30 ∨ (cdI c a).f0 = 31 → 0 ≤ (cdI c a).f1 ∧ (cdI c a).f1 < c.length
theorem takesV_bd (p : List S55) (op a : Int) (h : op ≠ 32) : 0 ≤ takesV p op a ∧ takesV p op a ≤ 3 := by
 unfold takesV
 rw [if_neg h]
 repeat' split <;> omega
theorem nxV_mem {op a : Int} {n : Nat} {L : Nat} (hn : n < L) (h : op = 30 ∨ op = 31 → 0 ≤ a ∧ a < L) : ∀ m ∈ nxV op a n, 0 ≤ m ∧ m ≤ L := by
 intro m hm
 unfold nxV at hm
 split at hm
 ·simp at hm
 split at hm
 ·rename_i h30; have := h (Or.inl h30); simp at hm; omega
 split at hm
 ·rename_i h31; have := h (Or.inr h31); simp at hm; omega
 ·simp at hm; omega
theorem nxV_two (op a : Int) (n : Nat) : (nxV op a n).length ≤ 2 := by
 unfold nxV
 split
 ·simp
 split
 ·simp
 split <;> simp
theorem nextH_lo (p : List S55) (c : List S85) (a : Nat) (x : Int) : -9223372036854775808 ≤ nextH p c a x := wrap_lo _
theorem takesV_30 (p : List S55) (a : Int) : takesV p 30 a = 0 := by simp [takesV, isBin, isUn]
theorem takesV_31 (p : List S55) (a : Int) : takesV p 31 a = 1 := by simp [takesV, isBin, isUn]
theorem putsV_31 : putsV 31 = 0 := by simp [putsV, isBin, isUn]
theorem goodS (p : List S55) (c : List S85) (hj : okJ c) : (machS p c).Good where
 nn := fun a ha n hn => (nxV_mem ha (hj a ha) n hn).1
 two := fun a _ => nxV_two _ _ _
 lo := fun a x => nextH_lo p c a x
 neg := fun a ha x hx _ hb => by
  simp only [machS, Bool.or_eq_false_iff, decide_eq_false_iff_not] at hb
  by_cases h32 : (cdI c a).f0 = 32
  ·simp only [machS, h32]; exact Or.inr (by simp [nxV])
  ·have := takesV_bd p (cdI c a).f0 (cdI c a).f1 h32
   have h1 := hb.1
   unfold tkV at h1
   omega
theorem goodI (p : List S55) (c : List S85) (hj : okJ c) : (machI p c).Good where
 nn := fun a ha n hn => (nxV_mem ha (hj a ha) n hn).1
 two := fun a _ => nxV_two _ _ _
 lo := fun a x => nextH_lo p c a x
 neg := fun a ha x hx hlo hb => by
  simp only [machI, Bool.or_eq_false_iff, decide_eq_false_iff_not] at hb
  show nxV (cdI c a).f0 (cdI c a).f1 a = [] ∨ nxV (cdI c a).f0 (cdI c a).f1 a = [(a : Int) + 1]
  unfold nxV
  by_cases h33 : (cdI c a).f0 = 33
  ·rw [if_pos h33]; exact Or.inl rfl
  rw [if_neg h33]
  by_cases h30 : (cdI c a).f0 = 30
  ·exfalso
   have h1 := hb.1
   unfold tkV at h1
   rw [h30, takesV_30, wrap_in om om] at h1
   omega
  rw [if_neg h30]
  by_cases h31 : (cdI c a).f0 = 31
  ·exfalso
   have h1 := hb.1
   have h2 := hb.2
   unfold nextH at h2
   unfold tkV at h1 h2
   rw [h31, takesV_31] at h1 h2
   rw [putsV_31] at h2
   unfold wrap64 at h1 h2
   omega
  rw [if_neg h31]; exact Or.inr rfl
theorem rdOf_nat (w : List Bool) (a : Nat) : rdOf false w (a : Int) = w.getD a false := by simp [rdOf]
theorem specLeast_l0 (w : List Bool) (hw : w.length ≤ 1048576) (a : Nat) (ha : isLeast w a) : ∀ (d i : Nat), i + d = a → Ev (fun k => spec_l04Least.l0 k w (i : Int)) (a : Int) := by
 intro d
 have hlt := ha.1
 induction d with
 | zero =>
  intro i hi
  have e : i = a := by omega
  subst e
  refine Ev.succ ?_
  simp only [spec_l04Least.l0]
  exact Ev.yes om (Ev.yes om (Ev.yes (by rw [rdOf_nat]; exact ha.2.1) (Ev.now _)))
 | succ d ih =>
  intro i hi
  refine Ev.succ ?_
  simp only [spec_l04Least.l0]
  refine Ev.yes om (Ev.yes om (Ev.no (by rw [rdOf_nat, ha.2.2 i om]; simp) ?_))
  rw [idx_next (show i < w.length by omega) hw]
  exact ih (i + 1) om
theorem specLeast_n0 (w : List Bool) (hw : w.length ≤ 1048576) (ha : ∀ b, w.getD b false = false) : ∀ (d i : Nat), i + d = w.length → Ev (fun k => spec_l04Least.l0 k w (i : Int)) (-1) := by
 intro d
 induction d with
 | zero =>
  intro i hi
  refine Ev.succ ?_
  simp only [spec_l04Least.l0]
  exact Ev.no om (Ev.now _)
 | succ d ih =>
  intro i hi
  refine Ev.succ ?_
  simp only [spec_l04Least.l0]
  refine Ev.yes om (Ev.yes om (Ev.no (by rw [rdOf_nat, ha i]; simp) ?_))
  rw [idx_next (show i < w.length by omega) hw]
  exact ih (i + 1) om
theorem specLeast_ev (w : List Bool) (hw : w.length ≤ 1048576) (a : Nat) (ha : isLeast w a) : Ev (fun k => spec_l04Least.f k w) (a : Int) := by
 unfold spec_l04Least.f; exact specLeast_l0 w hw a ha a 0 om
theorem specLeast_no (w : List Bool) (hw : w.length ≤ 1048576) (ha : ∀ b, w.getD b false = false) : Ev (fun k => spec_l04Least.f k w) (-1) := by
 unfold spec_l04Least.f; exact specLeast_n0 w hw ha w.length 0 om
theorem rd_cons_at {x : List Int} {i : Nat} {n : Int} {r : List Int} (h : x.drop i = n :: r) : i < x.length ∧ rd x (i : Int) = n ∧ x.drop (i + 1) = r := by
 have hi : i < x.length := by
  rcases Nat.lt_or_ge i x.length with h' | h'
  ·exact h'
  ·rw [List.drop_of_length_le h'] at h; cases h
 rw [List.drop_eq_getElem_cons hi] at h
 injection h with h1 h2
 refine ⟨hi, ?_, h2⟩
 rw [rd_nat, List.getD_eq_getElem?_getD, List.getElem?_eq_getElem hi]; exact h1
theorem spec_l2_ev (p : List S55) (c : List S85) (f v b0 b1 : Int) (R : List Int × Int × Int × Int) : ∀ (r x : List Int) (i : Nat) (h : List Int) (w : List Bool), x.drop i = r → x.length ≤ 1048576 → h.length = c.length → w.length = c.length → (∀ n ∈ r, 0 ≤ n) →
  (∀ h' e, nexts c.length v r h w = .error (h', e) → R = (h', b0, b1, e)) → (∀ h' w', nexts c.length v r h w = .ok (h', w') → Ev (fun k => spec_l04Heights.l1 k f c h' w' p) R) → Ev (fun k => spec_l04Heights.l2 k f c h w v x (i : Int) p b0 b1 5) R
 | [], x, i, h, w, hx, hl, h0, h1, hp, he, ho => by
  refine Ev.succ ?_
  simp only [spec_l04Heights.l2]
  have : x.length ≤ i := List.drop_eq_nil_iff.1 hx
  exact Ev.no om (ho h w rfl)
 | n :: r, x, i, h, w, hx, hl, h0, h1, hp, he, ho => by
  obtain ⟨hi, hn, hd⟩ := rd_cons_at hx
  have hn0 := hp n (by simp)
  refine Ev.succ ?_
  simp only [spec_l04Heights.l2, hn]
  simp only [nexts] at he ho
  refine Ev.yes om (Ev.yes om ?_)
  by_cases hL : (c.length : Int) ≤ n
  ·rw [if_pos hL] at he
   rw [he _ _ rfl]
   exact Ev.yes hL (Ev.now _)
  rw [if_neg hL] at he ho
  refine Ev.no hL (Ev.yes hn0 (Ev.yes om ?_))
  have key : ∀ b : Bool, (b = true ↔ 0 ≤ rd h n ∧ rd h n ≠ v) → Ev (fun k => spec_l04Heights.j8 k f c h w v x (i : Int) b p b0 b1 5) R := by
   intro b hb
   refine Ev.succ ?_
   simp only [spec_l04Heights.j8, hn]
   by_cases hB : 0 ≤ rd h n ∧ rd h n ≠ v
   ·rw [if_pos hB] at he
    rw [he _ _ rfl]
    exact Ev.yes (hb.2 hB) (Ev.now _)
   rw [if_neg hB] at he ho
   refine Ev.no (fun hc => hB (hb.1 hc)) (Ev.yes om (Ev.yes om (Ev.yes hn0 (Ev.yes om ?_))))
   rw [idx_next hi hl]
   by_cases hN : rd h n < 0
   ·rw [if_pos hN] at he ho
    refine Ev.yes hN (Ev.yes om ?_)
    exact spec_l2_ev p c f v b0 b1 R r x (i + 1) _ _ hd hl (by simpa using h0) (by simpa using h1) (fun m hm => hp m (by simp [hm])) he ho
   ·rw [if_neg hN] at he ho
    refine Ev.no hN ?_
    exact spec_l2_ev p c f v b0 b1 R r x (i + 1) _ _ hd hl h0 h1 (fun m hm => hp m (by simp [hm])) he ho
  by_cases hge : rd h n ≥ 0
  ·refine Ev.yes hge (key _ ?_)
   simp only [bne_iff_ne, ne_eq]
   exact ⟨fun hv => ⟨hge, hv⟩, fun hv => hv.2⟩
  ·refine Ev.no hge (key _ ?_)
   simp only [Bool.false_eq_true, false_iff]
   exact fun hv => hge hv.1
theorem spec_run {p : List S55} {c : List S85} (f : Int) (hc : c.length ≤ 1048576) (hj : okJ c) {h : List Int} {w : List Bool} {r : List Int × Int × Int} (hr : Run (machS p c) h w r) :
  h.length = c.length → w.length = c.length → Ev (fun k => spec_l04Heights.l1 k f c h w p) (r.1, (if r.2.2 = 0 then 0 else f), r.2.1, r.2.2) := by
 have step : ∀ {h : List Int} {w : List Bool} {a : Nat} (R : List Int × Int × Int × Int), isLeast w a → h.length = c.length → w.length = c.length → (∀ h' e, (machS p c).step h w a = .error (h', e) → R = (h', f, (a : Int), e)) →
   (∀ h' w', (machS p c).step h w a = .ok (h', w') → Ev (fun k => spec_l04Heights.l1 k f c h' w' p) R) → Ev (fun k => spec_l04Heights.l1 k f c h w p) R := by
  intro h w a R ha h0 h1 he ho
  have hal : a < c.length := by have := ha.1; omega
  refine Ev.succ ?_
  simp only [spec_l04Heights.l1]
  refine Ev.bind (specLeast_ev w om a ha) (Ev.no om (Ev.yes om (Ev.yes om ?_)))
  simp only [Option.bind_some]
  refine Ev.yes om (Ev.bind (specTakes_ev p _ _) (Ev.yes om (Ev.bind (specPuts_ev _ _) ?_)))
  have key : ∀ b : Bool, b = (machS p c).bad a (rd h a) → Ev (fun k => spec_l04Heights.j2 k f c h (w.set a false) (a : Int) (nextH p c a (rd h a)) b p (cdI c a).f0 (cdI c a).f1 f (a : Int) 5) R := by
   intro b hb
   unfold Mach.step at he ho
   rw [← hb] at he ho
   refine Ev.succ ?_
   simp only [spec_l04Heights.j2, Option.bind_some]
   cases b with
   | true =>
    simp only [if_true] at he
    rw [he _ _ rfl]
    exact Ev.yes rfl (Ev.now _)
   | false =>
    simp only [Bool.false_eq_true, if_false] at he ho
    refine Ev.no (by simp) ?_
    have fin : ∀ x : List Int, x = nxV (cdI c a).f0 (cdI c a).f1 a → Ev (fun k => spec_l04Heights.j6 k f c h (w.set a false) (nextH p c a (rd h a)) x p f (a : Int) 5) R := by
     intro x hx
     refine Ev.succ ?_
     simp only [spec_l04Heights.j6]
     have hx2 := nxV_two (cdI c a).f0 (cdI c a).f1 a
     exact spec_l2_ev p c f _ f (a : Int) R x x 0 h (w.set a false) rfl (by rw [hx]; omega) h0 (by simpa using h1) (by rw [hx]; exact fun n hn => (nxV_mem hal (hj a hal) n hn).1) (by rw [hx]; exact he) (by rw [hx]; exact ho)
    have f5 : ∀ (x : List Int) (b : Bool), x.length ≤ 2 → (if b = true then x ++ [(cdI c a).f1] else x) = nxV (cdI c a).f0 (cdI c a).f1 a → Ev (fun k => spec_l04Heights.j5 k f c h (w.set a false) (nextH p c a (rd h a)) x b p (cdI c a).f0 (cdI c a).f1 f (a : Int) 5) R := by
     intro x b hxl hx
     refine Ev.succ ?_
     simp only [spec_l04Heights.j5]
     cases b with
     | true => exact Ev.yes rfl (Ev.yes om (fin _ (by simpa using hx)))
     | false => exact Ev.no (by simp) (fin _ (by simpa using hx))
    have f4 : ∀ (x : List Int), x.length ≤ 2 → (if (cdI c a).f0 = 30 ∨ (cdI c a).f0 = 31 then x ++ [(cdI c a).f1] else x) = nxV (cdI c a).f0 (cdI c a).f1 a → Ev (fun k => spec_l04Heights.j4 k f c h (w.set a false) (nextH p c a (rd h a)) x p (cdI c a).f0 (cdI c a).f1 f (a : Int) 5) R := by
     intro x hxl hx
     refine Ev.succ ?_
     simp only [spec_l04Heights.j4]
     refine Ev.cases (fun h30 => f5 _ _ hxl ?_) (fun h30 => f5 _ _ hxl ?_)
     ·rw [← hx]; simp [h30]
     ·rw [← hx]
      by_cases h31 : (cdI c a).f0 = 31
      ·simp [h31]
      ·simp [h30, h31]
    have f3 : ∀ b : Bool, (b = true ↔ (cdI c a).f0 ≠ 30 ∧ (cdI c a).f0 ≠ 33) → Ev (fun k => spec_l04Heights.j3 k f c h (w.set a false) (a : Int) (nextH p c a (rd h a)) [] b p (cdI c a).f0 (cdI c a).f1 f (a : Int) 5) R := by
     intro b hb3
     refine Ev.succ ?_
     simp only [spec_l04Heights.j3]
     have hw1 : wrap64 ((a : Int) + 1) = (a : Int) + 1 := wrap_in om om
     cases b with
     | true =>
      have hb4 := hb3.1 rfl
      refine Ev.yes rfl (Ev.yes (by simp) (f4 _ (by simp) ?_))
      unfold nxV
      rw [hw1, if_neg hb4.2, if_neg hb4.1]
      by_cases h31 : (cdI c a).f0 = 31
      ·simp [h31]
      ·simp [h31, hb4.1]
     | false =>
      refine Ev.no (by simp) (f4 _ (by simp) ?_)
      unfold nxV
      by_cases h33 : (cdI c a).f0 = 33
      ·simp [h33]
      ·by_cases h30 : (cdI c a).f0 = 30
       ·simp [h30]
       ·exact absurd (hb3.2 ⟨h30, h33⟩) (by simp)
    refine Ev.cases (fun h30 => f3 _ ?_) (fun h30 => f3 _ ?_)
    ·simp [h30]
    ·simp [h30]
  by_cases ht : tkV p c a > rd h a
  ·refine Ev.yes ht (key true ?_)
   simp [machS, ht]
  ·refine Ev.no ht (key _ ?_)
   simp only [machS, show decide (tkV p c a > rd h a) = false from by simpa using ht, Bool.false_or]
   rfl
 induction hr with
 | @stop h w hn =>
  intro h0 h1
  refine Ev.succ ?_
  simp only [spec_l04Heights.l1]
  exact Ev.bind (specLeast_no w om hn) (Ev.yes om (Ev.now _))
 | @bad h w a h' e ha hs =>
  intro h0 h1
  have h5 := step_bad (M := machS p c) h0 hs
  refine step _ ha h0 h1 (fun h'' e' q => ?_) (fun h'' w'' q => ?_)
  ·rw [hs] at q
   simp only [Except.error.injEq, Prod.mk.injEq] at q
   obtain ⟨rfl, rfl⟩ := q
   have : ¬ e = 0 := by omega
   simp [this]
  ·rw [hs] at q; cases q
 | @go h w a h' w' r ha hs hr ih =>
  intro h0 h1
  have hl := step_len (M := machS p c) h0 h1 hs
  refine step _ ha h0 h1 (fun h'' e' q => ?_) (fun h'' w'' q => ?_)
  ·rw [hs] at q; cases q
  ·rw [hs] at q
   simp only [Except.ok.injEq, Prod.mk.injEq] at q
   obtain ⟨rfl, rfl⟩ := q
   exact ih hl.1 hl.2
theorem impl_next_some (op a : Int) (n : Nat) (hn : n ≤ 1048576) : impl_next.f op a (n : Int) = some (nxV op a n) := by
 unfold impl_next.f nxV
 rw [wrap_in (show -9223372036854775808 ≤ (n : Int) + 1 by omega) om]
 simp only [ite_some']
theorem mn_eq (a b : Int) : mn a b = if b < a then b else a := rfl
theorem impl_skip (p : List S55) (c : List S85) (hc : c.length ≤ 1048576) (h : List Int) (w : List Bool) (h1 : w.length = c.length) (R : List Int × Int × Int) (m : Nat) (hm : m ≤ c.length) (hz : ∀ b, b < m → w.getD b false = false) (hR : Ev (fun k => impl_heightsOf.l1 k c h w (m : Int) p) R) :
  ∀ (d i : Nat), i + d = m → Ev (fun k => impl_heightsOf.l1 k c h w (i : Int) p) R := by
 intro d
 induction d with
 | zero =>
  intro i hi
  have e : i = m := by omega
  subst e; exact hR
 | succ d ih =>
  intro i hi
  refine Ev.succ ?_
  simp only [impl_heightsOf.l1]
  refine Ev.yes om (Ev.yes om (Ev.yes om (Ev.no (by rw [rdOf_nat, hz i om]; simp) ?_)))
  rw [idx_next (show i < c.length by omega) hc]
  exact ih (i + 1) om
theorem impl_l2_ev (p : List S55) (c : List S85) (hc : c.length ≤ 1048576) (a : Nat) (lft op arg v : Int) (hv : v = wrap64 (lft + putsV op)) (R : List Int × Int × Int) : ∀ (r x : List Int) (i : Nat) (h : List Int) (w : List Bool) (m : Nat), x.drop i = r → x.length ≤ 1048576 → h.length = c.length → w.length = c.length → (∀ n ∈ r, 0 ≤ n ∧ n ≤ c.length) →
  m ≤ c.length → (∀ b, b < m → w.getD b false = false) → (∀ h' e, nexts c.length v r h w = .error (h', e) → R = (h', (a : Int), e)) →
  (∀ h' w', nexts c.length v r h w = .ok (h', w') → ∀ m', m' ≤ c.length → (∀ b, b < m' → w'.getD b false = false) → Ev (fun k => impl_heightsOf.l1 k c h' w' (m' : Nat) p) R) →
  Ev (fun k => impl_heightsOf.l2 k c h w (a : Int) lft (m : Int) x (x.length : Int) (i : Int) p op arg) R
 | [], x, i, h, w, m, hx, hl, h0, h1, hp, hm, hz, he, ho => by
  refine Ev.succ ?_
  simp only [impl_heightsOf.l2]
  have : x.length ≤ i := List.drop_eq_nil_iff.1 hx
  exact Ev.no om (ho h w rfl m hm hz)
 | n :: r, x, i, h, w, m, hx, hl, h0, h1, hp, hm, hz, he, ho => by
  obtain ⟨hi, hn, hd⟩ := rd_cons_at hx
  have hn0 := hp n (by simp)
  refine Ev.succ ?_
  simp only [impl_heightsOf.l2, hn]
  simp only [nexts] at he ho
  refine Ev.yes om (Ev.yes om (Ev.yes om ?_))
  by_cases hL : (c.length : Int) ≤ n
  ·rw [if_pos hL] at he
   rw [he _ _ rfl]
   exact Ev.yes om (Ev.now _)
  rw [if_neg hL] at he ho
  refine Ev.no om (Ev.yes om (Ev.yes om ?_))
  have key : ∀ b : Bool, (b = true ↔ 0 ≤ rd h n ∧ rd h n ≠ v) → Ev (fun k => impl_heightsOf.j4 k c h w (a : Int) lft (m : Int) n x (x.length : Int) (i : Int) b p op arg) R := by
   intro b hb
   refine Ev.succ ?_
   simp only [impl_heightsOf.j4]
   by_cases hB : 0 ≤ rd h n ∧ rd h n ≠ v
   ·rw [if_pos hB] at he
    rw [he _ _ rfl]
    exact Ev.yes (hb.2 hB) (Ev.now _)
   rw [if_neg hB] at he ho
   refine Ev.no (fun hc => hB (hb.1 hc)) (Ev.yes om (Ev.yes om ?_))
   rw [idx_next hi hl]
   by_cases hN : rd h n < 0
   ·rw [if_pos hN] at he ho
    refine Ev.yes hN (Ev.bind (implPuts_ev op arg) (Ev.yes om ?_))
    rw [← hv, mn_eq]
    have e : (if n < (m : Int) then n else (m : Int)) = ((if n.toNat < m then n.toNat else m : Nat) : Int) := by
     by_cases hnm : n < (m : Int)
     ·rw [if_pos hnm, if_pos om]; omega
     ·rw [if_neg hnm, if_neg om]
    rw [e]
    refine impl_l2_ev p c hc a lft op arg v hv R r x (i + 1) _ _ _ hd hl (by simpa using h0) (by simpa using h1) (fun q hq => hp q (by simp [hq])) (by split <;> omega) (fun b hb => ?_) he ho
    rw [gb_set om]
    have hb2 : b < n.toNat ∧ b < m := by split at hb <;> omega
    rw [if_neg om]
    exact hz b hb2.2
   ·rw [if_neg hN] at he ho
    refine Ev.no hN ?_
    exact impl_l2_ev p c hc a lft op arg v hv R r x (i + 1) _ _ m hd hl h0 h1 (fun q hq => hp q (by simp [hq])) hm hz he ho
  by_cases hge : rd h n ≥ 0
  ·refine Ev.yes hge (Ev.bind (implPuts_ev op arg) (key _ ?_))
   rw [← hv]
   simp only [bne_iff_ne, ne_eq]
   exact ⟨fun hv => ⟨hge, hv⟩, fun hv => hv.2⟩
  ·refine Ev.no hge (key _ ?_)
   simp only [Bool.false_eq_true, false_iff]
   exact fun hv => hge hv.1
theorem impl_run {p : List S55} {c : List S85} (hc : c.length ≤ 1048576) (hj : okJ c) {h : List Int} {w : List Bool} {r : List Int × Int × Int} (hr : Run (machI p c) h w r) :
  h.length = c.length → w.length = c.length → ∀ m : Nat, m ≤ c.length → (∀ b, b < m → w.getD b false = false) → Ev (fun k => impl_heightsOf.l1 k c h w (m : Int) p) r := by
 have step : ∀ {h : List Int} {w : List Bool} {a : Nat} (R : List Int × Int × Int) (m : Nat), m ≤ c.length → (∀ b, b < m → w.getD b false = false) → isLeast w a → h.length = c.length → w.length = c.length → (∀ h' e, (machI p c).step h w a = .error (h', e) → R = (h', (a : Int), e)) →
   (∀ h' w', (machI p c).step h w a = .ok (h', w') → ∀ m', m' ≤ c.length → (∀ b, b < m' → w'.getD b false = false) → Ev (fun k => impl_heightsOf.l1 k c h' w' (m' : Nat) p) R) → Ev (fun k => impl_heightsOf.l1 k c h w (m : Int) p) R := by
  intro h w a R m hm hz ha h0 h1 he ho
  have hal : a < c.length := by have := ha.1; omega
  have hma : m ≤ a := by
   rcases Nat.lt_or_ge a m with q | q
   ·have := hz a q; rw [ha.2.1] at this; cases this
   ·exact q
  refine impl_skip p c hc h w h1 R a om ha.2.2 ?_ (a - m) m om
  refine Ev.succ ?_
  simp only [impl_heightsOf.l1]
  refine Ev.yes om (Ev.yes om (Ev.yes om (Ev.yes (by rw [rdOf_nat]; exact ha.2.1) ?_)))
  simp only [Option.bind_some]
  refine Ev.yes om (Ev.bind (implTakes_ev p _ _) ?_)
  have key : ∀ b : Bool, b = (machI p c).bad a (rd h a) → Ev (fun k => impl_heightsOf.j2 k c h (w.set a false) (a : Int) (wrap64 (rd h a - tkV p c a)) b p (cdI c a).f0 (cdI c a).f1) R := by
   intro b hb
   unfold Mach.step at he ho
   rw [← hb] at he ho
   refine Ev.succ ?_
   simp only [impl_heightsOf.j2]
   cases b with
   | true =>
    simp only [if_true] at he
    rw [he _ _ rfl]
    exact Ev.yes rfl (Ev.now _)
   | false =>
    simp only [Bool.false_eq_true, if_false] at he ho
    refine Ev.no (by simp) (Ev.flat (impl_next_some _ _ a om) ?_)
    have hx2 := nxV_two (cdI c a).f0 (cdI c a).f1 a
    refine impl_l2_ev p c hc a _ _ _ _ rfl R _ _ 0 h (w.set a false) a rfl om h0 (by simpa using h1) (fun n hn => nxV_mem hal (hj a hal) n hn) om (fun b hb => ?_) he ho
    rw [gb_set om]
    split
    ·rfl
    ·exact ha.2.2 b hb
  refine Ev.cases (fun ht => key true ?_) (fun ht => Ev.bind (implPuts_ev _ _) (key _ ?_))
  ·have ht' : wrap64 (rd h a - tkV p c a) < 0 := ht
   simp [machI, ht']
  ·have ht' : ¬ wrap64 (rd h a - tkV p c a) < 0 := ht
   simp only [machI, show decide (wrap64 (rd h a - tkV p c a) < 0) = false from by simpa using ht', Bool.false_or]
   rfl
 induction hr with
 | @stop h w hn =>
  intro h0 h1 m hm hz
  refine impl_skip p c hc h w h1 _ c.length om (fun b _ => hn b) ?_ (c.length - m) m om
  refine Ev.succ ?_
  simp only [impl_heightsOf.l1]
  exact Ev.no om (Ev.now _)
 | @bad h w a h' e ha hs =>
  intro h0 h1 m hm hz
  refine step _ m hm hz ha h0 h1 (fun h'' e' q => ?_) (fun h'' w'' q => ?_)
  ·rw [hs] at q
   simp only [Except.error.injEq, Prod.mk.injEq] at q
   obtain ⟨rfl, rfl⟩ := q
   rfl
  ·rw [hs] at q; cases q
 | @go h w a h' w' r ha hs hr ih =>
  intro h0 h1 m hm hz
  have hl := step_len (M := machI p c) h0 h1 hs
  refine step _ m hm hz ha h0 h1 (fun h'' e' q => ?_) (fun h'' w'' q => ?_)
  ·rw [hs] at q; cases q
  ·rw [hs] at q
   simp only [Except.ok.injEq, Prod.mk.injEq] at q
   obtain ⟨rfl, rfl⟩ := q
   exact ih hl.1 hl.2
def h0V (L : Nat) : List Int := (List.replicate L (-1)).set 0 0
def w0V (L : Nat) : List Bool := (List.replicate L false).set 0 true
theorem fill_take {h : List Int} {L i : Nat} (hl : h.length = L) (hi : i < L) (ht : h.take i = List.replicate i (-1)) : (h.set i (-1)).take (i + 1) = List.replicate (i + 1) (-1) := by
 rw [List.take_succ_eq_append_getElem (by simp; omega), List.take_set_of_le (Nat.le_refl _), ht, List.getElem_set_self]
 simp [List.replicate_succ']
theorem rd_rep (L : Nat) (x : Int) (a : Nat) : rd (List.replicate L x) (a : Int) = if a < L then x else 0 := by
 rw [rd_nat, List.getD_eq_getElem?_getD, List.getElem?_replicate]
 split <;> rfl
theorem gb_rep (L : Nat) (a : Nat) : (List.replicate L false).getD a false = false := by
 rw [List.getD_eq_getElem?_getD, List.getElem?_replicate]
 split <;> rfl
theorem h0V_rd {L : Nat} (hL : 1 ≤ L) (a : Nat) : rd (h0V L) (a : Int) = if a = 0 then 0 else if a < L then -1 else 0 := by
 unfold h0V
 rw [rd_set (by simp; omega), rd_rep]
theorem w0V_gb {L : Nat} (hL : 1 ≤ L) (a : Nat) : (w0V L).getD a false = decide (a = 0) := by
 unfold w0V
 rw [gb_set (by simp; omega), gb_rep]
 by_cases h : a = 0 <;> simp [h]
def insAll (p : List S55) (f : Int) (c : List S85) : Prop := ∀ a, a < c.length → insRightV p f (cdI c a).f0 (cdI c a).f1 = true
def formF (p : List S55) (f : Int) (x : S55) : Prop := 0 ≤ x.f0 ∧ x.f0 ≤ 4 ∧ x.f0 ≤ x.f1 ∧ x.f1 ≤ 8 ∧ 1 ≤ x.f2.length ∧ x.f2.length ≤ 60 ∧ insAll p f x.f2
def fnI (p : List S55) (f : Nat) : S55 := rd_T55 p (f : Int)
theorem insAll_okJ {p : List S55} {f : Nat} (h : insAll p f (fnI p f).f2) : okJ (fnI p f).f2 := by
 intro a ha hj
 have := h a ha
 unfold insRightV at this
 split at this
 ·rw [if_neg om, if_neg om] at this
  try rw [if_pos hj] at this
  rw [Bool.and_eq_true, decide_eq_true_eq, decide_eq_true_eq] at this
  exact this
 ·cases this
theorem start_ends {M : Mach} (G : M.Good) (hL : 1 ≤ M.len) : ∃ r, Run M (h0V M.len) (w0V M.len) r := by
 refine run_ends G _ _ _ (by simp [h0V]) (by simp [w0V]) (fun b => ?_) (Nat.le_refl _)
 rw [h0V_rd hL]; split
 ·omega
 ·split <;> omega
theorem specHeights_ev {p : List S55} {f : Nat} (hf : f < p.length) (h1 : 1 ≤ (fnI p f).f2.length) (h2 : (fnI p f).f2.length ≤ 1048576) (hj : okJ (fnI p f).f2) {r : List Int × Int × Int}
  (hr : Run (machS p (fnI p f).f2) (h0V (fnI p f).f2.length) (w0V (fnI p f).f2.length) r) : Ev (fun k => spec_l04Heights.f k p (f : Int)) (r.1, (if r.2.2 = 0 then 0 else (f : Int)), r.2.1, r.2.2) := by
 unfold spec_l04Heights.f
 have e : (rd_T55 p (f : Int)).f2 = (fnI p f).f2 := rfl
 simp only [e]
 refine Ev.yes om (Ev.yes om (Ev.yes om (Ev.yes om ?_)))
 simp only [Int.toNat_natCast]
 have key : ∀ (d i : Nat) (h : List Int), i + d = (fnI p f).f2.length → h.length = (fnI p f).f2.length → h.take i = List.replicate i (-1) → Ev (fun k => spec_l04Heights.l0 k (f : Int) (fnI p f).f2 h (i : Int) p) (r.1, (if r.2.2 = 0 then 0 else (f : Int)), r.2.1, r.2.2) := by
  intro d
  induction d with
  | zero =>
   intro i h hi hl ht
   refine Ev.succ ?_
   simp only [spec_l04Heights.l0]
   refine Ev.no om (Ev.yes om (Ev.yes om (Ev.yes om ?_)))
   simp only [Option.bind_some, Int.toNat_natCast]
   refine Ev.yes (by simp; omega) ?_
   rw [List.take_of_length_le om] at ht
   have := spec_run (f : Int) h2 hj hr (by simp [h0V]) (by simp [w0V])
   rw [ht, show i = (fnI p f).f2.length by omega]
   exact this
  | succ d ih =>
   intro i h hi hl ht
   refine Ev.succ ?_
   simp only [spec_l04Heights.l0]
   refine Ev.yes om (Ev.yes om ?_)
   rw [idx_next (show i < (fnI p f).f2.length by omega) h2]
   simp only [Int.toNat_natCast]
   exact ih (i + 1) _ om (by simpa using hl) (fill_take hl om ht)
 exact key (fnI p f).f2.length 0 _ om (by simp) (by simp)
theorem implHeights_ev {p : List S55} {f : Nat} (hf : f < p.length) (h1 : 1 ≤ (fnI p f).f2.length) (h2 : (fnI p f).f2.length ≤ 1048576) (hj : okJ (fnI p f).f2) {r : List Int × Int × Int}
  (hr : Run (machI p (fnI p f).f2) (h0V (fnI p f).f2.length) (w0V (fnI p f).f2.length) r) : Ev (fun k => impl_heightsOf.f k p (f : Int)) r := by
 unfold impl_heightsOf.f
 have e : (rd_T55 p (f : Int)).f2 = (fnI p f).f2 := rfl
 simp only [e]
 refine Ev.yes om (Ev.yes om (Ev.yes om (Ev.yes om ?_)))
 simp only [Int.toNat_natCast, Option.bind_some, List.length_replicate]
 refine Ev.yes om ?_
 have key : ∀ (d i : Nat) (h : List Int), i + d = (fnI p f).f2.length → h.length = (fnI p f).f2.length → h.take i = List.replicate i (-1) → Ev (fun k => impl_heightsOf.l0 k (fnI p f).f2 h (List.replicate (fnI p f).f2.length false) ((fnI p f).f2.length : Int) (i : Int) p) r := by
  intro d
  induction d with
  | zero =>
   intro i h hi hl ht
   refine Ev.succ ?_
   simp only [impl_heightsOf.l0]
   refine Ev.no om (Ev.yes om (Ev.yes (by simp; omega) ?_))
   rw [List.take_of_length_le om] at ht
   have := impl_run h2 hj hr (by simp [h0V]) (by simp [w0V]) 0 om (fun b hb => by omega)
   rw [ht, show i = (fnI p f).f2.length by omega]
   exact this
  | succ d ih =>
   intro i h hi hl ht
   refine Ev.succ ?_
   simp only [impl_heightsOf.l0]
   refine Ev.yes om (Ev.yes om (Ev.yes om ?_))
   rw [idx_next (show i < (fnI p f).f2.length by omega) h2]
   simp only [Int.toNat_natCast]
   exact ih (i + 1) _ om (by simpa using hl) (fill_take hl om ht)
 exact key (fnI p f).f2.length 0 _ om (by simp) (by simp)
def rightS (p : List S55) (f : Nat) (h : List Int) : Prop := formF p f (fnI p f) ∧ Run (machS p (fnI p f).f2) (h0V (fnI p f).f2.length) (w0V (fnI p f).f2.length) (h, 0, 0)
def rightI (p : List S55) (f : Nat) (h : List Int) : Prop := formF p f (fnI p f) ∧ Run (machI p (fnI p f).f2) (h0V (fnI p f).f2.length) (w0V (fnI p f).f2.length) (h, 0, 0)
theorem form_okJ {p : List S55} {f : Nat} (h : formF p f (fnI p f)) : okJ (fnI p f).f2 := insAll_okJ h.2.2.2.2.2.2
theorem specFunc_ins {p : List S55} {f : Nat} (c : List S85) (hc : c.length ≤ 1048576) (b0 b1 : Int) {R : Int × Int × Int} (bad : ∀ a, a < c.length → insRightV p f (cdI c a).f0 (cdI c a).f1 = false → (∀ b, b < a → insRightV p f (cdI c b).f0 (cdI c b).f1 = true) → R = ((f : Int), (a : Int), 1))
  (good : insAll p f c → Ev (fun k => (spec_l04Heights.f k p (f : Int)).bind fun t => (some (t.2.1, t.2.2.1, t.2.2.2) : Option (Int × Int × Int))) R) : Ev (fun k => spec_l04Func.l0 k (f : Int) 0 p b0 b1 c) R := by
 have key : ∀ (d i : Nat), i + d = c.length → (∀ b, b < i → insRightV p f (cdI c b).f0 (cdI c b).f1 = true) → Ev (fun k => spec_l04Func.l0 k (f : Int) (i : Int) p b0 b1 c) R := by
  intro d
  induction d with
  | zero =>
   intro i hi hb
   refine Ev.succ ?_
   simp only [spec_l04Func.l0]
   exact Ev.no om (good (fun a ha => hb a om))
  | succ d ih =>
   intro i hi hb
   refine Ev.succ ?_
   simp only [spec_l04Func.l0]
   refine Ev.yes om (Ev.yes om (Ev.bind (specInsRight_ev p f _ _) ?_))
   show Ev (fun k => if insRightV p f (cdI c i).f0 (cdI c i).f1 = true then _ else _) R
   refine Ev.cases (fun ht => ?_) (fun ht => ?_)
   ·rw [idx_next (show i < c.length by omega) hc]
    refine ih (i + 1) om (fun b hb' => ?_)
    rcases Nat.lt_succ_iff_lt_or_eq.1 hb' with q | q
    ·exact hb b q
    ·rw [q]; exact ht
   ·rw [bad i om (by simpa using ht) hb]; exact Ev.now _
 exact key c.length 0 om (fun b hb => by omega)
theorem specFunc_ev (p : List S55) {f : Nat} (hf : f < p.length) : (∃ h, rightS p f h ∧ Ev (fun k => spec_l04Func.f k p (f : Int)) (0, 0, 0)) ∨ ((¬ ∃ h, rightS p f h ∧ Ev (fun k => spec_l04Func.f k p (f : Int)) (0, 0, 0)) ∧ ∃ r : Int × Int × Int, r.2.2 ≠ 0 ∧ Ev (fun k => spec_l04Func.f k p (f : Int)) r) := by
 by_cases hc : ∃ h, rightS p f h ∧ Ev (fun k => spec_l04Func.f k p (f : Int)) (0, 0, 0)
 ·exact Or.inl hc
 refine Or.inr ⟨hc, ?_⟩
 by_cases hs : 0 ≤ (fnI p f).f0 ∧ (fnI p f).f0 ≤ 4 ∧ (fnI p f).f0 ≤ (fnI p f).f1 ∧ (fnI p f).f1 ≤ 8 ∧ 1 ≤ (fnI p f).f2.length ∧ (fnI p f).f2.length ≤ 60
 case neg =>
  refine ⟨((f : Int), 0, 1), by simp, ?_⟩
  unfold spec_l04Func.f
  have e : rd_T55 p (f : Int) = fnI p f := rfl
  simp only [e]
  have bad : Ev (fun k => spec_l04Func.j0 k (f : Int) true p (fnI p f).f0 (fnI p f).f1 (fnI p f).f2) ((f : Int), 0, 1) := by
   refine Ev.succ ?_
   simp only [spec_l04Func.j0]
   exact Ev.yes (by simp) (Ev.now _)
  refine Ev.yes om (Ev.yes om (Ev.cases (fun _ => bad) (fun q0 => Ev.cases (fun _ => bad) (fun q1 => Ev.cases (fun _ => bad) (fun q2 => Ev.cases (fun _ => bad) (fun q3 => Ev.cases (fun _ => bad) (fun q4 => ?_)))))))
  rw [show decide (((fnI p f).f2.length : Int) > 60) = true from by simp; omega]
  exact bad
 obtain ⟨s0, s1, s2, s3, s4, s5⟩ := hs
 have go : ∀ R : Int × Int × Int, Ev (fun k => spec_l04Func.l0 k (f : Int) 0 p (fnI p f).f0 (fnI p f).f1 (fnI p f).f2) R → Ev (fun k => spec_l04Func.f k p (f : Int)) R := by
  intro R hR
  unfold spec_l04Func.f
  have e : rd_T55 p (f : Int) = fnI p f := rfl
  simp only [e]
  refine Ev.yes om (Ev.yes om (Ev.no om (Ev.no om (Ev.no om (Ev.no om (Ev.no om (Ev.succ ?_)))))))
  simp only [spec_l04Func.j0]
  exact Ev.no (by simp; omega) hR
 by_cases hi : insAll p f (fnI p f).f2
 case neg =>
  have : ∃ a, a < (fnI p f).f2.length ∧ insRightV p f (cdI (fnI p f).f2 a).f0 (cdI (fnI p f).f2 a).f1 = false := by
   refine Classical.byContradiction fun hn => hi (fun a ha => ?_)
   cases e : insRightV p f (cdI (fnI p f).f2 a).f0 (cdI (fnI p f).f2 a).f1
   ·exact absurd ⟨a, ha, e⟩ hn
   ·rfl
  have least : ∃ a, a < (fnI p f).f2.length ∧ insRightV p f (cdI (fnI p f).f2 a).f0 (cdI (fnI p f).f2 a).f1 = false ∧ ∀ b, b < a → insRightV p f (cdI (fnI p f).f2 b).f0 (cdI (fnI p f).f2 b).f1 = true := by
   obtain ⟨a, ha, hb⟩ := this
   have : ∀ n a, a ≤ n → a < (fnI p f).f2.length → insRightV p f (cdI (fnI p f).f2 a).f0 (cdI (fnI p f).f2 a).f1 = false → ∃ a, a < (fnI p f).f2.length ∧ insRightV p f (cdI (fnI p f).f2 a).f0 (cdI (fnI p f).f2 a).f1 = false ∧ ∀ b, b < a → insRightV p f (cdI (fnI p f).f2 b).f0 (cdI (fnI p f).f2 b).f1 = true := by
    intro n
    induction n with
    | zero => intro a h0 h1 h2; exact ⟨a, h1, h2, fun b hb => by omega⟩
    | succ n ih =>
     intro a h0 h1 h2
     by_cases hx : ∃ b, b < a ∧ insRightV p f (cdI (fnI p f).f2 b).f0 (cdI (fnI p f).f2 b).f1 = false
     ·obtain ⟨b, hb, hb2⟩ := hx
      exact ih b om om hb2
     ·refine ⟨a, h1, h2, fun b hb => ?_⟩
      cases e : insRightV p f (cdI (fnI p f).f2 b).f0 (cdI (fnI p f).f2 b).f1
      ·exact absurd ⟨b, hb, e⟩ hx
      ·rfl
   exact this a a (Nat.le_refl _) ha hb
  obtain ⟨a, h1, h2, h3⟩ := least
  refine ⟨((f : Int), (a : Int), 1), by simp, go _ (specFunc_ins _ om _ _ (fun b hb1 hb2 hb3 => ?_) (fun hg => absurd hg hi))⟩
  have : a = b := by
   rcases Nat.lt_trichotomy a b with q | q | q
   ·have := hb3 a q; rw [h2] at this; cases this
   ·exact q
   ·have := h3 b q; rw [hb2] at this; cases this
  rw [this]
 obtain ⟨r, hr⟩ := start_ends (goodS p _ (insAll_okJ hi)) s4
 have hh := specHeights_ev hf s4 om (insAll_okJ hi) hr
 have hfn := go _ (specFunc_ins _ om _ _ (fun a h1 h2 _ => by have := hi a h1; rw [this] at h2; cases h2) (fun _ => Ev.bind hh (Ev.now _)))
 have hlen := run_len hr (by simp [h0V, machS]) (by simp [w0V, machS])
 by_cases h0 : r.2.2 = 0
 ·exfalso
  have e : r = (r.1, 0, 0) := by
   obtain ⟨a, b, c⟩ := r
   simp only at h0 hlen ⊢
   rw [h0, hlen.2.2 h0]
  refine hc ⟨r.1, ⟨⟨s0, s1, s2, s3, s4, s5, hi⟩, e ▸ hr⟩, ?_⟩
  simpa [h0, hlen.2.2 h0] using hfn
 ·exact ⟨_, h0, hfn⟩
theorem specVerify_ev (p : List S55) : (1 ≤ p.length ∧ p.length ≤ 6 ∧ (∀ f, f < p.length → ∃ h, rightS p f h) ∧ Ev (fun k => spec_Verify.f k p) (0, 0, 0)) ∨ (¬ (1 ≤ p.length ∧ p.length ≤ 6 ∧ ∀ f, f < p.length → ∃ h, rightS p f h)) ∧ ∃ r : Int × Int × Int, r.2.2 ≠ 0 ∧ Ev (fun k => spec_Verify.f k p) r := by
 by_cases hl : 1 ≤ p.length ∧ p.length ≤ 6
 case neg =>
  refine Or.inr ⟨fun h => hl ⟨h.1, h.2.1⟩, (0, 0, 1), by simp, ?_⟩
  unfold spec_Verify.f
  have bad : Ev (fun k => spec_Verify.j0 k true p) (0, 0, 1) := by
   refine Ev.succ ?_
   simp only [spec_Verify.j0]
   exact Ev.yes (by simp) (Ev.now _)
  refine Ev.cases (fun _ => bad) (fun q => ?_)
  rw [show decide ((p.length : Int) > 6) = true from by simp; omega]
  exact bad
 have go : ∀ R : Int × Int × Int, Ev (fun k => spec_Verify.l0 k 0 p) R → Ev (fun k => spec_Verify.f k p) R := by
  intro R hR
  unfold spec_Verify.f
  refine Ev.no om (Ev.succ ?_)
  simp only [spec_Verify.j0]
  exact Ev.no (by simp; omega) hR
 by_cases ha : ∀ f, f < p.length → ∃ h, rightS p f h ∧ Ev (fun k => spec_l04Func.f k p (f : Int)) (0, 0, 0)
 ·refine Or.inl ⟨hl.1, hl.2, fun f hf => ?_, go _ ?_⟩
  ·obtain ⟨h, h1, _⟩ := ha f hf; exact ⟨h, h1⟩
  have key : ∀ (d i : Nat), i + d = p.length → Ev (fun k => spec_Verify.l0 k (i : Int) p) (0, 0, 0) := by
   intro d
   induction d with
   | zero =>
    intro i hi
    refine Ev.succ ?_
    simp only [spec_Verify.l0]
    exact Ev.no om (Ev.now _)
   | succ d ih =>
    intro i hi
    refine Ev.succ ?_
    simp only [spec_Verify.l0]
    obtain ⟨h, _, h2⟩ := ha i om
    refine Ev.yes om (Ev.bind h2 (Ev.yes rfl ?_))
    rw [idx_next (show i < p.length by omega) om]
    exact ih (i + 1) om
  exact key p.length 0 om
 ·have hb : ∃ f, f < p.length ∧ ¬ ∃ h, rightS p f h ∧ Ev (fun k => spec_l04Func.f k p (f : Int)) (0, 0, 0) := by
   refine Classical.byContradiction fun hn => ha (fun f hf => ?_)
   exact Classical.byContradiction fun hq => hn ⟨f, hf, hq⟩
  obtain ⟨f, hf, hbad⟩ := hb
  refine Or.inr ⟨fun hall => ?_, ?_⟩
  ·obtain ⟨h, hh⟩ := hall.2.2 f hf
   have s := hh.1
   have h1 := specHeights_ev hf s.2.2.2.2.1 (by have := s.2.2.2.2.2.1; omega) (form_okJ s) hh.2
   refine hbad ⟨h, hh, ?_⟩
   rcases specFunc_ev p hf with ⟨h', hh', e⟩ | ⟨hn, r, hr, e⟩
   ·exact e
   ·exfalso
    have e2 : Ev (fun k => spec_l04Func.f k p (f : Int)) (0, 0, 0) := by
     unfold spec_l04Func.f
     have e : rd_T55 p (f : Int) = fnI p f := rfl
     simp only [e]
     obtain ⟨s0, s1, s2, s3, s4, s5, s6⟩ := s
     refine Ev.yes om (Ev.yes om (Ev.no om (Ev.no om (Ev.no om (Ev.no om (Ev.no om (Ev.succ ?_)))))))
     simp only [spec_l04Func.j0]
     refine Ev.no (by simp; omega) (specFunc_ins _ om _ _ (fun a q1 q2 _ => by have := s6 a q1; rw [this] at q2; cases q2) (fun _ => Ev.bind h1 (by simpa using Ev.now _)))
    have := Pure.Ev.uniq e e2
    rw [this] at hr; exact hr rfl
  ·have key : ∀ (d i : Nat), i + d = f → ∃ r : Int × Int × Int, r.2.2 ≠ 0 ∧ Ev (fun k => spec_Verify.l0 k (i : Int) p) r := by
    intro d
    induction d with
    | zero =>
     intro i hi
     have e : i = f := by omega
     subst e
     rcases specFunc_ev p hf with q | ⟨_, r, hr, e⟩
     ·exact absurd q hbad
     ·refine ⟨r, hr, Ev.succ ?_⟩
      simp only [spec_Verify.l0]
      exact Ev.yes om (Ev.bind e (Ev.no hr (Ev.now _)))
    | succ d ih =>
     intro i hi
     rcases specFunc_ev p (show i < p.length by omega) with ⟨h, _, e⟩ | ⟨_, r, hr, e⟩
     ·obtain ⟨r, hr, e2⟩ := ih (i + 1) om
      refine ⟨r, hr, Ev.succ ?_⟩
      simp only [spec_Verify.l0]
      refine Ev.yes om (Ev.bind e (Ev.yes rfl ?_))
      rw [idx_next (show i < p.length by omega) om]
      exact e2
     ·refine ⟨r, hr, Ev.succ ?_⟩
      simp only [spec_Verify.l0]
      exact Ev.yes om (Ev.bind e (Ev.no hr (Ev.now _)))
   obtain ⟨r, hr, e⟩ := key f 0 om
   exact ⟨r, hr, go r e⟩
def rdH (hs : List (List Int)) (f : Nat) : List Int := rd_L9 hs (f : Int)
theorem smallTk {p : List S55} (hp : ∀ f, f < p.length → 0 ≤ (fnI p f).f0 ∧ (fnI p f).f0 ≤ 4) (c : List S85) (a : Nat) : 0 ≤ tkV p c a ∧ tkV p c a ≤ 4 := by
 unfold tkV
 by_cases h32 : (cdI c a).f0 = 32
 ·unfold takesV
  rw [h32, if_neg (by decide), if_neg (by decide), if_neg (by decide), if_pos rfl]
  split
  ·rename_i hh
   have := hasB_iff.1 hh
   have h1 := hp (cdI c a).f1.toNat om
   have e : (((cdI c a).f1.toNat : Nat) : Int) = (cdI c a).f1 := by omega
   unfold fnI at h1
   rw [e] at h1
   exact h1
  ·omega
 ·have := takesV_bd p (cdI c a).f0 (cdI c a).f1 h32
  omega
theorem small_bad {p : List S55} (hp : ∀ f, f < p.length → 0 ≤ (fnI p f).f0 ∧ (fnI p f).f0 ≤ 4) (c : List S85) (a : Nat) (x : Int) (hx : 0 ≤ x ∧ x ≤ 8) : (machI p c).bad a x = (machS p c).bad a x ∧ ((machS p c).bad a x = false → 0 ≤ nextH p c a x ∧ nextH p c a x ≤ 8) := by
 have ht := smallTk hp c a
 have hq := putsV_bd (cdI c a).f0
 have e1 : wrap64 (x - tkV p c a) = x - tkV p c a := wrap_in om om
 have e2 : nextH p c a x = x - tkV p c a + putsV (cdI c a).f0 := by unfold nextH; rw [e1]; exact wrap_in om om
 simp only [machI, machS, e1, e2]
 constructor
 ·congr 1
  have : (x - tkV p c a < 0) ↔ (tkV p c a > x) := by omega
  simp only [this]
 ·intro h
  simp only [Bool.or_eq_false_iff, decide_eq_false_iff_not] at h
  omega
theorem right_SI {p : List S55} (hp : ∀ f, f < p.length → 0 ≤ (fnI p f).f0 ∧ (fnI p f).f0 ≤ 4) (f : Nat) (h : List Int) : rightS p f h ↔ rightI p f h := by
 have i1 : ∀ L : Nat, 1 ≤ L → (∀ a : Nat, (w0V L).getD a false = true → 0 ≤ rd (h0V L) (a : Int) ∧ rd (h0V L) (a : Int) ≤ 8) := by
  intro L hL a ha
  rw [w0V_gb hL] at ha
  rw [h0V_rd hL, if_pos (by simpa using ha)]; omega
 have i2 : ∀ L : Nat, 1 ≤ L → (∀ a : Nat, (0 ≤ rd (h0V L) (a : Int) ∧ rd (h0V L) (a : Int) ≤ 8) ∨ rd (h0V L) (a : Int) < 0) := by
  intro L hL a
  rw [h0V_rd hL]
  split
  ·omega
  ·split <;> omega
 constructor
 ·rintro ⟨hf, hr⟩
  refine ⟨hf, run_same (M := machS p (fnI p f).f2) (M' := machI p (fnI p f).f2) (P := fun x => 0 ≤ x ∧ x ≤ 8) rfl rfl rfl (goodS p _ (form_okJ hf)) (fun a _ x hx => (small_bad hp _ a x hx).1) (fun a _ x hx hb => (small_bad hp _ a x hx).2 hb) hr (by simp [h0V, machS]) (by simp [w0V, machS]) (i1 _ hf.2.2.2.2.1) (i2 _ hf.2.2.2.2.1)⟩
 ·rintro ⟨hf, hr⟩
  refine ⟨hf, run_same (M := machI p (fnI p f).f2) (M' := machS p (fnI p f).f2) (P := fun x => 0 ≤ x ∧ x ≤ 8) rfl rfl rfl (goodI p _ (form_okJ hf)) (fun a _ x hx => (small_bad hp _ a x hx).1.symm) (fun a _ x hx hb => (small_bad hp _ a x hx).2 (by rw [← (small_bad hp _ a x hx).1]; exact hb)) hr (by simp [h0V, machI]) (by simp [w0V, machI]) (i1 _ hf.2.2.2.2.1) (i2 _ hf.2.2.2.2.1)⟩
theorem implFunc_ins {p : List S55} {f : Nat} (c : List S85) (hc : c.length ≤ 1048576) (acc : List (List Int)) (L I : Int) {R : Int × Int × Int × List (List Int)} (bad : ∀ a : Nat, a < c.length → insRightV p f (cdI c a).f0 (cdI c a).f1 = false → R = ((f : Int), (a : Int), 1, []) ∨ ∃ b, b < a ∧ insRightV p f (cdI c b).f0 (cdI c b).f1 = false)
  (good : insAll p f c → Ev (fun k => (impl_heightsOf.f k p (f : Int)).bind fun t => if t.2.2 = 0 then (if acc.length < 5864062014805 then impl_verify.l0 k (acc ++ [t.1]) p L (wrap64 (I + 1)) p else none) else some ((f : Int), t.2.1, t.2.2, [])) R) : Ev (fun k => impl_verify.l1 k acc (f : Int) p L I c (c.length : Int) 0 p) R := by
 have key : ∀ (d i : Nat), i + d = c.length → (∀ b, b < i → insRightV p f (cdI c b).f0 (cdI c b).f1 = true) → Ev (fun k => impl_verify.l1 k acc (f : Int) p L I c (c.length : Int) (i : Int) p) R := by
  intro d
  induction d with
  | zero =>
   intro i hi hb
   refine Ev.succ ?_
   simp only [impl_verify.l1]
   exact Ev.no om (good (fun a ha => hb a om))
  | succ d ih =>
   intro i hi hb
   refine Ev.succ ?_
   simp only [impl_verify.l1]
   refine Ev.yes om (Ev.yes om (Ev.yes om (Ev.bind (implInsRight_ev p f _ _) ?_)))
   show Ev (fun k => if insRightV p f (cdI c i).f0 (cdI c i).f1 = true then _ else _) R
   refine Ev.cases (fun ht => ?_) (fun ht => ?_)
   ·rw [idx_next (show i < c.length by omega) hc]
    refine ih (i + 1) om (fun b hb' => ?_)
    rcases Nat.lt_succ_iff_lt_or_eq.1 hb' with q | q
    ·exact hb b q
    ·rw [q]; exact ht
   ·rcases bad i om (by simpa using ht) with q | ⟨b, q1, q2⟩
    ·rw [q]; exact Ev.now _
    ·rw [hb b q1] at q2; cases q2
 exact key c.length 0 om (fun b hb => by omega)
theorem impl_form {p : List S55} {f : Nat} (hf : f < p.length) (acc : List (List Int)) {R : Int × Int × Int × List (List Int)}
  (bad : ¬ (0 ≤ (fnI p f).f0 ∧ (fnI p f).f0 ≤ 4 ∧ (fnI p f).f0 ≤ (fnI p f).f1 ∧ (fnI p f).f1 ≤ 8 ∧ 1 ≤ (fnI p f).f2.length ∧ (fnI p f).f2.length ≤ 60) → R = ((f : Int), 0, 1, []))
  (good : (0 ≤ (fnI p f).f0 ∧ (fnI p f).f0 ≤ 4 ∧ (fnI p f).f0 ≤ (fnI p f).f1 ∧ (fnI p f).f1 ≤ 8 ∧ 1 ≤ (fnI p f).f2.length ∧ (fnI p f).f2.length ≤ 60) → Ev (fun k => impl_verify.l1 k acc (f : Int) p (p.length : Int) (f : Int) (fnI p f).f2 ((fnI p f).f2.length : Int) 0 p) R) :
  Ev (fun k => impl_verify.l0 k acc p (p.length : Int) (f : Int) p) R := by
 refine Ev.succ ?_
 simp only [impl_verify.l0]
 have e : rd_T55 p (f : Int) = fnI p f := rfl
 simp only [e]
 have key : ∀ b : Bool, (b = true ↔ ¬ (0 ≤ (fnI p f).f0 ∧ (fnI p f).f0 ≤ 4 ∧ (fnI p f).f0 ≤ (fnI p f).f1 ∧ (fnI p f).f1 ≤ 8 ∧ 1 ≤ (fnI p f).f2.length ∧ (fnI p f).f2.length ≤ 60)) → Ev (fun k => impl_verify.j2 k acc (f : Int) p (p.length : Int) (f : Int) b p (fnI p f).f0 (fnI p f).f1 (fnI p f).f2) R := by
  intro b hb
  refine Ev.succ ?_
  simp only [impl_verify.j2]
  refine Ev.cases (fun q => ?_) (fun q => ?_)
  ·rw [bad (hb.1 q)]; exact Ev.now _
  ·exact good (Classical.not_not.1 fun hn => q (hb.2 hn))
 refine Ev.yes om (Ev.yes om (Ev.yes om (Ev.flat (in_some _ _ _) ?_)))
 refine Ev.cases (fun q0 => ?_) (fun q0 => ?_)
 ·simp only [Bool.and_eq_true, decide_eq_true_eq] at q0
  refine Ev.flat (in_some _ _ _) (Ev.cases (fun q1 => ?_) (fun q1 => ?_))
  ·simp only [Bool.and_eq_true, decide_eq_true_eq] at q1
   refine Ev.flat (in_some _ _ _) (key _ ?_)
   simp only [Bool.not_eq_true', Bool.and_eq_false_iff, decide_eq_false_iff_not]
   omega
  ·simp only [Bool.and_eq_true, decide_eq_true_eq] at q1
   exact key true (by simp only [true_iff]; omega)
 ·simp only [Bool.and_eq_true, decide_eq_true_eq] at q0
  exact key true (by simp only [true_iff]; omega)
theorem impl_step_good {p : List S55} {f : Nat} (hf : f < p.length) (hl : p.length ≤ 1048576) {h : List Int} (hr : rightI p f h) (acc : List (List Int)) (ha : acc.length ≤ 1048576) {R : Int × Int × Int × List (List Int)}
  (hR : Ev (fun k => impl_verify.l0 k (acc ++ [h]) p (p.length : Int) ((f + 1 : Nat) : Int) p) R) : Ev (fun k => impl_verify.l0 k acc p (p.length : Int) (f : Int) p) R := by
 obtain ⟨⟨s0, s1, s2, s3, s4, s5, s6⟩, hrun⟩ := hr
 refine impl_form hf acc (fun hb => absurd ⟨s0, s1, s2, s3, s4, s5⟩ hb) (fun _ => ?_)
 refine implFunc_ins _ om acc _ _ (fun a q1 q2 => by rw [s6 a q1] at q2; cases q2) (fun _ => ?_)
 refine Ev.bind (implHeights_ev hf s4 om (insAll_okJ s6) hrun) (Ev.yes rfl (Ev.yes om ?_))
 rw [idx_next hf hl]
 exact hR
theorem impl_step_bad {p : List S55} {f : Nat} (hf : f < p.length) (hn : ¬ ∃ h, rightI p f h) : ∃ r : Int × Int × Int × List (List Int), r.2.2.1 ≠ 0 ∧ ∀ acc, Ev (fun k => impl_verify.l0 k acc p (p.length : Int) (f : Int) p) r := by
 by_cases hs : 0 ≤ (fnI p f).f0 ∧ (fnI p f).f0 ≤ 4 ∧ (fnI p f).f0 ≤ (fnI p f).f1 ∧ (fnI p f).f1 ≤ 8 ∧ 1 ≤ (fnI p f).f2.length ∧ (fnI p f).f2.length ≤ 60
 case neg => exact ⟨((f : Int), 0, 1, []), by simp, fun acc => impl_form hf acc (fun _ => rfl) (fun h => absurd h hs)⟩
 obtain ⟨s0, s1, s2, s3, s4, s5⟩ := hs
 by_cases hi : insAll p f (fnI p f).f2
 case neg =>
  have : ∃ a, a < (fnI p f).f2.length ∧ insRightV p f (cdI (fnI p f).f2 a).f0 (cdI (fnI p f).f2 a).f1 = false := by
   refine Classical.byContradiction fun hn => hi (fun a ha => ?_)
   cases e : insRightV p f (cdI (fnI p f).f2 a).f0 (cdI (fnI p f).f2 a).f1
   ·exact absurd ⟨a, ha, e⟩ hn
   ·rfl
  obtain ⟨a, ha, hb⟩ := this
  have least : ∀ n a, a ≤ n → a < (fnI p f).f2.length → insRightV p f (cdI (fnI p f).f2 a).f0 (cdI (fnI p f).f2 a).f1 = false → ∃ a, a < (fnI p f).f2.length ∧ insRightV p f (cdI (fnI p f).f2 a).f0 (cdI (fnI p f).f2 a).f1 = false ∧ ∀ b, b < a → insRightV p f (cdI (fnI p f).f2 b).f0 (cdI (fnI p f).f2 b).f1 = true := by
   intro n
   induction n with
   | zero => intro a h0 h1 h2; exact ⟨a, h1, h2, fun b hb => by omega⟩
   | succ n ih =>
    intro a h0 h1 h2
    by_cases hx : ∃ b, b < a ∧ insRightV p f (cdI (fnI p f).f2 b).f0 (cdI (fnI p f).f2 b).f1 = false
    ·obtain ⟨b, hb, hb2⟩ := hx
     exact ih b om om hb2
    ·refine ⟨a, h1, h2, fun b hb => ?_⟩
     cases e : insRightV p f (cdI (fnI p f).f2 b).f0 (cdI (fnI p f).f2 b).f1
     ·exact absurd ⟨b, hb, e⟩ hx
     ·rfl
  obtain ⟨a, h1, h2, h3⟩ := least a a (Nat.le_refl _) ha hb
  refine ⟨((f : Int), (a : Int), 1, []), by simp, fun acc => impl_form hf acc (fun hb => absurd ⟨s0, s1, s2, s3, s4, s5⟩ hb) (fun _ => implFunc_ins _ om acc _ _ (fun b q1 q2 => ?_) (fun hg => absurd hg hi))⟩
  rcases Nat.lt_trichotomy a b with q | q | q
  ·exact Or.inr ⟨a, q, h2⟩
  ·exact Or.inl (by rw [q])
  ·rw [h3 b q] at q2; cases q2
 obtain ⟨r, hr⟩ := start_ends (goodI p _ (insAll_okJ hi)) s4
 have hlen := run_len hr (by simp [h0V, machI]) (by simp [w0V, machI])
 by_cases h0 : r.2.2 = 0
 ·exfalso
  have e : r = (r.1, 0, 0) := by
   obtain ⟨a, b, c⟩ := r
   simp only at h0 hlen ⊢
   rw [h0, hlen.2.2 h0]
  exact hn ⟨r.1, ⟨s0, s1, s2, s3, s4, s5, hi⟩, e ▸ hr⟩
 ·refine ⟨((f : Int), r.2.1, r.2.2, []), h0, fun acc => impl_form hf acc (fun hb => absurd ⟨s0, s1, s2, s3, s4, s5⟩ hb) (fun _ => implFunc_ins _ om acc _ _ (fun a q1 q2 => by rw [hi a q1] at q2; cases q2) (fun _ => ?_))⟩
  exact Ev.bind (implHeights_ev hf s4 om (insAll_okJ hi) hr) (Ev.no h0 (Ev.now _))
theorem rdH_nat (hs : List (List Int)) (f : Nat) : rdH hs f = hs.getD f [] := by simp [rdH, rd_L9]
theorem implVerify_ev (p : List S55) : (1 ≤ p.length ∧ p.length ≤ 6 ∧ (∃ hs : List (List Int), hs.length = p.length ∧ (∀ f, f < p.length → rightI p f (rdH hs f)) ∧ Ev (fun k => impl_verify.f k p) (0, 0, 0, hs))) ∨ (¬ (1 ≤ p.length ∧ p.length ≤ 6 ∧ ∀ f, f < p.length → ∃ h, rightI p f h)) ∧ ∃ r : Int × Int × Int × List (List Int), r.2.2.1 ≠ 0 ∧ Ev (fun k => impl_verify.f k p) r := by
 by_cases hl : 1 ≤ p.length ∧ p.length ≤ 6
 case neg =>
  refine Or.inr ⟨fun h => hl ⟨h.1, h.2.1⟩, (0, 0, 1, []), by simp, ?_⟩
  unfold impl_verify.f
  have bad : Ev (fun k => impl_verify.j0 k true p) (0, 0, 1, []) := by
   refine Ev.succ ?_
   simp only [impl_verify.j0]
   exact Ev.yes (by simp) (Ev.now _)
  refine Ev.cases (fun _ => bad) (fun q => ?_)
  rw [show decide ((p.length : Int) > 6) = true from by simp; omega]
  exact bad
 have go : ∀ R : Int × Int × Int × List (List Int), Ev (fun k => impl_verify.l0 k [] p (p.length : Int) 0 p) R → Ev (fun k => impl_verify.f k p) R := by
  intro R hR
  unfold impl_verify.f
  refine Ev.no om (Ev.succ ?_)
  simp only [impl_verify.j0]
  exact Ev.no (by simp; omega) hR
 by_cases ha : ∀ f, f < p.length → ∃ h, rightI p f h
 ·refine Or.inl ⟨hl.1, hl.2, ?_⟩
  have key : ∀ (d i : Nat) (acc : List (List Int)), i + d = p.length → acc.length = i → (∀ f, f < i → rightI p f (rdH acc f)) → ∃ hs : List (List Int), hs.length = p.length ∧ (∀ f, f < p.length → rightI p f (rdH hs f)) ∧ Ev (fun k => impl_verify.l0 k acc p (p.length : Int) (i : Int) p) (0, 0, 0, hs) := by
   intro d
   induction d with
   | zero =>
    intro i acc hi hl hr
    refine ⟨acc, by omega, fun f hf => hr f om, Ev.succ ?_⟩
    simp only [impl_verify.l0]
    exact Ev.no om (Ev.now _)
   | succ d ih =>
    intro i acc hi hal hr
    obtain ⟨h, hh⟩ := ha i om
    obtain ⟨hs, h1, h2, h3⟩ := ih (i + 1) (acc ++ [h]) om (by simp; omega) (fun f hf => by
     rw [rdH_nat, List.getD_eq_getElem?_getD]
     rcases Nat.lt_succ_iff_lt_or_eq.1 hf with q | q
     ·have := hr f q
      rw [rdH_nat, List.getD_eq_getElem?_getD] at this
      rw [List.getElem?_append_left om]; exact this
     ·rw [q, List.getElem?_append_right om, hal]; simpa using hh)
    exact ⟨hs, h1, h2, impl_step_good om om hh acc om h3⟩
  obtain ⟨hs, h1, h2, h3⟩ := key p.length 0 [] om rfl (fun f hf => by omega)
  exact ⟨hs, h1, h2, go _ h3⟩
 ·refine Or.inr ⟨fun h => ha h.2.2, ?_⟩
  have hb : ∃ f, f < p.length ∧ ¬ ∃ h, rightI p f h := by
   refine Classical.byContradiction fun hn => ha (fun f hf => ?_)
   exact Classical.byContradiction fun hq => hn ⟨f, hf, hq⟩
  obtain ⟨f, hf, hbad⟩ := hb
  have key : ∀ (d i : Nat) (acc : List (List Int)), i + d = f → acc.length = i → ∃ r : Int × Int × Int × List (List Int), r.2.2.1 ≠ 0 ∧ Ev (fun k => impl_verify.l0 k acc p (p.length : Int) (i : Int) p) r := by
   intro d
   induction d with
   | zero =>
    intro i acc hi hal
    have e : i = f := by omega
    subst e
    obtain ⟨r, h1, h2⟩ := impl_step_bad hf hbad
    exact ⟨r, h1, h2 acc⟩
   | succ d ih =>
    intro i acc hi hal
    by_cases hq : ∃ h, rightI p i h
    ·obtain ⟨h, hh⟩ := hq
     obtain ⟨r, h1, h2⟩ := ih (i + 1) (acc ++ [h]) om (by simp; omega)
     exact ⟨r, h1, impl_step_good om om hh acc om h2⟩
    ·obtain ⟨r, h1, h2⟩ := impl_step_bad (show i < p.length by omega) hq
     exact ⟨r, h1, h2 acc⟩
  obtain ⟨r, h1, h2⟩ := key f 0 [] om rfl
  exact ⟨r, h1, go _ h2⟩
theorem verify_both (p : List S55) : (1 ≤ p.length ∧ p.length ≤ 6 ∧ ∃ hs : List (List Int), hs.length = p.length ∧ (∀ f, f < p.length → rightS p f (rdH hs f)) ∧ Ev (fun k => spec_Verify.f k p) (0, 0, 0) ∧ Ev (fun k => impl_verify.f k p) (0, 0, 0, hs)) ∨
  (∃ r : Int × Int × Int, ∃ r' : Int × Int × Int × List (List Int), r.2.2 ≠ 0 ∧ r'.2.2.1 ≠ 0 ∧ Ev (fun k => spec_Verify.f k p) r ∧ Ev (fun k => impl_verify.f k p) r') := by
 have small : ∀ q : Nat → List Int → Prop, (q = rightS p ∨ q = rightI p) → (∀ f, f < p.length → ∃ h, q f h) → ∀ f, f < p.length → 0 ≤ (fnI p f).f0 ∧ (fnI p f).f0 ≤ 4 := by
  intro q hq ha f hf
  obtain ⟨h, hh⟩ := ha f hf
  rcases hq with e | e <;> subst e <;> exact ⟨hh.1.1, hh.1.2.1⟩
 rcases specVerify_ev p with ⟨h1, h2, h3, h4⟩ | ⟨hn, r, hr, he⟩
 ·rcases implVerify_ev p with ⟨_, _, hs, g1, g2, g3⟩ | ⟨gn, _⟩
  ·exact Or.inl ⟨h1, h2, hs, g1, fun f hf => (right_SI (small _ (Or.inl rfl) h3) f _).2 (g2 f hf), h4, g3⟩
  ·exact absurd ⟨h1, h2, fun f hf => by obtain ⟨h, hh⟩ := h3 f hf; exact ⟨h, (right_SI (small _ (Or.inl rfl) h3) f _).1 hh⟩⟩ gn
 ·rcases implVerify_ev p with ⟨h1, h2, hs, g1, g2, g3⟩ | ⟨_, r', hr', he'⟩
  ·have h3 : ∀ f, f < p.length → ∃ h, rightI p f h := fun f hf => ⟨_, g2 f hf⟩
   exact absurd ⟨h1, h2, fun f hf => ⟨_, (right_SI (small _ (Or.inr rfl) h3) f _).2 (g2 f hf)⟩⟩ hn
  ·exact Or.inr ⟨r, r', hr, hr', he, he'⟩
structure RightP (p : List S55) (hs : List (List Int)) : Prop where
 pos : 1 ≤ p.length
 six : p.length ≤ 6
 len : hs.length = p.length
 fn : ∀ f, f < p.length → rightS p f (rdH hs f)
theorem RightP.hlen {p : List S55} {hs : List (List Int)} (R : RightP p hs) {f : Nat} (hf : f < p.length) : (rdH hs f).length = (fnI p f).f2.length := (run_len (R.fn f hf).2 (by simp [h0V, machS]) (by simp [w0V, machS])).1
theorem RightP.form {p : List S55} {hs : List (List Int)} (R : RightP p hs) {f : Nat} (hf : f < p.length) : formF p f (fnI p f) := (R.fn f hf).1
theorem RightP.heights {p : List S55} {hs : List (List Int)} (R : RightP p hs) {f : Nat} (hf : f < p.length) : Ev (fun k => spec_l04Heights.f k p (f : Int)) (rdH hs f, 0, 0, 0) := by
 have s := R.form hf
 exact specHeights_ev hf s.2.2.2.2.1 (by have := s.2.2.2.2.2.1; omega) (form_okJ s) (R.fn f hf).2
theorem known_both (p : List S55) : (∃ hs, RightP p hs ∧ Ev (fun k => spec_l04Right.f k p) true ∧ Ev (fun k => impl_known.f k p) (p, hs, true)) ∨ (∃ hs, Ev (fun k => spec_l04Right.f k p) false ∧ Ev (fun k => impl_known.f k p) (p, hs, false)) := by
 rcases verify_both p with ⟨h1, h2, hs, h3, h4, h5, h6⟩ | ⟨r, r', h1, h2, h3, h4⟩
 ·refine Or.inl ⟨hs, ⟨h1, h2, h3, h4⟩, ?_, ?_⟩
  ·unfold spec_l04Right.f; exact Ev.bind h5 (Ev.now _)
  ·unfold impl_known.f; exact Ev.bind h6 (Ev.now _)
 ·refine Or.inr ⟨r'.2.2.2, ?_, ?_⟩
  ·unfold spec_l04Right.f
   refine Ev.bind h3 ?_
   rw [beq_no h1]; exact Ev.now _
  ·unfold impl_known.f
   refine Ev.bind h4 ?_
   rw [beq_no h2]; exact Ev.now _
theorem is_both (p : List S55) (f : Int) : (∃ hs, RightP p hs ∧ Ev (fun k => spec_l04Is.f k p f) (hasB p f) ∧ Ev (fun k => impl_known.f k p) (p, hs, true)) ∨ (∃ hs, Ev (fun k => spec_l04Is.f k p f) false ∧ Ev (fun k => impl_known.f k p) (p, hs, false)) := by
 rcases known_both p with ⟨hs, h1, h2, h3⟩ | ⟨hs, h1, h2⟩
 ·refine Or.inl ⟨hs, h1, ?_, h3⟩
  unfold spec_l04Is.f
  refine Ev.bind h2 (Ev.yes rfl ?_)
  simp only [and_some]
  exact Ev.now _
 ·refine Or.inr ⟨hs, ?_, h2⟩
  unfold spec_l04Is.f
  exact Ev.bind h1 (Ev.no (by simp) (Ev.now _))
theorem markIns_in : ∀ (l : List S85) (k : Int), 0 ≤ k → k + 2 * l.length ≤ 4611686018427387904 → laws_markInsS.mk k l = k + 2 * (l.length : Int)
 | [], k, _, _ => by show k = _; simp
 | x :: l, k, h0, h1 => by
  have e : laws_markInsS.mk k (x :: l) = laws_markInsS.mk (wrap64 (wrap64 (k + 1) + 1)) l := rfl
  simp only [List.length_cons] at h1
  rw [e, wrap_in (n := k + 1) om om, wrap_in om om, markIns_in l _ om om]
  simp only [List.length_cons]
  omega
theorem markFunc_in : ∀ (l : List S55) (k : Int), (∀ x ∈ l, x.f2.length ≤ 1048576) → 0 ≤ k → k + 4194304 * l.length ≤ 4611686018427387904 → k ≤ laws_markFuncS.mk k l
 | [], k, _, _, _ => Int.le_refl _
 | x :: l, k, h, h0, h1 => by
  have e : laws_markFuncS.mk k (x :: l) = laws_markFuncS.mk (laws_markInsS.mk (wrap64 (wrap64 (k + 1) + 1)) x.f2) l := rfl
  have hx := h x (by simp)
  simp only [List.length_cons] at h1
  rw [e, wrap_in (n := k + 1) om om, wrap_in om om, markIns_in _ _ om om]
  have := markFunc_in l (k + 1 + 1 + 2 * (x.f2.length : Int)) (fun y hy => h y (by simp [hy])) om om
  omega
/- FnExactBegin, the plain part: what the law asks at its arguments. No condition. -/
def upF (s : Int) (n : Nat) : List Int := (List.range n).map (fun i : Nat => s + (i : Int))
theorem upF_len (s : Int) (n : Nat) : (upF s n).length = n := by simp [upF]
theorem upF_at {s : Int} {n i : Nat} (h : i < n) : rd (upF s n) (i : Int) = s + (i : Int) := by
 show (upF s n).getD _ 0 = _
 rw [List.getD_eq_getElem?_getD, Int.toNat_natCast, List.getElem?_eq_getElem (by rw [upF_len]; exact h)]
 simp [upF]
theorem upF_take {s : Int} {n i : Nat} (h : i < n) : (upF s n).take (i + 1) = (upF s n).take i ++ [s + (i : Int)] := by
 rw [List.take_succ_eq_append_getElem (by rw [upF_len]; exact h)]
 simp [upF]
theorem markFrom_ev (x : List Int) (s : Int) (hs : 0 ≤ s ∧ s ≤ 4611686018427387904) (hx : x.length ≤ 1048576) : Ev (fun k => laws_markInt64S.f k x s) (s + (x.length : Int), upF s x.length) := by
 have key : ∀ (d i : Nat), i + d = x.length → ∀ z : List Int, z.length = x.length → z.take i = (upF s x.length).take i → Ev (fun k => laws_markInt64S.l0 k z (s + (i : Int)) (i : Int)) (s + (x.length : Int), upF s x.length) := by
  intro d
  induction d with
  | zero =>
   intro i hi z hz ht
   refine Ev.succ ?_
   simp only [laws_markInt64S.l0]
   rw [List.take_of_length_le om, List.take_of_length_le (by rw [upF_len]; omega)] at ht
   subst ht
   refine Ev.no om ?_
   rw [show (i : Int) = (x.length : Int) by omega]
   exact Ev.now _
  | succ d ih =>
   intro i hi z hz ht
   refine Ev.succ ?_
   simp only [laws_markInt64S.l0]
   refine Ev.yes om (Ev.yes om ?_)
   rw [wrap_in (n := s + (i : Int) + 1) om om, wrap_in (n := (i : Int) + 1) om om, show s + (i : Int) + 1 = s + ((i + 1 : Nat) : Int) by omega]
   refine ih (i + 1) om _ (by simpa using hz) ?_
   rw [upF_take om, Int.toNat_natCast, List.take_succ_eq_append_getElem (by simp; omega), List.take_set_of_le (Nat.le_refl _), ht]
   simp
 unfold laws_markInt64S.f
 have := key x.length 0 om x rfl (by simp)
 simpa using this
theorem heldFrom_ev (n : Nat) (s : Int) (hs : 0 ≤ s ∧ s ≤ 4611686018427387904) (hn : n ≤ 1048576) : Ev (fun k => laws_heldInt64S.f k (upF s n) s) (s + (n : Int)) := by
 have key : ∀ (d i : Nat), i + d = n → Ev (fun k => laws_heldInt64S.l0 k (upF s n) (s + (i : Int)) (i : Int)) (s + (n : Int)) := by
  intro d
  induction d with
  | zero =>
   intro i hi
   refine Ev.succ ?_
   simp only [laws_heldInt64S.l0]
   refine Ev.no (by rw [upF_len]; omega) ?_
   rw [show (i : Int) = (n : Int) by omega]
   exact Ev.now _
  | succ d ih =>
   intro i hi
   refine Ev.succ ?_
   simp only [laws_heldInt64S.l0]
   refine Ev.yes (by rw [upF_len]; omega) (Ev.yes om (Ev.yes (upF_at om) ?_))
   rw [wrap_in (n := s + (i : Int) + 1) om om, wrap_in (n := (i : Int) + 1) om om, show s + (i : Int) + 1 = s + ((i + 1 : Nat) : Int) by omega]
   exact ih (i + 1) om
 unfold laws_heldInt64S.f
 have := key n 0 om
 simpa using this
theorem markFunc_up : ∀ (l : List S55) (k : Int), (∀ x ∈ l, x.f2.length ≤ 1048576) → 0 ≤ k → k + 4194304 * l.length ≤ 4611686018427387904 → laws_markFuncS.mk k l ≤ k + 4194304 * l.length
 | [], k, _, _, _ => by show k ≤ _; simp
 | x :: l, k, h, h0, h1 => by
  have e : laws_markFuncS.mk k (x :: l) = laws_markFuncS.mk (laws_markInsS.mk (wrap64 (wrap64 (k + 1) + 1)) x.f2) l := rfl
  have hx := h x (by simp)
  simp only [List.length_cons] at h1
  rw [e, wrap_in (n := k + 1) om om, wrap_in om om, markIns_in _ _ om om]
  have := markFunc_up l (k + 1 + 1 + 2 * (x.f2.length : Int)) (fun y hy => h y (by simp [hy])) om om
  simp only [List.length_cons]
  omega
theorem held_begun (b : Bool) (n : Nat) (hn : n ≤ 1048576) (fu : Int) : Ev (fun k => laws_heldState.f k (begL b ⟨1, 2, upF 3 n, []⟩) [] [] fu false 0 0 1) (if b = true then 3 + (n : Int) else 1) := by
 have e0 : ∀ s : Int, Ev (fun k => laws_heldInt64S.f k [] s) s := by
  intro s
  unfold laws_heldInt64S.f
  refine Ev.succ ?_
  simp only [laws_heldInt64S.l0]
  exact Ev.no (by simp) (Ev.now _)
 have e1 : ∀ s : Int, Ev (fun k => laws_heldInt64SS.f k [] s) s := by
  intro s
  unfold laws_heldInt64SS.f
  refine Ev.succ ?_
  simp only [laws_heldInt64SS.l0]
  exact Ev.no (by simp) (Ev.now _)
 have fin : ∀ s : Int, 0 ≤ s → Ev (fun k => (laws_heldInt64SS.f k [] s).bind fun t431 => (if t431 < 0 then (some (-1)) else ((laws_heldInt64S.f k [] t431).bind fun t432 => (if t432 < 0 then (some (-1)) else (some t432))))) s := fun s hs => Ev.bind (e1 s) (Ev.no om (Ev.bind (e0 s) (Ev.no om (Ev.now _))))
 unfold laws_heldState.f
 cases b with
 | false =>
  have hf : Ev (fun k => laws_heldFrameS.f k [] 1) 1 := by
   unfold laws_heldFrameS.f
   refine Ev.succ ?_
   simp only [laws_heldFrameS.l0]
   exact Ev.no (by simp) (Ev.now _)
  exact Ev.bind hf (Ev.no om (fin 1 om))
 | true =>
  have hf : Ev (fun k => laws_heldFrameS.f k [⟨1, 2, upF 3 n, []⟩] 1) (3 + (n : Int)) := by
   unfold laws_heldFrameS.f
   refine Ev.succ ?_
   simp only [laws_heldFrameS.l0]
   refine Ev.yes (by simp) (Ev.yes om (Ev.yes rfl (Ev.yes (by show (2 : Int) = wrap64 (1 + 1); rw [wrap_in om om]; rfl) ?_)))
   rw [show wrap64 (wrap64 (1 + 1) + 1) = 3 by rw [wrap_in (n := 1 + 1) om om, wrap_in om om]; rfl]
   have h3 : Ev (fun k => laws_heldInt64S.f k (rd_T47 [(⟨1, 2, upF 3 n, []⟩ : S47)] 0).f2 3) (3 + (n : Int)) := heldFrom_ev n 3 om hn
   refine Ev.bind h3 (Ev.no om ?_)
   have h4 : Ev (fun k => laws_heldInt64S.f k (rd_T47 [(⟨1, 2, upF 3 n, []⟩ : S47)] 0).f3 (3 + (n : Int))) (3 + (n : Int)) := e0 _
   refine Ev.bind h4 (Ev.no om (Ev.succ ?_))
   simp only [laws_heldFrameS.l0]
   exact Ev.no (by rw [wrap_in om om]; simp) (Ev.now _)
  exact Ev.bind hf (Ev.no om (fin _ om))
theorem begin_known (p : List S55) (f : Int) : ∃ (hs : List (List Int)) (ok : Bool), (ok = true → RightP p hs ∧ 0 ≤ f ∧ f < (p.length : Int)) ∧ Ev (fun k => impl_knownFunc.f k p f) (p, hs, ok) ∧ Ev (fun k => spec_l04Is.f k p f) ok := by
 unfold impl_knownFunc.f
 rcases is_both p f with ⟨hs, R, e1, e2⟩ | ⟨hs, e1, e2⟩
 ·exact ⟨hs, hasB p f, fun h => ⟨R, hasB_iff.1 h⟩, Ev.bind e2 (Ev.yes rfl (Ev.flat (hasFunc_some p f) (Ev.now _))), e1⟩
 ·exact ⟨hs, false, nofun, Ev.bind e2 (Ev.no (by simp) (Ev.now _)), e1⟩
theorem FnExactBegin (x : S24) (wx : wf24 x) (f : Int) (_ : (Lit.int .i64 f).wf = true) (l2 : List Int) (_ : l2.length ≤ 9223372036854775807 ∧ ∀ z ∈ l2, (Lit.int .i64 z).wf = true) (a3 : Int) (_ : (Lit.int .i64 a3).wf = true) (hl : l2.length ≤ 1048576) : LawB x.f0 f l2 a3 := by
 have hm := mProgram_nonneg x
 have eS := szProgram_ev x wx 1048576 om om
 by_cases h : mProgram x ≤ 1048576
 case neg =>
  rw [left_no h] at eS
  obtain ⟨K, hK⟩ := eS
  exact ⟨K, _, hK K (Nat.le_refl _), fun h0 => absurd (show (-1 : Int) < 0 by omega) h0⟩
 have tp := toProgram_ev x h
 have tl : Ev (fun k => laws_toInt64S.f k l2) l2 := toInt64S_ev l2 om
 have okp := okProgram_c x h
 have eqp := eqProgram_refl (cProgram x) okp
 have eql := eqInt64S_refl l2 (okInt64S_c l2 om)
 have mp := markFunc_in (cFuncS x.f0) 1 (fun y hy => okp.2 y hy) om (by have : (cFuncS x.f0).length ≤ 1048576 := okp.1; omega)
 have mu := markFunc_up (cFuncS x.f0) 1 (fun y hy => okp.2 y hy) om (by have : (cFuncS x.f0).length ≤ 1048576 := okp.1; omega)
 have hpl : (cFuncS x.f0).length ≤ 1048576 := okp.1
 revert tp eqp mp mu hpl
 show Ev (fun k => laws_toProgram.f k x.f0) (cFuncS x.f0) → Ev (fun k => laws_eqProgram.f k (cFuncS x.f0) (cFuncS x.f0)) true → _
 generalize cFuncS x.f0 = P
 intro tp eqp mp mu hpl
 obtain ⟨hs, ok, hok, eK, eI⟩ := begin_known P f
 obtain ⟨b, hb⟩ : ∃ b : Bool, b = (decide ((l2.length : Int) ≤ 400) && (ok && (decide ((l2.length : Int) = (rd_T55 P f).f0) && (decide (0 ≤ a3) && decide (a3 ≤ 3000))))) := ⟨_, rfl⟩
 obtain ⟨lc, hlc⟩ : ∃ lc : List Int, lc = Go.Proofs.YtoegdbeajgddiaaW.PrintShort.cpy (List.replicate ((rd_T55 P f).f1 : Int).toNat 0) l2 := ⟨_, rfl⟩
 have hloc : ok = true → 0 ≤ (rd_T55 P f).f1 ∧ (rd_T55 P f).f1 ≤ 8 := by
  intro h1
  obtain ⟨R, f0, f1⟩ := hok h1
  obtain ⟨g, rfl⟩ : ∃ g : Nat, f = (g : Int) := ⟨f.toNat, by omega⟩
  have s := R.form (show g < P.length by omega)
  have a1 := s.1
  have a2 := s.2.2.1
  have a3 := s.2.2.2.1
  show 0 ≤ (fnI P g).f1 ∧ (fnI P g).f1 ≤ 8
  omega
 have hbo : b = true → ok = true := fun h1 => by
  rw [hb] at h1
  simp only [Bool.and_eq_true] at h1
  exact h1.2.1
 have first : b = true → impl_prog_first.f P hs f l2 = some (f, 0, lc, []) := by
  intro h1
  obtain ⟨_, f0, f1⟩ := hok (hbo h1)
  have l := hloc (hbo h1)
  unfold impl_prog_first.f
  rw [if_pos f0, if_pos f1, if_pos l.1, if_pos om, hlc]
 have frame : b = true → spec_l06Frame.f P f l2 = some (f, 0, lc, []) := by
  intro h1
  obtain ⟨_, f0, f1⟩ := hok (hbo h1)
  have l := hloc (hbo h1)
  unfold spec_l06Frame.f
  rw [if_pos f0, if_pos f1, if_pos l.1, if_pos om, hlc]
 have lcl : b = true → lc.length ≤ 1048576 := by
  intro h1
  have l := hloc (hbo h1)
  rw [hlc, Go.Proofs.YtoegdbeajgddiaaW.PrintShort.cpy_len, List.length_replicate]
  omega
 have spec : Ev (fun k => spec_Begin.f k P f l2 a3) (begL b ⟨f, 0, lc, []⟩, [], [], (if b = true then a3 else 0), false, 0, 0) := by
  unfold spec_Begin.f
  by_cases h4 : (l2.length : Int) ≤ 400
  case neg =>
   have hb0 : b = false := by rw [hb, decide_eq_false h4]; rfl
   subst hb0
   exact Ev.yes om (Ev.now _)
  refine Ev.no om ?_
  have eO : Ev (fun k => spec_l06Ok.f k P f l2 a3) b := by
   rw [hb, decide_eq_true h4, Bool.true_and]
   unfold spec_l06Ok.f
   refine Ev.bind eI ?_
   cases hk : ok with
   | false => exact Ev.no (by simp) (Ev.now _)
   | true =>
    obtain ⟨_, f0, f1⟩ := hok hk
    refine Ev.yes rfl (Ev.yes f0 (Ev.yes f1 ?_))
    by_cases h5 : (l2.length : Int) = (rd_T55 P f).f0
    ·rw [decide_eq_true h5]
     refine Ev.yes h5 ?_
     by_cases h6 : 0 ≤ a3
     ·rw [decide_eq_true h6]; exact Ev.yes h6 (Ev.now _)
     ·rw [decide_eq_false h6]; exact Ev.no om (Ev.now _)
    ·rw [decide_eq_false h5]; exact Ev.no h5 (Ev.now _)
  refine Ev.bind eO ?_
  cases hq : b with
  | false => exact Ev.no (by simp) (Ev.now _)
  | true => exact Ev.yes rfl (Ev.flat (frame hq) (Ev.now _))
 have oks : okState (⟨begL b ⟨f, 0, lc, []⟩, [], [], (if b = true then a3 else 0), false, 0, 0⟩ : S30) := by
  refine ⟨?_, ⟨by simp, by simp⟩, by simp [okInt64S]⟩
  cases hq : b with
  | false => exact ⟨by simp [begL], by simp [begL]⟩
  | true =>
   refine ⟨by simp [begL], fun y hy => ?_⟩
   have : y = ⟨f, 0, lc, []⟩ := by simpa [begL] using hy
   subst this
   exact ⟨lcl hq, by simp [okInt64S]⟩
 have eqs := eqState_refl _ oks
 have mk1 := markFrom_ev l2 (laws_markFuncS.mk 1 P) ⟨by omega, by omega⟩ hl
 have mk0 : ∀ s : Int, Ev (fun k => laws_markInt64S.f k [] s) (s, []) := by
  intro s
  unfold laws_markInt64S.f
  refine Ev.succ ?_
  simp only [laws_markInt64S.l0]
  exact Ev.no (by simp) (Ev.now _)
 obtain ⟨lc', hlc', hle⟩ : ∃ lc' : List Int, lc'.length ≤ 1048576 ∧ (b = true → lc' = lc) := by
  by_cases hq : b = true
  ·exact ⟨lc, lcl hq, fun _ => rfl⟩
  ·exact ⟨[], by simp, fun h1 => absurd h1 hq⟩
 have hBL : begL b (⟨f, 0, lc, []⟩ : S47) = begL b ⟨f, 0, lc', []⟩ := by
  cases hq : b with
  | false => rfl
  | true => rw [hle hq]
 rw [hBL] at spec eqs
 have mkl := markFrom_ev lc' 3 om hlc'
 have hld := held_begun b lc'.length hlc' (if b = true then a3 else 0)
 obtain ⟨K1, q1⟩ := eS
 obtain ⟨K2, q2⟩ := tp
 obtain ⟨K3, q3⟩ := tl
 obtain ⟨K4, q4⟩ := spec
 obtain ⟨K5, q5⟩ := eK
 obtain ⟨K6, q6⟩ := eqs
 obtain ⟨K7, q7⟩ := eqp
 obtain ⟨K8, q8⟩ := eql
 obtain ⟨K9, q9⟩ := mk1
 obtain ⟨K10, q10⟩ := mkl
 obtain ⟨K11, q11⟩ := mk0 (3 + (lc'.length : Int))
 obtain ⟨K12, q12⟩ := hld
 refine ⟨K1 + K2 + K3 + K4 + K5 + K6 + K7 + K8 + K9 + K10 + K11 + K12, _, q1 _ om, fun _ => ⟨P, P, hs, ok, b, lc', upF 3 lc'.length, _, 3 + (lc'.length : Int), laws_markFuncS.mk 1 P, _, ⟨q2 _ om, q3 _ om⟩, ⟨q4 _ om, q5 _ om, fun h1 => (hok h1).2, hb, fun h1 => by rw [first h1, hle h1]⟩, q6 _ om, ⟨q7 _ om, q8 _ om⟩, ⟨rfl, q9 _ om, by omega⟩, ⟨q10 _ om, q11 _ om⟩, q12 _ om, by split <;> omega⟩⟩
end Go.Proofs.Ytoegdbeajgddiaa.Pure
