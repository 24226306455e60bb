import Derived.Test.YtkhpiicijkhpkaaCFnExactAsmBytesx
import Derived.Test.YtkhpiicijkhpkaaCFnExactAsmBytesf
namespace Go.Proofs.Ytkhpiicijkhpkaa.Pure
open Go.RowKit Go.Proofs.Ytkhpiicijkhpkaa.QFnExactAsmBytes Go.Proofs.YtkhpiicijkhpkaaW.PrintWords Go.Proofs.YtkhpiicijkhpkaaW.PrintLast
set_option linter.unusedVariables false
set_option linter.unusedSimpArgs false
theorem om {Q : Prop} (h : Q := by omega) : Q := h
structure S32 where
 f0 : (List S121)
structure S49 where
 f0 : Int
 f1 : (List S80)
 f2 : (List (List S82))
theorem Ev.succ {α : Type} {g : Nat → Option α} {r : α} (h : Ev (fun k => g (k + 1)) r) : Ev g r := Ev.step (fun _ => rfl) h
theorem Ev.yes {α : Type} {c : Prop} [Decidable c] {g f : Nat → Option α} {r : α} (hc : c) (h : Ev g r) : Ev (fun k => if c then g k else f k) r := Ev.congr (fun _ => if_pos hc) h
theorem Ev.no {α : Type} {c : Prop} [Decidable c] {g f : Nat → Option α} {r : α} (hc : ¬ c) (h : Ev f r) : Ev (fun k => if c then g k else f k) r := Ev.congr (fun _ => if_neg hc) h
theorem Ev.cases {α : Type} {c : Prop} [Decidable c] {g f : Nat → Option α} {r : α} (h1 : c → Ev g r) (h2 : ¬ c → Ev f r) : Ev (fun k => if c then g k else f k) r := by
 by_cases hc : c
 ·exact Ev.yes hc (h1 hc)
 ·exact Ev.no hc (h2 hc)
theorem Ev.flat {α β : Type} {g : Option α} {f : Nat → α → Option β} {a : α} {r : β} (h : g = some a) (k : Ev (fun n => f n a) r) : Ev (fun n => g.bind (f n)) r := Ev.bind (g := fun _ => g) ⟨0, fun _ _ => h⟩ k
theorem wrap_in {n : Int} (h0 : -9223372036854775808 ≤ n) (h1 : n ≤ 9223372036854775807) : wrap64 n = n := by unfold wrap64; omega
theorem wrap_lo (n : Int) : -9223372036854775808 ≤ wrap64 n := by unfold wrap64; omega
theorem wf64 {n : Int} (h : (Lit.int .i64 n).wf = true) : -9223372036854775808 ≤ n ∧ n ≤ 9223372036854775807 := by
 simp only [Lit.wf, IntKind.min, IntKind.max, IntKind.signed, IntKind.bits, Bool.and_eq_true, decide_eq_true_eq, if_true] at h
 omega
theorem drop_at {α : Type} (x : List α) (z : α) (i : Nat) (h : i < x.length) : x.drop i = x.getD i z :: x.drop (i + 1) := by
 rw [List.drop_eq_getElem_cons h, List.getD_eq_getElem?_getD, List.getElem?_eq_getElem h]; rfl
theorem beq_no {a b : Int} (h : ¬ a = b) : (a == b) = false := beq_eq_false_iff_ne.2 h
theorem Ev.uniq {α : Type} {g : Nat → Option α} {r r' : α} (h : Ev g r) (h' : Ev g r') : r = r' := by
 obtain ⟨a, ha⟩ := h
 obtain ⟨b, hb⟩ := h'
 have h1 := ha (max a b) (Nat.le_max_left _ _)
 rw [hb (max a b) (Nat.le_max_right _ _)] at h1
 exact (Option.some.inj h1).symm
theorem idx_next {i n : Nat} (h : i < n) (hn : n ≤ 1048576) : wrap64 ((i : Int) + 1) = ((i + 1 : Nat) : Int) := by rw [wrap_in om om]; simp
theorem to_loop {α β ρ : Type} {l0 : Nat → List α → List β → Int → Option (List β)} {rdA : List α → Int → α} {E : Nat → α → Option ρ} {mk : ρ → β} {conv : α → β} {zA : α} {zB : β}
  (hl : ∀ k x y i, l0 (k + 1) x y i = if i < (x.length : Int) then (if 0 ≤ i then (E k (rdA x i)).bind fun r => (if i < (y.length : Int) then l0 k x (y.set i.toNat (mk r)) (wrap64 (i + 1)) else none) else none) else some y)
  (hrd : ∀ (x : List α) (i : Nat), rdA x (i : Int) = x.getD i zA) (x : List α) (hx : x.length ≤ 1048576) (hE : ∀ a ∈ x, ∃ r, Ev (fun k => E k a) r ∧ mk r = conv a) :
  Ev (fun k => l0 k x (List.replicate x.length zB) 0) (x.map conv) := by
 have key : ∀ (d i : Nat), i + d = x.length → ∀ y : List β, y.length = x.length → y.take i = (x.take i).map conv → Ev (fun k => l0 k x y (i : Int)) (x.map conv) := by
  intro d
  induction d with
  | zero =>
   intro i hi y hy ht
   refine Ev.succ ?_
   simp only [hl]
   refine Ev.no om ?_
   rw [List.take_of_length_le om, List.take_of_length_le om] at ht
   subst ht
   exact Ev.now _
  | succ d ih =>
   intro i hi y hy ht
   have hli : i < x.length := by omega
   refine Ev.succ ?_
   simp only [hl]
   have hr : rdA x (i : Int) = x[i] := by rw [hrd, List.getD_eq_getElem?_getD, List.getElem?_eq_getElem hli]; rfl
   obtain ⟨r, h1, h2⟩ := hE x[i] (List.getElem_mem hli)
   simp only [hr]
   refine Ev.yes om (Ev.yes om (Ev.bind h1 (Ev.yes om ?_)))
   rw [idx_next hli hx]
   refine ih (i + 1) om _ (by simp [hy]) ?_
   simp only [Int.toNat_natCast]
   rw [List.take_succ_eq_append_getElem (by simp; omega), List.take_succ_eq_append_getElem hli, List.map_append, ← ht, List.take_set_of_le (Nat.le_refl _)]
   simp [h2]
 exact key x.length 0 om _ (by simp) (by simp)
theorem eq_loop {α : Type} {l0 : Nat → List α → List α → Int → Option Bool} {rdA : List α → Int → α} {E : Nat → α → α → Option Bool} {zA : α}
  (hl : ∀ k x y i, l0 (k + 1) x y i = if i < (x.length : Int) then (if 0 ≤ i then (if i < (y.length : Int) then (E k (rdA x i) (rdA y i)).bind fun t => (if t = true then l0 k x y (wrap64 (i + 1)) else some false) else none) else none) else some true)
  (hrd : ∀ (x : List α) (i : Nat), rdA x (i : Int) = x.getD i zA) (x : List α) (hx : x.length ≤ 1048576) (hE : ∀ a ∈ x, Ev (fun k => E k a a) true) : Ev (fun k => l0 k x x 0) true := by
 have key : ∀ (d i : Nat), i + d = x.length → Ev (fun k => l0 k x x (i : Int)) true := by
  intro d
  induction d with
  | zero =>
   intro i hi
   refine Ev.succ ?_
   simp only [hl]
   exact Ev.no om (Ev.now _)
  | succ d ih =>
   intro i hi
   have hli : i < x.length := by omega
   refine Ev.succ ?_
   simp only [hl]
   have hr : rdA x (i : Int) = x[i] := by rw [hrd, List.getD_eq_getElem?_getD, List.getElem?_eq_getElem hli]; rfl
   simp only [hr]
   refine Ev.yes om (Ev.yes om (Ev.yes om (Ev.bind (hE x[i] (List.getElem_mem hli)) (Ev.yes rfl ?_))))
   rw [idx_next hli hx]
   exact ih (i + 1) om
 exact key x.length 0 om
def left (m a : Int) : Int := if m ≤ a then a - m else -1
def sumL {α : Type} (m : α → Int) (x : List α) : Int := (x.map m).sum
theorem sumL_nonneg {α : Type} {m : α → Int} (hm : ∀ a, 0 ≤ m a) : ∀ x : List α, 0 ≤ sumL m x
 | [] => by simp [sumL]
 | a :: x => by have := hm a; have := sumL_nonneg hm x; simp [sumL] at *; omega
theorem sumL_mem {α : Type} {m : α → Int} (hm : ∀ a, 0 ≤ m a) : ∀ {x : List α} {a : α}, a ∈ x → m a ≤ sumL m x
 | b :: x, a, h => by
  have h0 := sumL_nonneg hm x
  have hb := hm b
  rcases List.mem_cons.1 h with rfl | h
  ·simp [sumL] at *; omega
  ·have := sumL_mem hm h; simp [sumL] at *; omega
theorem sz_loop {α : Type} {l0 : Nat → List α → Int → Int → Option Int} {rdA : List α → Int → α} {E : Nat → α → Int → Option Int} {zA : α} {m : α → Int} (hm : ∀ a, 0 ≤ m a)
  (hl : ∀ k x a i, l0 (k + 1) x a i = if i < (x.length : Int) then (if 0 ≤ i then (E k (rdA x i) a).bind fun t => (if t < 0 then some (-1) else l0 k x t (wrap64 (i + 1))) else none) else some a)
  (hrd : ∀ (x : List α) (i : Nat), rdA x (i : Int) = x.getD i zA) (x : List α) (hx : x.length ≤ 1048576) (hE : ∀ z ∈ x, ∀ a, 0 ≤ a → a ≤ 1048576 → Ev (fun k => E k z a) (left (m z) a)) (a : Int) (h0 : 0 ≤ a) (h1 : a ≤ 1048576) :
  Ev (fun k => l0 k x a 0) (left (sumL m x) a) := by
 have key : ∀ (d i : Nat), i + d = x.length → ∀ a, 0 ≤ a → a ≤ 1048576 → Ev (fun k => l0 k x a (i : Int)) (left (sumL m (x.drop i)) a) := by
  intro d
  induction d with
  | zero =>
   intro i hi a h0 h1
   refine Ev.succ ?_
   simp only [hl]
   rw [List.drop_of_length_le om]
   refine Ev.no om ?_
   simp only [left, sumL, List.map_nil, List.sum_nil, Int.sub_zero, if_pos h0]
   exact Ev.now _
  | succ d ih =>
   intro i hi a h0 h1
   have hli : i < x.length := by omega
   refine Ev.succ ?_
   simp only [hl]
   have hr : rdA x (i : Int) = x[i] := by rw [hrd, List.getD_eq_getElem?_getD, List.getElem?_eq_getElem hli]; rfl
   simp only [hr]
   refine Ev.yes om (Ev.yes om (Ev.bind (hE x[i] (List.getElem_mem hli) a h0 h1) ?_))
   have hs : sumL m (x.drop i) = m x[i] + sumL m (x.drop (i + 1)) := by rw [List.drop_eq_getElem_cons hli]; unfold sumL; rw [List.map_cons, List.sum_cons]
   have hp := sumL_nonneg hm (x.drop (i + 1))
   have hq := hm x[i]
   rw [hs, idx_next hli hx]
   by_cases hc : m x[i] ≤ a
   ·have e : left (m x[i]) a = a - m x[i] := by simp [left, hc]
    rw [e]
    refine Ev.no om ?_
    have e2 : left (m x[i] + sumL m (x.drop (i + 1))) a = left (sumL m (x.drop (i + 1))) (a - m x[i]) := by
     unfold left
     by_cases h : m x[i] + sumL m (x.drop (i + 1)) ≤ a
     ·rw [if_pos h, if_pos om]; omega
     ·rw [if_neg h, if_neg om]
    rw [e2]
    exact ih (i + 1) om _ om om
   ·have e : left (m x[i]) a = -1 := by simp [left, hc]
    have e2 : left (m x[i] + sumL m (x.drop (i + 1))) a = -1 := by unfold left; rw [if_neg om]
    rw [e, e2]
    exact Ev.yes om (Ev.now _)
 simpa using key x.length 0 om a h0 h1
theorem left_step {m n a : Int} (h : m ≤ a) : left m a = a - m := by simp [left, h]
theorem left_no {m a : Int} (h : ¬ m ≤ a) : left m a = -1 := by simp [left, h]
theorem sz_then {m n a : Int} {E : Nat → Option Int} {F : Nat → Int → Option Int} (hm : 0 ≤ m) (hn : 0 ≤ n) (h0 : 0 ≤ a) (h1 : a ≤ 1048576) (hE : Ev E (left m a)) (hF : m ≤ a → Ev (fun k => F k (a - m)) (left n (a - m))) :
  Ev (fun k => (E k).bind fun t => if t < 0 then some (-1) else F k t) (left (m + n) a) := by
 refine Ev.bind hE ?_
 by_cases hc : m ≤ a
 ·rw [left_step (n := 0) hc]
  refine Ev.no om ?_
  have e : left (m + n) a = left n (a - m) := by
   unfold left
   by_cases h : m + n ≤ a
   ·rw [if_pos h, if_pos om]; omega
   ·rw [if_neg h, if_neg om]
  rw [e]
  exact hF hc
 ·rw [left_no hc, left_no om]
  exact Ev.yes om (Ev.now _)
theorem sz_last {m a : Int} {E : Nat → Option Int} (hm : 0 ≤ m) (hE : Ev E (left m a)) : Ev (fun k => (E k).bind fun t => if t < 0 then some (-1) else some t) (left m a) := by
 refine Ev.bind hE ?_
 by_cases hc : m ≤ a
 ·rw [left_step (n := 0) hc]
  exact Ev.no om (Ev.now _)
 ·rw [left_no hc]
  exact Ev.yes om (Ev.now _)
theorem sz_len {n : Nat} {a : Int} {F : Nat → Int → Option Int} {m : Int} (hm : 0 ≤ m) (hn : n ≤ 9223372036854775807) (h0 : 0 ≤ a) (h1 : a ≤ 1048576) (hF : (n : Int) ≤ a → Ev (fun k => F k (a - n)) (left m (a - n))) :
  Ev (fun k => if wrap64 (a - (n : Int)) < 0 then some (-1) else F k (wrap64 (a - (n : Int)))) (left (n + m) a) := by
 have e : wrap64 (a - (n : Int)) = a - n := wrap_in om om
 rw [e]
 by_cases hc : (n : Int) ≤ a
 ·refine Ev.no om ?_
  have e : left (n + m) a = left m (a - n) := by
   unfold left
   by_cases h : n + m ≤ a
   ·rw [if_pos h, if_pos om]; omega
   ·rw [if_neg h, if_neg om]
  rw [e]
  exact hF hc
 ·rw [left_no om]
  exact Ev.yes om (Ev.now _)
theorem left_zero {a : Int} (h : 0 ≤ a) : left 0 a = a := by simp [left, h]
def cIns (x : S196) : S153 := ⟨x.f0, x.f1⟩
theorem eqIns_refl (x : S153) : Ev (fun k => laws_eqIns.f x.f0 x.f1 x.f0 x.f1) true := by
 unfold laws_eqIns.f
 exact Ev.yes rfl (Ev.yes rfl (Ev.now _))
def cInsS (x : List S196) : List S153 := x.map cIns
theorem mInsS_nonneg (x : List S196) : (0 : Int) ≤ (x.length : Int) := by omega
theorem szInsS_ev (x : List S196) (w : x.length ≤ 9223372036854775807 ∧ ∀ z ∈ x, wf196 z) (a : Int) (h0 : 0 ≤ a) (h1 : a ≤ 1048576) : Ev (fun _ => laws_szInsS.f x a) (left (x.length : Int) a) := by
 unfold laws_szInsS.f
 have h := sz_len (n := x.length) (a := a) (F := fun _ t => some t) (m := 0) om w.1 h0 h1 (fun h => by rw [left_zero om]; exact Ev.now _)
 simpa using h
theorem toInsS_ev (x : List S196) (h : (x.length : Int) ≤ 1048576) : Ev (fun k => laws_toInsS.f k x) (cInsS x) := by
 unfold laws_toInsS.f
 refine Ev.yes om (Ev.yes (by simp; omega) ?_)
 exact to_loop (l0 := laws_toInsS.l0) (rdA := rd_T196) (E := fun k z => laws_toIns.f z.f0 z.f1) (mk := fun r => (⟨r.1, r.2⟩ : S153)) (conv := cIns) (zA := z196) (zB := z153) (fun k x y i => by simp only [laws_toInsS.l0]) (fun _ _ => rfl) x om (fun z hz => ⟨_, ⟨0, fun _ _ => rfl⟩, rfl⟩)
def okInsS (x : List S153) : Prop := x.length ≤ 1048576
theorem okInsS_c (x : List S196) (h : (x.length : Int) ≤ 1048576) : okInsS (cInsS x) := by
 unfold okInsS cInsS
 rw [List.length_map]; omega
theorem eqInsS_refl (x : List S153) (h : okInsS x) : Ev (fun k => laws_eqInsS.f k x x) true := by
 unfold laws_eqInsS.f
 refine Ev.yes rfl ?_
 exact eq_loop (l0 := laws_eqInsS.l0) (rdA := rd_T153) (E := fun k a b => laws_eqIns.f a.f0 a.f1 b.f0 b.f1) (zA := z153) (fun k x y i => by simp only [laws_eqInsS.l0]) (fun _ _ => rfl) x h (fun a ha => eqIns_refl a)
def cFunc (x : S116) : S121 := ⟨x.f0, x.f1, (cInsS x.f2)⟩
def mFunc (x : S116) : Int := (x.f2.length : Int)
theorem mFunc_nonneg (x : S116) : 0 ≤ mFunc x := by
 unfold mFunc
 have h2 : (0 : Int) ≤ (x.f2.length : Int) := mInsS_nonneg _
 omega
theorem toFunc_ev (x : S116) (h : mFunc x ≤ 1048576) : Ev (fun k => laws_toFunc.f k x.f0 x.f1 x.f2) (x.f0, x.f1, (cInsS x.f2)) := by
 unfold mFunc at h
 have p2 : (0 : Int) ≤ (x.f2.length : Int) := mInsS_nonneg _
 have h2 : (x.f2.length : Int) ≤ 1048576 := by omega
 unfold laws_toFunc.f
 exact Ev.bind (toInsS_ev x.f2 h2) (Ev.now _)
theorem szFunc_ev (x : S116) (w : wf116 x) (a : Int) (h0 : 0 ≤ a) (h1 : a ≤ 1048576) : Ev (fun k => laws_szFunc.f x.f0 x.f1 x.f2 a) (left (mFunc x) a) := by
 obtain ⟨w0, w1, w2⟩ := w
 have p2 : (0 : Int) ≤ (x.f2.length : Int) := mInsS_nonneg _
 have e : mFunc x = (x.f2.length : Int) := by unfold mFunc; omega
 rw [e]
 unfold laws_szFunc.f
 exact sz_last (mInsS_nonneg _) (szInsS_ev x.f2 w2 a om om)
def okFunc (x : S121) : Prop := okInsS x.f2
theorem okFunc_c (x : S116) (h : mFunc x ≤ 1048576) : okFunc (cFunc x) := by
 unfold mFunc at h
 have p2 : (0 : Int) ≤ (x.f2.length : Int) := mInsS_nonneg _
 exact okInsS_c _ om
theorem eqFunc_refl (x : S121) (h : okFunc x) : Ev (fun k => laws_eqFunc.f k x.f0 x.f1 x.f2 x.f0 x.f1 x.f2) true := by
 have h2 := h
 unfold laws_eqFunc.f
 exact Ev.yes rfl (Ev.yes rfl (Ev.bind (eqInsS_refl x.f2 h2) (Ev.yes rfl (Ev.now _))))
def cFuncS (x : List S116) : List S121 := x.map cFunc
theorem mFuncS_nonneg (x : List S116) : (0 : Int) ≤ (x.length + sumL mFunc x : Int) := by have := sumL_nonneg mFunc_nonneg x; omega
theorem szFuncS_ev (x : List S116) (w : x.length ≤ 9223372036854775807 ∧ ∀ z ∈ x, wf116 z) (a : Int) (h0 : 0 ≤ a) (h1 : a ≤ 1048576) : Ev (fun k => laws_szFuncS.f k x a) (left (x.length + sumL mFunc x : Int) a) := by
 unfold laws_szFuncS.f
 refine sz_len (F := fun k t => laws_szFuncS.l0 k x t 0) (sumL_nonneg mFunc_nonneg x) w.1 h0 h1 (fun h => ?_)
 exact sz_loop (l0 := laws_szFuncS.l0) (rdA := rd_T116) (E := fun k z a => laws_szFunc.f z.f0 z.f1 z.f2 a) (zA := z116) (m := mFunc) mFunc_nonneg (fun k x a i => by simp only [laws_szFuncS.l0]) (fun _ _ => rfl) x om (fun z hz a h0 h1 => szFunc_ev z (w.2 z hz) a h0 h1) _ om om
theorem toFuncS_ev (x : List S116) (h : (x.length + sumL mFunc x : Int) ≤ 1048576) : Ev (fun k => laws_toFuncS.f k x) (cFuncS x) := by
 unfold laws_toFuncS.f
 have hs := sumL_nonneg mFunc_nonneg x
 refine Ev.yes om (Ev.yes (by simp; omega) ?_)
 exact to_loop (l0 := laws_toFuncS.l0) (rdA := rd_T116) (E := fun k z => laws_toFunc.f k z.f0 z.f1 z.f2) (mk := fun r => (⟨r.1, r.2.1, r.2.2⟩ : S121)) (conv := cFunc) (zA := z116) (zB := z121) (fun k x y i => by simp only [laws_toFuncS.l0]) (fun _ _ => rfl) x om (fun z hz => ⟨_, toFunc_ev z (by have := sumL_mem mFunc_nonneg hz; omega), rfl⟩)
def okFuncS (x : List S121) : Prop := x.length ≤ 1048576 ∧ ∀ z ∈ x, okFunc z
theorem okFuncS_c (x : List S116) (h : (x.length + sumL mFunc x : Int) ≤ 1048576) : okFuncS (cFuncS x) := by
 have hs := sumL_nonneg mFunc_nonneg x
 refine ⟨by unfold cFuncS; rw [List.length_map]; omega, fun z hz => ?_⟩
 obtain ⟨y, hy, rfl⟩ := List.mem_map.1 hz
 exact okFunc_c y (by have := sumL_mem mFunc_nonneg hy; omega)
theorem eqFuncS_refl (x : List S121) (h : okFuncS x) : Ev (fun k => laws_eqFuncS.f k x x) true := by
 unfold laws_eqFuncS.f
 refine Ev.yes rfl ?_
 exact eq_loop (l0 := laws_eqFuncS.l0) (rdA := rd_T121) (E := fun k a b => laws_eqFunc.f k a.f0 a.f1 a.f2 b.f0 b.f1 b.f2) (zA := z121) (fun k x y i => by simp only [laws_eqFuncS.l0]) (fun _ _ => rfl) x h.1 (fun a ha => eqFunc_refl a (h.2 a ha))
def cProgram (x : S24) : S32 := ⟨(cFuncS x.f0)⟩
def mProgram (x : S24) : Int := (x.f0.length + sumL mFunc x.f0 : Int)
theorem mProgram_nonneg (x : S24) : 0 ≤ mProgram x := by
 unfold mProgram
 have h0 : (0 : Int) ≤ (x.f0.length + sumL mFunc x.f0 : Int) := mFuncS_nonneg _
 omega
theorem toProgram_ev (x : S24) (h : mProgram x ≤ 1048576) : Ev (fun k => laws_toProgram.f k x.f0) ((cFuncS x.f0)) := by
 unfold mProgram at h
 have p0 : (0 : Int) ≤ (x.f0.length + sumL mFunc x.f0 : Int) := mFuncS_nonneg _
 have h0 : (x.f0.length + sumL mFunc x.f0 : Int) ≤ 1048576 := by omega
 unfold laws_toProgram.f
 exact Ev.bind (toFuncS_ev x.f0 h0) (Ev.now _)
theorem szProgram_ev (x : S24) (w : wf24 x) (a : Int) (h0 : 0 ≤ a) (h1 : a ≤ 1048576) : Ev (fun k => laws_szProgram.f k x.f0 a) (left (mProgram x) a) := by
 unfold mProgram laws_szProgram.f
 exact sz_last (mFuncS_nonneg _) (szFuncS_ev x.f0 w a h0 h1)
def okProgram (x : S32) : Prop := okFuncS x.f0
theorem okProgram_c (x : S24) (h : mProgram x ≤ 1048576) : okProgram (cProgram x) := by
 unfold mProgram at h
 have p0 : (0 : Int) ≤ (x.f0.length + sumL mFunc x.f0 : Int) := mFuncS_nonneg _
 exact okFuncS_c _ om
theorem eqProgram_refl (x : S32) (h : okProgram x) : Ev (fun k => laws_eqProgram.f k x.f0 x.f0) true := by
 have h0 := h
 unfold laws_eqProgram.f
 exact Ev.bind (eqFuncS_refl x.f0 h0) (Ev.yes rfl (Ev.now _))
def cVal (x : S185) : S82 := ⟨x.f0, x.f1⟩
theorem eqVal_refl (x : S82) : Ev (fun k => laws_eqVal.f x.f0 x.f1 x.f0 x.f1) true := by
 unfold laws_eqVal.f
 exact Ev.yes rfl (Ev.yes rfl (Ev.now _))
def cMov (x : S201) : S84 := ⟨x.f0, (cVal x.f1)⟩
theorem eqMov_refl (x : S84) : Ev (fun k => laws_eqMov.f x.f0 x.f1.f0 x.f1.f1 x.f0 x.f1.f0 x.f1.f1) true := by
 unfold laws_eqMov.f
 exact Ev.yes rfl (Ev.bind (eqVal_refl x.f1) (Ev.yes rfl (Ev.now _)))
def cMovS (x : List S201) : List S84 := x.map cMov
theorem mMovS_nonneg (x : List S201) : (0 : Int) ≤ (x.length : Int) := by omega
theorem szMovS_ev (x : List S201) (w : x.length ≤ 9223372036854775807 ∧ ∀ z ∈ x, wf201 z) (a : Int) (h0 : 0 ≤ a) (h1 : a ≤ 1048576) : Ev (fun _ => laws_szMovS.f x a) (left (x.length : Int) a) := by
 unfold laws_szMovS.f
 have h := sz_len (n := x.length) (a := a) (F := fun _ t => some t) (m := 0) om w.1 h0 h1 (fun h => by rw [left_zero om]; exact Ev.now _)
 simpa using h
theorem toMovS_ev (x : List S201) (h : (x.length : Int) ≤ 1048576) : Ev (fun k => laws_toMovS.f k x) (cMovS x) := by
 unfold laws_toMovS.f
 refine Ev.yes om (Ev.yes (by simp; omega) ?_)
 exact to_loop (l0 := laws_toMovS.l0) (rdA := rd_T201) (E := fun k z => laws_toMov.f z.f0 z.f1.f0 z.f1.f1) (mk := fun r => (⟨r.1, (⟨r.2.1, r.2.2⟩ : S82)⟩ : S84)) (conv := cMov) (zA := z201) (zB := z84) (fun k x y i => by simp only [laws_toMovS.l0]) (fun _ _ => rfl) x om (fun z hz => ⟨_, ⟨0, fun _ _ => rfl⟩, rfl⟩)
def okMovS (x : List S84) : Prop := x.length ≤ 1048576
theorem okMovS_c (x : List S201) (h : (x.length : Int) ≤ 1048576) : okMovS (cMovS x) := by
 unfold okMovS cMovS
 rw [List.length_map]; omega
theorem eqMovS_refl (x : List S84) (h : okMovS x) : Ev (fun k => laws_eqMovS.f k x x) true := by
 unfold laws_eqMovS.f
 refine Ev.yes rfl ?_
 exact eq_loop (l0 := laws_eqMovS.l0) (rdA := rd_T84) (E := fun k a b => laws_eqMov.f a.f0 a.f1.f0 a.f1.f1 b.f0 b.f1.f0 b.f1.f1) (zA := z84) (fun k x y i => by simp only [laws_eqMovS.l0]) (fun _ _ => rfl) x h (fun a ha => eqMov_refl a)
def cValS (x : List S185) : List S82 := x.map cVal
theorem mValS_nonneg (x : List S185) : (0 : Int) ≤ (x.length : Int) := by omega
def mValS (x : List S185) : Int := (x.length : Int)
theorem mValS_nonneg' (x : List S185) : 0 ≤ mValS x := mValS_nonneg x
theorem szValS_ev (x : List S185) (w : x.length ≤ 9223372036854775807 ∧ ∀ z ∈ x, wf185 z) (a : Int) (h0 : 0 ≤ a) (h1 : a ≤ 1048576) : Ev (fun _ => laws_szValS.f x a) (left (x.length : Int) a) := by
 unfold laws_szValS.f
 have h := sz_len (n := x.length) (a := a) (F := fun _ t => some t) (m := 0) om w.1 h0 h1 (fun h => by rw [left_zero om]; exact Ev.now _)
 simpa using h
theorem toValS_ev (x : List S185) (h : (x.length : Int) ≤ 1048576) : Ev (fun k => laws_toValS.f k x) (cValS x) := by
 unfold laws_toValS.f
 refine Ev.yes om (Ev.yes (by simp; omega) ?_)
 exact to_loop (l0 := laws_toValS.l0) (rdA := rd_T185) (E := fun k z => laws_toVal.f z.f0 z.f1) (mk := fun r => (⟨r.1, r.2⟩ : S82)) (conv := cVal) (zA := z185) (zB := z82) (fun k x y i => by simp only [laws_toValS.l0]) (fun _ _ => rfl) x om (fun z hz => ⟨_, ⟨0, fun _ _ => rfl⟩, rfl⟩)
def okValS (x : List S82) : Prop := x.length ≤ 1048576
theorem okValS_c (x : List S185) (h : (x.length : Int) ≤ 1048576) : okValS (cValS x) := by
 unfold okValS cValS
 rw [List.length_map]; omega
theorem eqValS_refl (x : List S82) (h : okValS x) : Ev (fun k => laws_eqValS.f k x x) true := by
 unfold laws_eqValS.f
 refine Ev.yes rfl ?_
 exact eq_loop (l0 := laws_eqValS.l0) (rdA := rd_T82) (E := fun k a b => laws_eqVal.f a.f0 a.f1 b.f0 b.f1) (zA := z82) (fun k x y i => by simp only [laws_eqValS.l0]) (fun _ _ => rfl) x h (fun a ha => eqVal_refl a)
def cAsmIns (x : S134) : S80 := ⟨(cMovS x.f0), x.f1, x.f2, (cValS x.f3), x.f4⟩
def mAsmIns (x : S134) : Int := (x.f0.length : Int) + (x.f3.length : Int)
theorem mAsmIns_nonneg (x : S134) : 0 ≤ mAsmIns x := by
 unfold mAsmIns
 have h0 : (0 : Int) ≤ (x.f0.length : Int) := mMovS_nonneg _
 have h3 : (0 : Int) ≤ (x.f3.length : Int) := mValS_nonneg _
 omega
theorem toAsmIns_ev (x : S134) (h : mAsmIns x ≤ 1048576) : Ev (fun k => laws_toAsmIns.f k x.f0 x.f1 x.f2 x.f3 x.f4) ((cMovS x.f0), x.f1, x.f2, (cValS x.f3), x.f4) := by
 unfold mAsmIns at h
 have p0 : (0 : Int) ≤ (x.f0.length : Int) := mMovS_nonneg _
 have p3 : (0 : Int) ≤ (x.f3.length : Int) := mValS_nonneg _
 have h0 : (x.f0.length : Int) ≤ 1048576 := by omega
 have h3 : (x.f3.length : Int) ≤ 1048576 := by omega
 unfold laws_toAsmIns.f
 exact Ev.bind (toMovS_ev x.f0 h0) (Ev.bind (toValS_ev x.f3 h3) (Ev.now _))
theorem szAsmIns_ev (x : S134) (w : wf134 x) (a : Int) (h0 : 0 ≤ a) (h1 : a ≤ 1048576) : Ev (fun k => laws_szAsmIns.f x.f0 x.f1 x.f2 x.f3 x.f4 a) (left (mAsmIns x) a) := by
 obtain ⟨w0, w1, w2, w3, w4⟩ := w
 have p0 : (0 : Int) ≤ (x.f0.length : Int) := mMovS_nonneg _
 have p3 : (0 : Int) ≤ (x.f3.length : Int) := mValS_nonneg _
 have e : mAsmIns x = (x.f0.length : Int) + ((x.f3.length : Int)) := by unfold mAsmIns; omega
 rw [e]
 unfold laws_szAsmIns.f
 exact sz_then (mMovS_nonneg _) om om om (szMovS_ev x.f0 w0 a om om) (fun hq0 => sz_last (mValS_nonneg _) (szValS_ev x.f3 w3 (a - (x.f0.length : Int)) om om))
def okAsmIns (x : S80) : Prop := okMovS x.f0 ∧ okValS x.f3
theorem okAsmIns_c (x : S134) (h : mAsmIns x ≤ 1048576) : okAsmIns (cAsmIns x) := by
 unfold mAsmIns at h
 have p0 : (0 : Int) ≤ (x.f0.length : Int) := mMovS_nonneg _
 have p3 : (0 : Int) ≤ (x.f3.length : Int) := mValS_nonneg _
 exact ⟨okMovS_c _ om, okValS_c _ om⟩
theorem eqAsmIns_refl (x : S80) (h : okAsmIns x) : Ev (fun k => laws_eqAsmIns.f k x.f0 x.f1 x.f2 x.f3 x.f4 x.f0 x.f1 x.f2 x.f3 x.f4) true := by
 obtain ⟨h0, h3⟩ := h
 unfold laws_eqAsmIns.f
 exact Ev.bind (eqMovS_refl x.f0 h0) (Ev.yes rfl (Ev.yes rfl (Ev.yes rfl (Ev.bind (eqValS_refl x.f3 h3) (Ev.yes rfl (Ev.yes rfl (Ev.now _)))))))
def cAsmInsS (x : List S134) : List S80 := x.map cAsmIns
theorem mAsmInsS_nonneg (x : List S134) : (0 : Int) ≤ (x.length + sumL mAsmIns x : Int) := by have := sumL_nonneg mAsmIns_nonneg x; omega
theorem szAsmInsS_ev (x : List S134) (w : x.length ≤ 9223372036854775807 ∧ ∀ z ∈ x, wf134 z) (a : Int) (h0 : 0 ≤ a) (h1 : a ≤ 1048576) : Ev (fun k => laws_szAsmInsS.f k x a) (left (x.length + sumL mAsmIns x : Int) a) := by
 unfold laws_szAsmInsS.f
 refine sz_len (F := fun k t => laws_szAsmInsS.l0 k x t 0) (sumL_nonneg mAsmIns_nonneg x) w.1 h0 h1 (fun h => ?_)
 exact sz_loop (l0 := laws_szAsmInsS.l0) (rdA := rd_T134) (E := fun k z a => laws_szAsmIns.f z.f0 z.f1 z.f2 z.f3 z.f4 a) (zA := z134) (m := mAsmIns) mAsmIns_nonneg (fun k x a i => by simp only [laws_szAsmInsS.l0]) (fun _ _ => rfl) x om (fun z hz a h0 h1 => szAsmIns_ev z (w.2 z hz) a h0 h1) _ om om
theorem toAsmInsS_ev (x : List S134) (h : (x.length + sumL mAsmIns x : Int) ≤ 1048576) : Ev (fun k => laws_toAsmInsS.f k x) (cAsmInsS x) := by
 unfold laws_toAsmInsS.f
 have hs := sumL_nonneg mAsmIns_nonneg x
 refine Ev.yes om (Ev.yes (by simp; omega) ?_)
 exact to_loop (l0 := laws_toAsmInsS.l0) (rdA := rd_T134) (E := fun k z => laws_toAsmIns.f k z.f0 z.f1 z.f2 z.f3 z.f4) (mk := fun r => (⟨r.1, r.2.1, r.2.2.1, r.2.2.2.1, r.2.2.2.2⟩ : S80)) (conv := cAsmIns) (zA := z134) (zB := z80) (fun k x y i => by simp only [laws_toAsmInsS.l0]) (fun _ _ => rfl) x om (fun z hz => ⟨_, toAsmIns_ev z (by have := sumL_mem mAsmIns_nonneg hz; omega), rfl⟩)
def okAsmInsS (x : List S80) : Prop := x.length ≤ 1048576 ∧ ∀ z ∈ x, okAsmIns z
theorem okAsmInsS_c (x : List S134) (h : (x.length + sumL mAsmIns x : Int) ≤ 1048576) : okAsmInsS (cAsmInsS x) := by
 have hs := sumL_nonneg mAsmIns_nonneg x
 refine ⟨by unfold cAsmInsS; rw [List.length_map]; omega, fun z hz => ?_⟩
 obtain ⟨y, hy, rfl⟩ := List.mem_map.1 hz
 exact okAsmIns_c y (by have := sumL_mem mAsmIns_nonneg hy; omega)
theorem eqAsmInsS_refl (x : List S80) (h : okAsmInsS x) : Ev (fun k => laws_eqAsmInsS.f k x x) true := by
 unfold laws_eqAsmInsS.f
 refine Ev.yes rfl ?_
 exact eq_loop (l0 := laws_eqAsmInsS.l0) (rdA := rd_T80) (E := fun k a b => laws_eqAsmIns.f k a.f0 a.f1 a.f2 a.f3 a.f4 b.f0 b.f1 b.f2 b.f3 b.f4) (zA := z80) (fun k x y i => by simp only [laws_eqAsmInsS.l0]) (fun _ _ => rfl) x h.1 (fun a ha => eqAsmIns_refl a (h.2 a ha))
def cValSS (x : List (List S185)) : List (List S82) := x.map cValS
theorem mValSS_nonneg (x : List (List S185)) : (0 : Int) ≤ (x.length + sumL mValS x : Int) := by have := sumL_nonneg mValS_nonneg' x; omega
theorem szValSS_ev (x : List (List S185)) (w : x.length ≤ 9223372036854775807 ∧ ∀ z ∈ x, (z.length ≤ 9223372036854775807 ∧ ∀ z' ∈ z, wf185 z')) (a : Int) (h0 : 0 ≤ a) (h1 : a ≤ 1048576) : Ev (fun k => laws_szValSS.f k x a) (left (x.length + sumL mValS x : Int) a) := by
 unfold laws_szValSS.f
 refine sz_len (F := fun k t => laws_szValSS.l0 k x t 0) (sumL_nonneg mValS_nonneg' x) w.1 h0 h1 (fun h => ?_)
 exact sz_loop (l0 := laws_szValSS.l0) (rdA := rd_L10) (E := fun k z a => laws_szValS.f z a) (zA := []) (m := mValS) mValS_nonneg' (fun k x a i => by simp only [laws_szValSS.l0]) (fun _ _ => rfl) x om (fun z hz a h0 h1 => szValS_ev z (w.2 z hz) a h0 h1) _ om om
theorem toValSS_ev (x : List (List S185)) (h : (x.length + sumL mValS x : Int) ≤ 1048576) : Ev (fun k => laws_toValSS.f k x) (cValSS x) := by
 unfold laws_toValSS.f
 have hs := sumL_nonneg mValS_nonneg' x
 refine Ev.yes om (Ev.yes (by simp; omega) ?_)
 exact to_loop (l0 := laws_toValSS.l0) (rdA := rd_L10) (E := fun k z => laws_toValS.f k z) (mk := fun r => r) (conv := cValS) (zA := []) (zB := []) (fun k x y i => by simp only [laws_toValSS.l0]) (fun _ _ => rfl) x om (fun z hz => ⟨_, toValS_ev z (by have := sumL_mem mValS_nonneg' hz; have e2 : mValS z = (z.length : Int) := rfl; omega), rfl⟩)
def okValSS (x : List (List S82)) : Prop := x.length ≤ 1048576 ∧ ∀ z ∈ x, okValS z
theorem okValSS_c (x : List (List S185)) (h : (x.length + sumL mValS x : Int) ≤ 1048576) : okValSS (cValSS x) := by
 have hs := sumL_nonneg mValS_nonneg' x
 refine ⟨by unfold cValSS; rw [List.length_map]; omega, fun z hz => ?_⟩
 obtain ⟨y, hy, rfl⟩ := List.mem_map.1 hz
 exact okValS_c y (by have := sumL_mem mValS_nonneg' hy; have e2 : mValS y = (y.length : Int) := rfl; omega)
theorem eqValSS_refl (x : List (List S82)) (h : okValSS x) : Ev (fun k => laws_eqValSS.f k x x) true := by
 unfold laws_eqValSS.f
 refine Ev.yes rfl ?_
 exact eq_loop (l0 := laws_eqValSS.l0) (rdA := rd_L17) (E := fun k a b => laws_eqValS.f k a b) (zA := []) (fun k x y i => by simp only [laws_eqValSS.l0]) (fun _ _ => rfl) x h.1 (fun a ha => eqValS_refl a (h.2 a ha))
def cAsm (x : S43) : S49 := ⟨x.f0, (cAsmInsS x.f1), (cValSS x.f2)⟩
def mAsm (x : S43) : Int := (x.f1.length + sumL mAsmIns x.f1 : Int) + (x.f2.length + sumL mValS x.f2 : Int)
theorem mAsm_nonneg (x : S43) : 0 ≤ mAsm x := by
 unfold mAsm
 have h1 : (0 : Int) ≤ (x.f1.length + sumL mAsmIns x.f1 : Int) := mAsmInsS_nonneg _
 have h2 : (0 : Int) ≤ (x.f2.length + sumL mValS x.f2 : Int) := mValSS_nonneg _
 omega
theorem toAsm_ev (x : S43) (h : mAsm x ≤ 1048576) : Ev (fun k => laws_toAsm.f k x.f0 x.f1 x.f2) (x.f0, (cAsmInsS x.f1), (cValSS x.f2)) := by
 unfold mAsm at h
 have p1 : (0 : Int) ≤ (x.f1.length + sumL mAsmIns x.f1 : Int) := mAsmInsS_nonneg _
 have p2 : (0 : Int) ≤ (x.f2.length + sumL mValS x.f2 : Int) := mValSS_nonneg _
 have h1 : (x.f1.length + sumL mAsmIns x.f1 : Int) ≤ 1048576 := by omega
 have h2 : (x.f2.length + sumL mValS x.f2 : Int) ≤ 1048576 := by omega
 unfold laws_toAsm.f
 exact Ev.bind (toAsmInsS_ev x.f1 h1) (Ev.bind (toValSS_ev x.f2 h2) (Ev.now _))
theorem szAsm_ev (x : S43) (w : wf43 x) (a : Int) (h0 : 0 ≤ a) (h1 : a ≤ 1048576) : Ev (fun k => laws_szAsm.f k x.f0 x.f1 x.f2 a) (left (mAsm x) a) := by
 obtain ⟨w0, w1, w2⟩ := w
 have p1 : (0 : Int) ≤ (x.f1.length + sumL mAsmIns x.f1 : Int) := mAsmInsS_nonneg _
 have p2 : (0 : Int) ≤ (x.f2.length + sumL mValS x.f2 : Int) := mValSS_nonneg _
 have e : mAsm x = (x.f1.length + sumL mAsmIns x.f1 : Int) + ((x.f2.length + sumL mValS x.f2 : Int)) := by unfold mAsm; omega
 rw [e]
 unfold laws_szAsm.f
 exact sz_then (mAsmInsS_nonneg _) om om om (szAsmInsS_ev x.f1 w1 a om om) (fun hq1 => sz_last (mValSS_nonneg _) (szValSS_ev x.f2 w2 (a - (x.f1.length + sumL mAsmIns x.f1 : Int)) om om))
def okAsm (x : S49) : Prop := okAsmInsS x.f1 ∧ okValSS x.f2
theorem okAsm_c (x : S43) (h : mAsm x ≤ 1048576) : okAsm (cAsm x) := by
 unfold mAsm at h
 have p1 : (0 : Int) ≤ (x.f1.length + sumL mAsmIns x.f1 : Int) := mAsmInsS_nonneg _
 have p2 : (0 : Int) ≤ (x.f2.length + sumL mValS x.f2 : Int) := mValSS_nonneg _
 exact ⟨okAsmInsS_c _ om, okValSS_c _ om⟩
theorem eqAsm_refl (x : S49) (h : okAsm x) : Ev (fun k => laws_eqAsm.f k x.f0 x.f1 x.f2 x.f0 x.f1 x.f2) true := by
 obtain ⟨h1, h2⟩ := h
 unfold laws_eqAsm.f
 exact Ev.yes rfl (Ev.bind (eqAsmInsS_refl x.f1 h1) (Ev.yes rfl (Ev.bind (eqValSS_refl x.f2 h2) (Ev.yes rfl (Ev.now _)))))
def isLeast (w : List Bool) (a : Nat) : Prop := a < w.length ∧ w.getD a false = true ∧ ∀ b, b < a → w.getD b false = false
theorem least_ex (w : List Bool) : (∀ b, w.getD b false = false) ∨ ∃ a, isLeast w a := by
 induction w with
 | nil => exact Or.inl (fun b => by simp)
 | cons x w ih =>
  cases x with
  | true => exact Or.inr ⟨0, by simp, by simp, fun b hb => by omega⟩
  | false =>
   rcases ih with h | ⟨a, h1, h2, h3⟩
   ·refine Or.inl (fun b => ?_)
    cases b with
    | zero => simp
    | succ b => simpa using h b
   ·refine Or.inr ⟨a + 1, by simpa using h1, by simpa using h2, fun b hb => ?_⟩
    cases b with
    | zero => simp
    | succ b => simpa using h3 b om
def nexts (len : Nat) (v : Int) : List Int → List Int → List Bool → Except (List Int × Int) (List Int × List Bool)
 | [], h, w => .ok (h, w)
 | n :: r, h, w => if (len : Int) ≤ n then .error (h, 6) else if 0 ≤ rd h n ∧ rd h n ≠ v then .error (h, 5) else if rd h n < 0 then nexts len v r (h.set n.toNat v) (w.set n.toNat true) else nexts len v r h w
structure Mach where
 len : Nat
 bad : Nat → Int → Bool
 v : Nat → Int → Int
 nx : Nat → List Int
def Mach.step (M : Mach) (h : List Int) (w : List Bool) (a : Nat) : Except (List Int × Int) (List Int × List Bool) := if M.bad a (rd h a) = true then .error (h, 5) else nexts M.len (M.v a (rd h a)) (M.nx a) h (w.set a false)
inductive Run (M : Mach) : List Int → List Bool → List Int × Int × Int → Prop
 | stop {h w} : (∀ b, w.getD b false = false) → Run M h w (h, 0, 0)
 | bad {h w a h' c} : isLeast w a → M.step h w a = .error (h', c) → Run M h w (h', (a : Int), c)
 | go {h w a h' w' r} : isLeast w a → M.step h w a = .ok (h', w') → Run M h' w' r → Run M h w r
def sumTo (g : Nat → Nat) : Nat → Nat
 | 0 => 0
 | n + 1 => sumTo g n + g n
theorem sumTo_congr {g g' : Nat → Nat} : ∀ n, (∀ i, i < n → g i = g' i) → sumTo g n = sumTo g' n
 | 0, _ => rfl
 | n + 1, h => by simp only [sumTo]; rw [sumTo_congr n (fun i hi => h i om), h n om]
theorem sumTo_at {g g' : Nat → Nat} {a : Nat} (he : ∀ i, i ≠ a → g i = g' i) : ∀ n, a < n → sumTo g n + g' a = sumTo g' n + g a
 | 0, h => by omega
 | n + 1, h => by
  simp only [sumTo]
  by_cases hn : a = n
  ·subst hn
   rw [sumTo_congr a (fun i hi => he i om)]; omega
  ·have := sumTo_at he n om
   rw [he n (fun e => hn e.symm)]; omega
def wt (len : Nat) (h : List Int) (w : List Bool) (a : Nat) : Nat := (if rd h a < 0 ∨ w.getD a false = true then 2 * len + 1 else 0) + (if rd h a < 0 ∧ w.getD a false = true then len - a else 0)
theorem rd_nat (h : List Int) (a : Nat) : rd h (a : Int) = h.getD a 0 := by simp [rd]
theorem rd_set {h : List Int} {n : Nat} (hn : n < h.length) (x : Int) (i : Nat) : rd (h.set n x) (i : Int) = if i = n then x else rd h i := by
 rw [rd_nat, rd_nat, List.getD_eq_getElem?_getD, List.getD_eq_getElem?_getD, List.getElem?_set]
 by_cases e : n = i
 ·subst e; simp [hn]
 ·rw [if_neg e, if_neg (fun e' => e e'.symm)]
theorem gb_set {w : List Bool} {n : Nat} (hn : n < w.length) (x : Bool) (i : Nat) : (w.set n x).getD i false = if i = n then x else w.getD i false := by
 rw [List.getD_eq_getElem?_getD, List.getD_eq_getElem?_getD, List.getElem?_set]
 by_cases e : n = i
 ·subst e; simp [hn]
 ·rw [if_neg e, if_neg (fun e' => e e'.symm)]
theorem nexts_len (len : Nat) (v : Int) : ∀ (l h : List Int) (w : List Bool), h.length = len → w.length = len → ∀ h' w', nexts len v l h w = .ok (h', w') → h'.length = len ∧ w'.length = len
 | [], h, w, h0, h1, h', w', e => by simp only [nexts, Except.ok.injEq, Prod.mk.injEq] at e; obtain ⟨rfl, rfl⟩ := e; exact ⟨h0, h1⟩
 | n :: r, h, w, h0, h1, h', w', e => by
  simp only [nexts] at e
  split at e
  ·cases e
  ·split at e
   ·cases e
   ·split at e
    ·exact nexts_len len v r _ _ (by simpa using h0) (by simpa using h1) h' w' e
    ·exact nexts_len len v r _ _ h0 h1 h' w' e
theorem nexts_bad (len : Nat) (v : Int) : ∀ (l h : List Int) (w : List Bool), h.length = len → ∀ h' c, nexts len v l h w = .error (h', c) → h'.length = len ∧ (c = 5 ∨ c = 6)
 | [], h, w, h0, h', c, e => by simp [nexts] at e
 | n :: r, h, w, h0, h', c, e => by
  simp only [nexts] at e
  split at e
  ·simp only [Except.error.injEq, Prod.mk.injEq] at e; obtain ⟨rfl, rfl⟩ := e; exact ⟨h0, Or.inr rfl⟩
  ·split at e
   ·simp only [Except.error.injEq, Prod.mk.injEq] at e; obtain ⟨rfl, rfl⟩ := e; exact ⟨h0, Or.inl rfl⟩
   ·split at e
    ·exact nexts_bad len v r _ _ (by simpa using h0) h' c e
    ·exact nexts_bad len v r _ _ h0 h' c e
theorem nexts_wt (len : Nat) (v : Int) : ∀ (l h : List Int) (w : List Bool), h.length = len → w.length = len → (∀ n ∈ l, 0 ≤ n) → ∀ h' w', nexts len v l h w = .ok (h', w') →
  sumTo (wt len h' w') len ≤ sumTo (wt len h w) len + (l.map fun n => len - n.toNat).sum
 | [], h, w, h0, h1, hp, h', w', e => by simp only [nexts, Except.ok.injEq, Prod.mk.injEq] at e; obtain ⟨rfl, rfl⟩ := e; simp
 | n :: r, h, w, h0, h1, hp, h', w', e => by
  have hn := hp n (by simp)
  have hr : ∀ m ∈ r, 0 ≤ m := fun m hm => hp m (by simp [hm])
  simp only [nexts] at e
  simp only [List.map_cons, List.sum_cons]
  split at e
  ·cases e
  rename_i hlt
  split at e
  ·cases e
  split at e
  ·rename_i hneg
   have ih := nexts_wt len v r _ _ (by simpa using h0) (by simpa using h1) hr h' w' e
   have hb : n.toNat < len := by omega
   have eq : ((n.toNat : Nat) : Int) = n := by omega
   have st := sumTo_at (g := wt len (h.set n.toNat v) (w.set n.toNat true)) (g' := wt len h w) (a := n.toNat) (fun i hi => by
    unfold wt
    rw [rd_set om, gb_set om, if_neg hi, if_neg hi]) len hb
   have w1 : wt len (h.set n.toNat v) (w.set n.toNat true) n.toNat ≤ 2 * len + 1 + (len - n.toNat) := by
    unfold wt; split <;> split <;> omega
   have w2 : 2 * len + 1 ≤ wt len h w n.toNat := by
    unfold wt; rw [eq, if_pos (Or.inl hneg)]; omega
   omega
  ·have ih := nexts_wt len v r _ _ h0 h1 hr h' w' e
   omega
structure Mach.Good (M : Mach) : Prop where
 nn : ∀ a, a < M.len → ∀ n ∈ M.nx a, 0 ≤ n
 two : ∀ a, a < M.len → (M.nx a).length ≤ 2
 lo : ∀ a x, -9223372036854775808 ≤ M.v a x
 neg : ∀ a, a < M.len → ∀ x, x < 0 → -9223372036854775808 ≤ x → M.bad a x = false → M.nx a = [] ∨ M.nx a = [(a : Int) + 1]
theorem nexts_all {P : Int → Prop} (len : Nat) (v : Int) (hv : P v) : ∀ (l h : List Int) (w : List Bool), h.length = len → (∀ n ∈ l, 0 ≤ n) → (∀ a : Nat, P (rd h a)) → ∀ h' w', nexts len v l h w = .ok (h', w') → ∀ a : Nat, P (rd h' a)
 | [], h, w, h0, hp, i1, h', w', e => by simp only [nexts, Except.ok.injEq, Prod.mk.injEq] at e; obtain ⟨rfl, rfl⟩ := e; exact i1
 | n :: r, h, w, h0, hp, i1, h', w', e => by
  have hn := hp n (by simp)
  have hr : ∀ m ∈ r, 0 ≤ m := fun m hm => hp m (by simp [hm])
  simp only [nexts] at e
  split at e
  ·cases e
  split at e
  ·cases e
  split at e
  ·refine nexts_all len v hv r _ _ (by simpa using h0) hr (fun a => ?_) h' w' e
   rw [rd_set om]
   split
   ·exact hv
   ·exact i1 a
  ·exact nexts_all len v hv r _ _ h0 hr i1 h' w' e
theorem step_wt {M : Mach} (G : M.Good) {h : List Int} {w : List Bool} {a : Nat} (h0 : h.length = M.len) (h1 : w.length = M.len) (hl : isLeast w a) (hR : ∀ b : Nat, -9223372036854775808 ≤ rd h b) {h' : List Int} {w' : List Bool} (e : M.step h w a = .ok (h', w')) :
  sumTo (wt M.len h' w') M.len < sumTo (wt M.len h w) M.len ∧ (h'.length = M.len ∧ w'.length = M.len) ∧ ∀ b : Nat, -9223372036854775808 ≤ rd h' b := by
 obtain ⟨ha, hw, _⟩ := hl
 have ha' : a < M.len := by omega
 unfold Mach.step at e
 split at e
 ·cases e
 rename_i hb
 have hL := nexts_len _ _ _ _ _ h0 (by simpa using h1) _ _ e
 refine ⟨?_, hL, nexts_all _ _ (G.lo _ _) _ _ _ h0 (G.nn a ha') hR _ _ e⟩
 have hs := nexts_wt _ _ _ _ _ h0 (by simpa using h1) (G.nn a ha') _ _ e
 have st := sumTo_at (g := wt M.len h (w.set a false)) (g' := wt M.len h w) (a := a) (fun i hi => by
  unfold wt
  rw [gb_set ha, if_neg hi]) M.len ha'
 by_cases hx : rd h a < 0
 ·have w1 : wt M.len h (w.set a false) a = 2 * M.len + 1 := by
   unfold wt; rw [gb_set ha]; simp [hx]
  have w2 : wt M.len h w a = 2 * M.len + 1 + (M.len - a) := by
   unfold wt; rw [if_pos (Or.inl hx), if_pos ⟨hx, hw⟩]
  rcases G.neg a ha' _ hx (hR a) (by simpa using hb) with hn | hn
  ·rw [hn] at hs; simp at hs; omega
  ·rw [hn] at hs; simp at hs
   omega
 ·have w1 : wt M.len h (w.set a false) a = 0 := by
   unfold wt; rw [gb_set ha]; simp [hx]
  have w2 : wt M.len h w a = 2 * M.len + 1 := by
   unfold wt; rw [if_pos (Or.inr hw), if_neg (fun c => hx c.1)]
  have h2 := G.two a ha'
  have hs2 : ((M.nx a).map fun n => M.len - n.toNat).sum ≤ 2 * M.len := by
   match hq : M.nx a with
   | [] => simp
   | [x] => simp; omega
   | [x, y] => simp; omega
   | x :: y :: z :: t => rw [hq] at h2; simp at h2
  omega
theorem run_ends {M : Mach} (G : M.Good) : ∀ (m : Nat) (h : List Int) (w : List Bool), h.length = M.len → w.length = M.len → (∀ b : Nat, -9223372036854775808 ≤ rd h b) → sumTo (wt M.len h w) M.len ≤ m → ∃ r, Run M h w r := by
 intro m
 induction m with
 | zero =>
  intro h w h0 h1 hR hm
  rcases least_ex w with hn | ⟨a, ha⟩
  ·exact ⟨_, Run.stop hn⟩
  ·match e : M.step h w a with
   | .error (h', c) => exact ⟨_, Run.bad ha e⟩
   | .ok (h', w') => have := (step_wt G h0 h1 ha hR e).1; omega
 | succ m ih =>
  intro h w h0 h1 hR hm
  rcases least_ex w with hn | ⟨a, ha⟩
  ·exact ⟨_, Run.stop hn⟩
  ·match e : M.step h w a with
   | .error (h', c) => exact ⟨_, Run.bad ha e⟩
   | .ok (h', w') =>
    obtain ⟨hs, hl, hR'⟩ := step_wt G h0 h1 ha hR e
    obtain ⟨r, hr⟩ := ih h' w' hl.1 hl.2 hR' om
    exact ⟨r, Run.go ha e hr⟩
theorem step_bad {M : Mach} {h : List Int} {w : List Bool} {a : Nat} (h0 : h.length = M.len) {h' : List Int} {c : Int} (e : M.step h w a = .error (h', c)) : h'.length = M.len ∧ (c = 5 ∨ c = 6) := by
 unfold Mach.step at e
 split at e
 ·simp only [Except.error.injEq, Prod.mk.injEq] at e; obtain ⟨rfl, rfl⟩ := e; exact ⟨h0, Or.inl rfl⟩
 ·exact nexts_bad _ _ _ _ _ h0 _ _ e
theorem step_len {M : Mach} {h : List Int} {w : List Bool} {a : Nat} (h0 : h.length = M.len) (h1 : w.length = M.len) {h' : List Int} {w' : List Bool} (e : M.step h w a = .ok (h', w')) : h'.length = M.len ∧ w'.length = M.len := by
 unfold Mach.step at e
 split at e
 ·cases e
 ·exact nexts_len _ _ _ _ _ h0 (by simpa using h1) _ _ e
theorem run_len {M : Mach} {h : List Int} {w : List Bool} {r : List Int × Int × Int} (hr : Run M h w r) : h.length = M.len → w.length = M.len → r.1.length = M.len ∧ (r.2.2 = 0 ∨ r.2.2 = 5 ∨ r.2.2 = 6) ∧ (r.2.2 = 0 → r.2.1 = 0) := by
 induction hr with
 | stop hn => intro h0 h1; exact ⟨h0, Or.inl rfl, fun _ => rfl⟩
 | bad ha e => intro h0 h1; have := step_bad h0 e; exact ⟨this.1, Or.inr this.2, fun hc => by have := this.2; simp at hc; omega⟩
 | go ha e _ ih => intro h0 h1; have := step_len h0 h1 e; exact ih this.1 this.2
theorem nexts_ok {P : Int → Prop} (len : Nat) (v : Int) (hv : P v) : ∀ (l h : List Int) (w : List Bool), h.length = len → w.length = len → (∀ n ∈ l, 0 ≤ n) → (∀ a : Nat, w.getD a false = true → P (rd h a)) → (∀ a : Nat, P (rd h a) ∨ rd h a < 0) → ∀ h' w', nexts len v l h w = .ok (h', w') →
  (∀ a : Nat, w'.getD a false = true → P (rd h' a)) ∧ (∀ a : Nat, P (rd h' a) ∨ rd h' a < 0)
 | [], h, w, h0, h1, hp, i1, i2, h', w', e => by simp only [nexts, Except.ok.injEq, Prod.mk.injEq] at e; obtain ⟨rfl, rfl⟩ := e; exact ⟨i1, i2⟩
 | n :: r, h, w, h0, h1, hp, i1, i2, h', w', e => by
  have hn := hp n (by simp)
  have hr : ∀ m ∈ r, 0 ≤ m := fun m hm => hp m (by simp [hm])
  simp only [nexts] at e
  split at e
  ·cases e
  rename_i hlt
  split at e
  ·cases e
  split at e
  ·have hb : n.toNat < len := by omega
   refine nexts_ok len v hv r _ _ (by simpa using h0) (by simpa using h1) hr (fun a ha => ?_) (fun a => ?_) h' w' e
   ·rw [rd_set om]
    rw [gb_set om] at ha
    split
    ·exact hv
    ·rename_i hne; rw [if_neg hne] at ha; exact i1 a ha
   ·rw [rd_set om]
    split
    ·exact Or.inl hv
    ·exact i2 a
  ·exact nexts_ok len v hv r _ _ h0 h1 hr i1 i2 h' w' e
theorem run_same {M M' : Mach} {P : Int → Prop} (e1 : M'.len = M.len) (e2 : M'.v = M.v) (e3 : M'.nx = M.nx) (G : M.Good) (hb : ∀ a, a < M.len → ∀ x, P x → M'.bad a x = M.bad a x) (hv : ∀ a, a < M.len → ∀ x, P x → M.bad a x = false → P (M.v a x))
  {h : List Int} {w : List Bool} {r : List Int × Int × Int} (hr : Run M h w r) : h.length = M.len → w.length = M.len → (∀ a : Nat, w.getD a false = true → P (rd h a)) → (∀ a : Nat, P (rd h a) ∨ rd h a < 0) → Run M' h w r := by
 induction hr with
 | stop hn => intro _ _ _ _; exact Run.stop hn
 | @bad h w a h' c ha e =>
  intro h0 h1 i1 i2
  refine Run.bad ha ?_
  have hl : a < M.len := by have := ha.1; omega
  unfold Mach.step at e ⊢
  rw [hb a hl _ (i1 a ha.2.1), e1, e2, e3]; exact e
 | @go h w a h' w' r ha e _ ih =>
  intro h0 h1 i1 i2
  have hl : a < M.len := by have := ha.1; omega
  have hL := step_len h0 h1 e
  have e' := e
  unfold Mach.step at e
  split at e
  ·cases e
  rename_i hnb
  have := nexts_ok (P := P) M.len (M.v a (rd h a)) (hv a hl _ (i1 a ha.2.1) (by simpa using hnb)) (M.nx a) h (w.set a false) h0 (by simpa using h1) (G.nn a hl) (fun b hb => by
   rw [gb_set ha.1] at hb
   split at hb
   ·cases hb
   ·exact i1 b hb) i2 h' w' e
  refine Run.go ha ?_ (ih hL.1 hL.2 this.1 this.2)
  unfold Mach.step at e' ⊢
  rw [hb a hl _ (i1 a ha.2.1), e1, e2, e3]; exact e'
theorem in_some (a b c : Int) : impl_in.f a b c = some (decide (b ≤ a) && decide (a ≤ c)) := by
 unfold impl_in.f
 by_cases h : a ≥ b
 ·rw [if_pos h]; simp [show b ≤ a from h]
 ·rw [if_neg h]; simp [show ¬ b ≤ a from h]
def hasB {α : Type} (p : List α) (f : Int) : Bool := decide (0 ≤ f) && decide (f < p.length)
theorem hasFunc_some (p : List S121) (f : Int) : impl_hasFunc.f p f = some (hasB p f) := by
 unfold impl_hasFunc.f hasB
 by_cases h : f ≥ 0
 ·rw [if_pos h]; simp [show 0 ≤ f from h]
 ·rw [if_neg h]; simp [show ¬ 0 ≤ f from h]
theorem ite_some' {α : Type} {c : Prop} [Decidable c] {a b : α} : (if c then some a else some b) = some (if c then a else b) := by split <;> rfl
theorem hasB_iff {α : Type} {p : List α} {f : Int} : hasB p f = true ↔ 0 ≤ f ∧ f < p.length := by simp [hasB]
def isBin (op : Int) : Bool := decide (10 ≤ op) && decide (op ≤ 23)
def isUn (op : Int) : Bool := decide (24 ≤ op) && decide (op ≤ 29)
theorem implBin_some (op : Int) : impl_isBinary.f op = some (isBin op) := by unfold impl_isBinary.f; rw [in_some]; rfl
theorem implUn_some (op : Int) : impl_isUnary.f op = some (isUn op) := by unfold impl_isUnary.f; rw [in_some]; rfl
theorem specBin_some (op : Int) : spec_l03Binary.f op = some (isBin op) := by
 unfold spec_l03Binary.f isBin
 by_cases h : op ≥ 10
 ·rw [if_pos h]; simp [show 10 ≤ op from h]
 ·rw [if_neg h]; simp [show ¬ 10 ≤ op from h]
theorem specUn_some (op : Int) : spec_l03Unary.f op = some (isUn op) := by
 unfold spec_l03Unary.f isUn
 by_cases h : op ≥ 24
 ·rw [if_pos h]; simp [show 24 ≤ op from h]
 ·rw [if_neg h]; simp [show ¬ 24 ≤ op from h]
def takesV (p : List S121) (op a : Int) : Int :=
 if isBin op = true then 2 else if op = 35 then 2 else if op = 36 then 3 else if op = 32 then (if hasB p a = true then (rd_T121 p a).f0 else 0)
 else if isUn op = true then 1 else if op = 3 then 1 else if op = 4 then 1 else if op = 5 then 1 else if op = 31 then 1 else if op = 33 then 1 else if op = 34 then 1 else if op = 37 then 1 else if op = 38 then 1 else 0
theorem ite_ite {α : Type} {c : Prop} [Decidable c] (a b d : α) : (if c then (if c then a else b) else d) = (if c then a else d) := by by_cases h : c <;> simp [h]
theorem implTakes_ev (p : List S121) (op a : Int) : Ev (fun k => impl_Takes.f k p op a) (takesV p op a) := by
 refine Ev.of (fun k => impl_Takes.mono _ _ _ k) (k := 2) ?_
 unfold impl_Takes.f takesV
 rw [implBin_some, Option.bind_some]
 by_cases hb : isBin op = true
 ·rw [if_pos hb, if_pos hb]; simp only [impl_Takes.j0]; rw [if_pos hb]
 ·rw [if_neg hb, if_neg hb]
  simp only [impl_Takes.j0, impl_Takes.j1, implUn_some, hasFunc_some, Option.bind_some]
  by_cases h35 : op = 35
  ·rw [if_pos (by simp [h35]), if_pos h35]
  ·rw [if_neg (by simp [h35]), if_neg h35]
   by_cases h32 : op = 32
   ·subst h32
    simp only [show ((32 : Int) = 36) = False from by simp, if_false, if_true]
    by_cases hh : hasB p a = true
    ·have h2 := hasB_iff.1 hh
     simp only [if_pos hh, if_pos h2.1, if_pos h2.2]
    ·simp only [if_neg hh]
   ·rw [if_neg h32, if_neg h32]
    simp only [beq_iff_eq, ite_ite, ite_some']
theorem specTakes_ev (p : List S121) (op a : Int) : Ev (fun k => spec_Takes.f k p op a) (takesV p op a) := by
 refine Ev.of (fun k => spec_Takes.mono _ _ _ k) (k := 2) ?_
 unfold spec_Takes.f takesV
 rw [specBin_some, Option.bind_some]
 by_cases hb : isBin op = true
 ·rw [if_pos hb, if_pos hb]; simp only [spec_Takes.j0, if_true]
 ·rw [if_neg hb, if_neg hb]
  simp only [spec_Takes.j0, spec_Takes.j1, specUn_some, Option.bind_some]
  by_cases h35 : op = 35
  ·rw [if_pos (by simp [h35]), if_pos h35]
  ·rw [if_neg (by simp [h35]), if_neg h35]
   by_cases h32 : op = 32
   ·subst h32
    simp only [show ((32 : Int) = 36) = False from by simp, if_false, if_true]
    by_cases hh : hasB p a = true
    ·have h2 := hasB_iff.1 hh
     rw [if_neg om, if_neg om, if_pos h2.1, if_pos h2.2]; simp only [if_pos hh]
    ·simp only [if_neg hh]
     have h2 : ¬ (0 ≤ a ∧ a < p.length) := fun h => hh (hasB_iff.2 h)
     by_cases h0 : a < 0
     ·rw [if_pos h0]
     ·rw [if_neg h0, if_pos om]
   ·rw [if_neg h32, if_neg h32]
    simp only [beq_iff_eq, ite_ite, ite_some']
def putsV (op : Int) : Int := if isBin op = true then 1 else if isUn op = true then 1 else if op = 4 then 2 else if op = 1 then 1 else if op = 2 then 1 else if op = 32 then 1 else if op = 34 then 1 else if op = 35 then 1 else if op = 37 then 1 else 0
theorem putsV_bd (op : Int) : 0 ≤ putsV op ∧ putsV op ≤ 2 := by unfold putsV; repeat' split <;> omega
theorem isBin_iff {op : Int} : isBin op = true ↔ 10 ≤ op ∧ op ≤ 23 := by simp [isBin]
theorem isUn_iff {op : Int} : isUn op = true ↔ 24 ≤ op ∧ op ≤ 29 := by simp [isUn]
theorem implArith_some (op : Int) : impl_isArith.f op = some (decide (10 ≤ op) && decide (op ≤ 29)) := by unfold impl_isArith.f; rw [in_some]; rfl
theorem arith_split (op : Int) : (decide (10 ≤ op) && decide (op ≤ 29)) = true ↔ isBin op = true ∨ isUn op = true := by
 rw [isBin_iff, isUn_iff]; simp only [Bool.and_eq_true, decide_eq_true_eq]; omega
theorem implPuts_ev (op a : Int) : Ev (fun k => impl_Puts.f k op a) (putsV op) := by
 refine Ev.of (fun k => impl_Puts.mono _ _ k) (k := 1) ?_
 unfold impl_Puts.f putsV
 simp only [impl_Puts.j0, implArith_some, Option.bind_some, arith_split]
 by_cases h4 : op = 4
 ·subst h4; simp [isBin, isUn]
 by_cases h1 : op = 1
 ·subst h1; simp [isBin, isUn]
 by_cases h2 : op = 2
 ·subst h2; simp [isBin, isUn]
 by_cases h32 : op = 32
 ·subst h32; simp [isBin, isUn]
 by_cases h34 : op = 34
 ·subst h34; simp [isBin, isUn]
 by_cases h35 : op = 35
 ·subst h35; simp [isBin, isUn]
 by_cases h37 : op = 37
 ·subst h37; simp [isBin, isUn]
 simp only [if_neg h4, if_neg h1, if_neg h2, if_neg h32, if_neg h34, if_neg h35, beq_no h37, Bool.false_eq_true, if_false, if_neg h37]
 by_cases hb : isBin op = true
 ·simp [hb]
 ·by_cases hu : isUn op = true
  ·simp [hb, hu]
  ·simp [hb, hu]
theorem specPuts_ev (op a : Int) : Ev (fun k => spec_Puts.f k op a) (putsV op) := by
 refine Ev.of (fun k => spec_Puts.mono _ _ k) (k := 2) ?_
 unfold spec_Puts.f putsV
 rw [specBin_some, specUn_some, Option.bind_some, Option.bind_some]
 simp only [spec_Puts.j0, spec_Puts.j1, beq_iff_eq, ite_ite, ite_some', if_true]
def namedB (op : Int) : Bool := (decide (1 ≤ op) && decide (op ≤ 5)) || (decide (10 ≤ op) && decide (op ≤ 38))
def nameV (op : Int) : ByteArray := (impl_OpName.f op).getD ⟨#[]⟩
theorem names_small : ∀ n : Nat, n < 39 → impl_OpName.f (n : Int) = some (nameV (n : Int)) ∧ spec_OpName.f 1 (n : Int) = some (nameV (n : Int)) ∧ (((nameV (n : Int)).toList = []) ↔ namedB (n : Int) = false) := by
 decide +kernel
theorem name_all (op : Int) : impl_OpName.f op = some (nameV op) ∧ spec_OpName.f 1 op = some (nameV op) ∧ (((nameV op).toList = []) ↔ namedB op = false) := by
 by_cases hr : 0 ≤ op ∧ op ≤ 38
 ·obtain ⟨n, rfl⟩ := Int.eq_ofNat_of_zero_le hr.1
  exact names_small n om
 ·have h1 : impl_OpName.f op = some ⟨#[]⟩ := by
   unfold impl_OpName.f impl_in.f
   by_cases hc : op ≥ 0
   ·rw [if_pos hc]
    have : decide (op ≤ 38) = false := by simp; omega
    simp [this]
   ·rw [if_neg hc]
    simp
  have hv : nameV op = ⟨#[]⟩ := by unfold nameV; rw [h1]; rfl
  rw [hv]
  refine ⟨h1, ?_, ?_⟩
  ·unfold spec_OpName.f
   simp only [Option.bind_some]
   by_cases hc : op ≥ 1
   ·rw [if_pos hc]
    have : decide (op ≤ 5) = false := by simp; omega
    simp only [this, spec_OpName.j0]
    by_cases hd : op ≥ 10
    ·rw [if_neg (by simp), if_pos hd, if_neg om]
    ·rw [if_neg (by simp), if_neg hd]
   ·rw [if_neg hc]
    simp only [spec_OpName.j0]
    rw [if_neg (by simp), if_neg om]
  ·have : namedB op = false := by
    unfold namedB
    simp
    omega
   simp [this]
theorem implName_some (op : Int) : impl_OpName.f op = some (nameV op) := (name_all op).1
theorem specName_ev (op : Int) : Ev (fun k => spec_OpName.f k op) (nameV op) := Ev.of (fun k => spec_OpName.mono _ k) (name_all op).2.1
theorem name_none (op : Int) : (nameV op).toList = [] ↔ namedB op = false := (name_all op).2.2
def insRightV (p : List S121) (f op a : Int) : Bool :=
 if hasB p f = true then
  (if op = 1 then true else if op = 2 ∨ op = 3 then decide (0 ≤ a) && decide (a < (rd_T121 p f).f1) else if op = 30 ∨ op = 31 then decide (0 ≤ a) && decide (a < (rd_T121 p f).f2.length)
  else if op = 32 then hasB p a else namedB op && (a == 0))
 else false
theorem and_some (a : Int) (q : Prop) [Decidable q] : (if a ≥ 0 then some (decide q) else some false) = some (decide (0 ≤ a) && decide q) := by
 by_cases h : a ≥ 0
 ·rw [if_pos h]; simp [show 0 ≤ a from h]
 ·rw [if_neg h]; simp [show ¬ 0 ≤ a from h]
theorem implInsRight_ev (p : List S121) (f op a : Int) : Ev (fun k => impl_InsRight.f k p f op a) (insRightV p f op a) := by
 refine Ev.of (fun k => impl_InsRight.mono _ _ _ _ k) (k := 2) ?_
 unfold impl_InsRight.f insRightV
 rw [hasFunc_some, Option.bind_some]
 by_cases hf : hasB p f = true
 ·have h2 := hasB_iff.1 hf
  simp only [if_pos hf, impl_InsRight.j0, impl_InsRight.j1, if_pos h2.1, if_pos h2.2, and_some, hasFunc_some, implName_some, Option.bind_some]
  by_cases h1 : op = 1
  ·simp only [if_pos h1]
  simp only [if_neg h1]
  by_cases h2 : op = 2
  ·subst h2; simp
  by_cases h3 : op = 3
  ·subst h3; simp
  simp only [if_neg h2, beq_no h3, Bool.false_eq_true, if_false, h2, h3, or_self]
  by_cases h30 : op = 30
  ·subst h30; simp
  by_cases h31 : op = 31
  ·subst h31; simp
  simp only [if_neg h30, beq_no h31, Bool.false_eq_true, if_false, h30, h31, or_self]
  by_cases h32 : op = 32
  ·simp only [if_pos h32]
  simp only [if_neg h32, name_none]
  cases namedB op <;> simp
 ·simp only [if_neg hf]
theorem specInsRight_ev (p : List S121) (f op a : Int) : Ev (fun k => spec_InsRight.f k p f op a) (insRightV p f op a) := by
 unfold spec_InsRight.f insRightV
 by_cases h0 : f < 0
 ·have hf : ¬ hasB p f = true := fun h => by have := hasB_iff.1 h; omega
  rw [if_neg hf]
  refine Ev.yes h0 (Ev.succ ?_)
  simp only [spec_InsRight.j0, if_true]
  exact Ev.now _
 refine Ev.no h0 (Ev.succ ?_)
 simp only [spec_InsRight.j0]
 by_cases hl : f ≥ (p.length : Int)
 ·have hf : ¬ hasB p f = true := fun h => by have := hasB_iff.1 h; omega
  rw [if_neg hf]
  exact Ev.yes (by simp [hl]) (Ev.now _)
 have hf : hasB p f = true := hasB_iff.2 ⟨by omega, by omega⟩
 have hg0 : 0 ≤ f := by omega
 have hg1 : f < (p.length : Int) := by omega
 rw [if_pos hf]
 refine Ev.no (by simp; omega) ?_
 by_cases h1 : op = 1
 ·rw [if_pos h1]; exact Ev.yes h1 (Ev.now _)
 refine Ev.no h1 ?_
 rw [if_neg h1]
 have hj2 : ∀ b : Bool, Ev (fun k => spec_InsRight.j2 k f op b p op a) (if b = true then decide (0 ≤ a) && decide (a < (rd_T121 p f).f2.length) else if op = 32 then hasB p a else namedB op && (a == 0)) := by
  intro b
  refine Ev.succ ?_
  simp only [spec_InsRight.j2, if_pos hg0, if_pos hg1, and_some]
  refine Ev.cases (fun hb => ?_) (fun hb => ?_)
  ·rw [if_pos hb]; exact Ev.now _
  ·rw [if_neg hb]
   refine Ev.cases (fun h32 => ?_) (fun h32 => ?_)
   ·rw [if_pos h32]; exact Ev.now _
   ·rw [if_neg h32]
    refine Ev.bind (specName_ev op) ?_
    simp only [name_none]
    cases namedB op
    ·exact Ev.yes rfl (by simpa using Ev.now false)
    ·exact Ev.no (by simp) (by simpa using Ev.now (a == 0))
 have hj1 : ∀ b : Bool, Ev (fun k => spec_InsRight.j1 k f op b p op a) (if b = true then decide (0 ≤ a) && decide (a < (rd_T121 p f).f1) else if op = 30 ∨ op = 31 then decide (0 ≤ a) && decide (a < (rd_T121 p f).f2.length) else if op = 32 then hasB p a else namedB op && (a == 0)) := by
  intro b
  refine Ev.succ ?_
  simp only [spec_InsRight.j1, if_pos hg0, if_pos hg1, and_some]
  refine Ev.cases (fun hb => ?_) (fun hb => ?_)
  ·rw [if_pos hb]; exact Ev.now _
  ·rw [if_neg hb]
   refine Ev.cases (fun h30 => ?_) (fun h30 => ?_)
   ·have := hj2 (op == 30)
    simpa [h30] using this
   ·have := hj2 (op == 31)
    by_cases h31 : op = 31
    ·simpa [h31] using this
    ·simpa [h30, h31] using this
 refine Ev.cases (fun h2 => ?_) (fun h2 => ?_)
 ·simpa [h2] using hj1 (op == 2)
 ·by_cases h3 : op = 3
  ·simpa [h3] using hj1 (op == 3)
  ·simpa [h2, h3] using hj1 (op == 3)
def nxV (op a : Int) (n : Nat) : List Int := if op = 33 then [] else if op = 30 then [a] else if op = 31 then [(n : Int) + 1, a] else [(n : Int) + 1]
def cdI (c : List S153) (a : Nat) : S153 := rd_T153 c (a : Int)
def tkV (p : List S121) (c : List S153) (a : Nat) : Int := takesV p (cdI c a).f0 (cdI c a).f1
def nextH (p : List S121) (c : List S153) (a : Nat) (x : Int) : Int := wrap64 (wrap64 (x - tkV p c a) + putsV (cdI c a).f0)
def machS (p : List S121) (c : List S153) : Mach := ⟨c.length, fun a x => decide (tkV p c a > x) || decide (nextH p c a x > 8), nextH p c, fun a => nxV (cdI c a).f0 (cdI c a).f1 a⟩
def machI (p : List S121) (c : List S153) : Mach := ⟨c.length, fun a x => decide (wrap64 (x - tkV p c a) < 0) || decide (nextH p c a x > 8), nextH p c, fun a => nxV (cdI c a).f0 (cdI c a).f1 a⟩
def okJ (c : List S153) : Prop := ∀ a, a < c.length → (cdI c a).f0 = 30 ∨ (cdI c a).f0 = 31 → 0 ≤ (cdI c a).f1 ∧ (cdI c a).f1 < c.length
theorem takesV_bd (p : List S121) (op a : Int) (h : op ≠ 32) : 0 ≤ takesV p op a ∧ takesV p op a ≤ 3 := by
 unfold takesV
 rw [if_neg h]
 repeat' split <;> omega
theorem nxV_mem {op a : Int} {n : Nat} {L : Nat} (hn : n < L) (h : op = 30 ∨ op = 31 → 0 ≤ a ∧ a < L) : ∀ m ∈ nxV op a n, 0 ≤ m ∧ m ≤ L := by
 intro m hm
 unfold nxV at hm
 split at hm
 ·simp at hm
 split at hm
 ·rename_i h30; have := h (Or.inl h30); simp at hm; omega
 split at hm
 ·rename_i h31; have := h (Or.inr h31); simp at hm; omega
 ·simp at hm; omega
theorem nxV_two (op a : Int) (n : Nat) : (nxV op a n).length ≤ 2 := by
 unfold nxV
 split
 ·simp
 split
 ·simp
 split <;> simp
theorem nextH_lo (p : List S121) (c : List S153) (a : Nat) (x : Int) : -9223372036854775808 ≤ nextH p c a x := wrap_lo _
theorem takesV_30 (p : List S121) (a : Int) : takesV p 30 a = 0 := by simp [takesV, isBin, isUn]
theorem takesV_31 (p : List S121) (a : Int) : takesV p 31 a = 1 := by simp [takesV, isBin, isUn]
theorem putsV_31 : putsV 31 = 0 := by simp [putsV, isBin, isUn]
theorem goodS (p : List S121) (c : List S153) (hj : okJ c) : (machS p c).Good where
 nn := fun a ha n hn => (nxV_mem ha (hj a ha) n hn).1
 two := fun a _ => nxV_two _ _ _
 lo := fun a x => nextH_lo p c a x
 neg := fun a ha x hx _ hb => by
  simp only [machS, Bool.or_eq_false_iff, decide_eq_false_iff_not] at hb
  by_cases h32 : (cdI c a).f0 = 32
  ·simp only [machS, h32]; exact Or.inr (by simp [nxV])
  ·have := takesV_bd p (cdI c a).f0 (cdI c a).f1 h32
   have h1 := hb.1
   unfold tkV at h1
   omega
theorem goodI (p : List S121) (c : List S153) (hj : okJ c) : (machI p c).Good where
 nn := fun a ha n hn => (nxV_mem ha (hj a ha) n hn).1
 two := fun a _ => nxV_two _ _ _
 lo := fun a x => nextH_lo p c a x
 neg := fun a ha x hx hlo hb => by
  simp only [machI, Bool.or_eq_false_iff, decide_eq_false_iff_not] at hb
  show nxV (cdI c a).f0 (cdI c a).f1 a = [] ∨ nxV (cdI c a).f0 (cdI c a).f1 a = [(a : Int) + 1]
  unfold nxV
  by_cases h33 : (cdI c a).f0 = 33
  ·rw [if_pos h33]; exact Or.inl rfl
  rw [if_neg h33]
  by_cases h30 : (cdI c a).f0 = 30
  ·exfalso
   have h1 := hb.1
   unfold tkV at h1
   rw [h30, takesV_30, wrap_in om om] at h1
   omega
  rw [if_neg h30]
  by_cases h31 : (cdI c a).f0 = 31
  ·exfalso
   have h1 := hb.1
   have h2 := hb.2
   unfold nextH at h2
   unfold tkV at h1 h2
   rw [h31, takesV_31] at h1 h2
   rw [putsV_31] at h2
   unfold wrap64 at h1 h2
   omega
  rw [if_neg h31]; exact Or.inr rfl
theorem rdOf_nat (w : List Bool) (a : Nat) : rdOf false w (a : Int) = w.getD a false := by simp [rdOf]
theorem specLeast_l0 (w : List Bool) (hw : w.length ≤ 1048576) (a : Nat) (ha : isLeast w a) : ∀ (d i : Nat), i + d = a → Ev (fun k => spec_l04Least.l0 k w (i : Int)) (a : Int) := by
 intro d
 have hlt := ha.1
 induction d with
 | zero =>
  intro i hi
  have e : i = a := by omega
  subst e
  refine Ev.succ ?_
  simp only [spec_l04Least.l0]
  exact Ev.yes om (Ev.yes om (Ev.yes (by rw [rdOf_nat]; exact ha.2.1) (Ev.now _)))
 | succ d ih =>
  intro i hi
  refine Ev.succ ?_
  simp only [spec_l04Least.l0]
  refine Ev.yes om (Ev.yes om (Ev.no (by rw [rdOf_nat, ha.2.2 i om]; simp) ?_))
  rw [idx_next (show i < w.length by omega) hw]
  exact ih (i + 1) om
theorem specLeast_n0 (w : List Bool) (hw : w.length ≤ 1048576) (ha : ∀ b, w.getD b false = false) : ∀ (d i : Nat), i + d = w.length → Ev (fun k => spec_l04Least.l0 k w (i : Int)) (-1) := by
 intro d
 induction d with
 | zero =>
  intro i hi
  refine Ev.succ ?_
  simp only [spec_l04Least.l0]
  exact Ev.no om (Ev.now _)
 | succ d ih =>
  intro i hi
  refine Ev.succ ?_
  simp only [spec_l04Least.l0]
  refine Ev.yes om (Ev.yes om (Ev.no (by rw [rdOf_nat, ha i]; simp) ?_))
  rw [idx_next (show i < w.length by omega) hw]
  exact ih (i + 1) om
theorem specLeast_ev (w : List Bool) (hw : w.length ≤ 1048576) (a : Nat) (ha : isLeast w a) : Ev (fun k => spec_l04Least.f k w) (a : Int) := by
 unfold spec_l04Least.f; exact specLeast_l0 w hw a ha a 0 om
theorem specLeast_no (w : List Bool) (hw : w.length ≤ 1048576) (ha : ∀ b, w.getD b false = false) : Ev (fun k => spec_l04Least.f k w) (-1) := by
 unfold spec_l04Least.f; exact specLeast_n0 w hw ha w.length 0 om
theorem rd_cons_at {x : List Int} {i : Nat} {n : Int} {r : List Int} (h : x.drop i = n :: r) : i < x.length ∧ rd x (i : Int) = n ∧ x.drop (i + 1) = r := by
 have hi : i < x.length := by
  rcases Nat.lt_or_ge i x.length with h' | h'
  ·exact h'
  ·rw [List.drop_of_length_le h'] at h; cases h
 rw [List.drop_eq_getElem_cons hi] at h
 injection h with h1 h2
 refine ⟨hi, ?_, h2⟩
 rw [rd_nat, List.getD_eq_getElem?_getD, List.getElem?_eq_getElem hi]; exact h1
theorem spec_l2_ev (p : List S121) (c : List S153) (f v b0 b1 : Int) (R : List Int × Int × Int × Int) : ∀ (r x : List Int) (i : Nat) (h : List Int) (w : List Bool), x.drop i = r → x.length ≤ 1048576 → h.length = c.length → w.length = c.length → (∀ n ∈ r, 0 ≤ n) →
  (∀ h' e, nexts c.length v r h w = .error (h', e) → R = (h', b0, b1, e)) → (∀ h' w', nexts c.length v r h w = .ok (h', w') → Ev (fun k => spec_l04Heights.l1 k f c h' w' p) R) → Ev (fun k => spec_l04Heights.l2 k f c h w v x (i : Int) p b0 b1 5) R
 | [], x, i, h, w, hx, hl, h0, h1, hp, he, ho => by
  refine Ev.succ ?_
  simp only [spec_l04Heights.l2]
  have : x.length ≤ i := List.drop_eq_nil_iff.1 hx
  exact Ev.no om (ho h w rfl)
 | n :: r, x, i, h, w, hx, hl, h0, h1, hp, he, ho => by
  obtain ⟨hi, hn, hd⟩ := rd_cons_at hx
  have hn0 := hp n (by simp)
  refine Ev.succ ?_
  simp only [spec_l04Heights.l2, hn]
  simp only [nexts] at he ho
  refine Ev.yes om (Ev.yes om ?_)
  by_cases hL : (c.length : Int) ≤ n
  ·rw [if_pos hL] at he
   rw [he _ _ rfl]
   exact Ev.yes hL (Ev.now _)
  rw [if_neg hL] at he ho
  refine Ev.no hL (Ev.yes hn0 (Ev.yes om ?_))
  have key : ∀ b : Bool, (b = true ↔ 0 ≤ rd h n ∧ rd h n ≠ v) → Ev (fun k => spec_l04Heights.j8 k f c h w v x (i : Int) b p b0 b1 5) R := by
   intro b hb
   refine Ev.succ ?_
   simp only [spec_l04Heights.j8, hn]
   by_cases hB : 0 ≤ rd h n ∧ rd h n ≠ v
   ·rw [if_pos hB] at he
    rw [he _ _ rfl]
    exact Ev.yes (hb.2 hB) (Ev.now _)
   rw [if_neg hB] at he ho
   refine Ev.no (fun hc => hB (hb.1 hc)) (Ev.yes om (Ev.yes om (Ev.yes hn0 (Ev.yes om ?_))))
   rw [idx_next hi hl]
   by_cases hN : rd h n < 0
   ·rw [if_pos hN] at he ho
    refine Ev.yes hN (Ev.yes om ?_)
    exact spec_l2_ev p c f v b0 b1 R r x (i + 1) _ _ hd hl (by simpa using h0) (by simpa using h1) (fun m hm => hp m (by simp [hm])) he ho
   ·rw [if_neg hN] at he ho
    refine Ev.no hN ?_
    exact spec_l2_ev p c f v b0 b1 R r x (i + 1) _ _ hd hl h0 h1 (fun m hm => hp m (by simp [hm])) he ho
  by_cases hge : rd h n ≥ 0
  ·refine Ev.yes hge (key _ ?_)
   simp only [bne_iff_ne, ne_eq]
   exact ⟨fun hv => ⟨hge, hv⟩, fun hv => hv.2⟩
  ·refine Ev.no hge (key _ ?_)
   simp only [Bool.false_eq_true, false_iff]
   exact fun hv => hge hv.1
theorem spec_run {p : List S121} {c : List S153} (f : Int) (hc : c.length ≤ 1048576) (hj : okJ c) {h : List Int} {w : List Bool} {r : List Int × Int × Int} (hr : Run (machS p c) h w r) :
  h.length = c.length → w.length = c.length → Ev (fun k => spec_l04Heights.l1 k f c h w p) (r.1, (if r.2.2 = 0 then 0 else f), r.2.1, r.2.2) := by
 have step : ∀ {h : List Int} {w : List Bool} {a : Nat} (R : List Int × Int × Int × Int), isLeast w a → h.length = c.length → w.length = c.length → (∀ h' e, (machS p c).step h w a = .error (h', e) → R = (h', f, (a : Int), e)) →
   (∀ h' w', (machS p c).step h w a = .ok (h', w') → Ev (fun k => spec_l04Heights.l1 k f c h' w' p) R) → Ev (fun k => spec_l04Heights.l1 k f c h w p) R := by
  intro h w a R ha h0 h1 he ho
  have hal : a < c.length := by have := ha.1; omega
  refine Ev.succ ?_
  simp only [spec_l04Heights.l1]
  refine Ev.bind (specLeast_ev w om a ha) (Ev.no om (Ev.yes om (Ev.yes om ?_)))
  simp only [Option.bind_some]
  refine Ev.yes om (Ev.bind (specTakes_ev p _ _) (Ev.yes om (Ev.bind (specPuts_ev _ _) ?_)))
  have key : ∀ b : Bool, b = (machS p c).bad a (rd h a) → Ev (fun k => spec_l04Heights.j2 k f c h (w.set a false) (a : Int) (nextH p c a (rd h a)) b p (cdI c a).f0 (cdI c a).f1 f (a : Int) 5) R := by
   intro b hb
   unfold Mach.step at he ho
   rw [← hb] at he ho
   refine Ev.succ ?_
   simp only [spec_l04Heights.j2, Option.bind_some]
   cases b with
   | true =>
    simp only [if_true] at he
    rw [he _ _ rfl]
    exact Ev.yes rfl (Ev.now _)
   | false =>
    simp only [Bool.false_eq_true, if_false] at he ho
    refine Ev.no (by simp) ?_
    have fin : ∀ x : List Int, x = nxV (cdI c a).f0 (cdI c a).f1 a → Ev (fun k => spec_l04Heights.j6 k f c h (w.set a false) (nextH p c a (rd h a)) x p f (a : Int) 5) R := by
     intro x hx
     refine Ev.succ ?_
     simp only [spec_l04Heights.j6]
     have hx2 := nxV_two (cdI c a).f0 (cdI c a).f1 a
     exact spec_l2_ev p c f _ f (a : Int) R x x 0 h (w.set a false) rfl (by rw [hx]; omega) h0 (by simpa using h1) (by rw [hx]; exact fun n hn => (nxV_mem hal (hj a hal) n hn).1) (by rw [hx]; exact he) (by rw [hx]; exact ho)
    have f5 : ∀ (x : List Int) (b : Bool), x.length ≤ 2 → (if b = true then x ++ [(cdI c a).f1] else x) = nxV (cdI c a).f0 (cdI c a).f1 a → Ev (fun k => spec_l04Heights.j5 k f c h (w.set a false) (nextH p c a (rd h a)) x b p (cdI c a).f0 (cdI c a).f1 f (a : Int) 5) R := by
     intro x b hxl hx
     refine Ev.succ ?_
     simp only [spec_l04Heights.j5]
     cases b with
     | true => exact Ev.yes rfl (Ev.yes om (fin _ (by simpa using hx)))
     | false => exact Ev.no (by simp) (fin _ (by simpa using hx))
    have f4 : ∀ (x : List Int), x.length ≤ 2 → (if (cdI c a).f0 = 30 ∨ (cdI c a).f0 = 31 then x ++ [(cdI c a).f1] else x) = nxV (cdI c a).f0 (cdI c a).f1 a → Ev (fun k => spec_l04Heights.j4 k f c h (w.set a false) (nextH p c a (rd h a)) x p (cdI c a).f0 (cdI c a).f1 f (a : Int) 5) R := by
     intro x hxl hx
     refine Ev.succ ?_
     simp only [spec_l04Heights.j4]
     refine Ev.cases (fun h30 => f5 _ _ hxl ?_) (fun h30 => f5 _ _ hxl ?_)
     ·rw [← hx]; simp [h30]
     ·rw [← hx]
      by_cases h31 : (cdI c a).f0 = 31
      ·simp [h31]
      ·simp [h30, h31]
    have f3 : ∀ b : Bool, (b = true ↔ (cdI c a).f0 ≠ 30 ∧ (cdI c a).f0 ≠ 33) → Ev (fun k => spec_l04Heights.j3 k f c h (w.set a false) (a : Int) (nextH p c a (rd h a)) [] b p (cdI c a).f0 (cdI c a).f1 f (a : Int) 5) R := by
     intro b hb3
     refine Ev.succ ?_
     simp only [spec_l04Heights.j3]
     have hw1 : wrap64 ((a : Int) + 1) = (a : Int) + 1 := wrap_in om om
     cases b with
     | true =>
      have hb4 := hb3.1 rfl
      refine Ev.yes rfl (Ev.yes (by simp) (f4 _ (by simp) ?_))
      unfold nxV
      rw [hw1, if_neg hb4.2, if_neg hb4.1]
      by_cases h31 : (cdI c a).f0 = 31
      ·simp [h31]
      ·simp [h31, hb4.1]
     | false =>
      refine Ev.no (by simp) (f4 _ (by simp) ?_)
      unfold nxV
      by_cases h33 : (cdI c a).f0 = 33
      ·simp [h33]
      ·by_cases h30 : (cdI c a).f0 = 30
       ·simp [h30]
       ·exact absurd (hb3.2 ⟨h30, h33⟩) (by simp)
    refine Ev.cases (fun h30 => f3 _ ?_) (fun h30 => f3 _ ?_)
    ·simp [h30]
    ·simp [h30]
  by_cases ht : tkV p c a > rd h a
  ·refine Ev.yes ht (key true ?_)
   simp [machS, ht]
  ·refine Ev.no ht (key _ ?_)
   simp only [machS, show decide (tkV p c a > rd h a) = false from by simpa using ht, Bool.false_or]
   rfl
 induction hr with
 | @stop h w hn =>
  intro h0 h1
  refine Ev.succ ?_
  simp only [spec_l04Heights.l1]
  exact Ev.bind (specLeast_no w om hn) (Ev.yes om (Ev.now _))
 | @bad h w a h' e ha hs =>
  intro h0 h1
  have h5 := step_bad (M := machS p c) h0 hs
  refine step _ ha h0 h1 (fun h'' e' q => ?_) (fun h'' w'' q => ?_)
  ·rw [hs] at q
   simp only [Except.error.injEq, Prod.mk.injEq] at q
   obtain ⟨rfl, rfl⟩ := q
   have : ¬ e = 0 := by omega
   simp [this]
  ·rw [hs] at q; cases q
 | @go h w a h' w' r ha hs hr ih =>
  intro h0 h1
  have hl := step_len (M := machS p c) h0 h1 hs
  refine step _ ha h0 h1 (fun h'' e' q => ?_) (fun h'' w'' q => ?_)
  ·rw [hs] at q; cases q
  ·rw [hs] at q
   simp only [Except.ok.injEq, Prod.mk.injEq] at q
   obtain ⟨rfl, rfl⟩ := q
   exact ih hl.1 hl.2
theorem impl_next_some (op a : Int) (n : Nat) (hn : n ≤ 1048576) : impl_next.f op a (n : Int) = some (nxV op a n) := by
 unfold impl_next.f nxV
 rw [wrap_in (show -9223372036854775808 ≤ (n : Int) + 1 by omega) om]
 simp only [ite_some']
theorem mn_eq (a b : Int) : mn a b = if b < a then b else a := rfl
theorem impl_skip (p : List S121) (c : List S153) (hc : c.length ≤ 1048576) (h : List Int) (w : List Bool) (h1 : w.length = c.length) (R : List Int × Int × Int) (m : Nat) (hm : m ≤ c.length) (hz : ∀ b, b < m → w.getD b false = false) (hR : Ev (fun k => impl_heightsOf.l1 k c h w (m : Int) p) R) :
  ∀ (d i : Nat), i + d = m → Ev (fun k => impl_heightsOf.l1 k c h w (i : Int) p) R := by
 intro d
 induction d with
 | zero =>
  intro i hi
  have e : i = m := by omega
  subst e; exact hR
 | succ d ih =>
  intro i hi
  refine Ev.succ ?_
  simp only [impl_heightsOf.l1]
  refine Ev.yes om (Ev.yes om (Ev.yes om (Ev.no (by rw [rdOf_nat, hz i om]; simp) ?_)))
  rw [idx_next (show i < c.length by omega) hc]
  exact ih (i + 1) om
theorem impl_l2_ev (p : List S121) (c : List S153) (hc : c.length ≤ 1048576) (a : Nat) (lft op arg v : Int) (hv : v = wrap64 (lft + putsV op)) (R : List Int × Int × Int) : ∀ (r x : List Int) (i : Nat) (h : List Int) (w : List Bool) (m : Nat), x.drop i = r → x.length ≤ 1048576 → h.length = c.length → w.length = c.length → (∀ n ∈ r, 0 ≤ n ∧ n ≤ c.length) →
  m ≤ c.length → (∀ b, b < m → w.getD b false = false) → (∀ h' e, nexts c.length v r h w = .error (h', e) → R = (h', (a : Int), e)) →
  (∀ h' w', nexts c.length v r h w = .ok (h', w') → ∀ m', m' ≤ c.length → (∀ b, b < m' → w'.getD b false = false) → Ev (fun k => impl_heightsOf.l1 k c h' w' (m' : Nat) p) R) →
  Ev (fun k => impl_heightsOf.l2 k c h w (a : Int) lft (m : Int) x (x.length : Int) (i : Int) p op arg) R
 | [], x, i, h, w, m, hx, hl, h0, h1, hp, hm, hz, he, ho => by
  refine Ev.succ ?_
  simp only [impl_heightsOf.l2]
  have : x.length ≤ i := List.drop_eq_nil_iff.1 hx
  exact Ev.no om (ho h w rfl m hm hz)
 | n :: r, x, i, h, w, m, hx, hl, h0, h1, hp, hm, hz, he, ho => by
  obtain ⟨hi, hn, hd⟩ := rd_cons_at hx
  have hn0 := hp n (by simp)
  refine Ev.succ ?_
  simp only [impl_heightsOf.l2, hn]
  simp only [nexts] at he ho
  refine Ev.yes om (Ev.yes om (Ev.yes om ?_))
  by_cases hL : (c.length : Int) ≤ n
  ·rw [if_pos hL] at he
   rw [he _ _ rfl]
   exact Ev.yes om (Ev.now _)
  rw [if_neg hL] at he ho
  refine Ev.no om (Ev.yes om (Ev.yes om ?_))
  have key : ∀ b : Bool, (b = true ↔ 0 ≤ rd h n ∧ rd h n ≠ v) → Ev (fun k => impl_heightsOf.j4 k c h w (a : Int) lft (m : Int) n x (x.length : Int) (i : Int) b p op arg) R := by
   intro b hb
   refine Ev.succ ?_
   simp only [impl_heightsOf.j4]
   by_cases hB : 0 ≤ rd h n ∧ rd h n ≠ v
   ·rw [if_pos hB] at he
    rw [he _ _ rfl]
    exact Ev.yes (hb.2 hB) (Ev.now _)
   rw [if_neg hB] at he ho
   refine Ev.no (fun hc => hB (hb.1 hc)) (Ev.yes om (Ev.yes om ?_))
   rw [idx_next hi hl]
   by_cases hN : rd h n < 0
   ·rw [if_pos hN] at he ho
    refine Ev.yes hN (Ev.bind (implPuts_ev op arg) (Ev.yes om ?_))
    rw [← hv, mn_eq]
    have e : (if n < (m : Int) then n else (m : Int)) = ((if n.toNat < m then n.toNat else m : Nat) : Int) := by
     by_cases hnm : n < (m : Int)
     ·rw [if_pos hnm, if_pos om]; omega
     ·rw [if_neg hnm, if_neg om]
    rw [e]
    refine impl_l2_ev p c hc a lft op arg v hv R r x (i + 1) _ _ _ hd hl (by simpa using h0) (by simpa using h1) (fun q hq => hp q (by simp [hq])) (by split <;> omega) (fun b hb => ?_) he ho
    rw [gb_set om]
    have hb2 : b < n.toNat ∧ b < m := by split at hb <;> omega
    rw [if_neg om]
    exact hz b hb2.2
   ·rw [if_neg hN] at he ho
    refine Ev.no hN ?_
    exact impl_l2_ev p c hc a lft op arg v hv R r x (i + 1) _ _ m hd hl h0 h1 (fun q hq => hp q (by simp [hq])) hm hz he ho
  by_cases hge : rd h n ≥ 0
  ·refine Ev.yes hge (Ev.bind (implPuts_ev op arg) (key _ ?_))
   rw [← hv]
   simp only [bne_iff_ne, ne_eq]
   exact ⟨fun hv => ⟨hge, hv⟩, fun hv => hv.2⟩
  ·refine Ev.no hge (key _ ?_)
   simp only [Bool.false_eq_true, false_iff]
   exact fun hv => hge hv.1
theorem impl_run {p : List S121} {c : List S153} (hc : c.length ≤ 1048576) (hj : okJ c) {h : List Int} {w : List Bool} {r : List Int × Int × Int} (hr : Run (machI p c) h w r) :
  h.length = c.length → w.length = c.length → ∀ m : Nat, m ≤ c.length → (∀ b, b < m → w.getD b false = false) → Ev (fun k => impl_heightsOf.l1 k c h w (m : Int) p) r := by
 have step : ∀ {h : List Int} {w : List Bool} {a : Nat} (R : List Int × Int × Int) (m : Nat), m ≤ c.length → (∀ b, b < m → w.getD b false = false) → isLeast w a → h.length = c.length → w.length = c.length → (∀ h' e, (machI p c).step h w a = .error (h', e) → R = (h', (a : Int), e)) →
   (∀ h' w', (machI p c).step h w a = .ok (h', w') → ∀ m', m' ≤ c.length → (∀ b, b < m' → w'.getD b false = false) → Ev (fun k => impl_heightsOf.l1 k c h' w' (m' : Nat) p) R) → Ev (fun k => impl_heightsOf.l1 k c h w (m : Int) p) R := by
  intro h w a R m hm hz ha h0 h1 he ho
  have hal : a < c.length := by have := ha.1; omega
  have hma : m ≤ a := by
   rcases Nat.lt_or_ge a m with q | q
   ·have := hz a q; rw [ha.2.1] at this; cases this
   ·exact q
  refine impl_skip p c hc h w h1 R a om ha.2.2 ?_ (a - m) m om
  refine Ev.succ ?_
  simp only [impl_heightsOf.l1]
  refine Ev.yes om (Ev.yes om (Ev.yes om (Ev.yes (by rw [rdOf_nat]; exact ha.2.1) ?_)))
  simp only [Option.bind_some]
  refine Ev.yes om (Ev.bind (implTakes_ev p _ _) ?_)
  have key : ∀ b : Bool, b = (machI p c).bad a (rd h a) → Ev (fun k => impl_heightsOf.j2 k c h (w.set a false) (a : Int) (wrap64 (rd h a - tkV p c a)) b p (cdI c a).f0 (cdI c a).f1) R := by
   intro b hb
   unfold Mach.step at he ho
   rw [← hb] at he ho
   refine Ev.succ ?_
   simp only [impl_heightsOf.j2]
   cases b with
   | true =>
    simp only [if_true] at he
    rw [he _ _ rfl]
    exact Ev.yes rfl (Ev.now _)
   | false =>
    simp only [Bool.false_eq_true, if_false] at he ho
    refine Ev.no (by simp) (Ev.flat (impl_next_some _ _ a om) ?_)
    have hx2 := nxV_two (cdI c a).f0 (cdI c a).f1 a
    refine impl_l2_ev p c hc a _ _ _ _ rfl R _ _ 0 h (w.set a false) a rfl om h0 (by simpa using h1) (fun n hn => nxV_mem hal (hj a hal) n hn) om (fun b hb => ?_) he ho
    rw [gb_set om]
    split
    ·rfl
    ·exact ha.2.2 b hb
  refine Ev.cases (fun ht => key true ?_) (fun ht => Ev.bind (implPuts_ev _ _) (key _ ?_))
  ·have ht' : wrap64 (rd h a - tkV p c a) < 0 := ht
   simp [machI, ht']
  ·have ht' : ¬ wrap64 (rd h a - tkV p c a) < 0 := ht
   simp only [machI, show decide (wrap64 (rd h a - tkV p c a) < 0) = false from by simpa using ht', Bool.false_or]
   rfl
 induction hr with
 | @stop h w hn =>
  intro h0 h1 m hm hz
  refine impl_skip p c hc h w h1 _ c.length om (fun b _ => hn b) ?_ (c.length - m) m om
  refine Ev.succ ?_
  simp only [impl_heightsOf.l1]
  exact Ev.no om (Ev.now _)
 | @bad h w a h' e ha hs =>
  intro h0 h1 m hm hz
  refine step _ m hm hz ha h0 h1 (fun h'' e' q => ?_) (fun h'' w'' q => ?_)
  ·rw [hs] at q
   simp only [Except.error.injEq, Prod.mk.injEq] at q
   obtain ⟨rfl, rfl⟩ := q
   rfl
  ·rw [hs] at q; cases q
 | @go h w a h' w' r ha hs hr ih =>
  intro h0 h1 m hm hz
  have hl := step_len (M := machI p c) h0 h1 hs
  refine step _ m hm hz ha h0 h1 (fun h'' e' q => ?_) (fun h'' w'' q => ?_)
  ·rw [hs] at q; cases q
  ·rw [hs] at q
   simp only [Except.ok.injEq, Prod.mk.injEq] at q
   obtain ⟨rfl, rfl⟩ := q
   exact ih hl.1 hl.2
def h0V (L : Nat) : List Int := (List.replicate L (-1)).set 0 0
def w0V (L : Nat) : List Bool := (List.replicate L false).set 0 true
theorem fill_take {h : List Int} {L i : Nat} (hl : h.length = L) (hi : i < L) (ht : h.take i = List.replicate i (-1)) : (h.set i (-1)).take (i + 1) = List.replicate (i + 1) (-1) := by
 rw [List.take_succ_eq_append_getElem (by simp; omega), List.take_set_of_le (Nat.le_refl _), ht, List.getElem_set_self]
 simp [List.replicate_succ']
theorem rd_rep (L : Nat) (x : Int) (a : Nat) : rd (List.replicate L x) (a : Int) = if a < L then x else 0 := by
 rw [rd_nat, List.getD_eq_getElem?_getD, List.getElem?_replicate]
 split <;> rfl
theorem gb_rep (L : Nat) (a : Nat) : (List.replicate L false).getD a false = false := by
 rw [List.getD_eq_getElem?_getD, List.getElem?_replicate]
 split <;> rfl
theorem h0V_rd {L : Nat} (hL : 1 ≤ L) (a : Nat) : rd (h0V L) (a : Int) = if a = 0 then 0 else if a < L then -1 else 0 := by
 unfold h0V
 rw [rd_set (by simp; omega), rd_rep]
theorem w0V_gb {L : Nat} (hL : 1 ≤ L) (a : Nat) : (w0V L).getD a false = decide (a = 0) := by
 unfold w0V
 rw [gb_set (by simp; omega), gb_rep]
 by_cases h : a = 0 <;> simp [h]
def insAll (p : List S121) (f : Int) (c : List S153) : Prop := ∀ a, a < c.length → insRightV p f (cdI c a).f0 (cdI c a).f1 = true
def formF (p : List S121) (f : Int) (x : S121) : Prop := 0 ≤ x.f0 ∧ x.f0 ≤ 4 ∧ x.f0 ≤ x.f1 ∧ x.f1 ≤ 8 ∧ 1 ≤ x.f2.length ∧ x.f2.length ≤ 60 ∧ insAll p f x.f2
def fnI (p : List S121) (f : Nat) : S121 := rd_T121 p (f : Int)
theorem insAll_okJ {p : List S121} {f : Nat} (h : insAll p f (fnI p f).f2) : okJ (fnI p f).f2 := by
 intro a ha hj
 have := h a ha
 unfold insRightV at this
 split at this
 ·rw [if_neg om, if_neg om] at this
  try rw [if_pos hj] at this
  rw [Bool.and_eq_true, decide_eq_true_eq, decide_eq_true_eq] at this
  exact this
 ·cases this
theorem start_ends {M : Mach} (G : M.Good) (hL : 1 ≤ M.len) : ∃ r, Run M (h0V M.len) (w0V M.len) r := by
 refine run_ends G _ _ _ (by simp [h0V]) (by simp [w0V]) (fun b => ?_) (Nat.le_refl _)
 rw [h0V_rd hL]; split
 ·omega
 ·split <;> omega
theorem specHeights_ev {p : List S121} {f : Nat} (hf : f < p.length) (h1 : 1 ≤ (fnI p f).f2.length) (h2 : (fnI p f).f2.length ≤ 1048576) (hj : okJ (fnI p f).f2) {r : List Int × Int × Int}
  (hr : Run (machS p (fnI p f).f2) (h0V (fnI p f).f2.length) (w0V (fnI p f).f2.length) r) : Ev (fun k => spec_l04Heights.f k p (f : Int)) (r.1, (if r.2.2 = 0 then 0 else (f : Int)), r.2.1, r.2.2) := by
 unfold spec_l04Heights.f
 have e : (rd_T121 p (f : Int)).f2 = (fnI p f).f2 := rfl
 simp only [e]
 refine Ev.yes om (Ev.yes om (Ev.yes om (Ev.yes om ?_)))
 simp only [Int.toNat_natCast]
 have key : ∀ (d i : Nat) (h : List Int), i + d = (fnI p f).f2.length → h.length = (fnI p f).f2.length → h.take i = List.replicate i (-1) → Ev (fun k => spec_l04Heights.l0 k (f : Int) (fnI p f).f2 h (i : Int) p) (r.1, (if r.2.2 = 0 then 0 else (f : Int)), r.2.1, r.2.2) := by
  intro d
  induction d with
  | zero =>
   intro i h hi hl ht
   refine Ev.succ ?_
   simp only [spec_l04Heights.l0]
   refine Ev.no om (Ev.yes om (Ev.yes om (Ev.yes om ?_)))
   simp only [Option.bind_some, Int.toNat_natCast]
   refine Ev.yes (by simp; omega) ?_
   rw [List.take_of_length_le om] at ht
   have := spec_run (f : Int) h2 hj hr (by simp [h0V]) (by simp [w0V])
   rw [ht, show i = (fnI p f).f2.length by omega]
   exact this
  | succ d ih =>
   intro i h hi hl ht
   refine Ev.succ ?_
   simp only [spec_l04Heights.l0]
   refine Ev.yes om (Ev.yes om ?_)
   rw [idx_next (show i < (fnI p f).f2.length by omega) h2]
   simp only [Int.toNat_natCast]
   exact ih (i + 1) _ om (by simpa using hl) (fill_take hl om ht)
 exact key (fnI p f).f2.length 0 _ om (by simp) (by simp)
theorem implHeights_ev {p : List S121} {f : Nat} (hf : f < p.length) (h1 : 1 ≤ (fnI p f).f2.length) (h2 : (fnI p f).f2.length ≤ 1048576) (hj : okJ (fnI p f).f2) {r : List Int × Int × Int}
  (hr : Run (machI p (fnI p f).f2) (h0V (fnI p f).f2.length) (w0V (fnI p f).f2.length) r) : Ev (fun k => impl_heightsOf.f k p (f : Int)) r := by
 unfold impl_heightsOf.f
 have e : (rd_T121 p (f : Int)).f2 = (fnI p f).f2 := rfl
 simp only [e]
 refine Ev.yes om (Ev.yes om (Ev.yes om (Ev.yes om ?_)))
 simp only [Int.toNat_natCast, Option.bind_some, List.length_replicate]
 refine Ev.yes om ?_
 have key : ∀ (d i : Nat) (h : List Int), i + d = (fnI p f).f2.length → h.length = (fnI p f).f2.length → h.take i = List.replicate i (-1) → Ev (fun k => impl_heightsOf.l0 k (fnI p f).f2 h (List.replicate (fnI p f).f2.length false) ((fnI p f).f2.length : Int) (i : Int) p) r := by
  intro d
  induction d with
  | zero =>
   intro i h hi hl ht
   refine Ev.succ ?_
   simp only [impl_heightsOf.l0]
   refine Ev.no om (Ev.yes om (Ev.yes (by simp; omega) ?_))
   rw [List.take_of_length_le om] at ht
   have := impl_run h2 hj hr (by simp [h0V]) (by simp [w0V]) 0 om (fun b hb => by omega)
   rw [ht, show i = (fnI p f).f2.length by omega]
   exact this
  | succ d ih =>
   intro i h hi hl ht
   refine Ev.succ ?_
   simp only [impl_heightsOf.l0]
   refine Ev.yes om (Ev.yes om (Ev.yes om ?_))
   rw [idx_next (show i < (fnI p f).f2.length by omega) h2]
   simp only [Int.toNat_natCast]
   exact ih (i + 1) _ om (by simpa using hl) (fill_take hl om ht)
 exact key (fnI p f).f2.length 0 _ om (by simp) (by simp)
def rightS (p : List S121) (f : Nat) (h : List Int) : Prop := formF p f (fnI p f) ∧ Run (machS p (fnI p f).f2) (h0V (fnI p f).f2.length) (w0V (fnI p f).f2.length) (h, 0, 0)
def rightI (p : List S121) (f : Nat) (h : List Int) : Prop := formF p f (fnI p f) ∧ Run (machI p (fnI p f).f2) (h0V (fnI p f).f2.length) (w0V (fnI p f).f2.length) (h, 0, 0)
theorem form_okJ {p : List S121} {f : Nat} (h : formF p f (fnI p f)) : okJ (fnI p f).f2 := insAll_okJ h.2.2.2.2.2.2
theorem specFunc_ins {p : List S121} {f : Nat} (c : List S153) (hc : c.length ≤ 1048576) (b0 b1 : Int) {R : Int × Int × Int} (bad : ∀ a, a < c.length → insRightV p f (cdI c a).f0 (cdI c a).f1 = false → (∀ b, b < a → insRightV p f (cdI c b).f0 (cdI c b).f1 = true) → R = ((f : Int), (a : Int), 1))
  (good : insAll p f c → Ev (fun k => (spec_l04Heights.f k p (f : Int)).bind fun t => (some (t.2.1, t.2.2.1, t.2.2.2) : Option (Int × Int × Int))) R) : Ev (fun k => spec_l04Func.l0 k (f : Int) 0 p b0 b1 c) R := by
 have key : ∀ (d i : Nat), i + d = c.length → (∀ b, b < i → insRightV p f (cdI c b).f0 (cdI c b).f1 = true) → Ev (fun k => spec_l04Func.l0 k (f : Int) (i : Int) p b0 b1 c) R := by
  intro d
  induction d with
  | zero =>
   intro i hi hb
   refine Ev.succ ?_
   simp only [spec_l04Func.l0]
   exact Ev.no om (good (fun a ha => hb a om))
  | succ d ih =>
   intro i hi hb
   refine Ev.succ ?_
   simp only [spec_l04Func.l0]
   refine Ev.yes om (Ev.yes om (Ev.bind (specInsRight_ev p f _ _) ?_))
   show Ev (fun k => if insRightV p f (cdI c i).f0 (cdI c i).f1 = true then _ else _) R
   refine Ev.cases (fun ht => ?_) (fun ht => ?_)
   ·rw [idx_next (show i < c.length by omega) hc]
    refine ih (i + 1) om (fun b hb' => ?_)
    rcases Nat.lt_succ_iff_lt_or_eq.1 hb' with q | q
    ·exact hb b q
    ·rw [q]; exact ht
   ·rw [bad i om (by simpa using ht) hb]; exact Ev.now _
 exact key c.length 0 om (fun b hb => by omega)
theorem specFunc_ev (p : List S121) {f : Nat} (hf : f < p.length) : (∃ h, rightS p f h ∧ Ev (fun k => spec_l04Func.f k p (f : Int)) (0, 0, 0)) ∨ ((¬ ∃ h, rightS p f h ∧ Ev (fun k => spec_l04Func.f k p (f : Int)) (0, 0, 0)) ∧ ∃ r : Int × Int × Int, r.2.2 ≠ 0 ∧ Ev (fun k => spec_l04Func.f k p (f : Int)) r) := by
 by_cases hc : ∃ h, rightS p f h ∧ Ev (fun k => spec_l04Func.f k p (f : Int)) (0, 0, 0)
 ·exact Or.inl hc
 refine Or.inr ⟨hc, ?_⟩
 by_cases hs : 0 ≤ (fnI p f).f0 ∧ (fnI p f).f0 ≤ 4 ∧ (fnI p f).f0 ≤ (fnI p f).f1 ∧ (fnI p f).f1 ≤ 8 ∧ 1 ≤ (fnI p f).f2.length ∧ (fnI p f).f2.length ≤ 60
 case neg =>
  refine ⟨((f : Int), 0, 1), by simp, ?_⟩
  unfold spec_l04Func.f
  have e : rd_T121 p (f : Int) = fnI p f := rfl
  simp only [e]
  have bad : Ev (fun k => spec_l04Func.j0 k (f : Int) true p (fnI p f).f0 (fnI p f).f1 (fnI p f).f2) ((f : Int), 0, 1) := by
   refine Ev.succ ?_
   simp only [spec_l04Func.j0]
   exact Ev.yes (by simp) (Ev.now _)
  refine Ev.yes om (Ev.yes om (Ev.cases (fun _ => bad) (fun q0 => Ev.cases (fun _ => bad) (fun q1 => Ev.cases (fun _ => bad) (fun q2 => Ev.cases (fun _ => bad) (fun q3 => Ev.cases (fun _ => bad) (fun q4 => ?_)))))))
  rw [show decide (((fnI p f).f2.length : Int) > 60) = true from by simp; omega]
  exact bad
 obtain ⟨s0, s1, s2, s3, s4, s5⟩ := hs
 have go : ∀ R : Int × Int × Int, Ev (fun k => spec_l04Func.l0 k (f : Int) 0 p (fnI p f).f0 (fnI p f).f1 (fnI p f).f2) R → Ev (fun k => spec_l04Func.f k p (f : Int)) R := by
  intro R hR
  unfold spec_l04Func.f
  have e : rd_T121 p (f : Int) = fnI p f := rfl
  simp only [e]
  refine Ev.yes om (Ev.yes om (Ev.no om (Ev.no om (Ev.no om (Ev.no om (Ev.no om (Ev.succ ?_)))))))
  simp only [spec_l04Func.j0]
  exact Ev.no (by simp; omega) hR
 by_cases hi : insAll p f (fnI p f).f2
 case neg =>
  have : ∃ a, a < (fnI p f).f2.length ∧ insRightV p f (cdI (fnI p f).f2 a).f0 (cdI (fnI p f).f2 a).f1 = false := by
   refine Classical.byContradiction fun hn => hi (fun a ha => ?_)
   cases e : insRightV p f (cdI (fnI p f).f2 a).f0 (cdI (fnI p f).f2 a).f1
   ·exact absurd ⟨a, ha, e⟩ hn
   ·rfl
  have least : ∃ a, a < (fnI p f).f2.length ∧ insRightV p f (cdI (fnI p f).f2 a).f0 (cdI (fnI p f).f2 a).f1 = false ∧ ∀ b, b < a → insRightV p f (cdI (fnI p f).f2 b).f0 (cdI (fnI p f).f2 b).f1 = true := by
   obtain ⟨a, ha, hb⟩ := this
   have : ∀ n a, a ≤ n → a < (fnI p f).f2.length → insRightV p f (cdI (fnI p f).f2 a).f0 (cdI (fnI p f).f2 a).f1 = false → ∃ a, a < (fnI p f).f2.length ∧ insRightV p f (cdI (fnI p f).f2 a).f0 (cdI (fnI p f).f2 a).f1 = false ∧ ∀ b, b < a → insRightV p f (cdI (fnI p f).f2 b).f0 (cdI (fnI p f).f2 b).f1 = true := by
    intro n
    induction n with
    | zero => intro a h0 h1 h2; exact ⟨a, h1, h2, fun b hb => by omega⟩
    | succ n ih =>
     intro a h0 h1 h2
     by_cases hx : ∃ b, b < a ∧ insRightV p f (cdI (fnI p f).f2 b).f0 (cdI (fnI p f).f2 b).f1 = false
     ·obtain ⟨b, hb, hb2⟩ := hx
      exact ih b om om hb2
     ·refine ⟨a, h1, h2, fun b hb => ?_⟩
      cases e : insRightV p f (cdI (fnI p f).f2 b).f0 (cdI (fnI p f).f2 b).f1
      ·exact absurd ⟨b, hb, e⟩ hx
      ·rfl
   exact this a a (Nat.le_refl _) ha hb
  obtain ⟨a, h1, h2, h3⟩ := least
  refine ⟨((f : Int), (a : Int), 1), by simp, go _ (specFunc_ins _ om _ _ (fun b hb1 hb2 hb3 => ?_) (fun hg => absurd hg hi))⟩
  have : a = b := by
   rcases Nat.lt_trichotomy a b with q | q | q
   ·have := hb3 a q; rw [h2] at this; cases this
   ·exact q
   ·have := h3 b q; rw [hb2] at this; cases this
  rw [this]
 obtain ⟨r, hr⟩ := start_ends (goodS p _ (insAll_okJ hi)) s4
 have hh := specHeights_ev hf s4 om (insAll_okJ hi) hr
 have hfn := go _ (specFunc_ins _ om _ _ (fun a h1 h2 _ => by have := hi a h1; rw [this] at h2; cases h2) (fun _ => Ev.bind hh (Ev.now _)))
 have hlen := run_len hr (by simp [h0V, machS]) (by simp [w0V, machS])
 by_cases h0 : r.2.2 = 0
 ·exfalso
  have e : r = (r.1, 0, 0) := by
   obtain ⟨a, b, c⟩ := r
   simp only at h0 hlen ⊢
   rw [h0, hlen.2.2 h0]
  refine hc ⟨r.1, ⟨⟨s0, s1, s2, s3, s4, s5, hi⟩, e ▸ hr⟩, ?_⟩
  simpa [h0, hlen.2.2 h0] using hfn
 ·exact ⟨_, h0, hfn⟩
theorem specVerify_ev (p : List S121) : (1 ≤ p.length ∧ p.length ≤ 6 ∧ (∀ f, f < p.length → ∃ h, rightS p f h) ∧ Ev (fun k => spec_Verify.f k p) (0, 0, 0)) ∨ (¬ (1 ≤ p.length ∧ p.length ≤ 6 ∧ ∀ f, f < p.length → ∃ h, rightS p f h)) ∧ ∃ r : Int × Int × Int, r.2.2 ≠ 0 ∧ Ev (fun k => spec_Verify.f k p) r := by
 by_cases hl : 1 ≤ p.length ∧ p.length ≤ 6
 case neg =>
  refine Or.inr ⟨fun h => hl ⟨h.1, h.2.1⟩, (0, 0, 1), by simp, ?_⟩
  unfold spec_Verify.f
  have bad : Ev (fun k => spec_Verify.j0 k true p) (0, 0, 1) := by
   refine Ev.succ ?_
   simp only [spec_Verify.j0]
   exact Ev.yes (by simp) (Ev.now _)
  refine Ev.cases (fun _ => bad) (fun q => ?_)
  rw [show decide ((p.length : Int) > 6) = true from by simp; omega]
  exact bad
 have go : ∀ R : Int × Int × Int, Ev (fun k => spec_Verify.l0 k 0 p) R → Ev (fun k => spec_Verify.f k p) R := by
  intro R hR
  unfold spec_Verify.f
  refine Ev.no om (Ev.succ ?_)
  simp only [spec_Verify.j0]
  exact Ev.no (by simp; omega) hR
 by_cases ha : ∀ f, f < p.length → ∃ h, rightS p f h ∧ Ev (fun k => spec_l04Func.f k p (f : Int)) (0, 0, 0)
 ·refine Or.inl ⟨hl.1, hl.2, fun f hf => ?_, go _ ?_⟩
  ·obtain ⟨h, h1, _⟩ := ha f hf; exact ⟨h, h1⟩
  have key : ∀ (d i : Nat), i + d = p.length → Ev (fun k => spec_Verify.l0 k (i : Int) p) (0, 0, 0) := by
   intro d
   induction d with
   | zero =>
    intro i hi
    refine Ev.succ ?_
    simp only [spec_Verify.l0]
    exact Ev.no om (Ev.now _)
   | succ d ih =>
    intro i hi
    refine Ev.succ ?_
    simp only [spec_Verify.l0]
    obtain ⟨h, _, h2⟩ := ha i om
    refine Ev.yes om (Ev.bind h2 (Ev.yes rfl ?_))
    rw [idx_next (show i < p.length by omega) om]
    exact ih (i + 1) om
  exact key p.length 0 om
 ·have hb : ∃ f, f < p.length ∧ ¬ ∃ h, rightS p f h ∧ Ev (fun k => spec_l04Func.f k p (f : Int)) (0, 0, 0) := by
   refine Classical.byContradiction fun hn => ha (fun f hf => ?_)
   exact Classical.byContradiction fun hq => hn ⟨f, hf, hq⟩
  obtain ⟨f, hf, hbad⟩ := hb
  refine Or.inr ⟨fun hall => ?_, ?_⟩
  ·obtain ⟨h, hh⟩ := hall.2.2 f hf
   have s := hh.1
   have h1 := specHeights_ev hf s.2.2.2.2.1 (by have := s.2.2.2.2.2.1; omega) (form_okJ s) hh.2
   refine hbad ⟨h, hh, ?_⟩
   rcases specFunc_ev p hf with ⟨h', hh', e⟩ | ⟨hn, r, hr, e⟩
   ·exact e
   ·exfalso
    have e2 : Ev (fun k => spec_l04Func.f k p (f : Int)) (0, 0, 0) := by
     unfold spec_l04Func.f
     have e : rd_T121 p (f : Int) = fnI p f := rfl
     simp only [e]
     obtain ⟨s0, s1, s2, s3, s4, s5, s6⟩ := s
     refine Ev.yes om (Ev.yes om (Ev.no om (Ev.no om (Ev.no om (Ev.no om (Ev.no om (Ev.succ ?_)))))))
     simp only [spec_l04Func.j0]
     refine Ev.no (by simp; omega) (specFunc_ins _ om _ _ (fun a q1 q2 _ => by have := s6 a q1; rw [this] at q2; cases q2) (fun _ => Ev.bind h1 (by simpa using Ev.now _)))
    have := Pure.Ev.uniq e e2
    rw [this] at hr; exact hr rfl
  ·have key : ∀ (d i : Nat), i + d = f → ∃ r : Int × Int × Int, r.2.2 ≠ 0 ∧ Ev (fun k => spec_Verify.l0 k (i : Int) p) r := by
    intro d
    induction d with
    | zero =>
     intro i hi
     have e : i = f := by omega
     subst e
     rcases specFunc_ev p hf with q | ⟨_, r, hr, e⟩
     ·exact absurd q hbad
     ·refine ⟨r, hr, Ev.succ ?_⟩
      simp only [spec_Verify.l0]
      exact Ev.yes om (Ev.bind e (Ev.no hr (Ev.now _)))
    | succ d ih =>
     intro i hi
     rcases specFunc_ev p (show i < p.length by omega) with ⟨h, _, e⟩ | ⟨_, r, hr, e⟩
     ·obtain ⟨r, hr, e2⟩ := ih (i + 1) om
      refine ⟨r, hr, Ev.succ ?_⟩
      simp only [spec_Verify.l0]
      refine Ev.yes om (Ev.bind e (Ev.yes rfl ?_))
      rw [idx_next (show i < p.length by omega) om]
      exact e2
     ·refine ⟨r, hr, Ev.succ ?_⟩
      simp only [spec_Verify.l0]
      exact Ev.yes om (Ev.bind e (Ev.no hr (Ev.now _)))
   obtain ⟨r, hr, e⟩ := key f 0 om
   exact ⟨r, hr, go r e⟩
def rdH (hs : List (List Int)) (f : Nat) : List Int := rd_L20 hs (f : Int)
theorem smallTk {p : List S121} (hp : ∀ f, f < p.length → 0 ≤ (fnI p f).f0 ∧ (fnI p f).f0 ≤ 4) (c : List S153) (a : Nat) : 0 ≤ tkV p c a ∧ tkV p c a ≤ 4 := by
 unfold tkV
 by_cases h32 : (cdI c a).f0 = 32
 ·unfold takesV
  rw [h32, if_neg (by decide), if_neg (by decide), if_neg (by decide), if_pos rfl]
  split
  ·rename_i hh
   have := hasB_iff.1 hh
   have h1 := hp (cdI c a).f1.toNat om
   have e : (((cdI c a).f1.toNat : Nat) : Int) = (cdI c a).f1 := by omega
   unfold fnI at h1
   rw [e] at h1
   exact h1
  ·omega
 ·have := takesV_bd p (cdI c a).f0 (cdI c a).f1 h32
  omega
theorem small_bad {p : List S121} (hp : ∀ f, f < p.length → 0 ≤ (fnI p f).f0 ∧ (fnI p f).f0 ≤ 4) (c : List S153) (a : Nat) (x : Int) (hx : 0 ≤ x ∧ x ≤ 8) : (machI p c).bad a x = (machS p c).bad a x ∧ ((machS p c).bad a x = false → 0 ≤ nextH p c a x ∧ nextH p c a x ≤ 8) := by
 have ht := smallTk hp c a
 have hq := putsV_bd (cdI c a).f0
 have e1 : wrap64 (x - tkV p c a) = x - tkV p c a := wrap_in om om
 have e2 : nextH p c a x = x - tkV p c a + putsV (cdI c a).f0 := by unfold nextH; rw [e1]; exact wrap_in om om
 simp only [machI, machS, e1, e2]
 constructor
 ·congr 1
  have : (x - tkV p c a < 0) ↔ (tkV p c a > x) := by omega
  simp only [this]
 ·intro h
  simp only [Bool.or_eq_false_iff, decide_eq_false_iff_not] at h
  omega
theorem right_SI {p : List S121} (hp : ∀ f, f < p.length → 0 ≤ (fnI p f).f0 ∧ (fnI p f).f0 ≤ 4) (f : Nat) (h : List Int) : rightS p f h ↔ rightI p f h := by
 have i1 : ∀ L : Nat, 1 ≤ L → (∀ a : Nat, (w0V L).getD a false = true → 0 ≤ rd (h0V L) (a : Int) ∧ rd (h0V L) (a : Int) ≤ 8) := by
  intro L hL a ha
  rw [w0V_gb hL] at ha
  rw [h0V_rd hL, if_pos (by simpa using ha)]; omega
 have i2 : ∀ L : Nat, 1 ≤ L → (∀ a : Nat, (0 ≤ rd (h0V L) (a : Int) ∧ rd (h0V L) (a : Int) ≤ 8) ∨ rd (h0V L) (a : Int) < 0) := by
  intro L hL a
  rw [h0V_rd hL]
  split
  ·omega
  ·split <;> omega
 constructor
 ·rintro ⟨hf, hr⟩
  refine ⟨hf, run_same (M := machS p (fnI p f).f2) (M' := machI p (fnI p f).f2) (P := fun x => 0 ≤ x ∧ x ≤ 8) rfl rfl rfl (goodS p _ (form_okJ hf)) (fun a _ x hx => (small_bad hp _ a x hx).1) (fun a _ x hx hb => (small_bad hp _ a x hx).2 hb) hr (by simp [h0V, machS]) (by simp [w0V, machS]) (i1 _ hf.2.2.2.2.1) (i2 _ hf.2.2.2.2.1)⟩
 ·rintro ⟨hf, hr⟩
  refine ⟨hf, run_same (M := machI p (fnI p f).f2) (M' := machS p (fnI p f).f2) (P := fun x => 0 ≤ x ∧ x ≤ 8) rfl rfl rfl (goodI p _ (form_okJ hf)) (fun a _ x hx => (small_bad hp _ a x hx).1.symm) (fun a _ x hx hb => (small_bad hp _ a x hx).2 (by rw [← (small_bad hp _ a x hx).1]; exact hb)) hr (by simp [h0V, machI]) (by simp [w0V, machI]) (i1 _ hf.2.2.2.2.1) (i2 _ hf.2.2.2.2.1)⟩
theorem implFunc_ins {p : List S121} {f : Nat} (c : List S153) (hc : c.length ≤ 1048576) (acc : List (List Int)) (L I : Int) {R : Int × Int × Int × List (List Int)} (bad : ∀ a : Nat, a < c.length → insRightV p f (cdI c a).f0 (cdI c a).f1 = false → R = ((f : Int), (a : Int), 1, []) ∨ ∃ b, b < a ∧ insRightV p f (cdI c b).f0 (cdI c b).f1 = false)
  (good : insAll p f c → Ev (fun k => (impl_heightsOf.f k p (f : Int)).bind fun t => if t.2.2 = 0 then (if acc.length < 5864062014805 then impl_verify.l0 k (acc ++ [t.1]) p L (wrap64 (I + 1)) p else none) else some ((f : Int), t.2.1, t.2.2, [])) R) : Ev (fun k => impl_verify.l1 k acc (f : Int) p L I c (c.length : Int) 0 p) R := by
 have key : ∀ (d i : Nat), i + d = c.length → (∀ b, b < i → insRightV p f (cdI c b).f0 (cdI c b).f1 = true) → Ev (fun k => impl_verify.l1 k acc (f : Int) p L I c (c.length : Int) (i : Int) p) R := by
  intro d
  induction d with
  | zero =>
   intro i hi hb
   refine Ev.succ ?_
   simp only [impl_verify.l1]
   exact Ev.no om (good (fun a ha => hb a om))
  | succ d ih =>
   intro i hi hb
   refine Ev.succ ?_
   simp only [impl_verify.l1]
   refine Ev.yes om (Ev.yes om (Ev.yes om (Ev.bind (implInsRight_ev p f _ _) ?_)))
   show Ev (fun k => if insRightV p f (cdI c i).f0 (cdI c i).f1 = true then _ else _) R
   refine Ev.cases (fun ht => ?_) (fun ht => ?_)
   ·rw [idx_next (show i < c.length by omega) hc]
    refine ih (i + 1) om (fun b hb' => ?_)
    rcases Nat.lt_succ_iff_lt_or_eq.1 hb' with q | q
    ·exact hb b q
    ·rw [q]; exact ht
   ·rcases bad i om (by simpa using ht) with q | ⟨b, q1, q2⟩
    ·rw [q]; exact Ev.now _
    ·rw [hb b q1] at q2; cases q2
 exact key c.length 0 om (fun b hb => by omega)
theorem impl_form {p : List S121} {f : Nat} (hf : f < p.length) (acc : List (List Int)) {R : Int × Int × Int × List (List Int)}
  (bad : ¬ (0 ≤ (fnI p f).f0 ∧ (fnI p f).f0 ≤ 4 ∧ (fnI p f).f0 ≤ (fnI p f).f1 ∧ (fnI p f).f1 ≤ 8 ∧ 1 ≤ (fnI p f).f2.length ∧ (fnI p f).f2.length ≤ 60) → R = ((f : Int), 0, 1, []))
  (good : (0 ≤ (fnI p f).f0 ∧ (fnI p f).f0 ≤ 4 ∧ (fnI p f).f0 ≤ (fnI p f).f1 ∧ (fnI p f).f1 ≤ 8 ∧ 1 ≤ (fnI p f).f2.length ∧ (fnI p f).f2.length ≤ 60) → Ev (fun k => impl_verify.l1 k acc (f : Int) p (p.length : Int) (f : Int) (fnI p f).f2 ((fnI p f).f2.length : Int) 0 p) R) :
  Ev (fun k => impl_verify.l0 k acc p (p.length : Int) (f : Int) p) R := by
 refine Ev.succ ?_
 simp only [impl_verify.l0]
 have e : rd_T121 p (f : Int) = fnI p f := rfl
 simp only [e]
 have key : ∀ b : Bool, (b = true ↔ ¬ (0 ≤ (fnI p f).f0 ∧ (fnI p f).f0 ≤ 4 ∧ (fnI p f).f0 ≤ (fnI p f).f1 ∧ (fnI p f).f1 ≤ 8 ∧ 1 ≤ (fnI p f).f2.length ∧ (fnI p f).f2.length ≤ 60)) → Ev (fun k => impl_verify.j2 k acc (f : Int) p (p.length : Int) (f : Int) b p (fnI p f).f0 (fnI p f).f1 (fnI p f).f2) R := by
  intro b hb
  refine Ev.succ ?_
  simp only [impl_verify.j2]
  refine Ev.cases (fun q => ?_) (fun q => ?_)
  ·rw [bad (hb.1 q)]; exact Ev.now _
  ·exact good (Classical.not_not.1 fun hn => q (hb.2 hn))
 refine Ev.yes om (Ev.yes om (Ev.yes om (Ev.flat (in_some _ _ _) ?_)))
 refine Ev.cases (fun q0 => ?_) (fun q0 => ?_)
 ·simp only [Bool.and_eq_true, decide_eq_true_eq] at q0
  refine Ev.flat (in_some _ _ _) (Ev.cases (fun q1 => ?_) (fun q1 => ?_))
  ·simp only [Bool.and_eq_true, decide_eq_true_eq] at q1
   refine Ev.flat (in_some _ _ _) (key _ ?_)
   simp only [Bool.not_eq_true', Bool.and_eq_false_iff, decide_eq_false_iff_not]
   omega
  ·simp only [Bool.and_eq_true, decide_eq_true_eq] at q1
   exact key true (by simp only [true_iff]; omega)
 ·simp only [Bool.and_eq_true, decide_eq_true_eq] at q0
  exact key true (by simp only [true_iff]; omega)
theorem impl_step_good {p : List S121} {f : Nat} (hf : f < p.length) (hl : p.length ≤ 1048576) {h : List Int} (hr : rightI p f h) (acc : List (List Int)) (ha : acc.length ≤ 1048576) {R : Int × Int × Int × List (List Int)}
  (hR : Ev (fun k => impl_verify.l0 k (acc ++ [h]) p (p.length : Int) ((f + 1 : Nat) : Int) p) R) : Ev (fun k => impl_verify.l0 k acc p (p.length : Int) (f : Int) p) R := by
 obtain ⟨⟨s0, s1, s2, s3, s4, s5, s6⟩, hrun⟩ := hr
 refine impl_form hf acc (fun hb => absurd ⟨s0, s1, s2, s3, s4, s5⟩ hb) (fun _ => ?_)
 refine implFunc_ins _ om acc _ _ (fun a q1 q2 => by rw [s6 a q1] at q2; cases q2) (fun _ => ?_)
 refine Ev.bind (implHeights_ev hf s4 om (insAll_okJ s6) hrun) (Ev.yes rfl (Ev.yes om ?_))
 rw [idx_next hf hl]
 exact hR
theorem impl_step_bad {p : List S121} {f : Nat} (hf : f < p.length) (hn : ¬ ∃ h, rightI p f h) : ∃ r : Int × Int × Int × List (List Int), r.2.2.1 ≠ 0 ∧ ∀ acc, Ev (fun k => impl_verify.l0 k acc p (p.length : Int) (f : Int) p) r := by
 by_cases hs : 0 ≤ (fnI p f).f0 ∧ (fnI p f).f0 ≤ 4 ∧ (fnI p f).f0 ≤ (fnI p f).f1 ∧ (fnI p f).f1 ≤ 8 ∧ 1 ≤ (fnI p f).f2.length ∧ (fnI p f).f2.length ≤ 60
 case neg => exact ⟨((f : Int), 0, 1, []), by simp, fun acc => impl_form hf acc (fun _ => rfl) (fun h => absurd h hs)⟩
 obtain ⟨s0, s1, s2, s3, s4, s5⟩ := hs
 by_cases hi : insAll p f (fnI p f).f2
 case neg =>
  have : ∃ a, a < (fnI p f).f2.length ∧ insRightV p f (cdI (fnI p f).f2 a).f0 (cdI (fnI p f).f2 a).f1 = false := by
   refine Classical.byContradiction fun hn => hi (fun a ha => ?_)
   cases e : insRightV p f (cdI (fnI p f).f2 a).f0 (cdI (fnI p f).f2 a).f1
   ·exact absurd ⟨a, ha, e⟩ hn
   ·rfl
  obtain ⟨a, ha, hb⟩ := this
  have least : ∀ n a, a ≤ n → a < (fnI p f).f2.length → insRightV p f (cdI (fnI p f).f2 a).f0 (cdI (fnI p f).f2 a).f1 = false → ∃ a, a < (fnI p f).f2.length ∧ insRightV p f (cdI (fnI p f).f2 a).f0 (cdI (fnI p f).f2 a).f1 = false ∧ ∀ b, b < a → insRightV p f (cdI (fnI p f).f2 b).f0 (cdI (fnI p f).f2 b).f1 = true := by
   intro n
   induction n with
   | zero => intro a h0 h1 h2; exact ⟨a, h1, h2, fun b hb => by omega⟩
   | succ n ih =>
    intro a h0 h1 h2
    by_cases hx : ∃ b, b < a ∧ insRightV p f (cdI (fnI p f).f2 b).f0 (cdI (fnI p f).f2 b).f1 = false
    ·obtain ⟨b, hb, hb2⟩ := hx
     exact ih b om om hb2
    ·refine ⟨a, h1, h2, fun b hb => ?_⟩
     cases e : insRightV p f (cdI (fnI p f).f2 b).f0 (cdI (fnI p f).f2 b).f1
     ·exact absurd ⟨b, hb, e⟩ hx
     ·rfl
  obtain ⟨a, h1, h2, h3⟩ := least a a (Nat.le_refl _) ha hb
  refine ⟨((f : Int), (a : Int), 1, []), by simp, fun acc => impl_form hf acc (fun hb => absurd ⟨s0, s1, s2, s3, s4, s5⟩ hb) (fun _ => implFunc_ins _ om acc _ _ (fun b q1 q2 => ?_) (fun hg => absurd hg hi))⟩
  rcases Nat.lt_trichotomy a b with q | q | q
  ·exact Or.inr ⟨a, q, h2⟩
  ·exact Or.inl (by rw [q])
  ·rw [h3 b q] at q2; cases q2
 obtain ⟨r, hr⟩ := start_ends (goodI p _ (insAll_okJ hi)) s4
 have hlen := run_len hr (by simp [h0V, machI]) (by simp [w0V, machI])
 by_cases h0 : r.2.2 = 0
 ·exfalso
  have e : r = (r.1, 0, 0) := by
   obtain ⟨a, b, c⟩ := r
   simp only at h0 hlen ⊢
   rw [h0, hlen.2.2 h0]
  exact hn ⟨r.1, ⟨s0, s1, s2, s3, s4, s5, hi⟩, e ▸ hr⟩
 ·refine ⟨((f : Int), r.2.1, r.2.2, []), h0, fun acc => impl_form hf acc (fun hb => absurd ⟨s0, s1, s2, s3, s4, s5⟩ hb) (fun _ => implFunc_ins _ om acc _ _ (fun a q1 q2 => by rw [hi a q1] at q2; cases q2) (fun _ => ?_))⟩
  exact Ev.bind (implHeights_ev hf s4 om (insAll_okJ hi) hr) (Ev.no h0 (Ev.now _))
theorem rdH_nat (hs : List (List Int)) (f : Nat) : rdH hs f = hs.getD f [] := by simp [rdH, rd_L20]
theorem implVerify_ev (p : List S121) : (1 ≤ p.length ∧ p.length ≤ 6 ∧ (∃ hs : List (List Int), hs.length = p.length ∧ (∀ f, f < p.length → rightI p f (rdH hs f)) ∧ Ev (fun k => impl_verify.f k p) (0, 0, 0, hs))) ∨ (¬ (1 ≤ p.length ∧ p.length ≤ 6 ∧ ∀ f, f < p.length → ∃ h, rightI p f h)) ∧ ∃ r : Int × Int × Int × List (List Int), r.2.2.1 ≠ 0 ∧ Ev (fun k => impl_verify.f k p) r := by
 by_cases hl : 1 ≤ p.length ∧ p.length ≤ 6
 case neg =>
  refine Or.inr ⟨fun h => hl ⟨h.1, h.2.1⟩, (0, 0, 1, []), by simp, ?_⟩
  unfold impl_verify.f
  have bad : Ev (fun k => impl_verify.j0 k true p) (0, 0, 1, []) := by
   refine Ev.succ ?_
   simp only [impl_verify.j0]
   exact Ev.yes (by simp) (Ev.now _)
  refine Ev.cases (fun _ => bad) (fun q => ?_)
  rw [show decide ((p.length : Int) > 6) = true from by simp; omega]
  exact bad
 have go : ∀ R : Int × Int × Int × List (List Int), Ev (fun k => impl_verify.l0 k [] p (p.length : Int) 0 p) R → Ev (fun k => impl_verify.f k p) R := by
  intro R hR
  unfold impl_verify.f
  refine Ev.no om (Ev.succ ?_)
  simp only [impl_verify.j0]
  exact Ev.no (by simp; omega) hR
 by_cases ha : ∀ f, f < p.length → ∃ h, rightI p f h
 ·refine Or.inl ⟨hl.1, hl.2, ?_⟩
  have key : ∀ (d i : Nat) (acc : List (List Int)), i + d = p.length → acc.length = i → (∀ f, f < i → rightI p f (rdH acc f)) → ∃ hs : List (List Int), hs.length = p.length ∧ (∀ f, f < p.length → rightI p f (rdH hs f)) ∧ Ev (fun k => impl_verify.l0 k acc p (p.length : Int) (i : Int) p) (0, 0, 0, hs) := by
   intro d
   induction d with
   | zero =>
    intro i acc hi hl hr
    refine ⟨acc, by omega, fun f hf => hr f om, Ev.succ ?_⟩
    simp only [impl_verify.l0]
    exact Ev.no om (Ev.now _)
   | succ d ih =>
    intro i acc hi hal hr
    obtain ⟨h, hh⟩ := ha i om
    obtain ⟨hs, h1, h2, h3⟩ := ih (i + 1) (acc ++ [h]) om (by simp; omega) (fun f hf => by
     rw [rdH_nat, List.getD_eq_getElem?_getD]
     rcases Nat.lt_succ_iff_lt_or_eq.1 hf with q | q
     ·have := hr f q
      rw [rdH_nat, List.getD_eq_getElem?_getD] at this
      rw [List.getElem?_append_left om]; exact this
     ·rw [q, List.getElem?_append_right om, hal]; simpa using hh)
    exact ⟨hs, h1, h2, impl_step_good om om hh acc om h3⟩
  obtain ⟨hs, h1, h2, h3⟩ := key p.length 0 [] om rfl (fun f hf => by omega)
  exact ⟨hs, h1, h2, go _ h3⟩
 ·refine Or.inr ⟨fun h => ha h.2.2, ?_⟩
  have hb : ∃ f, f < p.length ∧ ¬ ∃ h, rightI p f h := by
   refine Classical.byContradiction fun hn => ha (fun f hf => ?_)
   exact Classical.byContradiction fun hq => hn ⟨f, hf, hq⟩
  obtain ⟨f, hf, hbad⟩ := hb
  have key : ∀ (d i : Nat) (acc : List (List Int)), i + d = f → acc.length = i → ∃ r : Int × Int × Int × List (List Int), r.2.2.1 ≠ 0 ∧ Ev (fun k => impl_verify.l0 k acc p (p.length : Int) (i : Int) p) r := by
   intro d
   induction d with
   | zero =>
    intro i acc hi hal
    have e : i = f := by omega
    subst e
    obtain ⟨r, h1, h2⟩ := impl_step_bad hf hbad
    exact ⟨r, h1, h2 acc⟩
   | succ d ih =>
    intro i acc hi hal
    by_cases hq : ∃ h, rightI p i h
    ·obtain ⟨h, hh⟩ := hq
     obtain ⟨r, h1, h2⟩ := ih (i + 1) (acc ++ [h]) om (by simp; omega)
     exact ⟨r, h1, impl_step_good om om hh acc om h2⟩
    ·obtain ⟨r, h1, h2⟩ := impl_step_bad (show i < p.length by omega) hq
     exact ⟨r, h1, h2 acc⟩
  obtain ⟨r, h1, h2⟩ := key f 0 [] om rfl
  exact ⟨r, h1, go _ h2⟩
theorem verify_both (p : List S121) : (1 ≤ p.length ∧ p.length ≤ 6 ∧ ∃ hs : List (List Int), hs.length = p.length ∧ (∀ f, f < p.length → rightS p f (rdH hs f)) ∧ Ev (fun k => spec_Verify.f k p) (0, 0, 0) ∧ Ev (fun k => impl_verify.f k p) (0, 0, 0, hs)) ∨
  (∃ r : Int × Int × Int, ∃ r' : Int × Int × Int × List (List Int), r.2.2 ≠ 0 ∧ r'.2.2.1 ≠ 0 ∧ Ev (fun k => spec_Verify.f k p) r ∧ Ev (fun k => impl_verify.f k p) r') := by
 have small : ∀ q : Nat → List Int → Prop, (q = rightS p ∨ q = rightI p) → (∀ f, f < p.length → ∃ h, q f h) → ∀ f, f < p.length → 0 ≤ (fnI p f).f0 ∧ (fnI p f).f0 ≤ 4 := by
  intro q hq ha f hf
  obtain ⟨h, hh⟩ := ha f hf
  rcases hq with e | e <;> subst e <;> exact ⟨hh.1.1, hh.1.2.1⟩
 rcases specVerify_ev p with ⟨h1, h2, h3, h4⟩ | ⟨hn, r, hr, he⟩
 ·rcases implVerify_ev p with ⟨_, _, hs, g1, g2, g3⟩ | ⟨gn, _⟩
  ·exact Or.inl ⟨h1, h2, hs, g1, fun f hf => (right_SI (small _ (Or.inl rfl) h3) f _).2 (g2 f hf), h4, g3⟩
  ·exact absurd ⟨h1, h2, fun f hf => by obtain ⟨h, hh⟩ := h3 f hf; exact ⟨h, (right_SI (small _ (Or.inl rfl) h3) f _).1 hh⟩⟩ gn
 ·rcases implVerify_ev p with ⟨h1, h2, hs, g1, g2, g3⟩ | ⟨_, r', hr', he'⟩
  ·have h3 : ∀ f, f < p.length → ∃ h, rightI p f h := fun f hf => ⟨_, g2 f hf⟩
   exact absurd ⟨h1, h2, fun f hf => ⟨_, (right_SI (small _ (Or.inr rfl) h3) f _).2 (g2 f hf)⟩⟩ hn
  ·exact Or.inr ⟨r, r', hr, hr', he, he'⟩
structure RightP (p : List S121) (hs : List (List Int)) : Prop where
 pos : 1 ≤ p.length
 six : p.length ≤ 6
 len : hs.length = p.length
 fn : ∀ f, f < p.length → rightS p f (rdH hs f)
theorem RightP.hlen {p : List S121} {hs : List (List Int)} (R : RightP p hs) {f : Nat} (hf : f < p.length) : (rdH hs f).length = (fnI p f).f2.length := (run_len (R.fn f hf).2 (by simp [h0V, machS]) (by simp [w0V, machS])).1
theorem RightP.form {p : List S121} {hs : List (List Int)} (R : RightP p hs) {f : Nat} (hf : f < p.length) : formF p f (fnI p f) := (R.fn f hf).1
theorem RightP.heights {p : List S121} {hs : List (List Int)} (R : RightP p hs) {f : Nat} (hf : f < p.length) : Ev (fun k => spec_l04Heights.f k p (f : Int)) (rdH hs f, 0, 0, 0) := by
 have s := R.form hf
 exact specHeights_ev hf s.2.2.2.2.1 (by have := s.2.2.2.2.2.1; omega) (form_okJ s) (R.fn f hf).2
theorem known_both (p : List S121) : (∃ hs, RightP p hs ∧ Ev (fun k => spec_l04Right.f k p) true ∧ Ev (fun k => impl_known.f k p) (p, hs, true)) ∨ (∃ hs, Ev (fun k => spec_l04Right.f k p) false ∧ Ev (fun k => impl_known.f k p) (p, hs, false)) := by
 rcases verify_both p with ⟨h1, h2, hs, h3, h4, h5, h6⟩ | ⟨r, r', h1, h2, h3, h4⟩
 ·refine Or.inl ⟨hs, ⟨h1, h2, h3, h4⟩, ?_, ?_⟩
  ·unfold spec_l04Right.f; exact Ev.bind h5 (Ev.now _)
  ·unfold impl_known.f; exact Ev.bind h6 (Ev.now _)
 ·refine Or.inr ⟨r'.2.2.2, ?_, ?_⟩
  ·unfold spec_l04Right.f
   refine Ev.bind h3 ?_
   rw [beq_no h1]; exact Ev.now _
  ·unfold impl_known.f
   refine Ev.bind h4 ?_
   rw [beq_no h2]; exact Ev.now _
theorem is_both (p : List S121) (f : Int) : (∃ hs, RightP p hs ∧ Ev (fun k => spec_l04Is.f k p f) (hasB p f) ∧ Ev (fun k => impl_known.f k p) (p, hs, true)) ∨ (∃ hs, Ev (fun k => spec_l04Is.f k p f) false ∧ Ev (fun k => impl_known.f k p) (p, hs, false)) := by
 rcases known_both p with ⟨hs, h1, h2, h3⟩ | ⟨hs, h1, h2⟩
 ·refine Or.inl ⟨hs, h1, ?_, h3⟩
  unfold spec_l04Is.f
  refine Ev.bind h2 (Ev.yes rfl ?_)
  simp only [and_some]
  exact Ev.now _
 ·refine Or.inr ⟨hs, ?_, h2⟩
  unfold spec_l04Is.f
  exact Ev.bind h1 (Ev.no (by simp) (Ev.now _))
theorem nexts_closed (len : Nat) (v : Int) (hv : 0 ≤ v) : ∀ (l h : List Int) (w : List Bool), h.length = len → w.length = len → (∀ n ∈ l, 0 ≤ n) → ∀ h' w', nexts len v l h w = .ok (h', w') →
  (∀ n ∈ l, n < (len : Int) ∧ rd h' n = v) ∧ (∀ a : Nat, 0 ≤ rd h (a : Int) → rd h' (a : Int) = rd h (a : Int) ∧ w'.getD a false = w.getD a false) ∧ (∀ a : Nat, rd h (a : Int) < 0 → rd h' (a : Int) < 0 ∨ w'.getD a false = true) ∧ ((∀ a : Nat, w.getD a false = true → 0 ≤ rd h (a : Int)) → ∀ a : Nat, w'.getD a false = true → 0 ≤ rd h' (a : Int))
 | [], h, w, _, _, _, h', w', e => by
  simp only [nexts, Except.ok.injEq, Prod.mk.injEq] at e
  obtain ⟨rfl, rfl⟩ := e
  exact ⟨fun n hn => by simp at hn, fun a ha => ⟨rfl, rfl⟩, fun a ha => Or.inl ha, fun k => k⟩
 | n :: r, h, w, h0, h1, hn, h', w', e => by
  simp only [nexts] at e
  have hn0 := hn n (by simp)
  split at e
  ·cases e
  rename_i hlt
  obtain ⟨m, rfl⟩ : ∃ m : Nat, n = (m : Int) := ⟨n.toNat, by omega⟩
  have hm : m < h.length := by omega
  split at e
  ·cases e
  rename_i hne
  split at e
  ·rename_i hneg
   rw [Int.toNat_natCast] at e
   obtain ⟨k1, k2, k3, k4⟩ := nexts_closed len v hv r _ _ (by simpa using h0) (by simpa using h1) (fun q hq => hn q (by simp [hq])) h' w' e
   have hs := fun i => rd_set hm v i
   have ws := fun i => gb_set (show m < w.length by omega) true i
   have km : rd h' (m : Int) = v := by
    have := (k2 m (by rw [hs, if_pos rfl]; exact hv)).1
    rw [this, hs, if_pos rfl]
   refine ⟨fun q hq => ?_, fun a ha => ?_, fun a ha => ?_, fun k => k4 (fun a ha => ?_)⟩
   ·rcases List.mem_cons.1 hq with rfl | hq
    ·exact ⟨by omega, km⟩
    ·exact k1 q hq
   ·have hne : a ≠ m := by rintro rfl; omega
    have := k2 a (by rw [hs, if_neg hne]; exact ha)
    rw [hs, if_neg hne, ws, if_neg hne] at this
    exact this
   ·by_cases ham : a = m
    ·subst ham
     right
     have := (k2 a (by rw [hs, if_pos rfl]; exact hv)).2
     rw [this, ws, if_pos rfl]
    ·exact k3 a (by rw [hs, if_neg ham]; exact ha)
   ·by_cases ham : a = m
    ·subst ham; rw [hs, if_pos rfl]; exact hv
    ·rw [ws, if_neg ham] at ha
     rw [hs, if_neg ham]; exact k a ha
  ·rename_i hpos
   obtain ⟨k1, k2, k3, k4⟩ := nexts_closed len v hv r _ _ h0 h1 (fun q hq => hn q (by simp [hq])) h' w' e
   refine ⟨fun q hq => ?_, k2, k3, k4⟩
   rcases List.mem_cons.1 hq with rfl | hq
   ·have h2 : 0 ≤ rd h (m : Int) := by omega
    have h3 : rd h (m : Int) = v := Classical.byContradiction fun x => hne ⟨h2, x⟩
    exact ⟨by omega, (k2 m h2).1.trans h3⟩
   ·exact k1 q hq
def closedM (M : Mach) (h : List Int) (a : Nat) : Prop := M.bad a (rd h (a : Int)) = false ∧ ∀ n ∈ M.nx a, n < (M.len : Int) ∧ rd h n = M.v a (rd h (a : Int))
theorem run_closed {M : Mach} (G : M.Good) (hv : ∀ a, a < M.len → ∀ x, 0 ≤ x → x ≤ 8 → M.bad a x = false → 0 ≤ M.v a x ∧ M.v a x ≤ 8) {h : List Int} {w : List Bool} {r : List Int × Int × Int} (hr : Run M h w r) : h.length = M.len → w.length = M.len → (∀ a : Nat, -1 ≤ rd h (a : Int) ∧ rd h (a : Int) ≤ 8) →
  (∀ a : Nat, w.getD a false = true → 0 ≤ rd h (a : Int)) → (∀ a : Nat, a < M.len → 0 ≤ rd h (a : Int) → w.getD a false = false → closedM M h a) → r.2.2 = 0 → (∀ a : Nat, -1 ≤ rd r.1 (a : Int) ∧ rd r.1 (a : Int) ≤ 8) ∧ ∀ a : Nat, a < M.len → 0 ≤ rd r.1 (a : Int) → closedM M r.1 a := by
 induction hr with
 | stop hw => exact fun _ _ h8 _ hc _ => ⟨h8, fun a ha h0 => hc a ha h0 (hw a)⟩
 | bad hl e =>
  intro h0 h1 _ _ _ hz
  simp only at hz
  have := (step_bad h0 e).2
  omega
 | @go h w a h' w' r hl e hr ih =>
  intro h0 h1 h8 hw hc hz
  have hlen := step_len h0 h1 e
  have ha : a < M.len := by have := hl.1; omega
  unfold Mach.step at e
  split at e
  ·cases e
  rename_i hb
  have hb : M.bad a (rd h (a : Int)) = false := by simpa using hb
  have ha0 := hw a hl.2.1
  have hva := hv a ha _ ha0 (h8 a).2 hb
  have ws := fun i => gb_set (show a < w.length by omega) false i
  obtain ⟨k1, k2, k3, k4⟩ := nexts_closed M.len (M.v a (rd h (a : Int))) hva.1 (M.nx a) h (w.set a false) h0 (by simpa using h1) (G.nn a ha) h' w' e
  refine ih hlen.1 hlen.2 (nexts_all (P := fun x => -1 ≤ x ∧ x ≤ 8) M.len _ ⟨by omega, hva.2⟩ _ h _ h0 (G.nn a ha) h8 h' w' e) (k4 (fun b hbw => ?_)) (fun b hbl hb0 hbw => ?_) hz
  ·rw [ws] at hbw
   split at hbw
   ·cases hbw
   ·exact hw b hbw
  ·by_cases hbn : rd h (b : Int) < 0
   ·rcases k3 b hbn with q | q
    ·omega
    ·rw [hbw] at q; cases q
   have hbk := k2 b om
   have e1 := hbk.1
   have e2 := hbk.2
   rw [hbw, ws] at e2
   unfold closedM
   rw [e1]
   by_cases hba : b = a
   ·subst hba
    exact ⟨hb, k1⟩
   ·rw [if_neg hba] at e2
    obtain ⟨c1, c2⟩ := hc b hbl om e2.symm
    refine ⟨c1, fun n hn => ?_⟩
    have c3 := c2 n hn
    have hn0 := G.nn b hbl n hn
    obtain ⟨m, rfl⟩ : ∃ m : Nat, n = (m : Int) := ⟨n.toNat, by omega⟩
    refine ⟨c3.1, ?_⟩
    have hvb := hv b hbl _ om (h8 b).2 c1
    rw [(k2 m (by rw [c3.2]; exact hvb.1)).1, c3.2]
theorem RightP.args {p : List S121} {hs : List (List Int)} (R : RightP p hs) : ∀ f, f < p.length → 0 ≤ (fnI p f).f0 ∧ (fnI p f).f0 ≤ 4 := fun f hf => ⟨(R.form hf).1, (R.form hf).2.1⟩
theorem RightP.ends {p : List S121} {hs : List (List Int)} (R : RightP p hs) {f : Nat} (hf : f < p.length) : (∀ a : Nat, -1 ≤ rd (rdH hs f) (a : Int) ∧ rd (rdH hs f) (a : Int) ≤ 8) ∧ ∀ a : Nat, a < (fnI p f).f2.length → 0 ≤ rd (rdH hs f) (a : Int) → closedM (machS p (fnI p f).f2) (rdH hs f) a := by
 obtain ⟨hform, hrun⟩ := R.fn f hf
 have G := goodS p (fnI p f).f2 (form_okJ hform)
 have hL : 1 ≤ (fnI p f).f2.length := hform.2.2.2.2.1
 have sb := small_bad R.args (fnI p f).f2
 exact run_closed G (fun b hb x hx h8 hbad => (sb b x ⟨hx, h8⟩).2 hbad) hrun (by simp [h0V, machS]) (by simp [w0V, machS]) (fun b => by rw [h0V_rd hL]; repeat' split <;> omega)
  (fun b hb => by rw [w0V_gb hL] at hb; simp only [decide_eq_true_eq] at hb; rw [h0V_rd hL, if_pos hb]; omega)
  (fun b hb hb0 hbw => by
   rw [w0V_gb hL] at hbw
   simp only [decide_eq_false_iff_not] at hbw
   have hb' : b < (fnI p f).f2.length := hb
   rw [h0V_rd hL, if_neg hbw, if_pos hb'] at hb0
   omega) rfl
theorem implReached_some {p : List S121} {hs : List (List Int)} (R : RightP p hs) {g : Nat} (hg : g < p.length) {a : Nat} (ha : a < (fnI p g).f2.length) : impl_prog_reached.f p hs (g : Int) (a : Int) = some (decide (0 ≤ rd (rdH hs g) (a : Int))) := by
 unfold impl_prog_reached.f
 have hl := R.hlen hg
 have hh := R.len
 have e : rd_L20 hs (g : Int) = rdH hs g := rfl
 rw [hasFunc_some, Option.bind_some, if_pos (hasB_iff.2 ⟨by omega, by omega⟩), if_pos om, if_pos om, if_pos om, e, if_pos om, if_pos om]
theorem all_loop {α : Type} {L : Nat → Int → Option Bool} {E : Nat → α → Option Bool} {s : α → Bool} {fin : Nat → Option Bool} {R : Bool} (z : α) (x : List α) (hx : x.length ≤ 1048576)
  (h1 : ∀ (k i : Nat), i < x.length → L (k + 1) (i : Int) = (E k (x.getD i z)).bind fun t => if t = true then L k (wrap64 ((i : Int) + 1)) else some false)
  (h0 : ∀ (k : Nat), L (k + 1) (x.length : Int) = fin k)
  (hE : ∀ a ∈ x, Ev (fun k => E k a) (s a)) (hf : Ev fin R) : Ev (fun k => L k 0) (x.all s && R) := by
 have key : ∀ (d i : Nat), i + d = x.length → Ev (fun k => L k (i : Int)) ((x.drop i).all s && R) := by
  intro d
  induction d with
  | zero =>
   intro i hi
   refine Ev.succ ?_
   rw [List.drop_of_length_le om, show i = x.length by omega]
   simp only [h0]
   simpa using hf
  | succ d ih =>
   intro i hi
   have hlt : i < x.length := by omega
   refine Ev.succ ?_
   simp only [h1 _ i hlt]
   rw [drop_at x z i hlt, idx_next hlt hx]
   have hm : x.getD i z ∈ x := by
    rw [List.getD_eq_getElem?_getD, List.getElem?_eq_getElem hlt]; exact List.getElem_mem hlt
   refine Ev.bind (hE _ hm) ?_
   rw [List.all_cons]
   cases h : s (x.getD i z) with
   | true => exact Ev.yes rfl (by rw [Bool.true_and]; exact ih (i + 1) om)
   | false => exact Ev.no (by simp) (by rw [Bool.false_and, Bool.false_and]; exact Ev.now false)
 exact key x.length 0 om
def locB (n : Int) : Bool := decide (0 ≤ n) && decide (n < 22)
def valB (v : S82) : Bool := if v.f0 = 0 then v.f1 == 0 else if v.f0 = 1 then locB v.f1 else v.f0 == 2
def someB (v : S82) : Bool := valB v && v.f0 != 0
def movB (m : S84) : Bool := locB m.f0 && someB m.f1
theorem specLoc_some (n : Int) : spec_l10Loc.f n = some (locB n) := by unfold spec_l10Loc.f locB; exact and_some n _
theorem implLoc_some (n : Int) : impl_isLoc.f n = some (locB n) := by
 unfold impl_isLoc.f locB
 rw [in_some, Option.bind_some, decide_eq_decide.2 (show n ≤ 21 ↔ n < 22 by omega)]
theorem specVal_some (v : S82) : spec_l10Val.f v.f0 v.f1 = some (valB v) := by
 unfold spec_l10Val.f valB
 rw [specLoc_some, Option.bind_some]
 split
 ·rfl
 ·split <;> rfl
theorem implVal_some (v : S82) : impl_Val_right.f v.f0 v.f1 = some (valB v) := by
 unfold impl_Val_right.f valB
 rw [implLoc_some, Option.bind_some]
 split
 ·rfl
 ·split <;> rfl
theorem specSome_some (v : S82) : spec_l10Some.f v.f0 v.f1 = some (someB v) := by
 unfold spec_l10Some.f someB
 rw [specVal_some, Option.bind_some]
 cases valB v <;> rfl
theorem implSome_some (v : S82) : impl_Val_some.f v.f0 v.f1 = some (someB v) := by
 unfold impl_Val_some.f someB
 rw [implVal_some, Option.bind_some]
 by_cases h : v.f0 = 0
 ·rw [if_pos h, show (v.f0 != 0) = false by simp [h], Bool.and_false]
 ·rw [if_neg h, show (v.f0 != 0) = true by simp [h], Bool.and_true]
def arB (op : Int) : Bool := isBin op || isUn op || op == 34 || op == 35 || op == 37
def plB (p : List S121) (f T : Int) : Bool := decide (0 ≤ T) && decide (T < ((rd_T121 p f).f2.length : Int))
def kindB (p : List S121) (f op tw T : Int) (n : Nat) : Bool :=
 if op = 0 then tw == -1 && (n == 0 && T == 0)
 else if op = 1 then locB tw && (n == 1 && T == 0)
 else if op = 3 then tw == -1 && (n == 1 && (T == 1 || T == 2))
 else if op = 30 then tw == -1 && (n == 0 && plB p f T)
 else if op = 31 then tw == -1 && (n == 1 && plB p f T)
 else if op = 32 then (tw == -1 || locB tw) && (hasB p T && (n : Int) == (rd_T121 p T).f0)
 else if op = 36 ∨ op = 38 ∨ op = 33 then tw == -1 && ((n : Int) == takesV p op 0 && T == 0)
 else if arB op = true then (tw == -1 || locB tw) && ((n : Int) == takesV p op 0 && T == 0)
 else false
theorem if_two {α : Type} (a b : Bool) (r s : α) : (if a = true then (if b = true then r else s) else s) = (if (a && b) = true then r else s) := by cases a <;> cases b <;> rfl
theorem nat_beq (n m : Nat) : ((n : Int) == (m : Int)) = (n == m) := by
 by_cases h : n = m
 ·rw [beq_iff_eq.2 h, beq_iff_eq.2 om]
 ·rw [show (n == m) = false from beq_eq_false_iff_ne.2 h, beq_no om]
theorem if_and {c : Prop} [Decidable c] (b : Bool) : (if c then some b else some false) = some (decide c && b) := by
 by_cases h : c
 ·rw [if_pos h, decide_eq_true h, Bool.true_and]
 ·rw [if_neg h, decide_eq_false h, Bool.false_and]
theorem dec_beq (a b : Int) : decide (a = b) = (a == b) := by
 by_cases h : a = b
 ·rw [decide_eq_true h, beq_iff_eq.2 h]
 ·rw [decide_eq_false h, beq_no h]
theorem bool_and (a b : Bool) : (if a = true then some b else some false) = some (a && b) := by cases a <;> rfl
section
variable {p : List S121} {hs : List (List Int)} {f : Int}
theorem arB_yes {op : Int} (h : arB op = true) : (10 ≤ op ∧ op ≤ 29) ∨ op = 34 ∨ op = 35 ∨ op = 37 := by
 unfold arB at h
 simp only [Bool.or_eq_true, beq_iff_eq, isBin_iff, isUn_iff] at h
 omega
theorem specKind_ev (hf : hasB p f = true) (pre : List S84) (op tw T : Int) (l : List S82) (hl : l.length ≤ 1048576) :
  Ev (fun k => spec_l10Ins.l1 k f 0 p pre op tw l T) (l.all someB && kindB p f op tw T l.length) := by
 have h2 := hasB_iff.1 hf
 have tkE : Ev (fun k => (spec_Takes.f k p op 0).bind fun t => (if (l.length : Int) = t then (some (T == 0)) else (some false))) ((l.length : Int) == takesV p op 0 && T == 0) := by
  refine Ev.bind (specTakes_ev p op 0) ?_
  rw [if_and, dec_beq]; exact Ev.now _
 have plE : (if T ≥ 0 then (if 0 ≤ f then (if f < (p.length : Int) then (some (decide (T < (((rd_T121 p f).f2).length : Int)))) else (none)) else (none)) else (some false)) = some (plB p f T) := by
  rw [if_pos h2.1, if_pos h2.2]; exact and_some T _
 have j4 : Ev (fun k => spec_l10Ins.j4 k f (l.length : Int) true p pre op tw l T) (tw == -1 && ((l.length : Int) == takesV p op 0 && T == 0)) := by
  refine Ev.succ ?_
  simp only [spec_l10Ins.j4, if_true]
  refine Ev.cases (fun h => by rw [beq_iff_eq.2 h, Bool.true_and]; exact tkE) (fun h => by rw [beq_no h, Bool.false_and]; exact Ev.now _)
 have j3 : Ev (fun k => spec_l10Ins.j3 k f (l.length : Int) true p pre op tw l T) ((tw == -1 || locB tw) && ((l.length : Int) == takesV p op 0 && T == 0)) := by
  refine Ev.succ ?_
  simp only [spec_l10Ins.j3, if_true, specLoc_some, Option.bind_some]
  refine Ev.cases (fun h => by rw [beq_iff_eq.2 h, Bool.true_or, Bool.true_and]; exact tkE) (fun h => ?_)
  rw [beq_no h, Bool.false_or]
  cases locB tw with
  | true => exact Ev.yes rfl (by rw [Bool.true_and]; exact tkE)
  | false => exact Ev.no (by simp) (Ev.now _)
 have chain : Ev (fun k => if op = 0 then (if tw = (-1) then (if (l.length : Int) = 0 then (some (T == 0)) else (some false)) else (some false)) else (if op = 1 then ((spec_l10Loc.f tw).bind fun t217 => (if t217 = true then (if (l.length : Int) = 1 then (some (T == 0)) else (some false)) else (some false))) else (if op = 3 then (if tw = (-1) then (if (l.length : Int) = 1 then (if T = 1 then (some true) else (some (T == 2))) else (some false)) else (some false)) else ((spec_l03Binary.f op).bind fun t218 => (if t218 = true then (spec_l10Ins.j3 k f (l.length : Int) true p pre op tw l T) else ((spec_l03Unary.f op).bind fun t219 => (if t219 = true then (spec_l10Ins.j3 k f (l.length : Int) true p pre op tw l T) else (if op = 34 then (spec_l10Ins.j3 k f (l.length : Int) true p pre op tw l T) else (if op = 35 then (spec_l10Ins.j3 k f (l.length : Int) true p pre op tw l T) else (spec_l10Ins.j3 k f (l.length : Int) (op == 37) p pre op tw l T)))))))))) (kindB p f op tw T l.length) := by
  unfold kindB
  refine Ev.cases (fun h => ?_) fun n0 => ?_
  ·rw [if_pos h]
   refine Ev.cases (fun h => ?_) (fun h => by rw [beq_no h, Bool.false_and]; exact Ev.now _)
   rw [beq_iff_eq.2 h, Bool.true_and, if_and, dec_beq, show ((l.length : Int) == 0) = (l.length == 0) from nat_beq _ 0]; exact Ev.now _
  rw [if_neg n0]
  refine Ev.cases (fun h => ?_) fun n1 => ?_
  ·rw [if_pos h, specLoc_some]
   refine Ev.flat rfl ?_
   rw [if_and, dec_beq, show ((l.length : Int) == 1) = (l.length == 1) from nat_beq _ 1, bool_and]; exact Ev.now _
  rw [if_neg n1]
  refine Ev.cases (fun h => ?_) fun n3 => ?_
  ·rw [if_pos h]
   refine Ev.cases (fun h => ?_) (fun h => by rw [beq_no h, Bool.false_and]; exact Ev.now _)
   rw [beq_iff_eq.2 h, Bool.true_and, show (if T = 1 then some true else some (T == 2)) = some (T == 1 || T == 2) from by
    by_cases q : T = 1
    ·rw [if_pos q, beq_iff_eq.2 q]; rfl
    ·rw [if_neg q, beq_no q]; rfl]
   rw [if_and, dec_beq, show ((l.length : Int) == 1) = (l.length == 1) from nat_beq _ 1]; exact Ev.now _
  rw [if_neg n3, specBin_some, specUn_some]
  refine Ev.flat rfl ?_
  cases ha : arB op with
  | true =>
   have hy := arB_yes ha
   rw [if_neg om, if_neg om, if_neg om, if_neg om, if_pos rfl]
   refine Ev.cases (fun _ => j3) (fun nb => Ev.flat rfl (Ev.cases (fun _ => j3) (fun nu => Ev.cases (fun _ => j3) (fun n34 => Ev.cases (fun _ => j3) (fun n35 => ?_)))))
   rw [show (op == 37) = true by
    unfold arB at ha
    rw [Bool.eq_false_iff.2 nb, Bool.eq_false_iff.2 nu, beq_no n34, beq_no n35] at ha
    simpa using ha]
   exact j3
  | false =>
   have hn : isBin op = false ∧ isUn op = false ∧ op ≠ 34 ∧ op ≠ 35 ∧ op ≠ 37 := by
    unfold arB at ha
    simp only [Bool.or_eq_false_iff, beq_eq_false_iff_ne, ne_eq] at ha
    exact ⟨ha.1.1.1.1, ha.1.1.1.2, ha.1.1.2, ha.1.2, ha.2⟩
   rw [hn.1]
   refine Ev.no (by simp) (Ev.flat rfl ?_)
   rw [hn.2.1]
   refine Ev.no (by simp) (Ev.no hn.2.2.1 (Ev.no hn.2.2.2.1 ?_))
   rw [beq_no hn.2.2.2.2]
   refine Ev.succ ?_
   simp only [spec_l10Ins.j3]
   refine Ev.no (by simp) ?_
   by_cases h36 : op = 36
   ·rw [if_neg om, if_neg om, if_neg om, if_pos (Or.inl h36)]; exact Ev.yes h36 j4
   refine Ev.no h36 ?_
   by_cases h38 : op = 38
   ·rw [if_neg om, if_neg om, if_neg om, if_pos (Or.inr (Or.inl h38))]; exact Ev.yes h38 j4
   refine Ev.no h38 ?_
   by_cases h33 : op = 33
   ·rw [if_neg om, if_neg om, if_neg om, if_pos (Or.inr (Or.inr h33)), beq_iff_eq.2 h33]; exact j4
   rw [beq_no h33]
   refine Ev.succ ?_
   simp only [spec_l10Ins.j4]
   refine Ev.no (by simp) ?_
   refine Ev.cases (fun h30 => ?_) fun n30 => ?_
   ·rw [if_pos h30]
    refine Ev.cases (fun h => ?_) (fun h => by rw [beq_no h, Bool.false_and]; exact Ev.now _)
    rw [beq_iff_eq.2 h, Bool.true_and]
    refine Ev.bind (specTakes_ev p op 0) ?_
    rw [plE, h30, takesV_30, if_and, dec_beq, show ((l.length : Int) == 0) = (l.length == 0) from nat_beq _ 0]; exact Ev.now _
   rw [if_neg n30]
   refine Ev.cases (fun h31 => ?_) fun n31 => ?_
   ·rw [if_pos h31]
    refine Ev.cases (fun h => ?_) (fun h => by rw [beq_no h, Bool.false_and]; exact Ev.now _)
    rw [beq_iff_eq.2 h, Bool.true_and]
    refine Ev.bind (specTakes_ev p op 0) ?_
    rw [plE, h31, takesV_31, if_and, dec_beq, show ((l.length : Int) == 1) = (l.length == 1) from nat_beq _ 1]; exact Ev.now _
   rw [if_neg n31]
   refine Ev.cases (fun h32 => ?_) fun n32 => ?_
   ·rw [if_pos h32]
    have cl : (if T ≥ 0 then (if T < (p.length : Int) then (if 0 ≤ T then (some ((l.length : Int) == ((rd_T121 p T).f0))) else (none)) else (some false)) else (some false)) = some (hasB p T && (l.length : Int) == (rd_T121 p T).f0) := by
     unfold hasB
     by_cases q0 : T ≥ 0
     ·rw [if_pos q0, if_pos (show 0 ≤ T from q0), if_and, decide_eq_true (show 0 ≤ T from q0), Bool.true_and]
     ·rw [if_neg q0, decide_eq_false (show ¬ 0 ≤ T from q0)]; rfl
    rw [cl, specLoc_some]
    refine Ev.cases (fun h => by rw [beq_iff_eq.2 h, Bool.true_or, Bool.true_and]; exact Ev.now _) (fun h => ?_)
    rw [beq_no h, Bool.false_or]
    refine Ev.flat rfl ?_
    rw [bool_and]; exact Ev.now _
   rw [if_neg n32, if_neg om, if_neg (by simp)]
   exact Ev.now _
 refine all_loop (L := fun k i => spec_l10Ins.l1 k f i p pre op tw l T) (E := fun _ v => some (someB v)) z82 l hl (fun k i hi => ?_) (fun k => ?_) (fun a _ => Ev.now _) chain
 ·simp only [spec_l10Ins.l1]
  rw [if_pos om, if_pos om, specSome_some]; rfl
 ·simp only [spec_l10Ins.l1]
  rw [if_neg om]
def insB (p : List S121) (f : Int) (x : S80) : Bool := decide (x.f0.length ≤ 16) && (x.f0.all movB && (x.f3.all someB && kindB p f x.f1 x.f2 x.f4 x.f3.length))
theorem kind_16 (R : RightP p hs) {op tw T : Int} {n : Nat} (h : kindB p f op tw T n = true) : n ≤ 16 := by
 have tk : op ≠ 32 → takesV p op 0 ≤ 3 := fun q => (takesV_bd p op 0 q).2
 unfold kindB at h
 split at h
 ·simp only [Bool.and_eq_true, beq_iff_eq] at h; omega
 split at h
 ·simp only [Bool.and_eq_true, beq_iff_eq] at h; omega
 split at h
 ·simp only [Bool.and_eq_true, beq_iff_eq] at h; omega
 split at h
 ·simp only [Bool.and_eq_true, beq_iff_eq] at h; omega
 split at h
 ·simp only [Bool.and_eq_true, beq_iff_eq] at h; omega
 split at h
 ·simp only [Bool.and_eq_true, beq_iff_eq] at h
  have q := hasB_iff.1 h.2.1
  obtain ⟨g, hg⟩ : ∃ g : Nat, T = (g : Int) := ⟨T.toNat, by omega⟩
  subst hg
  have := R.args g om
  have e : fnI p g = rd_T121 p (g : Int) := rfl
  rw [e] at this
  omega
 rename_i n32
 have := tk n32
 split at h
 ·simp only [Bool.and_eq_true, beq_iff_eq] at h; omega
 split at h
 ·simp only [Bool.and_eq_true, beq_iff_eq] at h; omega
 ·cases h
theorem specIns_ev (R : RightP p hs) (hf : hasB p f = true) (x : S80) (h0 : x.f0.length ≤ 1048576) (h3 : x.f3.length ≤ 1048576) : Ev (fun k => spec_l10Ins.f k p f x.f0 x.f1 x.f2 x.f3 x.f4) (insB p f x) := by
 have jt : Ev (fun k => spec_l10Ins.j0 k f true p x.f0 x.f1 x.f2 x.f3 x.f4) false := by
  refine Ev.succ ?_
  simp only [spec_l10Ins.j0]
  exact Ev.yes (by simp) (Ev.now _)
 unfold spec_l10Ins.f insB
 refine Ev.cases (fun h => by rw [decide_eq_false (by omega : ¬ x.f0.length ≤ 16), Bool.false_and]; exact jt) fun h => ?_
 rw [decide_eq_true (by omega : x.f0.length ≤ 16), Bool.true_and]
 by_cases h16 : (x.f3.length : Int) > 16
 ·rw [decide_eq_true h16]
  cases hk : kindB p f x.f1 x.f2 x.f4 x.f3.length with
  | true => have := kind_16 R hk; omega
  | false => rw [Bool.and_false, Bool.and_false]; exact jt
 ·rw [decide_eq_false h16]
  refine Ev.succ ?_
  simp only [spec_l10Ins.j0]
  refine Ev.no (by simp) ?_
  refine all_loop (L := fun k i => spec_l10Ins.l0 k f i p x.f0 x.f1 x.f2 x.f3 x.f4) (E := fun _ m => some (movB m)) z84 x.f0 h0 (fun k i hi => ?_) (fun k => ?_) (fun a _ => Ev.now _) (specKind_ev hf x.f0 x.f1 x.f2 x.f4 x.f3 h3)
  ·simp only [spec_l10Ins.l0]
   rw [if_pos om, if_pos om, specLoc_some, specSome_some]
   exact if_two _ _ _ _
  ·simp only [spec_l10Ins.l0]
   rw [if_neg om]
theorem implPlace_some {g : Nat} (hg : g < p.length) (h1 : (fnI p g).f2.length ≤ 60) (T : Int) : impl_prog_place.f p hs (g : Int) T = some (plB p (g : Int) T) := by
 unfold impl_prog_place.f impl_prog_code.f plB
 have e : rd_T121 p (g : Int) = fnI p g := rfl
 rw [if_pos om, if_pos om, Option.bind_some, in_some, Option.bind_some, e, wrap_in om om, decide_eq_decide.2 (show T ≤ ((fnI p g).f2.length : Int) - 1 ↔ T < ((fnI p g).f2.length : Int) by omega)]
theorem implIns_ev (R : RightP p hs) {g : Nat} (hg : g < p.length) (x : S80) (h0 : x.f0.length ≤ 1048576) (h3 : x.f3.length ≤ 1048576) : Ev (fun k => impl_prog_insRight.f k p hs (g : Int) x.f0 x.f1 x.f2 x.f3 x.f4) (insB p (g : Int) x) := by
 have h60 := (R.form hg).2.2.2.2.2.1
 have jt : Ev (fun k => impl_prog_insRight.j0 k (g : Int) true p hs x.f0 x.f1 x.f2 x.f3 x.f4) false := by
  refine Ev.succ ?_
  simp only [impl_prog_insRight.j0]
  exact Ev.yes (by simp) (Ev.now _)
 have tkE : Ev (fun k => (impl_Takes.f k p x.f1 0).bind fun t => (if (x.f3.length : Int) = t then (some (x.f4 == 0)) else (some false))) ((x.f3.length : Int) == takesV p x.f1 0 && x.f4 == 0) := by
  refine Ev.bind (implTakes_ev p x.f1 0) ?_
  rw [if_and, dec_beq]; exact Ev.now _
 have j3 : ∀ b : Bool, Ev (fun k => impl_prog_insRight.j3 k (x.f3.length : Int) b p hs x.f0 x.f1 x.f2 x.f3 x.f4) (b && ((x.f3.length : Int) == takesV p x.f1 0 && x.f4 == 0)) := by
  intro b
  refine Ev.succ ?_
  simp only [impl_prog_insRight.j3]
  cases b with
  | true => exact Ev.yes (by simp) (by rw [Bool.true_and]; exact tkE)
  | false => exact Ev.no (by simp) (Ev.now _)
 have j2t : ∀ no : Bool, Ev (fun k => impl_prog_insRight.j2 k (x.f3.length : Int) no true p hs x.f0 x.f1 x.f2 x.f3 x.f4) (no && ((x.f3.length : Int) == takesV p x.f1 0 && x.f4 == 0)) := by
  intro no
  refine Ev.succ ?_
  simp only [impl_prog_insRight.j2]
  refine Ev.yes (by simp) ?_
  cases no with
  | true => exact Ev.yes (by simp) (by rw [Bool.true_and]; exact tkE)
  | false => exact Ev.no (by simp) (Ev.now _)
 have chain : (x.f2 = -1 ∨ locB x.f2 = true) → Ev (fun k => impl_prog_insRight.l0 k (g : Int) x.f0 (x.f0.length : Int) (x.f0.length : Int) p hs x.f0 x.f1 x.f2 x.f3 x.f4) (kindB p (g : Int) x.f1 x.f2 x.f4 x.f3.length) := by
  intro hto
  have lt : (x.f2 == -1 || locB x.f2) = true := by
   rcases hto with q | q
   ·rw [beq_iff_eq.2 q]; rfl
   ·rw [q, Bool.or_true]
  refine Ev.succ ?_
  simp only [impl_prog_insRight.l0, implPlace_some hg h60, hasFunc_some, Option.bind_some]
  unfold kindB
  refine Ev.no om (Ev.cases (fun h => ?_) fun n0 => ?_)
  ·rw [if_pos h]
   refine Ev.cases (fun h => ?_) (fun h => by rw [beq_no h, Bool.false_and]; exact Ev.now _)
   rw [beq_iff_eq.2 h, Bool.true_and, if_and, dec_beq, show ((x.f3.length : Int) == 0) = (x.f3.length == 0) from nat_beq _ 0]; exact Ev.now _
  rw [if_neg n0]
  refine Ev.cases (fun h => ?_) fun n1 => ?_
  ·rw [if_pos h]
   refine Ev.cases (fun h => ?_) (fun h => ?_)
   ·rw [show locB x.f2 = false by rw [h]; rfl]; exact Ev.now _
   ·rw [show locB x.f2 = true from hto.resolve_left h, Bool.true_and, if_and, dec_beq, show ((x.f3.length : Int) == 1) = (x.f3.length == 1) from nat_beq _ 1]; exact Ev.now _
  rw [if_neg n1]
  refine Ev.cases (fun h => ?_) fun n3 => ?_
  ·rw [if_pos h]
   refine Ev.cases (fun h => ?_) (fun h => by rw [beq_no h, Bool.false_and]; exact Ev.now _)
   rw [beq_iff_eq.2 h, Bool.true_and, show (if x.f4 = 1 then some true else some (x.f4 == 2)) = some (x.f4 == 1 || x.f4 == 2) from by
    by_cases q : x.f4 = 1
    ·rw [if_pos q, beq_iff_eq.2 q]; rfl
    ·rw [if_neg q, beq_no q]; rfl]
   rw [if_and, dec_beq, show ((x.f3.length : Int) == 1) = (x.f3.length == 1) from nat_beq _ 1]; exact Ev.now _
  rw [if_neg n3]
  refine Ev.cases (fun h => ?_) fun n30 => ?_
  ·rw [if_pos h]
   refine Ev.cases (fun h => ?_) (fun h => by rw [beq_no h, Bool.false_and]; exact Ev.now _)
   rw [beq_iff_eq.2 h, Bool.true_and, if_and, dec_beq, show ((x.f3.length : Int) == 0) = (x.f3.length == 0) from nat_beq _ 0]; exact Ev.now _
  rw [if_neg n30]
  refine Ev.cases (fun h => ?_) fun n31 => ?_
  ·rw [if_pos h]
   refine Ev.cases (fun h => ?_) (fun h => by rw [beq_no h, Bool.false_and]; exact Ev.now _)
   rw [beq_iff_eq.2 h, Bool.true_and, if_and, dec_beq, show ((x.f3.length : Int) == 1) = (x.f3.length == 1) from nat_beq _ 1]; exact Ev.now _
  rw [if_neg n31]
  refine Ev.cases (fun h => ?_) fun n32 => ?_
  ·rw [if_pos h, lt, Bool.true_and]
   cases q : hasB p x.f4 with
   | false => exact Ev.no (by simp) (Ev.now _)
   | true =>
    have q' := hasB_iff.1 q
    exact Ev.yes rfl (Ev.yes q'.1 (Ev.yes q'.2 (by rw [Bool.true_and]; exact Ev.now _)))
  rw [if_neg n32]
  by_cases h36 : x.f1 = 36
  ·rw [if_pos (Or.inl h36)]; exact Ev.yes h36 (j2t _)
  refine Ev.no h36 ?_
  by_cases h38 : x.f1 = 38
  ·rw [if_pos (Or.inr (Or.inl h38))]; exact Ev.yes h38 (j2t _)
  refine Ev.no h38 ?_
  by_cases h33 : x.f1 = 33
  ·rw [if_pos (Or.inr (Or.inr h33)), beq_iff_eq.2 h33]; exact j2t _
  rw [if_neg om, beq_no h33, lt, Bool.true_and]
  refine Ev.succ ?_
  simp only [impl_prog_insRight.j2, implArith_some, Option.bind_some]
  refine Ev.no (by simp) ?_
  have fin : ∀ b : Bool, b = arB x.f1 → Ev (fun k => impl_prog_insRight.j3 k (x.f3.length : Int) b p hs x.f0 x.f1 x.f2 x.f3 x.f4) (if arB x.f1 = true then ((x.f3.length : Int) == takesV p x.f1 0 && x.f4 == 0) else false) := by
   intro b hb
   have := j3 b
   rw [hb] at this ⊢
   cases h : arB x.f1 with
   | true => rw [h, Bool.true_and] at this; exact this
   | false => rw [h] at this; exact this
  have ars := arith_split x.f1
  refine Ev.cases (fun h => fin true ?_) (fun h => Ev.cases (fun h34 => fin true ?_) (fun h34 => Ev.cases (fun h35 => fin true ?_) (fun h35 => fin _ ?_)))
  ·unfold arB
   rcases ars.1 h with q | q
   ·rw [q]; rfl
   ·rw [q, Bool.or_true]; rfl
  ·unfold arB; rw [beq_iff_eq.2 h34, Bool.or_true]; rfl
  ·unfold arB; rw [beq_iff_eq.2 h35, Bool.or_true]; rfl
  ·unfold arB
   have nb : isBin x.f1 = false := Bool.eq_false_iff.2 (fun q => h (ars.2 (Or.inl q)))
   have nu : isUn x.f1 = false := Bool.eq_false_iff.2 (fun q => h (ars.2 (Or.inr q)))
   rw [nb, nu, beq_no h34, beq_no h35]; rfl
 have pres : (x.f2 = -1 ∨ locB x.f2 = true) → Ev (fun k => impl_prog_insRight.j0 k (g : Int) false p hs x.f0 x.f1 x.f2 x.f3 x.f4) (x.f0.all movB && kindB p (g : Int) x.f1 x.f2 x.f4 x.f3.length) := by
  intro hto
  refine Ev.succ ?_
  simp only [impl_prog_insRight.j0]
  refine Ev.no (by simp) ?_
  obtain ⟨K, hK⟩ := chain hto
  refine all_loop (L := fun k i => impl_prog_insRight.l0 k (g : Int) x.f0 (x.f0.length : Int) i p hs x.f0 x.f1 x.f2 x.f3 x.f4) (E := fun _ m => some (movB m)) (fin := fun k => impl_prog_insRight.l0 (k + 1) (g : Int) x.f0 (x.f0.length : Int) (x.f0.length : Int) p hs x.f0 x.f1 x.f2 x.f3 x.f4) z84 x.f0 h0 (fun k i hi => ?_) (fun k => rfl) (fun a _ => Ev.now _) ⟨K, fun k hk => hK (k + 1) om⟩
  simp only [impl_prog_insRight.l0]
  rw [if_pos om, if_pos om, if_pos om, implLoc_some, implSome_some]
  exact if_two _ _ _ _
 have someE : Ev (fun k => impl_someAll.f k x.f3) (x.f3.all someB) := by
  unfold impl_someAll.f
  have := all_loop (L := fun k i => impl_someAll.l0 k x.f3 (x.f3.length : Int) i) (E := fun _ v => some (someB v)) (s := someB) (fin := fun _ => some true) (R := true) z82 x.f3 h3 (fun k i hi => by
   simp only [impl_someAll.l0]
   rw [if_pos om, if_pos om, if_pos om, implSome_some]; rfl) (fun k => by simp only [impl_someAll.l0]; rw [if_neg om]) (fun a _ => Ev.now _) (Ev.now _)
  rw [Bool.and_true] at this
  exact this
 unfold impl_prog_insRight.f insB
 refine Ev.cases (fun h => by rw [decide_eq_false (by omega : ¬ x.f0.length ≤ 16), Bool.false_and]; exact jt) fun h => ?_
 rw [decide_eq_true (by omega : x.f0.length ≤ 16), Bool.true_and]
 refine Ev.bind someE ?_
 cases x.f3.all someB with
 | false => rw [Bool.false_and, Bool.and_false]; exact Ev.no (by simp) jt
 | true =>
  rw [Bool.true_and]
  refine Ev.yes rfl (Ev.cases (fun h => pres (Or.inl h)) (fun h => Ev.flat (implLoc_some _) ?_))
  cases hl : locB x.f2 with
  | true => exact pres (Or.inr hl)
  | false =>
   have hk : kindB p (g : Int) x.f1 x.f2 x.f4 x.f3.length = false := by
    unfold kindB
    rw [beq_no h, hl]
    simp
   rw [hk, Bool.and_false]
   exact jt
def insI (c : List S80) (i : Nat) : S80 := rd_T80 c (i : Int)
def valI (ss : List (List S82)) (i : Nat) : List S82 := rd_L17 ss (i : Int)
def bareB (x : S80) : Bool := x.f0.length == 0 && (x.f1 == 0 && (x.f2 == -1 && (x.f3.length == 0 && x.f4 == 0)))
def placeB (p : List S121) (hs : List (List Int)) (g : Nat) (c : List S80) (ss : List (List S82)) (i : Nat) : Bool :=
 if 0 ≤ rd (rdH hs g) (i : Int) then insB p (g : Int) (insI c i) && (((valI ss i).length : Int) == (fnI p g).f1 + rd (rdH hs g) (i : Int) && (valI ss i).all valB)
 else bareB (insI c i) && (((valI ss i).length : Int) == 0 && (valI ss i).all valB)
theorem bare_ins (p : List S121) (f : Int) (x : S80) : bareB x = (insB p f x && (x.f1 == 0 && x.f0.length == 0)) := by
 unfold bareB insB
 by_cases h1 : x.f1 = 0
 case neg => rw [beq_no h1]; simp
 by_cases h0 : x.f0.length = 0
 case neg => rw [show (x.f0.length == 0) = false from beq_eq_false_iff_ne.2 h0]; simp
 have e0 : x.f0 = [] := List.length_eq_zero_iff.1 h0
 unfold kindB
 rw [if_pos h1, beq_iff_eq.2 h1, e0]
 simp only [List.length_nil, List.all_nil, Nat.zero_le, decide_true, Bool.true_and, BEq.rfl, Bool.and_true]
 by_cases h3 : x.f3.length = 0
 ·have e3 : x.f3 = [] := List.length_eq_zero_iff.1 h3
  rw [e3]; rfl
 ·rw [show (x.f3.length == 0) = false from beq_eq_false_iff_ne.2 h3]; simp
theorem implVals0 (x : List S82) : Ev (fun k => impl_Val.f k x []) (x.length == 0) := by
 unfold impl_Val.f
 by_cases h : x.length = 0
 ·have e : x = [] := List.length_eq_zero_iff.1 h
  subst e
  refine Ev.yes rfl (Ev.succ ?_)
  simp only [impl_Val.l0]
  exact Ev.no (by simp) (Ev.now _)
 ·rw [show (x.length == 0) = false from beq_eq_false_iff_ne.2 h]
  exact Ev.no (by simp; exact fun e => h (by rw [e]; rfl)) (Ev.now _)
theorem implMovs0 (x : List S84) : Ev (fun k => impl_Mov.f k x []) (x.length == 0) := by
 unfold impl_Mov.f
 by_cases h : x.length = 0
 ·have e : x = [] := List.length_eq_zero_iff.1 h
  subst e
  refine Ev.yes rfl (Ev.succ ?_)
  simp only [impl_Mov.l0]
  exact Ev.no (by simp) (Ev.now _)
 ·rw [show (x.length == 0) = false from beq_eq_false_iff_ne.2 h]
  exact Ev.no (by simp; exact fun e => h (by rw [e]; rfl)) (Ev.now _)
theorem implBare_ev (x : S80) : Ev (fun k => impl_sameIns.f k x.f0 x.f1 x.f2 x.f3 x.f4 [] 0 (-1) [] 0) (bareB x) := by
 unfold impl_sameIns.f bareB
 refine Ev.bind (implMovs0 x.f0) ?_
 cases x.f0.length == 0 with
 | false => exact Ev.no (by simp) (Ev.now _)
 | true =>
  rw [Bool.true_and]
  refine Ev.yes rfl (Ev.cases (fun h => ?_) (fun h => by rw [beq_no h]; exact Ev.now _))
  rw [beq_iff_eq.2 h, Bool.true_and]
  refine Ev.cases (fun h => ?_) (fun h => by rw [beq_no h]; exact Ev.now _)
  rw [beq_iff_eq.2 h, Bool.true_and]
  refine Ev.bind (implVals0 x.f3) ?_
  cases x.f3.length == 0 with
  | false => exact Ev.no (by simp) (Ev.now _)
  | true => exact Ev.yes rfl (Ev.now _)
section
variable {g : Nat} {c : List S80} {ss : List (List S82)}
theorem specPlace (R : RightP p hs) (hg : g < p.length) (hc : c.length = (fnI p g).f2.length) (hs2 : ss.length = c.length) (hlen : c.length ≤ 1048576) {i : Nat} (hi : i < c.length) (h0 : (insI c i).f0.length ≤ 1048576) (h3 : (insI c i).f3.length ≤ 1048576) (hv : (valI ss i).length ≤ 1048576) {r : Bool}
  (hr : Ev (fun k => spec_AsmRight.l0 k (rdH hs g) ((i + 1 : Nat) : Int) p (g : Int) c ss) r) : Ev (fun k => spec_AsmRight.l0 k (rdH hs g) (i : Int) p (g : Int) c ss) (placeB p hs g c ss i && r) := by
 have hl := R.hlen hg
 have hh := (R.ends hg).1 i
 have fm := R.form hg
 have jt : Ev (fun k => spec_AsmRight.j2 k (rdH hs g) (i : Int) true p (g : Int) c ss) false := by
  refine Ev.succ ?_
  simp only [spec_AsmRight.j2]
  exact Ev.yes (by simp) (Ev.now _)
 have j3 : ∀ m : Int, Ev (fun k => spec_AsmRight.j3 k (rdH hs g) (i : Int) m p (g : Int) c ss) ((((valI ss i).length : Int) == m && (valI ss i).all valB) && r) := by
  intro m
  refine Ev.succ ?_
  simp only [spec_AsmRight.j3]
  refine Ev.yes om (Ev.yes om (Ev.cases (fun h => ?_) (fun h => ?_)))
  ·rw [beq_iff_eq.2 (show ((valI ss i).length : Int) = m from h), Bool.true_and]
   refine all_loop (L := fun k j => spec_AsmRight.l1 k (rdH hs g) (i : Int) j p (g : Int) c ss) (E := fun _ v => some (valB v)) (fin := fun k => spec_AsmRight.l0 k (rdH hs g) (wrap64 ((i : Int) + 1)) p (g : Int) c ss) z82 (valI ss i) hv (fun k j hj => ?_) (fun k => ?_) (fun a _ => Ev.now _) ?_
   ·simp only [spec_AsmRight.l1]
    rw [if_pos om, if_pos om, if_pos (show (j : Int) < ((rd_L17 ss (i : Int)).length : Int) from by have : j < (rd_L17 ss (i : Int)).length := hj; omega), if_pos om, specVal_some]; rfl
   ·simp only [spec_AsmRight.l1]
    rw [if_pos om, if_pos om, if_neg (show ¬ ((valI ss i).length : Int) < ((rd_L17 ss (i : Int)).length : Int) from by show ¬ ((valI ss i).length : Int) < ((valI ss i).length : Int); omega)]
   ·rw [idx_next hi hlen]; exact hr
  ·rw [show (((valI ss i).length : Int) == m) = false from beq_no h, Bool.false_and, Bool.false_and]; exact Ev.now _
 refine Ev.succ ?_
 simp only [spec_AsmRight.l0]
 refine Ev.yes om (Ev.yes om (Ev.bind (specIns_ev R (hasB_iff.2 ⟨by omega, by omega⟩) (insI c i) h0 h3) ?_))
 unfold placeB
 rw [bare_ins p (g : Int)]
 cases hb : insB p (g : Int) (insI c i) with
 | false =>
  simp only [Bool.false_and, if_true, ite_self]
  exact Ev.no (by simp) jt
 | true =>
  simp only [Bool.true_and]
  refine Ev.yes (by simp) (Ev.yes om (Ev.cases (fun hneg => ?_) (fun hpos => ?_)))
  ·rw [if_neg om]
   refine Ev.cases (fun h => ?_) (fun h => ?_)
   ·rw [show ((insI c i).f1 == 0) = true from beq_iff_eq.2 h, Bool.true_and]
    refine Ev.succ ?_
    simp only [spec_AsmRight.j2]
    by_cases hz : (insI c i).f0.length = 0
    ·rw [show ((insI c i).f0.length == 0) = true from beq_iff_eq.2 hz, Bool.true_and]
     refine Ev.no (by
      show ¬ decide (((insI c i).f0.length : Int) > 0) = true
      rw [hz]; decide) (Ev.yes om (Ev.yes om (Ev.no om (j3 0))))
    ·rw [show ((insI c i).f0.length == 0) = false from beq_eq_false_iff_ne.2 hz, Bool.false_and, Bool.false_and]
     refine Ev.yes (by
      show decide (((insI c i).f0.length : Int) > 0) = true
      rw [decide_eq_true om]) (Ev.now _)
   ·rw [show ((insI c i).f1 == 0) = false from beq_no h, Bool.false_and, Bool.false_and, Bool.false_and]; exact jt
  ·rw [if_pos om]
   refine Ev.succ ?_
   simp only [spec_AsmRight.j2]
   have e : rd_T121 p (g : Int) = fnI p g := rfl
   have := fm.2.2.1
   have := fm.2.2.2.1
   have := fm.1
   rw [e, wrap_in (n := (fnI p g).f1 + rd (rdH hs g) (i : Int)) om om]
   exact Ev.no (by simp) (Ev.yes om (Ev.yes om (Ev.yes om (Ev.yes om (Ev.yes om (j3 _))))))
theorem implPlace (R : RightP p hs) (hg : g < p.length) (hc : c.length = (fnI p g).f2.length) (hs2 : ss.length = c.length) (hlen : c.length ≤ 1048576) {i : Nat} (hi : i < c.length) (h0 : (insI c i).f0.length ≤ 1048576) (h3 : (insI c i).f3.length ≤ 1048576) (hv : (valI ss i).length ≤ 1048576) {r : Bool}
  (hr : Ev (fun k => impl_prog_asmRight.l0 k c (c.length : Int) ((i + 1 : Nat) : Int) p hs (g : Int) c ss) r) : Ev (fun k => impl_prog_asmRight.l0 k c (c.length : Int) (i : Int) p hs (g : Int) c ss) (placeB p hs g c ss i && r) := by
 have hl := R.hlen hg
 have hh := (R.ends hg).1 i
 have hhl := R.len
 have fm := R.form hg
 have rch := implReached_some R hg (show i < (fnI p g).f2.length by omega)
 refine Ev.succ ?_
 simp only [impl_prog_asmRight.l0]
 refine Ev.yes om (Ev.yes om (Ev.yes om (Ev.flat rch ?_)))
 unfold placeB
 by_cases hp : 0 ≤ rd (rdH hs g) (i : Int)
 ·rw [decide_eq_true hp, if_pos hp]
  have sl : impl_prog_slots.f p hs (g : Int) (i : Int) = some ((fnI p g).f1 + rd (rdH hs g) (i : Int)) := by
   unfold impl_prog_slots.f
   have e : rd_L20 hs (g : Int) = rdH hs g := rfl
   have e2 : (rd_T121 p (g : Int)).f1 = (fnI p g).f1 := rfl
   have := fm.2.2.1
   have := fm.2.2.2.1
   have := fm.1
   rw [e, e2, if_pos om, if_pos om, if_pos om, if_pos om, if_pos om, wrap_in om om]
  have jt : Ev (fun k => impl_prog_asmRight.j2 k (i : Int) c (c.length : Int) (i : Int) true p hs (g : Int) c ss) false := by
   refine Ev.succ ?_
   simp only [impl_prog_asmRight.j2]
   exact Ev.yes (by simp) (Ev.now _)
  refine Ev.yes rfl (Ev.yes om (Ev.flat sl (Ev.cases (fun h => ?_) (fun h => ?_))))
  ·rw [show (((valI ss i).length : Int) == (fnI p g).f1 + rd (rdH hs g) (i : Int)) = true from beq_iff_eq.2 h, Bool.true_and]
   refine Ev.bind (implIns_ev R hg (insI c i) h0 h3) ?_
   cases insB p (g : Int) (insI c i) with
   | false => exact jt
   | true =>
    rw [Bool.true_and]
    refine Ev.succ ?_
    simp only [impl_prog_asmRight.j2]
    refine Ev.no (by simp) (Ev.yes om (Ev.yes om ?_))
    refine all_loop (L := fun k j => impl_prog_asmRight.l1 k c (c.length : Int) (i : Int) (valI ss i) ((valI ss i).length : Int) j p hs (g : Int) c ss) (E := fun _ v => some (valB v)) (fin := fun k => impl_prog_asmRight.l0 k c (c.length : Int) (wrap64 ((i : Int) + 1)) p hs (g : Int) c ss) z82 (valI ss i) hv (fun k j hj => ?_) (fun k => ?_) (fun a _ => Ev.now _) ?_
    ·simp only [impl_prog_asmRight.l1]
     rw [if_pos om, if_pos om, if_pos om, implVal_some]; rfl
    ·simp only [impl_prog_asmRight.l1]
     rw [if_neg om]
    ·rw [idx_next hi hlen]; exact hr
  ·rw [show (((valI ss i).length : Int) == (fnI p g).f1 + rd (rdH hs g) (i : Int)) = false from beq_no h, Bool.false_and, Bool.and_false, Bool.false_and]
   exact jt
 ·rw [decide_eq_false hp, if_neg hp]
  refine Ev.no (by simp) (Ev.yes om (Ev.cases (fun h => ?_) (fun h => ?_)))
  ·have hz : valI ss i = [] := List.length_eq_zero_iff.1 (by have : ((valI ss i).length : Int) = 0 := h; omega)
   rw [hz]
   refine Ev.flat (g := impl_bareNop.f) rfl (Ev.bind (implBare_ev (insI c i)) ?_)
   cases bareB (insI c i) with
   | false => exact Ev.no (by simp) (Ev.now _)
   | true =>
    refine Ev.yes rfl ?_
    rw [idx_next hi hlen]; exact hr
  ·rw [show (((valI ss i).length : Int) == 0) = false from beq_no h, Bool.false_and, Bool.and_false, Bool.false_and]; exact Ev.now _
def placesB (p : List S121) (hs : List (List Int)) (g : Nat) (c : List S80) (ss : List (List S82)) : Nat → Nat → Bool
 | 0, _ => true
 | d + 1, i => placeB p hs g c ss i && placesB p hs g c ss d (i + 1)
end
theorem insI_ok {c : List S80} (h : okAsmInsS c) {i : Nat} (hi : i < c.length) : (insI c i).f0.length ≤ 1048576 ∧ (insI c i).f3.length ≤ 1048576 := by
 have e : insI c i = c[i] := by
  unfold insI
  show c.getD _ _ = _
  rw [Int.toNat_natCast, List.getD_eq_getElem?_getD, List.getElem?_eq_getElem hi]; rfl
 rw [e]
 exact h.2 _ (List.getElem_mem hi)
theorem valI_ok {ss : List (List S82)} (h : okValSS ss) {i : Nat} (hi : i < ss.length) : (valI ss i).length ≤ 1048576 := by
 have e : valI ss i = ss[i] := by
  unfold valI
  show ss.getD _ _ = _
  rw [Int.toNat_natCast, List.getD_eq_getElem?_getD, List.getElem?_eq_getElem hi]; rfl
 rw [e]
 exact h.2 _ (List.getElem_mem hi)
end
theorem asmRight_fin (p : List S121) (f : Int) (c : List S80) (ss : List (List S82)) (hc : okAsmInsS c) (hv : okValSS ss) : ∃ v : Bool, Ev (fun k => spec_AsmRight.f k p f c ss) v ∧ Ev (fun k => impl_AsmRight.f k p f c ss) v := by
 unfold spec_AsmRight.f impl_AsmRight.f
 have jt : Ev (fun k => spec_AsmRight.j0 k true p f c ss) false := by
  refine Ev.succ ?_
  simp only [spec_AsmRight.j0]
  exact Ev.yes (by simp) (Ev.now _)
 rcases is_both p f with ⟨hs, R, e1, e2⟩ | ⟨hs, e1, e2⟩
 case inr => exact ⟨false, Ev.bind e1 (Ev.no (by simp) jt), Ev.bind e2 (Ev.no (by simp) (Ev.now _))⟩
 have it : Ev (fun k => impl_prog_asmRight.j0 k true p hs f c ss) false := by
  refine Ev.succ ?_
  simp only [impl_prog_asmRight.j0]
  exact Ev.yes (by simp) (Ev.now _)
 have go : ∀ v : Bool, Ev (fun k => impl_prog_asmRight.f k p hs f c ss) v → Ev (fun k => (impl_known.f k p).bind fun bt => (if bt.2.2 = true then ((impl_prog_asmRight.f k bt.1 bt.2.1 f c ss).bind fun t => (some t)) else (some false))) v := fun v h => Ev.bind e2 (Ev.yes rfl (Ev.bind h (Ev.now _)))
 by_cases hf : hasB p f = true
 case neg =>
  refine ⟨false, Ev.bind e1 (Ev.no hf jt), go _ ?_⟩
  unfold impl_prog_asmRight.f
  exact Ev.flat (hasFunc_some p f) (Ev.no hf it)
 have hf2 := hasB_iff.1 hf
 obtain ⟨g, rfl⟩ : ∃ g : Nat, f = (g : Int) := ⟨f.toNat, by omega⟩
 have hg : g < p.length := by omega
 have e : rd_T121 p (g : Int) = fnI p g := rfl
 have code : impl_prog_code.f p hs (g : Int) = some (fnI p g).f2 := by
  unfold impl_prog_code.f
  rw [if_pos om, if_pos om]; rfl
 by_cases hcl : c.length = (fnI p g).f2.length
 case neg =>
  refine ⟨false, Ev.bind e1 (Ev.yes hf (Ev.yes om (Ev.yes om (Ev.no (by rw [e]; omega) jt)))), go _ ?_⟩
  unfold impl_prog_asmRight.f
  exact Ev.flat (hasFunc_some p _) (Ev.yes hf (Ev.flat code (Ev.no om it)))
 by_cases hsl : ss.length = c.length
 case neg =>
  have ne : ((ss.length : Int) != (c.length : Int)) = true := by simp; omega
  refine ⟨false, Ev.bind e1 (Ev.yes hf (Ev.yes om (Ev.yes om (Ev.yes (by rw [e]; omega) ?_)))), go _ ?_⟩
  ·rw [ne]; exact jt
  ·unfold impl_prog_asmRight.f
   refine Ev.flat (hasFunc_some p _) (Ev.yes hf (Ev.flat code (Ev.yes om ?_)))
   rw [ne]; exact it
 have ne : ((ss.length : Int) != (c.length : Int)) = false := by simp; omega
 refine ⟨placesB p hs g c ss c.length 0, Ev.bind e1 (Ev.yes hf (Ev.yes om (Ev.yes om (Ev.yes (by rw [e]; omega) ?_)))), go _ ?_⟩
 ·rw [ne]
  refine Ev.succ ?_
  simp only [spec_AsmRight.j0]
  refine Ev.no (by simp) (Ev.bind (R.heights hg) ?_)
  have key : ∀ d i : Nat, i + d = c.length → Ev (fun k => spec_AsmRight.l0 k (rdH hs g) (i : Int) p (g : Int) c ss) (placesB p hs g c ss d i) := by
   intro d
   induction d with
   | zero =>
    intro i hi
    refine Ev.succ ?_
    simp only [spec_AsmRight.l0]
    exact Ev.no om (Ev.now _)
   | succ d ih =>
    intro i hi
    have k := insI_ok hc (show i < c.length by omega)
    exact specPlace R hg hcl hsl hc.1 om k.1 k.2 (valI_ok hv om) (ih (i + 1) om)
  exact key c.length 0 om
 ·unfold impl_prog_asmRight.f
  refine Ev.flat (hasFunc_some p _) (Ev.yes hf (Ev.flat code (Ev.yes om ?_)))
  rw [ne]
  refine Ev.succ ?_
  simp only [impl_prog_asmRight.j0]
  refine Ev.no (by simp) ?_
  have key : ∀ d i : Nat, i + d = c.length → Ev (fun k => impl_prog_asmRight.l0 k c (c.length : Int) (i : Int) p hs (g : Int) c ss) (placesB p hs g c ss d i) := by
   intro d
   induction d with
   | zero =>
    intro i hi
    refine Ev.succ ?_
    simp only [impl_prog_asmRight.l0]
    exact Ev.no om (Ev.now _)
   | succ d ih =>
    intro i hi
    have k := insI_ok hc (show i < c.length by omega)
    exact implPlace R hg hcl hsl hc.1 om k.1 k.2 (valI_ok hv om) (ih (i + 1) om)
  exact key c.length 0 om
theorem u64w (x : Int) : IntKind.u64.wrap x = x % 18446744073709551616 := by simp [IntKind.wrap, IntKind.signed, IntKind.bits]
def foldV (n : Int) : Nat := if n < 0 then (-2 * n - 1).toNat else (2 * n).toNat
def encB (u : Nat) : List Int := if u < 128 then [(u : Int)] else ((u % 128 + 128 : Nat) : Int) :: encB (u / 128)
termination_by u
decreasing_by omega
theorem encB_small {u : Nat} (h : u < 128) : encB u = [(u : Int)] := by rw [encB, if_pos h]
theorem encB_big {u : Nat} (h : ¬ u < 128) : encB u = ((u % 128 + 128 : Nat) : Int) :: encB (u / 128) := by rw [encB, if_neg h]
theorem or128 : ∀ n : Nat, n < 256 → Go.bits .or .u8 (n : Int) 128 = ((n % 128 + 128 : Nat) : Int) := by decide +kernel
theorem xor_ones (x : Int) (h0 : 0 ≤ x) (h1 : x < 18446744073709551616) : Go.bits .xor .u64 18446744073709551615 x = 18446744073709551615 - x := by
 show IntKind.u64.wrap ((BitVec.ofInt 64 18446744073709551615 ^^^ BitVec.ofInt 64 x).toNat : Int) = _
 have e : BitVec.ofInt 64 18446744073709551615 = BitVec.allOnes 64 := by decide +kernel
 have hx : (BitVec.ofInt 64 x).toNat = x.toNat := by
  rw [BitVec.toNat_ofInt, Int.emod_eq_of_lt h0 (by simpa using h1)]
 rw [e, BitVec.allOnes_xor, BitVec.toNat_not, hx, u64w]
 omega
theorem foldV_lt (n : Int) (h0 : -9223372036854775808 ≤ n) (h1 : n ≤ 9223372036854775807) : foldV n < 18446744073709551616 := by unfold foldV; split <;> omega
theorem bytes_l (m : Nat) : ∀ (u : Nat) (y : List Int), u < 128 ^ m → u < 18446744073709551616 → y.length + m ≤ 1048676 → Ev (fun k => impl_numBytes.l0 k (u : Int) y) (y ++ encB u) := by
 induction m with
 | zero =>
  intro u y hu _ hy
  have hu0 : u = 0 := by simpa using hu
  subst hu0
  refine Ev.succ ?_
  simp only [impl_numBytes.l0]
  refine Ev.no om (Ev.yes om ?_)
  rw [encB_small om]
  exact Ev.now _
 | succ m ih =>
  intro u y hu hb hy
  refine Ev.succ ?_
  simp only [impl_numBytes.l0]
  by_cases h : u < 128
  ·refine Ev.no om (Ev.yes om ?_)
   rw [encB_small h, show ((u : Int) % 256) = u by omega]
   exact Ev.now _
  ·refine Ev.yes om (Ev.yes om ?_)
   have e1 : Go.bits .or .u8 ((u : Int) % 256) 128 = ((u % 128 + 128 : Nat) : Int) := by
    have := or128 (u % 256) om
    rw [show (((u % 256 : Nat) : Int)) = (u : Int) % 256 by omega] at this
    rw [this]
    omega
   have e2 : (u : Int) / 128 = ((u / 128 : Nat) : Int) := by omega
   rw [encB_big h, e1, e2]
   have := ih (u / 128) (y ++ [((u % 128 + 128 : Nat) : Int)]) (by rw [Nat.pow_succ] at hu; omega) om (by simp; omega)
   simpa using this
theorem numBytes_ev (n : Int) (h0 : -9223372036854775808 ≤ n) (h1 : n ≤ 9223372036854775807) : Ev (fun k => impl_numBytes.f k n) (encB (foldV n)) := by
 unfold impl_numBytes.f
 have hl := foldV_lt n h0 h1
 have key : Ev (fun k => impl_numBytes.j0 k (foldV n : Int)) (encB (foldV n)) := by
  refine Ev.succ ?_
  simp only [impl_numBytes.j0]
  simpa using bytes_l 10 (foldV n) [] (Nat.lt_trans hl (by decide)) hl (by simp)
 refine Ev.cases (fun h => ?_) (fun h => ?_)
 ·have e : Go.bits .xor .u64 18446744073709551615 (IntKind.u64.wrap (IntKind.u64.wrap n * 2)) = (foldV n : Int) := by
   rw [u64w, u64w, xor_ones _ om om]
   unfold foldV
   rw [if_pos h]
   omega
  rw [e]
  exact key
 ·have e : IntKind.u64.wrap (IntKind.u64.wrap n * 2) = (foldV n : Int) := by
   rw [u64w, u64w]
   unfold foldV
   rw [if_neg h]
   omega
  rw [e]
  exact key
theorem specBytes_l (m : Nat) : ∀ (u : Nat) (y : List Int), u < 128 ^ m → u < 18446744073709551616 → y.length + m ≤ 1048676 → Ev (fun k => spec_PutNum.l0 k (u : Int) y) (strOfNums (y ++ encB u)) := by
 induction m with
 | zero =>
  intro u y hu _ hy
  have hu0 : u = 0 := by simpa using hu
  subst hu0
  refine Ev.succ ?_
  simp only [spec_PutNum.l0]
  refine Ev.no om (Ev.yes om ?_)
  rw [encB_small om]
  exact Ev.now _
 | succ m ih =>
  intro u y hu hb hy
  refine Ev.succ ?_
  simp only [spec_PutNum.l0]
  by_cases h : u < 128
  ·refine Ev.no om (Ev.yes om ?_)
   rw [encB_small h, show ((u : Int) % 256) = u by omega]
   exact Ev.now _
  ·refine Ev.yes om (Ev.yes om ?_)
   have e1 : (IntKind.u64.wrap (Int.tmod (u : Int) 128 + 128)) % 256 = ((u % 128 + 128 : Nat) : Int) := by
    rw [u64w, Int.tmod_eq_emod_of_nonneg om]
    omega
   have e2 : IntKind.u64.wrap (Int.tdiv (u : Int) 128) = ((u / 128 : Nat) : Int) := by
    rw [u64w, Int.tdiv_eq_ediv_of_nonneg om]
    omega
   rw [encB_big h, e1, e2]
   have := ih (u / 128) (y ++ [((u % 128 + 128 : Nat) : Int)]) (by rw [Nat.pow_succ] at hu; omega) om (by simp; omega)
   simpa using this
theorem fold_some (n : Int) (h0 : -9223372036854775808 ≤ n) (h1 : n ≤ 9223372036854775807) : spec_l01Fold.f n = some (foldV n : Int) := by
 unfold spec_l01Fold.f foldV
 by_cases h : n < 0
 ·rw [if_pos h, if_pos h, wrap_in (n := n + 1) om om, wrap_in om om]
  simp only [u64w]
  congr 1
  omega
 ·rw [if_neg h, if_neg h]
  simp only [u64w]
  congr 1
  omega
theorem specPut_ev (n : Int) (h0 : -9223372036854775808 ≤ n) (h1 : n ≤ 9223372036854775807) : Ev (fun k => spec_PutNum.f k n) (strOfNums (encB (foldV n))) := by
 unfold spec_PutNum.f
 have hl := foldV_lt n h0 h1
 refine Ev.flat (fold_some n h0 h1) ?_
 simpa using specBytes_l 10 (foldV n) [] (Nat.lt_trans hl (by decide)) hl (by simp)
/- FnExactAsmBytes: the program's AsmBytes answers what the reference's answers, for every program and every code of registers. No condition. -/
def in64 (a : Int) : Prop := -9223372036854775808 ≤ a ∧ a ≤ 9223372036854775807
def enc (n : Int) : List Int := encB (foldV n)
theorem encB_ok (m : Nat) : ∀ u : Nat, u < 128 ^ m → (∀ x ∈ encB u, 0 ≤ x ∧ x < 256) ∧ (encB u).length ≤ m + 1 := by
 induction m with
 | zero =>
  intro u hu
  have : u = 0 := by simpa using hu
  subst this
  rw [encB_small om]
  simp
 | succ m ih =>
  intro u hu
  by_cases h : u < 128
  ·rw [encB_small h]
   exact ⟨fun x hx => by simp at hx; subst hx; omega, by simp⟩
  ·rw [encB_big h]
   have := ih (u / 128) (by rw [Nat.pow_succ] at hu; omega)
   refine ⟨fun x hx => ?_, by simp; exact this.2⟩
   rcases List.mem_cons.1 hx with rfl | hx
   ·omega
   ·exact this.1 x hx
theorem enc_ok {n : Int} (h : in64 n) : (∀ x ∈ enc n, 0 ≤ x ∧ x < 256) ∧ (enc n).length ≤ 11 := encB_ok 10 (foldV n) (Nat.lt_trans (foldV_lt n h.1 h.2) (by decide))
theorem bytes_nums (l : List Int) (h : ∀ x ∈ l, 0 ≤ x ∧ x < 256) : bytesOf (strOfNums l) = l := by
 unfold bytesOf
 rw [strOfNums_data, List.map_map]
 conv => rhs; rw [← List.map_id l]
 refine List.map_congr_left (fun x hx => ?_)
 have := h x hx
 simp only [Function.comp, id, UInt8.toNat_ofNat']
 omega
theorem bytes_enc {n : Int} (h : in64 n) : bytesOf (strOfNums (enc n)) = enc n := bytes_nums _ (enc_ok h).1
theorem num_ev {n : Int} (h : in64 n) : Ev (fun k => impl_numBytes.f k n) (enc n) := numBytes_ev n h.1 h.2
theorem put_ev {n : Int} (h : in64 n) : Ev (fun k => spec_PutNum.f k n) (strOfNums (enc n)) := specPut_ev n h.1 h.2
def encL (l : List Int) : List Int := (l.map enc).flatten
def n64V (v : S82) : Prop := in64 v.f0 ∧ in64 v.f1
def n64M (m : S84) : Prop := in64 m.f0 ∧ n64V m.f1
def n64I (x : S80) : Prop := (∀ m ∈ x.f0, n64M m) ∧ in64 x.f1 ∧ in64 x.f2 ∧ (∀ v ∈ x.f3, n64V v) ∧ in64 x.f4
def encV (v : S82) : List Int := enc v.f0 ++ enc v.f1
def encVs (l : List S82) : List Int := enc (l.length : Int) ++ (l.map encV).flatten
def encM (m : S84) : List Int := enc m.f0 ++ (enc m.f1.f0 ++ enc m.f1.f1)
def tailI (x : S80) (ms : List S82) : List Int := enc x.f1 ++ (enc x.f2 ++ (enc x.f4 ++ (encVs x.f3 ++ encVs ms)))
def encI (x : S80) (ms : List S82) : List Int := enc (x.f0.length : Int) ++ ((x.f0.map encM).flatten ++ tailI x ms)
theorem flat_len {α : Type} (e : α → List Int) (n : Nat) : ∀ l : List α, (∀ a ∈ l, (e a).length ≤ n) → ((l.map e).flatten).length ≤ n * l.length := by
 intro l
 induction l with
 | nil => intro _; simp
 | cons a l ih =>
  intro h
  have h1 := h a (by simp)
  have h2 := ih (fun z hz => h z (by simp [hz]))
  simp only [List.map_cons, List.flatten_cons, List.length_append, List.length_cons, Nat.mul_add, Nat.mul_one]
  omega
theorem encV_len {v : S82} (h : n64V v) : (encV v).length ≤ 22 := by
 have := (enc_ok h.1).2; have := (enc_ok h.2).2
 unfold encV; rw [List.length_append]; omega
theorem encM_len {m : S84} (h : n64M m) : (encM m).length ≤ 33 := by
 have := (enc_ok h.1).2; have := (enc_ok h.2.1).2; have := (enc_ok h.2.2).2
 unfold encM; rw [List.length_append, List.length_append]; omega
theorem len64 {n : Nat} (h : n ≤ 1048576) : in64 (n : Int) := ⟨by omega, by omega⟩
theorem encVs_len {l : List S82} (h : ∀ v ∈ l, n64V v) (hl : l.length ≤ 1048576) : (encVs l).length ≤ 11 + 22 * l.length := by
 have h1 := flat_len encV 22 l (fun a ha => encV_len (h a ha))
 have h2 := (enc_ok (len64 hl)).2
 unfold encVs; rw [List.length_append]; omega
theorem idx80 (i : Nat) (h : i ≤ 1048576) : wrap64 ((i : Int) + 1) = ((i + 1 : Nat) : Int) := by rw [wrap_in om om]; omega
theorem put_l (l : List Int) (h : ∀ n ∈ l, in64 n) (hl : l.length ≤ 1048576) : ∀ (d i : Nat) (b : List Int), i + d = l.length → b.length + 11 * d ≤ 140737488355000 → Ev (fun k => impl_AsmBytes_1.l0 k b l (l.length : Int) (i : Int)) (b ++ encL (l.drop i)) := by
 intro d
 induction d with
 | zero =>
  intro i b h1 h2
  rw [List.drop_eq_nil_iff.2 om]
  refine Ev.succ ?_
  simp only [impl_AsmBytes_1.l0, encL, List.map_nil, List.flatten_nil, List.append_nil]
  exact Ev.no om (Ev.now _)
 | succ d ih =>
  intro i b h1 h2
  have hi : i < l.length := by omega
  have hr : rd l (i : Int) = l[i] := by simp [rd, List.getD_eq_getElem?_getD, List.getElem?_eq_getElem hi]
  have hn := h l[i] (List.getElem_mem hi)
  have hle := (enc_ok hn).2
  have e : encL (l.drop i) = enc l[i] ++ encL (l.drop (i + 1)) := by rw [List.drop_eq_getElem_cons hi]; rfl
  rw [e, ← List.append_assoc]
  refine Ev.succ ?_
  simp only [impl_AsmBytes_1.l0]
  rw [hr, idx80 i om]
  exact Ev.yes om (Ev.yes om (Ev.yes om (Ev.bind (num_ev hn) (Ev.yes om (ih (i + 1) (b ++ enc l[i]) om (by rw [List.length_append]; omega))))))
theorem putL_ev (l : List Int) (h : ∀ n ∈ l, in64 n) (hl : l.length ≤ 1048576) (b : List Int) (hb : b.length + 11 * l.length ≤ 140737488355000) : Ev (fun k => impl_AsmBytes_1.f k l b) (b ++ encL l) := by
 unfold impl_AsmBytes_1.f
 exact put_l l h hl l.length 0 b om hb
theorem encL1 (a : Int) : encL [a] = enc a := by simp [encL]
theorem encL2 (a b : Int) : encL [a, b] = enc a ++ enc b := by simp [encL]
theorem encL3 (a b c : Int) : encL [a, b, c] = enc a ++ (enc b ++ enc c) := by simp [encL]
theorem ivals_l (l : List S82) (h : ∀ v ∈ l, n64V v) (hl : l.length ≤ 1048576) : ∀ (d i : Nat) (b : List Int), i + d = l.length → b.length + 22 * d ≤ 140737488355000 → Ev (fun k => impl_AsmBytes_2.l0 k b l (l.length : Int) (i : Int)) (b ++ ((l.drop i).map encV).flatten) ∧ Ev (fun k => spec_l10PutVals.l0 k b l (i : Int)) (b ++ ((l.drop i).map encV).flatten) := by
 intro d
 induction d with
 | zero =>
  intro i b h1 h2
  rw [List.drop_eq_nil_iff.2 om]
  refine ⟨Ev.succ ?_, Ev.succ ?_⟩
  ·simp only [impl_AsmBytes_2.l0, List.map_nil, List.flatten_nil, List.append_nil]
   exact Ev.no om (Ev.now _)
  ·simp only [spec_l10PutVals.l0, List.map_nil, List.flatten_nil, List.append_nil]
   exact Ev.no om (Ev.now _)
 | succ d ih =>
  intro i b h1 h2
  have hi : i < l.length := by omega
  have hr : rd_T82 l (i : Int) = l[i] := by simp [rd_T82, List.getD_eq_getElem?_getD, List.getElem?_eq_getElem hi]
  have hn := h l[i] (List.getElem_mem hi)
  have e0 := (enc_ok hn.1).2
  have e1 := (enc_ok hn.2).2
  have e : ((l.drop i).map encV).flatten = (enc l[i].f0 ++ enc l[i].f1) ++ ((l.drop (i + 1)).map encV).flatten := by rw [List.drop_eq_getElem_cons hi]; rfl
  obtain ⟨i1, i2⟩ := ih (i + 1) (b ++ (enc l[i].f0 ++ enc l[i].f1)) om (by rw [List.length_append, List.length_append]; omega)
  rw [e, ← List.append_assoc]
  refine ⟨Ev.succ ?_, Ev.succ ?_⟩
  ·simp only [impl_AsmBytes_2.l0]
   rw [hr, idx80 i om]
   have hp := putL_ev [l[i].f0, l[i].f1] (by intro n hn'; simp at hn'; rcases hn' with rfl | rfl; exact hn.1; exact hn.2) (by simp) b (by simp; omega)
   rw [encL2] at hp
   exact Ev.yes om (Ev.yes om (Ev.yes om (Ev.bind hp i1)))
  ·simp only [spec_l10PutVals.l0]
   rw [hr, idx80 i om]
   refine Ev.yes om (Ev.yes om (Ev.bind (put_ev hn.1) (Ev.yes (by rw [strOfNums_size]; omega) (Ev.flat rfl (Ev.bind (put_ev hn.2) (Ev.yes (by rw [strOfNums_size, bytes_enc hn.1, List.length_append]; omega) ?_))))))
   rw [bytes_enc hn.1, bytes_enc hn.2, List.append_assoc]
   exact i2
theorem ivals_ev (l : List S82) (h : ∀ v ∈ l, n64V v) (hl : l.length ≤ 1048576) (b : List Int) (hb : b.length + 11 + 22 * l.length ≤ 140737488355000) : Ev (fun k => impl_AsmBytes_2.f k l b) (b ++ encVs l) ∧ Ev (fun k => spec_l10PutVals.f k b l) (b ++ encVs l) := by
 have e0 := (enc_ok (len64 hl)).2
 obtain ⟨i1, i2⟩ := ivals_l l h hl l.length 0 (b ++ enc (l.length : Int)) om (by rw [List.length_append]; omega)
 rw [List.append_assoc] at i1 i2
 have hp := putL_ev [(l.length : Int)] (by intro n hn; simp at hn; subst hn; exact len64 hl) (by simp) b (by simp; omega)
 rw [encL1] at hp
 unfold impl_AsmBytes_2.f spec_l10PutVals.f
 refine ⟨Ev.bind hp i1, Ev.bind (put_ev (len64 hl)) (Ev.yes (by rw [strOfNums_size]; omega) ?_)⟩
 rw [bytes_enc (len64 hl)]
 exact i2
section
variable {f : Int} {c : List S80} {ss : List (List S82)}
theorem sPre {i : Nat} (hi : i < ss.length) (hc : ss.length ≤ 1048576) {x : S80} {m : List S82} (hm : rd_L17 ss (i : Int) = m) (hx : n64I x) (h0 : x.f0.length ≤ 1048576) (h3 : x.f3.length ≤ 1048576) (hm64 : ∀ v ∈ m, n64V v) (hml : m.length ≤ 1048576) {r : ByteArray} : ∀ (d j : Nat) (b : List Int), j + d = x.f0.length → b.length + 33 * d + 50000000 ≤ 140737488355000 →
  Ev (fun k => spec_AsmBytes.l0 k (b ++ (((x.f0.drop j).map encM).flatten ++ tailI x m)) ((i + 1 : Nat) : Int) f c ss) r → Ev (fun k => spec_AsmBytes.l1 k b (i : Int) (j : Int) f c ss x.f0 x.f1 x.f2 x.f3 x.f4) r := by
 intro d
 induction d with
 | zero =>
  intro j b h1 h2 hE
  rw [List.drop_eq_nil_iff.2 om] at hE
  simp only [List.map_nil, List.flatten_nil, List.nil_append, tailI] at hE
  have a1 := (enc_ok hx.2.1).2; have a2 := (enc_ok hx.2.2.1).2; have a4 := (enc_ok hx.2.2.2.2).2
  have v3 := encVs_len hx.2.2.2.1 h3
  refine Ev.succ ?_
  simp only [spec_AsmBytes.l1]
  refine Ev.no om (Ev.bind (put_ev hx.2.1) (Ev.yes (by rw [strOfNums_size]; omega) (Ev.flat rfl (Ev.bind (put_ev hx.2.2.1) (Ev.yes (by rw [strOfNums_size, bytes_enc hx.2.1, List.length_append]; omega) (Ev.flat rfl (Ev.bind (put_ev hx.2.2.2.2) (Ev.yes (by rw [strOfNums_size, bytes_enc hx.2.1, bytes_enc hx.2.2.1, List.length_append, List.length_append]; omega) ?_))))))))
  rw [bytes_enc hx.2.1, bytes_enc hx.2.2.1, bytes_enc hx.2.2.2.2]
  refine Ev.bind (ivals_ev x.f3 hx.2.2.2.1 h3 _ (by simp only [List.length_append]; omega)).2 (Ev.yes om (Ev.yes om ?_))
  rw [hm, idx80 i om]
  refine Ev.bind (ivals_ev m hm64 hml _ (by simp only [List.length_append]; omega)).2 ?_
  simp only [List.append_assoc]
  exact hE
 | succ d ih =>
  intro j b h1 h2 hE
  have hj : j < x.f0.length := by omega
  have hr : rd_T84 x.f0 (j : Int) = x.f0[j] := by simp [rd_T84, List.getD_eq_getElem?_getD, List.getElem?_eq_getElem hj]
  have hn := hx.1 x.f0[j] (List.getElem_mem hj)
  have a1 := (enc_ok hn.1).2; have a2 := (enc_ok hn.2.1).2; have a3 := (enc_ok hn.2.2).2
  have e : ((x.f0.drop j).map encM).flatten = encM x.f0[j] ++ ((x.f0.drop (j + 1)).map encM).flatten := by rw [List.drop_eq_getElem_cons hj]; rfl
  rw [e] at hE
  refine Ev.succ ?_
  simp only [spec_AsmBytes.l1]
  rw [hr, idx80 j om]
  refine Ev.yes om (Ev.yes om (Ev.bind (put_ev hn.1) (Ev.yes (by rw [strOfNums_size]; omega) (Ev.flat rfl (Ev.bind (put_ev hn.2.1) (Ev.yes (by rw [strOfNums_size, bytes_enc hn.1, List.length_append]; omega) (Ev.flat rfl (Ev.bind (put_ev hn.2.2) (Ev.yes (by rw [strOfNums_size, bytes_enc hn.1, bytes_enc hn.2.1, List.length_append, List.length_append]; omega) ?_)))))))))
  rw [bytes_enc hn.1, bytes_enc hn.2.1, bytes_enc hn.2.2]
  refine ih (j + 1) _ om (by simp only [List.length_append]; omega) ?_
  simp only [List.append_assoc, encM] at hE ⊢
  exact hE
theorem iPre {i : Nat} (hi : i < ss.length) (hc : ss.length ≤ 1048576) {x : S80} {m : List S82} (hm : rd_L17 ss (i : Int) = m) (hx : n64I x) (h0 : x.f0.length ≤ 1048576) (h3 : x.f3.length ≤ 1048576) (hm64 : ∀ v ∈ m, n64V v) (hml : m.length ≤ 1048576) {n : Int} {r : ByteArray} : ∀ (d j : Nat) (b : List Int), j + d = x.f0.length → b.length + 33 * d + 50000000 ≤ 140737488355000 →
  Ev (fun k => impl_AsmBytes.l0 k c n ((i + 1 : Nat) : Int) f c ss (b ++ (((x.f0.drop j).map encM).flatten ++ tailI x m))) r → Ev (fun k => impl_AsmBytes.l1 k (i : Int) c n (i : Int) x.f0 (x.f0.length : Int) (j : Int) f c ss b x.f0 x.f1 x.f2 x.f3 x.f4) r := by
 intro d
 induction d with
 | zero =>
  intro j b h1 h2 hE
  rw [List.drop_eq_nil_iff.2 om] at hE
  simp only [List.map_nil, List.flatten_nil, List.nil_append, tailI] at hE
  have a1 := (enc_ok hx.2.1).2; have a2 := (enc_ok hx.2.2.1).2; have a4 := (enc_ok hx.2.2.2.2).2
  have v3 := encVs_len hx.2.2.2.1 h3
  have hp := putL_ev [x.f1, x.f2, x.f4] (by intro z hz; simp at hz; rcases hz with rfl | rfl | rfl; exact hx.2.1; exact hx.2.2.1; exact hx.2.2.2.2) (by simp) b (by simp; omega)
  rw [encL3] at hp
  refine Ev.succ ?_
  simp only [impl_AsmBytes.l1]
  refine Ev.no om (Ev.bind hp (Ev.bind (ivals_ev x.f3 hx.2.2.2.1 h3 _ (by simp only [List.length_append]; omega)).1 (Ev.yes om (Ev.yes om ?_))))
  rw [hm, idx80 i om]
  refine Ev.bind (ivals_ev m hm64 hml _ (by simp only [List.length_append]; omega)).1 ?_
  simp only [List.append_assoc]
  exact hE
 | succ d ih =>
  intro j b h1 h2 hE
  have hj : j < x.f0.length := by omega
  have hr : rd_T84 x.f0 (j : Int) = x.f0[j] := by simp [rd_T84, List.getD_eq_getElem?_getD, List.getElem?_eq_getElem hj]
  have hn := hx.1 x.f0[j] (List.getElem_mem hj)
  have a1 := (enc_ok hn.1).2; have a2 := (enc_ok hn.2.1).2; have a3 := (enc_ok hn.2.2).2
  have e : ((x.f0.drop j).map encM).flatten = encM x.f0[j] ++ ((x.f0.drop (j + 1)).map encM).flatten := by rw [List.drop_eq_getElem_cons hj]; rfl
  rw [e] at hE
  have hp := putL_ev [x.f0[j].f0, x.f0[j].f1.f0, x.f0[j].f1.f1] (by intro z hz; simp at hz; rcases hz with rfl | rfl | rfl; exact hn.1; exact hn.2.1; exact hn.2.2) (by simp) b (by simp; omega)
  rw [encL3] at hp
  refine Ev.succ ?_
  simp only [impl_AsmBytes.l1]
  rw [hr, idx80 j om]
  refine Ev.yes om (Ev.yes om (Ev.yes om (Ev.bind hp ?_)))
  refine ih (j + 1) _ om (by simp only [List.length_append]; omega) ?_
  simp only [List.append_assoc, encM] at hE ⊢
  exact hE
def encC (c : List S80) (ss : List (List S82)) : Nat → Nat → List Int
 | _, 0 => []
 | i, d + 1 => encI (rd_T80 c (i : Int)) (rd_L17 ss (i : Int)) ++ encC c ss (i + 1) d
theorem codes_both (hcl : c.length ≤ 1048576) (hs : ss.length = c.length) (hx : ∀ x ∈ c, n64I x ∧ x.f0.length ≤ 1048576 ∧ x.f3.length ≤ 1048576) (hm : ∀ m ∈ ss, (∀ v ∈ m, n64V v) ∧ m.length ≤ 1048576) : ∀ (d i : Nat) (b : List Int), i + d = c.length → b.length + 84740500 * d + 100000000 ≤ 140737488355000 →
  Ev (fun k => spec_AsmBytes.l0 k b (i : Int) f c ss) (strOfNums (b ++ encC c ss i d)) ∧ Ev (fun k => impl_AsmBytes.l0 k c (c.length : Int) (i : Int) f c ss b) (strOfNums (b ++ encC c ss i d)) := by
 intro d
 induction d with
 | zero =>
  intro i b h1 h2
  simp only [encC, List.append_nil]
  refine ⟨Ev.succ ?_, Ev.succ ?_⟩
  ·simp only [spec_AsmBytes.l0]; exact Ev.no om (Ev.now _)
  ·simp only [impl_AsmBytes.l0]; exact Ev.no om (Ev.now _)
 | succ d ih =>
  intro i b h1 h2
  have hi : i < c.length := by omega
  have hi2 : i < ss.length := by omega
  have hr : rd_T80 c (i : Int) = c[i] := by simp [rd_T80, List.getD_eq_getElem?_getD, List.getElem?_eq_getElem hi]
  have hr2 : rd_L17 ss (i : Int) = ss[i] := by simp [rd_L17, List.getD_eq_getElem?_getD, List.getElem?_eq_getElem hi2]
  obtain ⟨x64, x0, x3⟩ := hx c[i] (List.getElem_mem hi)
  obtain ⟨m64, ml⟩ := hm ss[i] (List.getElem_mem hi2)
  have a0 := (enc_ok (len64 x0)).2
  have a1 := (enc_ok x64.2.1).2; have a2 := (enc_ok x64.2.2.1).2; have a4 := (enc_ok x64.2.2.2.2).2
  have v3 := encVs_len x64.2.2.2.1 x3
  have vm := encVs_len m64 ml
  have fl := flat_len encM 33 c[i].f0 (fun a ha => encM_len (x64.1 a ha))
  have hlen : (encI c[i] ss[i]).length ≤ 84740500 := by
   unfold encI tailI
   simp only [List.length_append]
   omega
  simp only [encC]
  rw [hr, hr2]
  obtain ⟨i1, i2⟩ := ih (i + 1) (b ++ encI c[i] ss[i]) om (by rw [List.length_append]; omega)
  rw [List.append_assoc] at i1 i2
  refine ⟨Ev.succ ?_, Ev.succ ?_⟩
  ·simp only [spec_AsmBytes.l0]
   rw [hr]
   refine Ev.yes om (Ev.yes om (Ev.bind (put_ev (len64 x0)) (Ev.yes (by rw [strOfNums_size]; omega) ?_)))
   rw [bytes_enc (len64 x0)]
   refine sPre hi2 om hr2 x64 x0 x3 m64 ml c[i].f0.length 0 _ om (by rw [List.length_append]; omega) ?_
   simp only [List.drop_zero, List.append_assoc, encI] at i1 ⊢
   exact i1
  ·have hp := putL_ev [(c[i].f0.length : Int)] (by intro z hz; simp at hz; subst hz; exact len64 x0) (by simp) b (by simp; omega)
   rw [encL1] at hp
   simp only [impl_AsmBytes.l0]
   rw [hr]
   refine Ev.yes om (Ev.yes om (Ev.yes om (Ev.bind hp ?_)))
   refine iPre hi2 om hr2 x64 x0 x3 m64 ml c[i].f0.length 0 _ om (by rw [List.length_append]; omega) ?_
   simp only [List.drop_zero, List.append_assoc, encI] at i2 ⊢
   exact i2
theorem right_len (p : List S121) (hne : ss.length ≠ c.length) : Ev (fun k => spec_AsmRight.f k p f c ss) false := by
 unfold spec_AsmRight.f
 have jt : Ev (fun k => spec_AsmRight.j0 k true p f c ss) false := by
  refine Ev.succ ?_
  simp only [spec_AsmRight.j0]
  exact Ev.yes (by simp) (Ev.now _)
 have e : ((ss.length : Int) != (c.length : Int)) = true := bne_iff_ne.2 om
 rcases is_both p f with ⟨hs, R, e1, e2⟩ | ⟨hs, e1, e2⟩
 case inr => exact Ev.bind e1 (Ev.no (by simp) jt)
 by_cases hf : hasB p f = true
 case neg => exact Ev.bind e1 (Ev.no hf jt)
 have hf2 := hasB_iff.1 hf
 refine Ev.bind e1 (Ev.yes hf (Ev.yes om (Ev.yes om ?_)))
 rw [e]
 exact Ev.cases (fun _ => jt) (fun _ => jt)
end
theorem asmBytes_fin (p : List S121) (f : Int) (hf : in64 f) (c : List S80) (ss : List (List S82)) (hc : okAsmInsS c) (hv : okValSS ss) (hcl : c.length ≤ 1048576) (hx : ∀ x ∈ c, n64I x ∧ x.f0.length ≤ 1048576 ∧ x.f3.length ≤ 1048576) (hm : ∀ m ∈ ss, (∀ v ∈ m, n64V v) ∧ m.length ≤ 1048576) :
  ∃ v : ByteArray, Ev (fun k => spec_AsmBytes.f k p f c ss) v ∧ Ev (fun k => impl_AsmBytes.f k p f c ss) v := by
 obtain ⟨v, h1, h2⟩ := asmRight_fin p f c ss hc hv
 unfold spec_AsmBytes.f impl_AsmBytes.f
 cases v with
 | false => exact ⟨_, Ev.bind h1 (Ev.no (by simp) (Ev.now _)), Ev.bind h2 (Ev.no (by simp) (Ev.now _))⟩
 | true =>
  have hs : ss.length = c.length := by
   apply Classical.byContradiction
   intro hne
   have := Ev.uniq h1 (right_len (f := f) p hne)
   cases this
  have a0 := (enc_ok hf).2
  have a1 := (enc_ok (len64 hcl)).2
  obtain ⟨i1, i2⟩ := codes_both (f := f) hcl hs hx hm c.length 0 (enc f ++ enc (c.length : Int)) om (by rw [List.length_append]; omega)
  have hp := putL_ev [f, (c.length : Int)] (by intro z hz; simp at hz; rcases hz with rfl | rfl; exact hf; exact len64 hcl) (by simp) [] (by simp)
  rw [encL2, List.nil_append] at hp
  refine ⟨_, Ev.bind h1 (Ev.yes rfl (Ev.flat rfl (Ev.bind (put_ev hf) (Ev.yes (by rw [strOfNums_size]; simp; omega) (Ev.flat rfl (Ev.bind (put_ev (len64 hcl)) (Ev.yes (by rw [strOfNums_size, bytes_enc hf]; simp; omega) ?_))))))), Ev.bind h2 (Ev.yes rfl (Ev.bind hp i2))⟩
  rw [bytes_enc hf, bytes_enc (len64 hcl), List.nil_append]
  exact i1
theorem val64 (x : S185) (h : wf185 x) : n64V (cVal x) := ⟨wf64 h.1, wf64 h.2⟩
theorem vals64 (l : List S185) (h : ∀ z ∈ l, wf185 z) : ∀ v ∈ cValS l, n64V v := by
 intro v hv
 obtain ⟨x, hx, rfl⟩ := List.mem_map.1 hv
 exact val64 x (h x hx)
theorem mov64 (x : S201) (h : wf201 x) : n64M (cMov x) := ⟨wf64 h.1, val64 x.f1 h.2⟩
theorem ins64 (x : S134) (h : wf134 x) : n64I (cAsmIns x) := by
 refine ⟨?_, wf64 h.2.1, wf64 h.2.2.1, vals64 x.f3 h.2.2.2.1.2, wf64 h.2.2.2.2⟩
 intro m hm
 obtain ⟨z, hz, rfl⟩ := List.mem_map.1 hm
 exact mov64 z (h.1.2 z hz)
theorem FnExactAsmBytes (x : S24) (wx : wf24 x) (y : S43) (wy : wf43 y) : ∃ k, laws_FnExactAsmBytes.f k x.f0 y.f0 y.f1 y.f2 = some true := by
 refine Ev.rounds ?_
 unfold laws_FnExactAsmBytes.f
 refine Ev.bind (szProgram_ev x wx 1048576 om om) ?_
 have hm := mProgram_nonneg x
 have hmy := mAsm_nonneg y
 by_cases h : mProgram x ≤ 1048576
 case neg => rw [left_no h]; exact Ev.yes om (Ev.now _)
 have e1 : left (mProgram x) 1048576 = 1048576 - mProgram x := by simp [left, h]
 rw [e1]
 refine Ev.no om (Ev.bind (szAsm_ev y wy _ om om) ?_)
 by_cases h2 : mAsm y ≤ 1048576 - mProgram x
 case neg => rw [left_no h2]; exact Ev.yes om (Ev.now _)
 have e2 : left (mAsm y) (1048576 - mProgram x) = 1048576 - mProgram x - mAsm y := by simp [left, h2]
 rw [e2]
 have tp := toProgram_ev x h
 have ty := toAsm_ev y om
 have oy := okAsm_c y om
 have eqp := eqProgram_refl (cProgram x) (okProgram_c x h)
 have eqy := eqAsm_refl (cAsm y) oy
 have hx : ∀ z ∈ cAsmInsS y.f1, n64I z ∧ z.f0.length ≤ 1048576 ∧ z.f3.length ≤ 1048576 := by
  intro z hz
  have hz2 := oy.1.2 z hz
  obtain ⟨q, hq, rfl⟩ := List.mem_map.1 hz
  exact ⟨ins64 q (wy.2.1.2 q hq), hz2.1, hz2.2⟩
 have hmm : ∀ m ∈ cValSS y.f2, (∀ v ∈ m, n64V v) ∧ m.length ≤ 1048576 := by
  intro m hm
  have hm2 := oy.2.2 m hm
  obtain ⟨q, hq, rfl⟩ := List.mem_map.1 hm
  exact ⟨vals64 q (wy.2.2.2 q hq).2, hm2⟩
 obtain ⟨v, v1, v2⟩ := asmBytes_fin (cFuncS x.f0) y.f0 (wf64 wy.1) (cAsmInsS y.f1) (cValSS y.f2) oy.1 oy.2 oy.1.1 hx hmm
 refine Ev.no om (Ev.bind tp (Ev.bind ty (Ev.bind v1 (Ev.bind tp (Ev.bind ty (Ev.bind v2 (Ev.yes rfl (Ev.bind tp (Ev.bind eqp (Ev.yes rfl (Ev.bind ty (Ev.bind eqy (Ev.yes rfl (Ev.now _))))))))))))))
end Go.Proofs.Ytkhpiicijkhpkaa.Pure
