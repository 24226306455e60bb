import Derived.Test.YtcdohkilplgmjaaCFnExactPlaing1
import Derived.Test.YtcdohkilplgmjaaCFnExactPlainf
namespace Go.Proofs.Ytcdohkilplgmjaa.Pure
open Go.RowKit Go.Proofs.Ytcdohkilplgmjaa.QFnExactPlain Go.Proofs.YtcdohkilplgmjaaW.PrintWords Go.Proofs.YtcdohkilplgmjaaW.PrintLast
set_option linter.unusedVariables false
set_option linter.unusedSimpArgs false
theorem om {Q : Prop} (h : Q := by omega) : Q := h
structure S33 where
 f0 : (List S53)
structure S29 where
 f0 : Int
 f1 : (List S50)
 f2 : (List (List S55))
theorem Ev.succ {α : Type} {g : Nat → Option α} {r : α} (h : Ev (fun k => g (k + 1)) r) : Ev g r := Ev.step (fun _ => rfl) h
theorem Ev.yes {α : Type} {c : Prop} [Decidable c] {g f : Nat → Option α} {r : α} (hc : c) (h : Ev g r) : Ev (fun k => if c then g k else f k) r := Ev.congr (fun _ => if_pos hc) h
theorem Ev.no {α : Type} {c : Prop} [Decidable c] {g f : Nat → Option α} {r : α} (hc : ¬ c) (h : Ev f r) : Ev (fun k => if c then g k else f k) r := Ev.congr (fun _ => if_neg hc) h
theorem Ev.cases {α : Type} {c : Prop} [Decidable c] {g f : Nat → Option α} {r : α} (h1 : c → Ev g r) (h2 : ¬ c → Ev f r) : Ev (fun k => if c then g k else f k) r := by
 by_cases hc : c
 ·exact Ev.yes hc (h1 hc)
 ·exact Ev.no hc (h2 hc)
theorem Ev.flat {α β : Type} {g : Option α} {f : Nat → α → Option β} {a : α} {r : β} (h : g = some a) (k : Ev (fun n => f n a) r) : Ev (fun n => g.bind (f n)) r := Ev.bind (g := fun _ => g) ⟨0, fun _ _ => h⟩ k
theorem wrap_in {n : Int} (h0 : -9223372036854775808 ≤ n) (h1 : n ≤ 9223372036854775807) : wrap64 n = n := by unfold wrap64; omega
theorem wrap_lo (n : Int) : -9223372036854775808 ≤ wrap64 n := by unfold wrap64; omega
theorem beq_no {a b : Int} (h : ¬ a = b) : (a == b) = false := beq_eq_false_iff_ne.2 h
theorem Ev.uniq {α : Type} {g : Nat → Option α} {r r' : α} (h : Ev g r) (h' : Ev g r') : r = r' := by
 obtain ⟨a, ha⟩ := h
 obtain ⟨b, hb⟩ := h'
 have h1 := ha (max a b) (Nat.le_max_left _ _)
 rw [hb (max a b) (Nat.le_max_right _ _)] at h1
 exact (Option.some.inj h1).symm
theorem idx_next {i n : Nat} (h : i < n) (hn : n ≤ 1048576) : wrap64 ((i : Int) + 1) = ((i + 1 : Nat) : Int) := by rw [wrap_in om om]; simp
theorem to_loop {α β ρ : Type} {l0 : Nat → List α → List β → Int → Option (List β)} {rdA : List α → Int → α} {E : Nat → α → Option ρ} {mk : ρ → β} {conv : α → β} {zA : α} {zB : β}
  (hl : ∀ k x y i, l0 (k + 1) x y i = if i < (x.length : Int) then (if 0 ≤ i then (E k (rdA x i)).bind fun r => (if i < (y.length : Int) then l0 k x (y.set i.toNat (mk r)) (wrap64 (i + 1)) else none) else none) else some y)
  (hrd : ∀ (x : List α) (i : Nat), rdA x (i : Int) = x.getD i zA) (x : List α) (hx : x.length ≤ 1048576) (hE : ∀ a ∈ x, ∃ r, Ev (fun k => E k a) r ∧ mk r = conv a) :
  Ev (fun k => l0 k x (List.replicate x.length zB) 0) (x.map conv) := by
 have key : ∀ (d i : Nat), i + d = x.length → ∀ y : List β, y.length = x.length → y.take i = (x.take i).map conv → Ev (fun k => l0 k x y (i : Int)) (x.map conv) := by
  intro d
  induction d with
  | zero =>
   intro i hi y hy ht
   refine Ev.succ ?_
   simp only [hl]
   refine Ev.no om ?_
   rw [List.take_of_length_le om, List.take_of_length_le om] at ht
   subst ht
   exact Ev.now _
  | succ d ih =>
   intro i hi y hy ht
   have hli : i < x.length := by omega
   refine Ev.succ ?_
   simp only [hl]
   have hr : rdA x (i : Int) = x[i] := by rw [hrd, List.getD_eq_getElem?_getD, List.getElem?_eq_getElem hli]; rfl
   obtain ⟨r, h1, h2⟩ := hE x[i] (List.getElem_mem hli)
   simp only [hr]
   refine Ev.yes om (Ev.yes om (Ev.bind h1 (Ev.yes om ?_)))
   rw [idx_next hli hx]
   refine ih (i + 1) om _ (by simp [hy]) ?_
   simp only [Int.toNat_natCast]
   rw [List.take_succ_eq_append_getElem (by simp; omega), List.take_succ_eq_append_getElem hli, List.map_append, ← ht, List.take_set_of_le (Nat.le_refl _)]
   simp [h2]
 exact key x.length 0 om _ (by simp) (by simp)
theorem eq_loop {α : Type} {l0 : Nat → List α → List α → Int → Option Bool} {rdA : List α → Int → α} {E : Nat → α → α → Option Bool} {zA : α}
  (hl : ∀ k x y i, l0 (k + 1) x y i = if i < (x.length : Int) then (if 0 ≤ i then (if i < (y.length : Int) then (E k (rdA x i) (rdA y i)).bind fun t => (if t = true then l0 k x y (wrap64 (i + 1)) else some false) else none) else none) else some true)
  (hrd : ∀ (x : List α) (i : Nat), rdA x (i : Int) = x.getD i zA) (x : List α) (hx : x.length ≤ 1048576) (hE : ∀ a ∈ x, Ev (fun k => E k a a) true) : Ev (fun k => l0 k x x 0) true := by
 have key : ∀ (d i : Nat), i + d = x.length → Ev (fun k => l0 k x x (i : Int)) true := by
  intro d
  induction d with
  | zero =>
   intro i hi
   refine Ev.succ ?_
   simp only [hl]
   exact Ev.no om (Ev.now _)
  | succ d ih =>
   intro i hi
   have hli : i < x.length := by omega
   refine Ev.succ ?_
   simp only [hl]
   have hr : rdA x (i : Int) = x[i] := by rw [hrd, List.getD_eq_getElem?_getD, List.getElem?_eq_getElem hli]; rfl
   simp only [hr]
   refine Ev.yes om (Ev.yes om (Ev.yes om (Ev.bind (hE x[i] (List.getElem_mem hli)) (Ev.yes rfl ?_))))
   rw [idx_next hli hx]
   exact ih (i + 1) om
 exact key x.length 0 om
def left (m a : Int) : Int := if m ≤ a then a - m else -1
def sumL {α : Type} (m : α → Int) (x : List α) : Int := (x.map m).sum
theorem sumL_nonneg {α : Type} {m : α → Int} (hm : ∀ a, 0 ≤ m a) : ∀ x : List α, 0 ≤ sumL m x
 | [] => by simp [sumL]
 | a :: x => by have := hm a; have := sumL_nonneg hm x; simp [sumL] at *; omega
theorem sumL_mem {α : Type} {m : α → Int} (hm : ∀ a, 0 ≤ m a) : ∀ {x : List α} {a : α}, a ∈ x → m a ≤ sumL m x
 | b :: x, a, h => by
  have h0 := sumL_nonneg hm x
  have hb := hm b
  rcases List.mem_cons.1 h with rfl | h
  ·simp [sumL] at *; omega
  ·have := sumL_mem hm h; simp [sumL] at *; omega
theorem sz_loop {α : Type} {l0 : Nat → List α → Int → Int → Option Int} {rdA : List α → Int → α} {E : Nat → α → Int → Option Int} {zA : α} {m : α → Int} (hm : ∀ a, 0 ≤ m a)
  (hl : ∀ k x a i, l0 (k + 1) x a i = if i < (x.length : Int) then (if 0 ≤ i then (E k (rdA x i) a).bind fun t => (if t < 0 then some (-1) else l0 k x t (wrap64 (i + 1))) else none) else some a)
  (hrd : ∀ (x : List α) (i : Nat), rdA x (i : Int) = x.getD i zA) (x : List α) (hx : x.length ≤ 1048576) (hE : ∀ z ∈ x, ∀ a, 0 ≤ a → a ≤ 1048576 → Ev (fun k => E k z a) (left (m z) a)) (a : Int) (h0 : 0 ≤ a) (h1 : a ≤ 1048576) :
  Ev (fun k => l0 k x a 0) (left (sumL m x) a) := by
 have key : ∀ (d i : Nat), i + d = x.length → ∀ a, 0 ≤ a → a ≤ 1048576 → Ev (fun k => l0 k x a (i : Int)) (left (sumL m (x.drop i)) a) := by
  intro d
  induction d with
  | zero =>
   intro i hi a h0 h1
   refine Ev.succ ?_
   simp only [hl]
   rw [List.drop_of_length_le om]
   refine Ev.no om ?_
   simp only [left, sumL, List.map_nil, List.sum_nil, Int.sub_zero, if_pos h0]
   exact Ev.now _
  | succ d ih =>
   intro i hi a h0 h1
   have hli : i < x.length := by omega
   refine Ev.succ ?_
   simp only [hl]
   have hr : rdA x (i : Int) = x[i] := by rw [hrd, List.getD_eq_getElem?_getD, List.getElem?_eq_getElem hli]; rfl
   simp only [hr]
   refine Ev.yes om (Ev.yes om (Ev.bind (hE x[i] (List.getElem_mem hli) a h0 h1) ?_))
   have hs : sumL m (x.drop i) = m x[i] + sumL m (x.drop (i + 1)) := by rw [List.drop_eq_getElem_cons hli]; unfold sumL; rw [List.map_cons, List.sum_cons]
   have hp := sumL_nonneg hm (x.drop (i + 1))
   have hq := hm x[i]
   rw [hs, idx_next hli hx]
   by_cases hc : m x[i] ≤ a
   ·have e : left (m x[i]) a = a - m x[i] := by simp [left, hc]
    rw [e]
    refine Ev.no om ?_
    have e2 : left (m x[i] + sumL m (x.drop (i + 1))) a = left (sumL m (x.drop (i + 1))) (a - m x[i]) := by
     unfold left
     by_cases h : m x[i] + sumL m (x.drop (i + 1)) ≤ a
     ·rw [if_pos h, if_pos om]; omega
     ·rw [if_neg h, if_neg om]
    rw [e2]
    exact ih (i + 1) om _ om om
   ·have e : left (m x[i]) a = -1 := by simp [left, hc]
    have e2 : left (m x[i] + sumL m (x.drop (i + 1))) a = -1 := by unfold left; rw [if_neg om]
    rw [e, e2]
    exact Ev.yes om (Ev.now _)
 simpa using key x.length 0 om a h0 h1
theorem left_step {m n a : Int} (h : m ≤ a) : left m a = a - m := by simp [left, h]
theorem left_no {m a : Int} (h : ¬ m ≤ a) : left m a = -1 := by simp [left, h]
theorem sz_last {m a : Int} {E : Nat → Option Int} (hm : 0 ≤ m) (hE : Ev E (left m a)) : Ev (fun k => (E k).bind fun t => if t < 0 then some (-1) else some t) (left m a) := by
 refine Ev.bind hE ?_
 by_cases hc : m ≤ a
 ·rw [left_step (n := 0) hc]
  exact Ev.no om (Ev.now _)
 ·rw [left_no hc]
  exact Ev.yes om (Ev.now _)
theorem sz_len {n : Nat} {a : Int} {F : Nat → Int → Option Int} {m : Int} (hm : 0 ≤ m) (hn : n ≤ 9223372036854775807) (h0 : 0 ≤ a) (h1 : a ≤ 1048576) (hF : (n : Int) ≤ a → Ev (fun k => F k (a - n)) (left m (a - n))) :
  Ev (fun k => if wrap64 (a - (n : Int)) < 0 then some (-1) else F k (wrap64 (a - (n : Int)))) (left (n + m) a) := by
 have e : wrap64 (a - (n : Int)) = a - n := wrap_in om om
 rw [e]
 by_cases hc : (n : Int) ≤ a
 ·refine Ev.no om ?_
  have e : left (n + m) a = left m (a - n) := by
   unfold left
   by_cases h : n + m ≤ a
   ·rw [if_pos h, if_pos om]; omega
   ·rw [if_neg h, if_neg om]
  rw [e]
  exact hF hc
 ·rw [left_no om]
  exact Ev.yes om (Ev.now _)
theorem left_zero {a : Int} (h : 0 ≤ a) : left 0 a = a := by simp [left, h]
def cIns (x : S111) : S59 := ⟨x.f0, x.f1⟩
theorem eqIns_refl (x : S59) : Ev (fun k => laws_eqIns.f x.f0 x.f1 x.f0 x.f1) true := by
 unfold laws_eqIns.f
 exact Ev.yes rfl (Ev.yes rfl (Ev.now _))
def cInsS (x : List S111) : List S59 := x.map cIns
theorem mInsS_nonneg (x : List S111) : (0 : Int) ≤ (x.length : Int) := by omega
theorem szInsS_ev (x : List S111) (w : x.length ≤ 9223372036854775807 ∧ ∀ z ∈ x, wf111 z) (a : Int) (h0 : 0 ≤ a) (h1 : a ≤ 1048576) : Ev (fun _ => laws_szInsS.f x a) (left (x.length : Int) a) := by
 unfold laws_szInsS.f
 have h := sz_len (n := x.length) (a := a) (F := fun _ t => some t) (m := 0) om w.1 h0 h1 (fun h => by rw [left_zero om]; exact Ev.now _)
 simpa using h
theorem toInsS_ev (x : List S111) (h : (x.length : Int) ≤ 1048576) : Ev (fun k => laws_toInsS.f k x) (cInsS x) := by
 unfold laws_toInsS.f
 refine Ev.yes om (Ev.yes (by simp; omega) ?_)
 exact to_loop (l0 := laws_toInsS.l0) (rdA := rd_T111) (E := fun k z => laws_toIns.f z.f0 z.f1) (mk := fun r => (⟨r.1, r.2⟩ : S59)) (conv := cIns) (zA := z111) (zB := z59) (fun k x y i => by simp only [laws_toInsS.l0]) (fun _ _ => rfl) x om (fun z hz => ⟨_, ⟨0, fun _ _ => rfl⟩, rfl⟩)
def okInsS (x : List S59) : Prop := x.length ≤ 1048576
theorem okInsS_c (x : List S111) (h : (x.length : Int) ≤ 1048576) : okInsS (cInsS x) := by
 unfold okInsS cInsS
 rw [List.length_map]; omega
theorem eqInsS_refl (x : List S59) (h : okInsS x) : Ev (fun k => laws_eqInsS.f k x x) true := by
 unfold laws_eqInsS.f
 refine Ev.yes rfl ?_
 exact eq_loop (l0 := laws_eqInsS.l0) (rdA := rd_T59) (E := fun k a b => laws_eqIns.f a.f0 a.f1 b.f0 b.f1) (zA := z59) (fun k x y i => by simp only [laws_eqInsS.l0]) (fun _ _ => rfl) x h (fun a ha => eqIns_refl a)
def cFunc (x : S74) : S53 := ⟨x.f0, x.f1, (cInsS x.f2)⟩
def mFunc (x : S74) : Int := (x.f2.length : Int)
theorem mFunc_nonneg (x : S74) : 0 ≤ mFunc x := by
 unfold mFunc
 have h2 : (0 : Int) ≤ (x.f2.length : Int) := mInsS_nonneg _
 omega
theorem toFunc_ev (x : S74) (h : mFunc x ≤ 1048576) : Ev (fun k => laws_toFunc.f k x.f0 x.f1 x.f2) (x.f0, x.f1, (cInsS x.f2)) := by
 unfold mFunc at h
 have p2 : (0 : Int) ≤ (x.f2.length : Int) := mInsS_nonneg _
 have h2 : (x.f2.length : Int) ≤ 1048576 := by omega
 unfold laws_toFunc.f
 exact Ev.bind (toInsS_ev x.f2 h2) (Ev.now _)
theorem szFunc_ev (x : S74) (w : wf74 x) (a : Int) (h0 : 0 ≤ a) (h1 : a ≤ 1048576) : Ev (fun k => laws_szFunc.f x.f0 x.f1 x.f2 a) (left (mFunc x) a) := by
 obtain ⟨w0, w1, w2⟩ := w
 have p2 : (0 : Int) ≤ (x.f2.length : Int) := mInsS_nonneg _
 have e : mFunc x = (x.f2.length : Int) := by unfold mFunc; omega
 rw [e]
 unfold laws_szFunc.f
 exact sz_last (mInsS_nonneg _) (szInsS_ev x.f2 w2 a om om)
def okFunc (x : S53) : Prop := okInsS x.f2
theorem okFunc_c (x : S74) (h : mFunc x ≤ 1048576) : okFunc (cFunc x) := by
 unfold mFunc at h
 have p2 : (0 : Int) ≤ (x.f2.length : Int) := mInsS_nonneg _
 exact okInsS_c _ om
theorem eqFunc_refl (x : S53) (h : okFunc x) : Ev (fun k => laws_eqFunc.f k x.f0 x.f1 x.f2 x.f0 x.f1 x.f2) true := by
 have h2 := h
 unfold laws_eqFunc.f
 exact Ev.yes rfl (Ev.yes rfl (Ev.bind (eqInsS_refl x.f2 h2) (Ev.yes rfl (Ev.now _))))
def cFuncS (x : List S74) : List S53 := x.map cFunc
theorem mFuncS_nonneg (x : List S74) : (0 : Int) ≤ (x.length + sumL mFunc x : Int) := by have := sumL_nonneg mFunc_nonneg x; omega
theorem szFuncS_ev (x : List S74) (w : x.length ≤ 9223372036854775807 ∧ ∀ z ∈ x, wf74 z) (a : Int) (h0 : 0 ≤ a) (h1 : a ≤ 1048576) : Ev (fun k => laws_szFuncS.f k x a) (left (x.length + sumL mFunc x : Int) a) := by
 unfold laws_szFuncS.f
 refine sz_len (F := fun k t => laws_szFuncS.l0 k x t 0) (sumL_nonneg mFunc_nonneg x) w.1 h0 h1 (fun h => ?_)
 exact sz_loop (l0 := laws_szFuncS.l0) (rdA := rd_T74) (E := fun k z a => laws_szFunc.f z.f0 z.f1 z.f2 a) (zA := z74) (m := mFunc) mFunc_nonneg (fun k x a i => by simp only [laws_szFuncS.l0]) (fun _ _ => rfl) x om (fun z hz a h0 h1 => szFunc_ev z (w.2 z hz) a h0 h1) _ om om
theorem toFuncS_ev (x : List S74) (h : (x.length + sumL mFunc x : Int) ≤ 1048576) : Ev (fun k => laws_toFuncS.f k x) (cFuncS x) := by
 unfold laws_toFuncS.f
 have hs := sumL_nonneg mFunc_nonneg x
 refine Ev.yes om (Ev.yes (by simp; omega) ?_)
 exact to_loop (l0 := laws_toFuncS.l0) (rdA := rd_T74) (E := fun k z => laws_toFunc.f k z.f0 z.f1 z.f2) (mk := fun r => (⟨r.1, r.2.1, r.2.2⟩ : S53)) (conv := cFunc) (zA := z74) (zB := z53) (fun k x y i => by simp only [laws_toFuncS.l0]) (fun _ _ => rfl) x om (fun z hz => ⟨_, toFunc_ev z (by have := sumL_mem mFunc_nonneg hz; omega), rfl⟩)
def okFuncS (x : List S53) : Prop := x.length ≤ 1048576 ∧ ∀ z ∈ x, okFunc z
theorem okFuncS_c (x : List S74) (h : (x.length + sumL mFunc x : Int) ≤ 1048576) : okFuncS (cFuncS x) := by
 have hs := sumL_nonneg mFunc_nonneg x
 refine ⟨by unfold cFuncS; rw [List.length_map]; omega, fun z hz => ?_⟩
 obtain ⟨y, hy, rfl⟩ := List.mem_map.1 hz
 exact okFunc_c y (by have := sumL_mem mFunc_nonneg hy; omega)
theorem eqFuncS_refl (x : List S53) (h : okFuncS x) : Ev (fun k => laws_eqFuncS.f k x x) true := by
 unfold laws_eqFuncS.f
 refine Ev.yes rfl ?_
 exact eq_loop (l0 := laws_eqFuncS.l0) (rdA := rd_T53) (E := fun k a b => laws_eqFunc.f k a.f0 a.f1 a.f2 b.f0 b.f1 b.f2) (zA := z53) (fun k x y i => by simp only [laws_eqFuncS.l0]) (fun _ _ => rfl) x h.1 (fun a ha => eqFunc_refl a (h.2 a ha))
def cProgram (x : S24) : S33 := ⟨(cFuncS x.f0)⟩
def mProgram (x : S24) : Int := (x.f0.length + sumL mFunc x.f0 : Int)
theorem mProgram_nonneg (x : S24) : 0 ≤ mProgram x := by
 unfold mProgram
 have h0 : (0 : Int) ≤ (x.f0.length + sumL mFunc x.f0 : Int) := mFuncS_nonneg _
 omega
theorem toProgram_ev (x : S24) (h : mProgram x ≤ 1048576) : Ev (fun k => laws_toProgram.f k x.f0) ((cFuncS x.f0)) := by
 unfold mProgram at h
 have p0 : (0 : Int) ≤ (x.f0.length + sumL mFunc x.f0 : Int) := mFuncS_nonneg _
 have h0 : (x.f0.length + sumL mFunc x.f0 : Int) ≤ 1048576 := by omega
 unfold laws_toProgram.f
 exact Ev.bind (toFuncS_ev x.f0 h0) (Ev.now _)
theorem szProgram_ev (x : S24) (w : wf24 x) (a : Int) (h0 : 0 ≤ a) (h1 : a ≤ 1048576) : Ev (fun k => laws_szProgram.f k x.f0 a) (left (mProgram x) a) := by
 unfold mProgram laws_szProgram.f
 exact sz_last (mFuncS_nonneg _) (szFuncS_ev x.f0 w a h0 h1)
def okProgram (x : S33) : Prop := okFuncS x.f0
theorem okProgram_c (x : S24) (h : mProgram x ≤ 1048576) : okProgram (cProgram x) := by
 unfold mProgram at h
 have p0 : (0 : Int) ≤ (x.f0.length + sumL mFunc x.f0 : Int) := mFuncS_nonneg _
 exact okFuncS_c _ om
theorem eqProgram_refl (x : S33) (h : okProgram x) : Ev (fun k => laws_eqProgram.f k x.f0 x.f0) true := by
 have h0 := h
 unfold laws_eqProgram.f
 exact Ev.bind (eqFuncS_refl x.f0 h0) (Ev.yes rfl (Ev.now _))
def isLeast (w : List Bool) (a : Nat) : Prop := a < w.length ∧ w.getD a false = true ∧ ∀ b, b < a → w.getD b false = false
theorem least_ex (w : List Bool) : (∀ b, w.getD b false = false) ∨ ∃ a, isLeast w a := by
 induction w with
 | nil => exact Or.inl (fun b => by simp)
 | cons x w ih =>
  cases x with
  | true => exact Or.inr ⟨0, by simp, by simp, fun b hb => by omega⟩
  | false =>
   rcases ih with h | ⟨a, h1, h2, h3⟩
   ·refine Or.inl (fun b => ?_)
    cases b with
    | zero => simp
    | succ b => simpa using h b
   ·refine Or.inr ⟨a + 1, by simpa using h1, by simpa using h2, fun b hb => ?_⟩
    cases b with
    | zero => simp
    | succ b => simpa using h3 b om
def nexts (len : Nat) (v : Int) : List Int → List Int → List Bool → Except (List Int × Int) (List Int × List Bool)
 | [], h, w => .ok (h, w)
 | n :: r, h, w => if (len : Int) ≤ n then .error (h, 6) else if 0 ≤ rd h n ∧ rd h n ≠ v then .error (h, 5) else if rd h n < 0 then nexts len v r (h.set n.toNat v) (w.set n.toNat true) else nexts len v r h w
structure Mach where
 len : Nat
 bad : Nat → Int → Bool
 v : Nat → Int → Int
 nx : Nat → List Int
def Mach.step (M : Mach) (h : List Int) (w : List Bool) (a : Nat) : Except (List Int × Int) (List Int × List Bool) := if M.bad a (rd h a) = true then .error (h, 5) else nexts M.len (M.v a (rd h a)) (M.nx a) h (w.set a false)
inductive Run (M : Mach) : List Int → List Bool → List Int × Int × Int → Prop
 | stop {h w} : (∀ b, w.getD b false = false) → Run M h w (h, 0, 0)
 | bad {h w a h' c} : isLeast w a → M.step h w a = .error (h', c) → Run M h w (h', (a : Int), c)
 | go {h w a h' w' r} : isLeast w a → M.step h w a = .ok (h', w') → Run M h' w' r → Run M h w r
def sumTo (g : Nat → Nat) : Nat → Nat
 | 0 => 0
 | n + 1 => sumTo g n + g n
theorem sumTo_congr {g g' : Nat → Nat} : ∀ n, (∀ i, i < n → g i = g' i) → sumTo g n = sumTo g' n
 | 0, _ => rfl
 | n + 1, h => by simp only [sumTo]; rw [sumTo_congr n (fun i hi => h i om), h n om]
theorem sumTo_at {g g' : Nat → Nat} {a : Nat} (he : ∀ i, i ≠ a → g i = g' i) : ∀ n, a < n → sumTo g n + g' a = sumTo g' n + g a
 | 0, h => by omega
 | n + 1, h => by
  simp only [sumTo]
  by_cases hn : a = n
  ·subst hn
   rw [sumTo_congr a (fun i hi => he i om)]; omega
  ·have := sumTo_at he n om
   rw [he n (fun e => hn e.symm)]; omega
def wt (len : Nat) (h : List Int) (w : List Bool) (a : Nat) : Nat := (if rd h a < 0 ∨ w.getD a false = true then 2 * len + 1 else 0) + (if rd h a < 0 ∧ w.getD a false = true then len - a else 0)
theorem rd_nat (h : List Int) (a : Nat) : rd h (a : Int) = h.getD a 0 := by simp [rd]
theorem rd_set {h : List Int} {n : Nat} (hn : n < h.length) (x : Int) (i : Nat) : rd (h.set n x) (i : Int) = if i = n then x else rd h i := by
 rw [rd_nat, rd_nat, List.getD_eq_getElem?_getD, List.getD_eq_getElem?_getD, List.getElem?_set]
 by_cases e : n = i
 ·subst e; simp [hn]
 ·rw [if_neg e, if_neg (fun e' => e e'.symm)]
theorem gb_set {w : List Bool} {n : Nat} (hn : n < w.length) (x : Bool) (i : Nat) : (w.set n x).getD i false = if i = n then x else w.getD i false := by
 rw [List.getD_eq_getElem?_getD, List.getD_eq_getElem?_getD, List.getElem?_set]
 by_cases e : n = i
 ·subst e; simp [hn]
 ·rw [if_neg e, if_neg (fun e' => e e'.symm)]
theorem nexts_len (len : Nat) (v : Int) : ∀ (l h : List Int) (w : List Bool), h.length = len → w.length = len → ∀ h' w', nexts len v l h w = .ok (h', w') → h'.length = len ∧ w'.length = len
 | [], h, w, h0, h1, h', w', e => by simp only [nexts, Except.ok.injEq, Prod.mk.injEq] at e; obtain ⟨rfl, rfl⟩ := e; exact ⟨h0, h1⟩
 | n :: r, h, w, h0, h1, h', w', e => by
  simp only [nexts] at e
  split at e
  ·cases e
  ·split at e
   ·cases e
   ·split at e
    ·exact nexts_len len v r _ _ (by simpa using h0) (by simpa using h1) h' w' e
    ·exact nexts_len len v r _ _ h0 h1 h' w' e
theorem nexts_bad (len : Nat) (v : Int) : ∀ (l h : List Int) (w : List Bool), h.length = len → ∀ h' c, nexts len v l h w = .error (h', c) → h'.length = len ∧ (c = 5 ∨ c = 6)
 | [], h, w, h0, h', c, e => by simp [nexts] at e
 | n :: r, h, w, h0, h', c, e => by
  simp only [nexts] at e
  split at e
  ·simp only [Except.error.injEq, Prod.mk.injEq] at e; obtain ⟨rfl, rfl⟩ := e; exact ⟨h0, Or.inr rfl⟩
  ·split at e
   ·simp only [Except.error.injEq, Prod.mk.injEq] at e; obtain ⟨rfl, rfl⟩ := e; exact ⟨h0, Or.inl rfl⟩
   ·split at e
    ·exact nexts_bad len v r _ _ (by simpa using h0) h' c e
    ·exact nexts_bad len v r _ _ h0 h' c e
theorem nexts_wt (len : Nat) (v : Int) : ∀ (l h : List Int) (w : List Bool), h.length = len → w.length = len → (∀ n ∈ l, 0 ≤ n) → ∀ h' w', nexts len v l h w = .ok (h', w') →
  sumTo (wt len h' w') len ≤ sumTo (wt len h w) len + (l.map fun n => len - n.toNat).sum
 | [], h, w, h0, h1, hp, h', w', e => by simp only [nexts, Except.ok.injEq, Prod.mk.injEq] at e; obtain ⟨rfl, rfl⟩ := e; simp
 | n :: r, h, w, h0, h1, hp, h', w', e => by
  have hn := hp n (by simp)
  have hr : ∀ m ∈ r, 0 ≤ m := fun m hm => hp m (by simp [hm])
  simp only [nexts] at e
  simp only [List.map_cons, List.sum_cons]
  split at e
  ·cases e
  rename_i hlt
  split at e
  ·cases e
  split at e
  ·rename_i hneg
   have ih := nexts_wt len v r _ _ (by simpa using h0) (by simpa using h1) hr h' w' e
   have hb : n.toNat < len := by omega
   have eq : ((n.toNat : Nat) : Int) = n := by omega
   have st := sumTo_at (g := wt len (h.set n.toNat v) (w.set n.toNat true)) (g' := wt len h w) (a := n.toNat) (fun i hi => by
    unfold wt
    rw [rd_set om, gb_set om, if_neg hi, if_neg hi]) len hb
   have w1 : wt len (h.set n.toNat v) (w.set n.toNat true) n.toNat ≤ 2 * len + 1 + (len - n.toNat) := by
    unfold wt; split <;> split <;> omega
   have w2 : 2 * len + 1 ≤ wt len h w n.toNat := by
    unfold wt; rw [eq, if_pos (Or.inl hneg)]; omega
   omega
  ·have ih := nexts_wt len v r _ _ h0 h1 hr h' w' e
   omega
structure Mach.Good (M : Mach) : Prop where
 nn : ∀ a, a < M.len → ∀ n ∈ M.nx a, 0 ≤ n
 two : ∀ a, a < M.len → (M.nx a).length ≤ 2
 lo : ∀ a x, -9223372036854775808 ≤ M.v a x
 neg : ∀ a, a < M.len → ∀ x, x < 0 → -9223372036854775808 ≤ x → M.bad a x = false → M.nx a = [] ∨ M.nx a = [(a : Int) + 1]
theorem nexts_all {P : Int → Prop} (len : Nat) (v : Int) (hv : P v) : ∀ (l h : List Int) (w : List Bool), h.length = len → (∀ n ∈ l, 0 ≤ n) → (∀ a : Nat, P (rd h a)) → ∀ h' w', nexts len v l h w = .ok (h', w') → ∀ a : Nat, P (rd h' a)
 | [], h, w, h0, hp, i1, h', w', e => by simp only [nexts, Except.ok.injEq, Prod.mk.injEq] at e; obtain ⟨rfl, rfl⟩ := e; exact i1
 | n :: r, h, w, h0, hp, i1, h', w', e => by
  have hn := hp n (by simp)
  have hr : ∀ m ∈ r, 0 ≤ m := fun m hm => hp m (by simp [hm])
  simp only [nexts] at e
  split at e
  ·cases e
  split at e
  ·cases e
  split at e
  ·refine nexts_all len v hv r _ _ (by simpa using h0) hr (fun a => ?_) h' w' e
   rw [rd_set om]
   split
   ·exact hv
   ·exact i1 a
  ·exact nexts_all len v hv r _ _ h0 hr i1 h' w' e
theorem step_wt {M : Mach} (G : M.Good) {h : List Int} {w : List Bool} {a : Nat} (h0 : h.length = M.len) (h1 : w.length = M.len) (hl : isLeast w a) (hR : ∀ b : Nat, -9223372036854775808 ≤ rd h b) {h' : List Int} {w' : List Bool} (e : M.step h w a = .ok (h', w')) :
  sumTo (wt M.len h' w') M.len < sumTo (wt M.len h w) M.len ∧ (h'.length = M.len ∧ w'.length = M.len) ∧ ∀ b : Nat, -9223372036854775808 ≤ rd h' b := by
 obtain ⟨ha, hw, _⟩ := hl
 have ha' : a < M.len := by omega
 unfold Mach.step at e
 split at e
 ·cases e
 rename_i hb
 have hL := nexts_len _ _ _ _ _ h0 (by simpa using h1) _ _ e
 refine ⟨?_, hL, nexts_all _ _ (G.lo _ _) _ _ _ h0 (G.nn a ha') hR _ _ e⟩
 have hs := nexts_wt _ _ _ _ _ h0 (by simpa using h1) (G.nn a ha') _ _ e
 have st := sumTo_at (g := wt M.len h (w.set a false)) (g' := wt M.len h w) (a := a) (fun i hi => by
  unfold wt
  rw [gb_set ha, if_neg hi]) M.len ha'
 by_cases hx : rd h a < 0
 ·have w1 : wt M.len h (w.set a false) a = 2 * M.len + 1 := by
   unfold wt; rw [gb_set ha]; simp [hx]
  have w2 : wt M.len h w a = 2 * M.len + 1 + (M.len - a) := by
   unfold wt; rw [if_pos (Or.inl hx), if_pos ⟨hx, hw⟩]
  rcases G.neg a ha' _ hx (hR a) (by simpa using hb) with hn | hn
  ·rw [hn] at hs; simp at hs; omega
  ·rw [hn] at hs; simp at hs
   omega
 ·have w1 : wt M.len h (w.set a false) a = 0 := by
   unfold wt; rw [gb_set ha]; simp [hx]
  have w2 : wt M.len h w a = 2 * M.len + 1 := by
   unfold wt; rw [if_pos (Or.inr hw), if_neg (fun c => hx c.1)]
  have h2 := G.two a ha'
  have hs2 : ((M.nx a).map fun n => M.len - n.toNat).sum ≤ 2 * M.len := by
   match hq : M.nx a with
   | [] => simp
   | [x] => simp; omega
   | [x, y] => simp; omega
   | x :: y :: z :: t => rw [hq] at h2; simp at h2
  omega
theorem run_ends {M : Mach} (G : M.Good) : ∀ (m : Nat) (h : List Int) (w : List Bool), h.length = M.len → w.length = M.len → (∀ b : Nat, -9223372036854775808 ≤ rd h b) → sumTo (wt M.len h w) M.len ≤ m → ∃ r, Run M h w r := by
 intro m
 induction m with
 | zero =>
  intro h w h0 h1 hR hm
  rcases least_ex w with hn | ⟨a, ha⟩
  ·exact ⟨_, Run.stop hn⟩
  ·match e : M.step h w a with
   | .error (h', c) => exact ⟨_, Run.bad ha e⟩
   | .ok (h', w') => have := (step_wt G h0 h1 ha hR e).1; omega
 | succ m ih =>
  intro h w h0 h1 hR hm
  rcases least_ex w with hn | ⟨a, ha⟩
  ·exact ⟨_, Run.stop hn⟩
  ·match e : M.step h w a with
   | .error (h', c) => exact ⟨_, Run.bad ha e⟩
   | .ok (h', w') =>
    obtain ⟨hs, hl, hR'⟩ := step_wt G h0 h1 ha hR e
    obtain ⟨r, hr⟩ := ih h' w' hl.1 hl.2 hR' om
    exact ⟨r, Run.go ha e hr⟩
theorem step_bad {M : Mach} {h : List Int} {w : List Bool} {a : Nat} (h0 : h.length = M.len) {h' : List Int} {c : Int} (e : M.step h w a = .error (h', c)) : h'.length = M.len ∧ (c = 5 ∨ c = 6) := by
 unfold Mach.step at e
 split at e
 ·simp only [Except.error.injEq, Prod.mk.injEq] at e; obtain ⟨rfl, rfl⟩ := e; exact ⟨h0, Or.inl rfl⟩
 ·exact nexts_bad _ _ _ _ _ h0 _ _ e
theorem step_len {M : Mach} {h : List Int} {w : List Bool} {a : Nat} (h0 : h.length = M.len) (h1 : w.length = M.len) {h' : List Int} {w' : List Bool} (e : M.step h w a = .ok (h', w')) : h'.length = M.len ∧ w'.length = M.len := by
 unfold Mach.step at e
 split at e
 ·cases e
 ·exact nexts_len _ _ _ _ _ h0 (by simpa using h1) _ _ e
theorem run_len {M : Mach} {h : List Int} {w : List Bool} {r : List Int × Int × Int} (hr : Run M h w r) : h.length = M.len → w.length = M.len → r.1.length = M.len ∧ (r.2.2 = 0 ∨ r.2.2 = 5 ∨ r.2.2 = 6) ∧ (r.2.2 = 0 → r.2.1 = 0) := by
 induction hr with
 | stop hn => intro h0 h1; exact ⟨h0, Or.inl rfl, fun _ => rfl⟩
 | bad ha e => intro h0 h1; have := step_bad h0 e; exact ⟨this.1, Or.inr this.2, fun hc => by have := this.2; simp at hc; omega⟩
 | go ha e _ ih => intro h0 h1; have := step_len h0 h1 e; exact ih this.1 this.2
theorem nexts_ok {P : Int → Prop} (len : Nat) (v : Int) (hv : P v) : ∀ (l h : List Int) (w : List Bool), h.length = len → w.length = len → (∀ n ∈ l, 0 ≤ n) → (∀ a : Nat, w.getD a false = true → P (rd h a)) → (∀ a : Nat, P (rd h a) ∨ rd h a < 0) → ∀ h' w', nexts len v l h w = .ok (h', w') →
  (∀ a : Nat, w'.getD a false = true → P (rd h' a)) ∧ (∀ a : Nat, P (rd h' a) ∨ rd h' a < 0)
 | [], h, w, h0, h1, hp, i1, i2, h', w', e => by simp only [nexts, Except.ok.injEq, Prod.mk.injEq] at e; obtain ⟨rfl, rfl⟩ := e; exact ⟨i1, i2⟩
 | n :: r, h, w, h0, h1, hp, i1, i2, h', w', e => by
  have hn := hp n (by simp)
  have hr : ∀ m ∈ r, 0 ≤ m := fun m hm => hp m (by simp [hm])
  simp only [nexts] at e
  split at e
  ·cases e
  rename_i hlt
  split at e
  ·cases e
  split at e
  ·have hb : n.toNat < len := by omega
   refine nexts_ok len v hv r _ _ (by simpa using h0) (by simpa using h1) hr (fun a ha => ?_) (fun a => ?_) h' w' e
   ·rw [rd_set om]
    rw [gb_set om] at ha
    split
    ·exact hv
    ·rename_i hne; rw [if_neg hne] at ha; exact i1 a ha
   ·rw [rd_set om]
    split
    ·exact Or.inl hv
    ·exact i2 a
  ·exact nexts_ok len v hv r _ _ h0 h1 hr i1 i2 h' w' e
theorem run_same {M M' : Mach} {P : Int → Prop} (e1 : M'.len = M.len) (e2 : M'.v = M.v) (e3 : M'.nx = M.nx) (G : M.Good) (hb : ∀ a, a < M.len → ∀ x, P x → M'.bad a x = M.bad a x) (hv : ∀ a, a < M.len → ∀ x, P x → M.bad a x = false → P (M.v a x))
  {h : List Int} {w : List Bool} {r : List Int × Int × Int} (hr : Run M h w r) : h.length = M.len → w.length = M.len → (∀ a : Nat, w.getD a false = true → P (rd h a)) → (∀ a : Nat, P (rd h a) ∨ rd h a < 0) → Run M' h w r := by
 induction hr with
 | stop hn => intro _ _ _ _; exact Run.stop hn
 | @bad h w a h' c ha e =>
  intro h0 h1 i1 i2
  refine Run.bad ha ?_
  have hl : a < M.len := by have := ha.1; omega
  unfold Mach.step at e ⊢
  rw [hb a hl _ (i1 a ha.2.1), e1, e2, e3]; exact e
 | @go h w a h' w' r ha e _ ih =>
  intro h0 h1 i1 i2
  have hl : a < M.len := by have := ha.1; omega
  have hL := step_len h0 h1 e
  have e' := e
  unfold Mach.step at e
  split at e
  ·cases e
  rename_i hnb
  have := nexts_ok (P := P) M.len (M.v a (rd h a)) (hv a hl _ (i1 a ha.2.1) (by simpa using hnb)) (M.nx a) h (w.set a false) h0 (by simpa using h1) (G.nn a hl) (fun b hb => by
   rw [gb_set ha.1] at hb
   split at hb
   ·cases hb
   ·exact i1 b hb) i2 h' w' e
  refine Run.go ha ?_ (ih hL.1 hL.2 this.1 this.2)
  unfold Mach.step at e' ⊢
  rw [hb a hl _ (i1 a ha.2.1), e1, e2, e3]; exact e'
theorem in_some (a b c : Int) : impl_in.f a b c = some (decide (b ≤ a) && decide (a ≤ c)) := by
 unfold impl_in.f
 by_cases h : a ≥ b
 ·rw [if_pos h]; simp [show b ≤ a from h]
 ·rw [if_neg h]; simp [show ¬ b ≤ a from h]
def hasB {α : Type} (p : List α) (f : Int) : Bool := decide (0 ≤ f) && decide (f < p.length)
theorem hasFunc_some (p : List S53) (f : Int) : impl_hasFunc.f p f = some (hasB p f) := by
 unfold impl_hasFunc.f hasB
 by_cases h : f ≥ 0
 ·rw [if_pos h]; simp [show 0 ≤ f from h]
 ·rw [if_neg h]; simp [show ¬ 0 ≤ f from h]
theorem ite_some' {α : Type} {c : Prop} [Decidable c] {a b : α} : (if c then some a else some b) = some (if c then a else b) := by split <;> rfl
theorem hasB_iff {α : Type} {p : List α} {f : Int} : hasB p f = true ↔ 0 ≤ f ∧ f < p.length := by simp [hasB]
def isBin (op : Int) : Bool := decide (10 ≤ op) && decide (op ≤ 23)
def isUn (op : Int) : Bool := decide (24 ≤ op) && decide (op ≤ 29)
theorem implBin_some (op : Int) : impl_isBinary.f op = some (isBin op) := by unfold impl_isBinary.f; rw [in_some]; rfl
theorem implUn_some (op : Int) : impl_isUnary.f op = some (isUn op) := by unfold impl_isUnary.f; rw [in_some]; rfl
theorem specBin_some (op : Int) : spec_l03Binary.f op = some (isBin op) := by
 unfold spec_l03Binary.f isBin
 by_cases h : op ≥ 10
 ·rw [if_pos h]; simp [show 10 ≤ op from h]
 ·rw [if_neg h]; simp [show ¬ 10 ≤ op from h]
theorem specUn_some (op : Int) : spec_l03Unary.f op = some (isUn op) := by
 unfold spec_l03Unary.f isUn
 by_cases h : op ≥ 24
 ·rw [if_pos h]; simp [show 24 ≤ op from h]
 ·rw [if_neg h]; simp [show ¬ 24 ≤ op from h]
def takesV (p : List S53) (op a : Int) : Int :=
 if isBin op = true then 2 else if op = 35 then 2 else if op = 36 then 3 else if op = 32 then (if hasB p a = true then (rd_T53 p a).f0 else 0)
 else if isUn op = true then 1 else if op = 3 then 1 else if op = 4 then 1 else if op = 5 then 1 else if op = 31 then 1 else if op = 33 then 1 else if op = 34 then 1 else if op = 37 then 1 else if op = 38 then 1 else 0
theorem ite_ite {α : Type} {c : Prop} [Decidable c] (a b d : α) : (if c then (if c then a else b) else d) = (if c then a else d) := by by_cases h : c <;> simp [h]
theorem implTakes_ev (p : List S53) (op a : Int) : Ev (fun k => impl_Takes.f k p op a) (takesV p op a) := by
 refine Ev.of (fun k => impl_Takes.mono _ _ _ k) (k := 2) ?_
 unfold impl_Takes.f takesV
 rw [implBin_some, Option.bind_some]
 by_cases hb : isBin op = true
 ·rw [if_pos hb, if_pos hb]; simp only [impl_Takes.j0]; rw [if_pos hb]
 ·rw [if_neg hb, if_neg hb]
  simp only [impl_Takes.j0, impl_Takes.j1, implUn_some, hasFunc_some, Option.bind_some]
  by_cases h35 : op = 35
  ·rw [if_pos (by simp [h35]), if_pos h35]
  ·rw [if_neg (by simp [h35]), if_neg h35]
   by_cases h32 : op = 32
   ·subst h32
    simp only [show ((32 : Int) = 36) = False from by simp, if_false, if_true]
    by_cases hh : hasB p a = true
    ·have h2 := hasB_iff.1 hh
     simp only [if_pos hh, if_pos h2.1, if_pos h2.2]
    ·simp only [if_neg hh]
   ·rw [if_neg h32, if_neg h32]
    simp only [beq_iff_eq, ite_ite, ite_some']
theorem specTakes_ev (p : List S53) (op a : Int) : Ev (fun k => spec_Takes.f k p op a) (takesV p op a) := by
 refine Ev.of (fun k => spec_Takes.mono _ _ _ k) (k := 2) ?_
 unfold spec_Takes.f takesV
 rw [specBin_some, Option.bind_some]
 by_cases hb : isBin op = true
 ·rw [if_pos hb, if_pos hb]; simp only [spec_Takes.j0, if_true]
 ·rw [if_neg hb, if_neg hb]
  simp only [spec_Takes.j0, spec_Takes.j1, specUn_some, Option.bind_some]
  by_cases h35 : op = 35
  ·rw [if_pos (by simp [h35]), if_pos h35]
  ·rw [if_neg (by simp [h35]), if_neg h35]
   by_cases h32 : op = 32
   ·subst h32
    simp only [show ((32 : Int) = 36) = False from by simp, if_false, if_true]
    by_cases hh : hasB p a = true
    ·have h2 := hasB_iff.1 hh
     rw [if_neg om, if_neg om, if_pos h2.1, if_pos h2.2]; simp only [if_pos hh]
    ·simp only [if_neg hh]
     have h2 : ¬ (0 ≤ a ∧ a < p.length) := fun h => hh (hasB_iff.2 h)
     by_cases h0 : a < 0
     ·rw [if_pos h0]
     ·rw [if_neg h0, if_pos om]
   ·rw [if_neg h32, if_neg h32]
    simp only [beq_iff_eq, ite_ite, ite_some']
def putsV (op : Int) : Int := if isBin op = true then 1 else if isUn op = true then 1 else if op = 4 then 2 else if op = 1 then 1 else if op = 2 then 1 else if op = 32 then 1 else if op = 34 then 1 else if op = 35 then 1 else if op = 37 then 1 else 0
theorem putsV_bd (op : Int) : 0 ≤ putsV op ∧ putsV op ≤ 2 := by unfold putsV; repeat' split <;> omega
theorem isBin_iff {op : Int} : isBin op = true ↔ 10 ≤ op ∧ op ≤ 23 := by simp [isBin]
theorem isUn_iff {op : Int} : isUn op = true ↔ 24 ≤ op ∧ op ≤ 29 := by simp [isUn]
theorem implArith_some (op : Int) : impl_isArith.f op = some (decide (10 ≤ op) && decide (op ≤ 29)) := by unfold impl_isArith.f; rw [in_some]; rfl
theorem arith_split (op : Int) : (decide (10 ≤ op) && decide (op ≤ 29)) = true ↔ isBin op = true ∨ isUn op = true := by
 rw [isBin_iff, isUn_iff]; simp only [Bool.and_eq_true, decide_eq_true_eq]; omega
theorem implPuts_ev (op a : Int) : Ev (fun k => impl_Puts.f k op a) (putsV op) := by
 refine Ev.of (fun k => impl_Puts.mono _ _ k) (k := 1) ?_
 unfold impl_Puts.f putsV
 simp only [impl_Puts.j0, implArith_some, Option.bind_some, arith_split]
 by_cases h4 : op = 4
 ·subst h4; simp [isBin, isUn]
 by_cases h1 : op = 1
 ·subst h1; simp [isBin, isUn]
 by_cases h2 : op = 2
 ·subst h2; simp [isBin, isUn]
 by_cases h32 : op = 32
 ·subst h32; simp [isBin, isUn]
 by_cases h34 : op = 34
 ·subst h34; simp [isBin, isUn]
 by_cases h35 : op = 35
 ·subst h35; simp [isBin, isUn]
 by_cases h37 : op = 37
 ·subst h37; simp [isBin, isUn]
 simp only [if_neg h4, if_neg h1, if_neg h2, if_neg h32, if_neg h34, if_neg h35, beq_no h37, Bool.false_eq_true, if_false, if_neg h37]
 by_cases hb : isBin op = true
 ·simp [hb]
 ·by_cases hu : isUn op = true
  ·simp [hb, hu]
  ·simp [hb, hu]
theorem specPuts_ev (op a : Int) : Ev (fun k => spec_Puts.f k op a) (putsV op) := by
 refine Ev.of (fun k => spec_Puts.mono _ _ k) (k := 2) ?_
 unfold spec_Puts.f putsV
 rw [specBin_some, specUn_some, Option.bind_some, Option.bind_some]
 simp only [spec_Puts.j0, spec_Puts.j1, beq_iff_eq, ite_ite, ite_some', if_true]
def namedB (op : Int) : Bool := (decide (1 ≤ op) && decide (op ≤ 5)) || (decide (10 ≤ op) && decide (op ≤ 38))
def nameV (op : Int) : ByteArray := (impl_OpName.f op).getD ⟨#[]⟩
theorem names_small : ∀ n : Nat, n < 39 → impl_OpName.f (n : Int) = some (nameV (n : Int)) ∧ spec_OpName.f 1 (n : Int) = some (nameV (n : Int)) ∧ (((nameV (n : Int)).toList = []) ↔ namedB (n : Int) = false) := by
 decide +kernel
theorem name_all (op : Int) : impl_OpName.f op = some (nameV op) ∧ spec_OpName.f 1 op = some (nameV op) ∧ (((nameV op).toList = []) ↔ namedB op = false) := by
 by_cases hr : 0 ≤ op ∧ op ≤ 38
 ·obtain ⟨n, rfl⟩ := Int.eq_ofNat_of_zero_le hr.1
  exact names_small n om
 ·have h1 : impl_OpName.f op = some ⟨#[]⟩ := by
   unfold impl_OpName.f impl_in.f
   by_cases hc : op ≥ 0
   ·rw [if_pos hc]
    have : decide (op ≤ 38) = false := by simp; omega
    simp [this]
   ·rw [if_neg hc]
    simp
  have hv : nameV op = ⟨#[]⟩ := by unfold nameV; rw [h1]; rfl
  rw [hv]
  refine ⟨h1, ?_, ?_⟩
  ·unfold spec_OpName.f
   simp only [Option.bind_some]
   by_cases hc : op ≥ 1
   ·rw [if_pos hc]
    have : decide (op ≤ 5) = false := by simp; omega
    simp only [this, spec_OpName.j0]
    by_cases hd : op ≥ 10
    ·rw [if_neg (by simp), if_pos hd, if_neg om]
    ·rw [if_neg (by simp), if_neg hd]
   ·rw [if_neg hc]
    simp only [spec_OpName.j0]
    rw [if_neg (by simp), if_neg om]
  ·have : namedB op = false := by
    unfold namedB
    simp
    omega
   simp [this]
theorem implName_some (op : Int) : impl_OpName.f op = some (nameV op) := (name_all op).1
theorem specName_ev (op : Int) : Ev (fun k => spec_OpName.f k op) (nameV op) := Ev.of (fun k => spec_OpName.mono _ k) (name_all op).2.1
theorem name_none (op : Int) : (nameV op).toList = [] ↔ namedB op = false := (name_all op).2.2
def insRightV (p : List S53) (f op a : Int) : Bool :=
 if hasB p f = true then
  (if op = 1 then true else if op = 2 ∨ op = 3 then decide (0 ≤ a) && decide (a < (rd_T53 p f).f1) else if op = 30 ∨ op = 31 then decide (0 ≤ a) && decide (a < (rd_T53 p f).f2.length)
  else if op = 32 then hasB p a else namedB op && (a == 0))
 else false
theorem and_some (a : Int) (q : Prop) [Decidable q] : (if a ≥ 0 then some (decide q) else some false) = some (decide (0 ≤ a) && decide q) := by
 by_cases h : a ≥ 0
 ·rw [if_pos h]; simp [show 0 ≤ a from h]
 ·rw [if_neg h]; simp [show ¬ 0 ≤ a from h]
theorem implInsRight_ev (p : List S53) (f op a : Int) : Ev (fun k => impl_InsRight.f k p f op a) (insRightV p f op a) := by
 refine Ev.of (fun k => impl_InsRight.mono _ _ _ _ k) (k := 2) ?_
 unfold impl_InsRight.f insRightV
 rw [hasFunc_some, Option.bind_some]
 by_cases hf : hasB p f = true
 ·have h2 := hasB_iff.1 hf
  simp only [if_pos hf, impl_InsRight.j0, impl_InsRight.j1, if_pos h2.1, if_pos h2.2, and_some, hasFunc_some, implName_some, Option.bind_some]
  by_cases h1 : op = 1
  ·simp only [if_pos h1]
  simp only [if_neg h1]
  by_cases h2 : op = 2
  ·subst h2; simp
  by_cases h3 : op = 3
  ·subst h3; simp
  simp only [if_neg h2, beq_no h3, Bool.false_eq_true, if_false, h2, h3, or_self]
  by_cases h30 : op = 30
  ·subst h30; simp
  by_cases h31 : op = 31
  ·subst h31; simp
  simp only [if_neg h30, beq_no h31, Bool.false_eq_true, if_false, h30, h31, or_self]
  by_cases h32 : op = 32
  ·simp only [if_pos h32]
  simp only [if_neg h32, name_none]
  cases namedB op <;> simp
 ·simp only [if_neg hf]
theorem specInsRight_ev (p : List S53) (f op a : Int) : Ev (fun k => spec_InsRight.f k p f op a) (insRightV p f op a) := by
 unfold spec_InsRight.f insRightV
 by_cases h0 : f < 0
 ·have hf : ¬ hasB p f = true := fun h => by have := hasB_iff.1 h; omega
  rw [if_neg hf]
  refine Ev.yes h0 (Ev.succ ?_)
  simp only [spec_InsRight.j0, if_true]
  exact Ev.now _
 refine Ev.no h0 (Ev.succ ?_)
 simp only [spec_InsRight.j0]
 by_cases hl : f ≥ (p.length : Int)
 ·have hf : ¬ hasB p f = true := fun h => by have := hasB_iff.1 h; omega
  rw [if_neg hf]
  exact Ev.yes (by simp [hl]) (Ev.now _)
 have hf : hasB p f = true := hasB_iff.2 ⟨by omega, by omega⟩
 have hg0 : 0 ≤ f := by omega
 have hg1 : f < (p.length : Int) := by omega
 rw [if_pos hf]
 refine Ev.no (by simp; omega) ?_
 by_cases h1 : op = 1
 ·rw [if_pos h1]; exact Ev.yes h1 (Ev.now _)
 refine Ev.no h1 ?_
 rw [if_neg h1]
 have hj2 : ∀ b : Bool, Ev (fun k => spec_InsRight.j2 k f op b p op a) (if b = true then decide (0 ≤ a) && decide (a < (rd_T53 p f).f2.length) else if op = 32 then hasB p a else namedB op && (a == 0)) := by
  intro b
  refine Ev.succ ?_
  simp only [spec_InsRight.j2, if_pos hg0, if_pos hg1, and_some]
  refine Ev.cases (fun hb => ?_) (fun hb => ?_)
  ·rw [if_pos hb]; exact Ev.now _
  ·rw [if_neg hb]
   refine Ev.cases (fun h32 => ?_) (fun h32 => ?_)
   ·rw [if_pos h32]; exact Ev.now _
   ·rw [if_neg h32]
    refine Ev.bind (specName_ev op) ?_
    simp only [name_none]
    cases namedB op
    ·exact Ev.yes rfl (by simpa using Ev.now false)
    ·exact Ev.no (by simp) (by simpa using Ev.now (a == 0))
 have hj1 : ∀ b : Bool, Ev (fun k => spec_InsRight.j1 k f op b p op a) (if b = true then decide (0 ≤ a) && decide (a < (rd_T53 p f).f1) else if op = 30 ∨ op = 31 then decide (0 ≤ a) && decide (a < (rd_T53 p f).f2.length) else if op = 32 then hasB p a else namedB op && (a == 0)) := by
  intro b
  refine Ev.succ ?_
  simp only [spec_InsRight.j1, if_pos hg0, if_pos hg1, and_some]
  refine Ev.cases (fun hb => ?_) (fun hb => ?_)
  ·rw [if_pos hb]; exact Ev.now _
  ·rw [if_neg hb]
   refine Ev.cases (fun h30 => ?_) (fun h30 => ?_)
   ·have := hj2 (op == 30)
    simpa [h30] using this
   ·have := hj2 (op == 31)
    by_cases h31 : op = 31
    ·simpa [h31] using this
    ·simpa [h30, h31] using this
 refine Ev.cases (fun h2 => ?_) (fun h2 => ?_)
 ·simpa [h2] using hj1 (op == 2)
 ·by_cases h3 : op = 3
  ·simpa [h3] using hj1 (op == 3)
  ·simpa [h2, h3] using hj1 (op == 3)
def nxV (op a : Int) (n : Nat) : List Int := if op = 33 then [] else if op = 30 then [a] else if op = 31 then [(n : Int) + 1, a] else [(n : Int) + 1]
def cdI (c : List S59) (a : Nat) : S59 := rd_T59 c (a : Int)
def tkV (p : List S53) (c : List S59) (a : Nat) : Int := takesV p (cdI c a).f0 (cdI c a).f1
def nextH (p : List S53) (c : List S59) (a : Nat) (x : Int) : Int := wrap64 (wrap64 (x - tkV p c a) + putsV (cdI c a).f0)
def machS (p : List S53) (c : List S59) : Mach := ⟨c.length, fun a x => decide (tkV p c a > x) || decide (nextH p c a x > 8), nextH p c, fun a => nxV (cdI c a).f0 (cdI c a).f1 a⟩
def machI (p : List S53) (c : List S59) : Mach := ⟨c.length, fun a x => decide (wrap64 (x - tkV p c a) < 0) || decide (nextH p c a x > 8), nextH p c, fun a => nxV (cdI c a).f0 (cdI c a).f1 a⟩
def okJ (c : List S59) : Prop := ∀ a, a < c.length → (cdI c a).f0 = 30 ∨ (cdI c a).f0 = 31 → 0 ≤ (cdI c a).f1 ∧ (cdI c a).f1 < c.length
theorem takesV_bd (p : List S53) (op a : Int) (h : op ≠ 32) : 0 ≤ takesV p op a ∧ takesV p op a ≤ 3 := by
 unfold takesV
 rw [if_neg h]
 repeat' split <;> omega
theorem nxV_mem {op a : Int} {n : Nat} {L : Nat} (hn : n < L) (h : op = 30 ∨ op = 31 → 0 ≤ a ∧ a < L) : ∀ m ∈ nxV op a n, 0 ≤ m ∧ m ≤ L := by
 intro m hm
 unfold nxV at hm
 split at hm
 ·simp at hm
 split at hm
 ·rename_i h30; have := h (Or.inl h30); simp at hm; omega
 split at hm
 ·rename_i h31; have := h (Or.inr h31); simp at hm; omega
 ·simp at hm; omega
theorem nxV_two (op a : Int) (n : Nat) : (nxV op a n).length ≤ 2 := by
 unfold nxV
 split
 ·simp
 split
 ·simp
 split <;> simp
theorem nextH_lo (p : List S53) (c : List S59) (a : Nat) (x : Int) : -9223372036854775808 ≤ nextH p c a x := wrap_lo _
theorem takesV_30 (p : List S53) (a : Int) : takesV p 30 a = 0 := by simp [takesV, isBin, isUn]
theorem takesV_31 (p : List S53) (a : Int) : takesV p 31 a = 1 := by simp [takesV, isBin, isUn]
theorem putsV_31 : putsV 31 = 0 := by simp [putsV, isBin, isUn]
theorem goodS (p : List S53) (c : List S59) (hj : okJ c) : (machS p c).Good where
 nn := fun a ha n hn => (nxV_mem ha (hj a ha) n hn).1
 two := fun a _ => nxV_two _ _ _
 lo := fun a x => nextH_lo p c a x
 neg := fun a ha x hx _ hb => by
  simp only [machS, Bool.or_eq_false_iff, decide_eq_false_iff_not] at hb
  by_cases h32 : (cdI c a).f0 = 32
  ·simp only [machS, h32]; exact Or.inr (by simp [nxV])
  ·have := takesV_bd p (cdI c a).f0 (cdI c a).f1 h32
   have h1 := hb.1
   unfold tkV at h1
   omega
theorem goodI (p : List S53) (c : List S59) (hj : okJ c) : (machI p c).Good where
 nn := fun a ha n hn => (nxV_mem ha (hj a ha) n hn).1
 two := fun a _ => nxV_two _ _ _
 lo := fun a x => nextH_lo p c a x
 neg := fun a ha x hx hlo hb => by
  simp only [machI, Bool.or_eq_false_iff, decide_eq_false_iff_not] at hb
  show nxV (cdI c a).f0 (cdI c a).f1 a = [] ∨ nxV (cdI c a).f0 (cdI c a).f1 a = [(a : Int) + 1]
  unfold nxV
  by_cases h33 : (cdI c a).f0 = 33
  ·rw [if_pos h33]; exact Or.inl rfl
  rw [if_neg h33]
  by_cases h30 : (cdI c a).f0 = 30
  ·exfalso
   have h1 := hb.1
   unfold tkV at h1
   rw [h30, takesV_30, wrap_in om om] at h1
   omega
  rw [if_neg h30]
  by_cases h31 : (cdI c a).f0 = 31
  ·exfalso
   have h1 := hb.1
   have h2 := hb.2
   unfold nextH at h2
   unfold tkV at h1 h2
   rw [h31, takesV_31] at h1 h2
   rw [putsV_31] at h2
   unfold wrap64 at h1 h2
   omega
  rw [if_neg h31]; exact Or.inr rfl
theorem rdOf_nat (w : List Bool) (a : Nat) : rdOf false w (a : Int) = w.getD a false := by simp [rdOf]
theorem specLeast_l0 (w : List Bool) (hw : w.length ≤ 1048576) (a : Nat) (ha : isLeast w a) : ∀ (d i : Nat), i + d = a → Ev (fun k => spec_l04Least.l0 k w (i : Int)) (a : Int) := by
 intro d
 have hlt := ha.1
 induction d with
 | zero =>
  intro i hi
  have e : i = a := by omega
  subst e
  refine Ev.succ ?_
  simp only [spec_l04Least.l0]
  exact Ev.yes om (Ev.yes om (Ev.yes (by rw [rdOf_nat]; exact ha.2.1) (Ev.now _)))
 | succ d ih =>
  intro i hi
  refine Ev.succ ?_
  simp only [spec_l04Least.l0]
  refine Ev.yes om (Ev.yes om (Ev.no (by rw [rdOf_nat, ha.2.2 i om]; simp) ?_))
  rw [idx_next (show i < w.length by omega) hw]
  exact ih (i + 1) om
theorem specLeast_n0 (w : List Bool) (hw : w.length ≤ 1048576) (ha : ∀ b, w.getD b false = false) : ∀ (d i : Nat), i + d = w.length → Ev (fun k => spec_l04Least.l0 k w (i : Int)) (-1) := by
 intro d
 induction d with
 | zero =>
  intro i hi
  refine Ev.succ ?_
  simp only [spec_l04Least.l0]
  exact Ev.no om (Ev.now _)
 | succ d ih =>
  intro i hi
  refine Ev.succ ?_
  simp only [spec_l04Least.l0]
  refine Ev.yes om (Ev.yes om (Ev.no (by rw [rdOf_nat, ha i]; simp) ?_))
  rw [idx_next (show i < w.length by omega) hw]
  exact ih (i + 1) om
theorem specLeast_ev (w : List Bool) (hw : w.length ≤ 1048576) (a : Nat) (ha : isLeast w a) : Ev (fun k => spec_l04Least.f k w) (a : Int) := by
 unfold spec_l04Least.f; exact specLeast_l0 w hw a ha a 0 om
theorem specLeast_no (w : List Bool) (hw : w.length ≤ 1048576) (ha : ∀ b, w.getD b false = false) : Ev (fun k => spec_l04Least.f k w) (-1) := by
 unfold spec_l04Least.f; exact specLeast_n0 w hw ha w.length 0 om
theorem rd_cons_at {x : List Int} {i : Nat} {n : Int} {r : List Int} (h : x.drop i = n :: r) : i < x.length ∧ rd x (i : Int) = n ∧ x.drop (i + 1) = r := by
 have hi : i < x.length := by
  rcases Nat.lt_or_ge i x.length with h' | h'
  ·exact h'
  ·rw [List.drop_of_length_le h'] at h; cases h
 rw [List.drop_eq_getElem_cons hi] at h
 injection h with h1 h2
 refine ⟨hi, ?_, h2⟩
 rw [rd_nat, List.getD_eq_getElem?_getD, List.getElem?_eq_getElem hi]; exact h1
theorem spec_l2_ev (p : List S53) (c : List S59) (f v b0 b1 : Int) (R : List Int × Int × Int × Int) : ∀ (r x : List Int) (i : Nat) (h : List Int) (w : List Bool), x.drop i = r → x.length ≤ 1048576 → h.length = c.length → w.length = c.length → (∀ n ∈ r, 0 ≤ n) →
  (∀ h' e, nexts c.length v r h w = .error (h', e) → R = (h', b0, b1, e)) → (∀ h' w', nexts c.length v r h w = .ok (h', w') → Ev (fun k => spec_l04Heights.l1 k f c h' w' p) R) → Ev (fun k => spec_l04Heights.l2 k f c h w v x (i : Int) p b0 b1 5) R
 | [], x, i, h, w, hx, hl, h0, h1, hp, he, ho => by
  refine Ev.succ ?_
  simp only [spec_l04Heights.l2]
  have : x.length ≤ i := List.drop_eq_nil_iff.1 hx
  exact Ev.no om (ho h w rfl)
 | n :: r, x, i, h, w, hx, hl, h0, h1, hp, he, ho => by
  obtain ⟨hi, hn, hd⟩ := rd_cons_at hx
  have hn0 := hp n (by simp)
  refine Ev.succ ?_
  simp only [spec_l04Heights.l2, hn]
  simp only [nexts] at he ho
  refine Ev.yes om (Ev.yes om ?_)
  by_cases hL : (c.length : Int) ≤ n
  ·rw [if_pos hL] at he
   rw [he _ _ rfl]
   exact Ev.yes hL (Ev.now _)
  rw [if_neg hL] at he ho
  refine Ev.no hL (Ev.yes hn0 (Ev.yes om ?_))
  have key : ∀ b : Bool, (b = true ↔ 0 ≤ rd h n ∧ rd h n ≠ v) → Ev (fun k => spec_l04Heights.j8 k f c h w v x (i : Int) b p b0 b1 5) R := by
   intro b hb
   refine Ev.succ ?_
   simp only [spec_l04Heights.j8, hn]
   by_cases hB : 0 ≤ rd h n ∧ rd h n ≠ v
   ·rw [if_pos hB] at he
    rw [he _ _ rfl]
    exact Ev.yes (hb.2 hB) (Ev.now _)
   rw [if_neg hB] at he ho
   refine Ev.no (fun hc => hB (hb.1 hc)) (Ev.yes om (Ev.yes om (Ev.yes hn0 (Ev.yes om ?_))))
   rw [idx_next hi hl]
   by_cases hN : rd h n < 0
   ·rw [if_pos hN] at he ho
    refine Ev.yes hN (Ev.yes om ?_)
    exact spec_l2_ev p c f v b0 b1 R r x (i + 1) _ _ hd hl (by simpa using h0) (by simpa using h1) (fun m hm => hp m (by simp [hm])) he ho
   ·rw [if_neg hN] at he ho
    refine Ev.no hN ?_
    exact spec_l2_ev p c f v b0 b1 R r x (i + 1) _ _ hd hl h0 h1 (fun m hm => hp m (by simp [hm])) he ho
  by_cases hge : rd h n ≥ 0
  ·refine Ev.yes hge (key _ ?_)
   simp only [bne_iff_ne, ne_eq]
   exact ⟨fun hv => ⟨hge, hv⟩, fun hv => hv.2⟩
  ·refine Ev.no hge (key _ ?_)
   simp only [Bool.false_eq_true, false_iff]
   exact fun hv => hge hv.1
theorem spec_run {p : List S53} {c : List S59} (f : Int) (hc : c.length ≤ 1048576) (hj : okJ c) {h : List Int} {w : List Bool} {r : List Int × Int × Int} (hr : Run (machS p c) h w r) :
  h.length = c.length → w.length = c.length → Ev (fun k => spec_l04Heights.l1 k f c h w p) (r.1, (if r.2.2 = 0 then 0 else f), r.2.1, r.2.2) := by
 have step : ∀ {h : List Int} {w : List Bool} {a : Nat} (R : List Int × Int × Int × Int), isLeast w a → h.length = c.length → w.length = c.length → (∀ h' e, (machS p c).step h w a = .error (h', e) → R = (h', f, (a : Int), e)) →
   (∀ h' w', (machS p c).step h w a = .ok (h', w') → Ev (fun k => spec_l04Heights.l1 k f c h' w' p) R) → Ev (fun k => spec_l04Heights.l1 k f c h w p) R := by
  intro h w a R ha h0 h1 he ho
  have hal : a < c.length := by have := ha.1; omega
  refine Ev.succ ?_
  simp only [spec_l04Heights.l1]
  refine Ev.bind (specLeast_ev w om a ha) (Ev.no om (Ev.yes om (Ev.yes om ?_)))
  simp only [Option.bind_some]
  refine Ev.yes om (Ev.bind (specTakes_ev p _ _) (Ev.yes om (Ev.bind (specPuts_ev _ _) ?_)))
  have key : ∀ b : Bool, b = (machS p c).bad a (rd h a) → Ev (fun k => spec_l04Heights.j2 k f c h (w.set a false) (a : Int) (nextH p c a (rd h a)) b p (cdI c a).f0 (cdI c a).f1 f (a : Int) 5) R := by
   intro b hb
   unfold Mach.step at he ho
   rw [← hb] at he ho
   refine Ev.succ ?_
   simp only [spec_l04Heights.j2, Option.bind_some]
   cases b with
   | true =>
    simp only [if_true] at he
    rw [he _ _ rfl]
    exact Ev.yes rfl (Ev.now _)
   | false =>
    simp only [Bool.false_eq_true, if_false] at he ho
    refine Ev.no (by simp) ?_
    have fin : ∀ x : List Int, x = nxV (cdI c a).f0 (cdI c a).f1 a → Ev (fun k => spec_l04Heights.j6 k f c h (w.set a false) (nextH p c a (rd h a)) x p f (a : Int) 5) R := by
     intro x hx
     refine Ev.succ ?_
     simp only [spec_l04Heights.j6]
     have hx2 := nxV_two (cdI c a).f0 (cdI c a).f1 a
     exact spec_l2_ev p c f _ f (a : Int) R x x 0 h (w.set a false) rfl (by rw [hx]; omega) h0 (by simpa using h1) (by rw [hx]; exact fun n hn => (nxV_mem hal (hj a hal) n hn).1) (by rw [hx]; exact he) (by rw [hx]; exact ho)
    have f5 : ∀ (x : List Int) (b : Bool), x.length ≤ 2 → (if b = true then x ++ [(cdI c a).f1] else x) = nxV (cdI c a).f0 (cdI c a).f1 a → Ev (fun k => spec_l04Heights.j5 k f c h (w.set a false) (nextH p c a (rd h a)) x b p (cdI c a).f0 (cdI c a).f1 f (a : Int) 5) R := by
     intro x b hxl hx
     refine Ev.succ ?_
     simp only [spec_l04Heights.j5]
     cases b with
     | true => exact Ev.yes rfl (Ev.yes om (fin _ (by simpa using hx)))
     | false => exact Ev.no (by simp) (fin _ (by simpa using hx))
    have f4 : ∀ (x : List Int), x.length ≤ 2 → (if (cdI c a).f0 = 30 ∨ (cdI c a).f0 = 31 then x ++ [(cdI c a).f1] else x) = nxV (cdI c a).f0 (cdI c a).f1 a → Ev (fun k => spec_l04Heights.j4 k f c h (w.set a false) (nextH p c a (rd h a)) x p (cdI c a).f0 (cdI c a).f1 f (a : Int) 5) R := by
     intro x hxl hx
     refine Ev.succ ?_
     simp only [spec_l04Heights.j4]
     refine Ev.cases (fun h30 => f5 _ _ hxl ?_) (fun h30 => f5 _ _ hxl ?_)
     ·rw [← hx]; simp [h30]
     ·rw [← hx]
      by_cases h31 : (cdI c a).f0 = 31
      ·simp [h31]
      ·simp [h30, h31]
    have f3 : ∀ b : Bool, (b = true ↔ (cdI c a).f0 ≠ 30 ∧ (cdI c a).f0 ≠ 33) → Ev (fun k => spec_l04Heights.j3 k f c h (w.set a false) (a : Int) (nextH p c a (rd h a)) [] b p (cdI c a).f0 (cdI c a).f1 f (a : Int) 5) R := by
     intro b hb3
     refine Ev.succ ?_
     simp only [spec_l04Heights.j3]
     have hw1 : wrap64 ((a : Int) + 1) = (a : Int) + 1 := wrap_in om om
     cases b with
     | true =>
      have hb4 := hb3.1 rfl
      refine Ev.yes rfl (Ev.yes (by simp) (f4 _ (by simp) ?_))
      unfold nxV
      rw [hw1, if_neg hb4.2, if_neg hb4.1]
      by_cases h31 : (cdI c a).f0 = 31
      ·simp [h31]
      ·simp [h31, hb4.1]
     | false =>
      refine Ev.no (by simp) (f4 _ (by simp) ?_)
      unfold nxV
      by_cases h33 : (cdI c a).f0 = 33
      ·simp [h33]
      ·by_cases h30 : (cdI c a).f0 = 30
       ·simp [h30]
       ·exact absurd (hb3.2 ⟨h30, h33⟩) (by simp)
    refine Ev.cases (fun h30 => f3 _ ?_) (fun h30 => f3 _ ?_)
    ·simp [h30]
    ·simp [h30]
  by_cases ht : tkV p c a > rd h a
  ·refine Ev.yes ht (key true ?_)
   simp [machS, ht]
  ·refine Ev.no ht (key _ ?_)
   simp only [machS, show decide (tkV p c a > rd h a) = false from by simpa using ht, Bool.false_or]
   rfl
 induction hr with
 | @stop h w hn =>
  intro h0 h1
  refine Ev.succ ?_
  simp only [spec_l04Heights.l1]
  exact Ev.bind (specLeast_no w om hn) (Ev.yes om (Ev.now _))
 | @bad h w a h' e ha hs =>
  intro h0 h1
  have h5 := step_bad (M := machS p c) h0 hs
  refine step _ ha h0 h1 (fun h'' e' q => ?_) (fun h'' w'' q => ?_)
  ·rw [hs] at q
   simp only [Except.error.injEq, Prod.mk.injEq] at q
   obtain ⟨rfl, rfl⟩ := q
   have : ¬ e = 0 := by omega
   simp [this]
  ·rw [hs] at q; cases q
 | @go h w a h' w' r ha hs hr ih =>
  intro h0 h1
  have hl := step_len (M := machS p c) h0 h1 hs
  refine step _ ha h0 h1 (fun h'' e' q => ?_) (fun h'' w'' q => ?_)
  ·rw [hs] at q; cases q
  ·rw [hs] at q
   simp only [Except.ok.injEq, Prod.mk.injEq] at q
   obtain ⟨rfl, rfl⟩ := q
   exact ih hl.1 hl.2
theorem impl_next_some (op a : Int) (n : Nat) (hn : n ≤ 1048576) : impl_next.f op a (n : Int) = some (nxV op a n) := by
 unfold impl_next.f nxV
 rw [wrap_in (show -9223372036854775808 ≤ (n : Int) + 1 by omega) om]
 simp only [ite_some']
theorem mn_eq (a b : Int) : mn a b = if b < a then b else a := rfl
theorem impl_skip (p : List S53) (c : List S59) (hc : c.length ≤ 1048576) (h : List Int) (w : List Bool) (h1 : w.length = c.length) (R : List Int × Int × Int) (m : Nat) (hm : m ≤ c.length) (hz : ∀ b, b < m → w.getD b false = false) (hR : Ev (fun k => impl_heightsOf.l1 k c h w (m : Int) p) R) :
  ∀ (d i : Nat), i + d = m → Ev (fun k => impl_heightsOf.l1 k c h w (i : Int) p) R := by
 intro d
 induction d with
 | zero =>
  intro i hi
  have e : i = m := by omega
  subst e; exact hR
 | succ d ih =>
  intro i hi
  refine Ev.succ ?_
  simp only [impl_heightsOf.l1]
  refine Ev.yes om (Ev.yes om (Ev.yes om (Ev.no (by rw [rdOf_nat, hz i om]; simp) ?_)))
  rw [idx_next (show i < c.length by omega) hc]
  exact ih (i + 1) om
theorem impl_l2_ev (p : List S53) (c : List S59) (hc : c.length ≤ 1048576) (a : Nat) (lft op arg v : Int) (hv : v = wrap64 (lft + putsV op)) (R : List Int × Int × Int) : ∀ (r x : List Int) (i : Nat) (h : List Int) (w : List Bool) (m : Nat), x.drop i = r → x.length ≤ 1048576 → h.length = c.length → w.length = c.length → (∀ n ∈ r, 0 ≤ n ∧ n ≤ c.length) →
  m ≤ c.length → (∀ b, b < m → w.getD b false = false) → (∀ h' e, nexts c.length v r h w = .error (h', e) → R = (h', (a : Int), e)) →
  (∀ h' w', nexts c.length v r h w = .ok (h', w') → ∀ m', m' ≤ c.length → (∀ b, b < m' → w'.getD b false = false) → Ev (fun k => impl_heightsOf.l1 k c h' w' (m' : Nat) p) R) →
  Ev (fun k => impl_heightsOf.l2 k c h w (a : Int) lft (m : Int) x (x.length : Int) (i : Int) p op arg) R
 | [], x, i, h, w, m, hx, hl, h0, h1, hp, hm, hz, he, ho => by
  refine Ev.succ ?_
  simp only [impl_heightsOf.l2]
  have : x.length ≤ i := List.drop_eq_nil_iff.1 hx
  exact Ev.no om (ho h w rfl m hm hz)
 | n :: r, x, i, h, w, m, hx, hl, h0, h1, hp, hm, hz, he, ho => by
  obtain ⟨hi, hn, hd⟩ := rd_cons_at hx
  have hn0 := hp n (by simp)
  refine Ev.succ ?_
  simp only [impl_heightsOf.l2, hn]
  simp only [nexts] at he ho
  refine Ev.yes om (Ev.yes om (Ev.yes om ?_))
  by_cases hL : (c.length : Int) ≤ n
  ·rw [if_pos hL] at he
   rw [he _ _ rfl]
   exact Ev.yes om (Ev.now _)
  rw [if_neg hL] at he ho
  refine Ev.no om (Ev.yes om (Ev.yes om ?_))
  have key : ∀ b : Bool, (b = true ↔ 0 ≤ rd h n ∧ rd h n ≠ v) → Ev (fun k => impl_heightsOf.j4 k c h w (a : Int) lft (m : Int) n x (x.length : Int) (i : Int) b p op arg) R := by
   intro b hb
   refine Ev.succ ?_
   simp only [impl_heightsOf.j4]
   by_cases hB : 0 ≤ rd h n ∧ rd h n ≠ v
   ·rw [if_pos hB] at he
    rw [he _ _ rfl]
    exact Ev.yes (hb.2 hB) (Ev.now _)
   rw [if_neg hB] at he ho
   refine Ev.no (fun hc => hB (hb.1 hc)) (Ev.yes om (Ev.yes om ?_))
   rw [idx_next hi hl]
   by_cases hN : rd h n < 0
   ·rw [if_pos hN] at he ho
    refine Ev.yes hN (Ev.bind (implPuts_ev op arg) (Ev.yes om ?_))
    rw [← hv, mn_eq]
    have e : (if n < (m : Int) then n else (m : Int)) = ((if n.toNat < m then n.toNat else m : Nat) : Int) := by
     by_cases hnm : n < (m : Int)
     ·rw [if_pos hnm, if_pos om]; omega
     ·rw [if_neg hnm, if_neg om]
    rw [e]
    refine impl_l2_ev p c hc a lft op arg v hv R r x (i + 1) _ _ _ hd hl (by simpa using h0) (by simpa using h1) (fun q hq => hp q (by simp [hq])) (by split <;> omega) (fun b hb => ?_) he ho
    rw [gb_set om]
    have hb2 : b < n.toNat ∧ b < m := by split at hb <;> omega
    rw [if_neg om]
    exact hz b hb2.2
   ·rw [if_neg hN] at he ho
    refine Ev.no hN ?_
    exact impl_l2_ev p c hc a lft op arg v hv R r x (i + 1) _ _ m hd hl h0 h1 (fun q hq => hp q (by simp [hq])) hm hz he ho
  by_cases hge : rd h n ≥ 0
  ·refine Ev.yes hge (Ev.bind (implPuts_ev op arg) (key _ ?_))
   rw [← hv]
   simp only [bne_iff_ne, ne_eq]
   exact ⟨fun hv => ⟨hge, hv⟩, fun hv => hv.2⟩
  ·refine Ev.no hge (key _ ?_)
   simp only [Bool.false_eq_true, false_iff]
   exact fun hv => hge hv.1
theorem impl_run {p : List S53} {c : List S59} (hc : c.length ≤ 1048576) (hj : okJ c) {h : List Int} {w : List Bool} {r : List Int × Int × Int} (hr : Run (machI p c) h w r) :
  h.length = c.length → w.length = c.length → ∀ m : Nat, m ≤ c.length → (∀ b, b < m → w.getD b false = false) → Ev (fun k => impl_heightsOf.l1 k c h w (m : Int) p) r := by
 have step : ∀ {h : List Int} {w : List Bool} {a : Nat} (R : List Int × Int × Int) (m : Nat), m ≤ c.length → (∀ b, b < m → w.getD b false = false) → isLeast w a → h.length = c.length → w.length = c.length → (∀ h' e, (machI p c).step h w a = .error (h', e) → R = (h', (a : Int), e)) →
   (∀ h' w', (machI p c).step h w a = .ok (h', w') → ∀ m', m' ≤ c.length → (∀ b, b < m' → w'.getD b false = false) → Ev (fun k => impl_heightsOf.l1 k c h' w' (m' : Nat) p) R) → Ev (fun k => impl_heightsOf.l1 k c h w (m : Int) p) R := by
  intro h w a R m hm hz ha h0 h1 he ho
  have hal : a < c.length := by have := ha.1; omega
  have hma : m ≤ a := by
   rcases Nat.lt_or_ge a m with q | q
   ·have := hz a q; rw [ha.2.1] at this; cases this
   ·exact q
  refine impl_skip p c hc h w h1 R a om ha.2.2 ?_ (a - m) m om
  refine Ev.succ ?_
  simp only [impl_heightsOf.l1]
  refine Ev.yes om (Ev.yes om (Ev.yes om (Ev.yes (by rw [rdOf_nat]; exact ha.2.1) ?_)))
  simp only [Option.bind_some]
  refine Ev.yes om (Ev.bind (implTakes_ev p _ _) ?_)
  have key : ∀ b : Bool, b = (machI p c).bad a (rd h a) → Ev (fun k => impl_heightsOf.j2 k c h (w.set a false) (a : Int) (wrap64 (rd h a - tkV p c a)) b p (cdI c a).f0 (cdI c a).f1) R := by
   intro b hb
   unfold Mach.step at he ho
   rw [← hb] at he ho
   refine Ev.succ ?_
   simp only [impl_heightsOf.j2]
   cases b with
   | true =>
    simp only [if_true] at he
    rw [he _ _ rfl]
    exact Ev.yes rfl (Ev.now _)
   | false =>
    simp only [Bool.false_eq_true, if_false] at he ho
    refine Ev.no (by simp) (Ev.flat (impl_next_some _ _ a om) ?_)
    have hx2 := nxV_two (cdI c a).f0 (cdI c a).f1 a
    refine impl_l2_ev p c hc a _ _ _ _ rfl R _ _ 0 h (w.set a false) a rfl om h0 (by simpa using h1) (fun n hn => nxV_mem hal (hj a hal) n hn) om (fun b hb => ?_) he ho
    rw [gb_set om]
    split
    ·rfl
    ·exact ha.2.2 b hb
  refine Ev.cases (fun ht => key true ?_) (fun ht => Ev.bind (implPuts_ev _ _) (key _ ?_))
  ·have ht' : wrap64 (rd h a - tkV p c a) < 0 := ht
   simp [machI, ht']
  ·have ht' : ¬ wrap64 (rd h a - tkV p c a) < 0 := ht
   simp only [machI, show decide (wrap64 (rd h a - tkV p c a) < 0) = false from by simpa using ht', Bool.false_or]
   rfl
 induction hr with
 | @stop h w hn =>
  intro h0 h1 m hm hz
  refine impl_skip p c hc h w h1 _ c.length om (fun b _ => hn b) ?_ (c.length - m) m om
  refine Ev.succ ?_
  simp only [impl_heightsOf.l1]
  exact Ev.no om (Ev.now _)
 | @bad h w a h' e ha hs =>
  intro h0 h1 m hm hz
  refine step _ m hm hz ha h0 h1 (fun h'' e' q => ?_) (fun h'' w'' q => ?_)
  ·rw [hs] at q
   simp only [Except.error.injEq, Prod.mk.injEq] at q
   obtain ⟨rfl, rfl⟩ := q
   rfl
  ·rw [hs] at q; cases q
 | @go h w a h' w' r ha hs hr ih =>
  intro h0 h1 m hm hz
  have hl := step_len (M := machI p c) h0 h1 hs
  refine step _ m hm hz ha h0 h1 (fun h'' e' q => ?_) (fun h'' w'' q => ?_)
  ·rw [hs] at q; cases q
  ·rw [hs] at q
   simp only [Except.ok.injEq, Prod.mk.injEq] at q
   obtain ⟨rfl, rfl⟩ := q
   exact ih hl.1 hl.2
def h0V (L : Nat) : List Int := (List.replicate L (-1)).set 0 0
def w0V (L : Nat) : List Bool := (List.replicate L false).set 0 true
theorem fill_take {h : List Int} {L i : Nat} (hl : h.length = L) (hi : i < L) (ht : h.take i = List.replicate i (-1)) : (h.set i (-1)).take (i + 1) = List.replicate (i + 1) (-1) := by
 rw [List.take_succ_eq_append_getElem (by simp; omega), List.take_set_of_le (Nat.le_refl _), ht, List.getElem_set_self]
 simp [List.replicate_succ']
theorem rd_rep (L : Nat) (x : Int) (a : Nat) : rd (List.replicate L x) (a : Int) = if a < L then x else 0 := by
 rw [rd_nat, List.getD_eq_getElem?_getD, List.getElem?_replicate]
 split <;> rfl
theorem gb_rep (L : Nat) (a : Nat) : (List.replicate L false).getD a false = false := by
 rw [List.getD_eq_getElem?_getD, List.getElem?_replicate]
 split <;> rfl
theorem h0V_rd {L : Nat} (hL : 1 ≤ L) (a : Nat) : rd (h0V L) (a : Int) = if a = 0 then 0 else if a < L then -1 else 0 := by
 unfold h0V
 rw [rd_set (by simp; omega), rd_rep]
theorem w0V_gb {L : Nat} (hL : 1 ≤ L) (a : Nat) : (w0V L).getD a false = decide (a = 0) := by
 unfold w0V
 rw [gb_set (by simp; omega), gb_rep]
 by_cases h : a = 0 <;> simp [h]
def insAll (p : List S53) (f : Int) (c : List S59) : Prop := ∀ a, a < c.length → insRightV p f (cdI c a).f0 (cdI c a).f1 = true
def formF (p : List S53) (f : Int) (x : S53) : Prop := 0 ≤ x.f0 ∧ x.f0 ≤ 4 ∧ x.f0 ≤ x.f1 ∧ x.f1 ≤ 8 ∧ 1 ≤ x.f2.length ∧ x.f2.length ≤ 60 ∧ insAll p f x.f2
def fnI (p : List S53) (f : Nat) : S53 := rd_T53 p (f : Int)
theorem insAll_okJ {p : List S53} {f : Nat} (h : insAll p f (fnI p f).f2) : okJ (fnI p f).f2 := by
 intro a ha hj
 have := h a ha
 unfold insRightV at this
 split at this
 ·rw [if_neg om, if_neg om] at this
  try rw [if_pos hj] at this
  rw [Bool.and_eq_true, decide_eq_true_eq, decide_eq_true_eq] at this
  exact this
 ·cases this
theorem start_ends {M : Mach} (G : M.Good) (hL : 1 ≤ M.len) : ∃ r, Run M (h0V M.len) (w0V M.len) r := by
 refine run_ends G _ _ _ (by simp [h0V]) (by simp [w0V]) (fun b => ?_) (Nat.le_refl _)
 rw [h0V_rd hL]; split
 ·omega
 ·split <;> omega
theorem specHeights_ev {p : List S53} {f : Nat} (hf : f < p.length) (h1 : 1 ≤ (fnI p f).f2.length) (h2 : (fnI p f).f2.length ≤ 1048576) (hj : okJ (fnI p f).f2) {r : List Int × Int × Int}
  (hr : Run (machS p (fnI p f).f2) (h0V (fnI p f).f2.length) (w0V (fnI p f).f2.length) r) : Ev (fun k => spec_l04Heights.f k p (f : Int)) (r.1, (if r.2.2 = 0 then 0 else (f : Int)), r.2.1, r.2.2) := by
 unfold spec_l04Heights.f
 have e : (rd_T53 p (f : Int)).f2 = (fnI p f).f2 := rfl
 simp only [e]
 refine Ev.yes om (Ev.yes om (Ev.yes om (Ev.yes om ?_)))
 simp only [Int.toNat_natCast]
 have key : ∀ (d i : Nat) (h : List Int), i + d = (fnI p f).f2.length → h.length = (fnI p f).f2.length → h.take i = List.replicate i (-1) → Ev (fun k => spec_l04Heights.l0 k (f : Int) (fnI p f).f2 h (i : Int) p) (r.1, (if r.2.2 = 0 then 0 else (f : Int)), r.2.1, r.2.2) := by
  intro d
  induction d with
  | zero =>
   intro i h hi hl ht
   refine Ev.succ ?_
   simp only [spec_l04Heights.l0]
   refine Ev.no om (Ev.yes om (Ev.yes om (Ev.yes om ?_)))
   simp only [Option.bind_some, Int.toNat_natCast]
   refine Ev.yes (by simp; omega) ?_
   rw [List.take_of_length_le om] at ht
   have := spec_run (f : Int) h2 hj hr (by simp [h0V]) (by simp [w0V])
   rw [ht, show i = (fnI p f).f2.length by omega]
   exact this
  | succ d ih =>
   intro i h hi hl ht
   refine Ev.succ ?_
   simp only [spec_l04Heights.l0]
   refine Ev.yes om (Ev.yes om ?_)
   rw [idx_next (show i < (fnI p f).f2.length by omega) h2]
   simp only [Int.toNat_natCast]
   exact ih (i + 1) _ om (by simpa using hl) (fill_take hl om ht)
 exact key (fnI p f).f2.length 0 _ om (by simp) (by simp)
theorem implHeights_ev {p : List S53} {f : Nat} (hf : f < p.length) (h1 : 1 ≤ (fnI p f).f2.length) (h2 : (fnI p f).f2.length ≤ 1048576) (hj : okJ (fnI p f).f2) {r : List Int × Int × Int}
  (hr : Run (machI p (fnI p f).f2) (h0V (fnI p f).f2.length) (w0V (fnI p f).f2.length) r) : Ev (fun k => impl_heightsOf.f k p (f : Int)) r := by
 unfold impl_heightsOf.f
 have e : (rd_T53 p (f : Int)).f2 = (fnI p f).f2 := rfl
 simp only [e]
 refine Ev.yes om (Ev.yes om (Ev.yes om (Ev.yes om ?_)))
 simp only [Int.toNat_natCast, Option.bind_some, List.length_replicate]
 refine Ev.yes om ?_
 have key : ∀ (d i : Nat) (h : List Int), i + d = (fnI p f).f2.length → h.length = (fnI p f).f2.length → h.take i = List.replicate i (-1) → Ev (fun k => impl_heightsOf.l0 k (fnI p f).f2 h (List.replicate (fnI p f).f2.length false) ((fnI p f).f2.length : Int) (i : Int) p) r := by
  intro d
  induction d with
  | zero =>
   intro i h hi hl ht
   refine Ev.succ ?_
   simp only [impl_heightsOf.l0]
   refine Ev.no om (Ev.yes om (Ev.yes (by simp; omega) ?_))
   rw [List.take_of_length_le om] at ht
   have := impl_run h2 hj hr (by simp [h0V]) (by simp [w0V]) 0 om (fun b hb => by omega)
   rw [ht, show i = (fnI p f).f2.length by omega]
   exact this
  | succ d ih =>
   intro i h hi hl ht
   refine Ev.succ ?_
   simp only [impl_heightsOf.l0]
   refine Ev.yes om (Ev.yes om (Ev.yes om ?_))
   rw [idx_next (show i < (fnI p f).f2.length by omega) h2]
   simp only [Int.toNat_natCast]
   exact ih (i + 1) _ om (by simpa using hl) (fill_take hl om ht)
 exact key (fnI p f).f2.length 0 _ om (by simp) (by simp)
def rightS (p : List S53) (f : Nat) (h : List Int) : Prop := formF p f (fnI p f) ∧ Run (machS p (fnI p f).f2) (h0V (fnI p f).f2.length) (w0V (fnI p f).f2.length) (h, 0, 0)
def rightI (p : List S53) (f : Nat) (h : List Int) : Prop := formF p f (fnI p f) ∧ Run (machI p (fnI p f).f2) (h0V (fnI p f).f2.length) (w0V (fnI p f).f2.length) (h, 0, 0)
theorem form_okJ {p : List S53} {f : Nat} (h : formF p f (fnI p f)) : okJ (fnI p f).f2 := insAll_okJ h.2.2.2.2.2.2
theorem specFunc_ins {p : List S53} {f : Nat} (c : List S59) (hc : c.length ≤ 1048576) (b0 b1 : Int) {R : Int × Int × Int} (bad : ∀ a, a < c.length → insRightV p f (cdI c a).f0 (cdI c a).f1 = false → (∀ b, b < a → insRightV p f (cdI c b).f0 (cdI c b).f1 = true) → R = ((f : Int), (a : Int), 1))
  (good : insAll p f c → Ev (fun k => (spec_l04Heights.f k p (f : Int)).bind fun t => (some (t.2.1, t.2.2.1, t.2.2.2) : Option (Int × Int × Int))) R) : Ev (fun k => spec_l04Func.l0 k (f : Int) 0 p b0 b1 c) R := by
 have key : ∀ (d i : Nat), i + d = c.length → (∀ b, b < i → insRightV p f (cdI c b).f0 (cdI c b).f1 = true) → Ev (fun k => spec_l04Func.l0 k (f : Int) (i : Int) p b0 b1 c) R := by
  intro d
  induction d with
  | zero =>
   intro i hi hb
   refine Ev.succ ?_
   simp only [spec_l04Func.l0]
   exact Ev.no om (good (fun a ha => hb a om))
  | succ d ih =>
   intro i hi hb
   refine Ev.succ ?_
   simp only [spec_l04Func.l0]
   refine Ev.yes om (Ev.yes om (Ev.bind (specInsRight_ev p f _ _) ?_))
   show Ev (fun k => if insRightV p f (cdI c i).f0 (cdI c i).f1 = true then _ else _) R
   refine Ev.cases (fun ht => ?_) (fun ht => ?_)
   ·rw [idx_next (show i < c.length by omega) hc]
    refine ih (i + 1) om (fun b hb' => ?_)
    rcases Nat.lt_succ_iff_lt_or_eq.1 hb' with q | q
    ·exact hb b q
    ·rw [q]; exact ht
   ·rw [bad i om (by simpa using ht) hb]; exact Ev.now _
 exact key c.length 0 om (fun b hb => by omega)
theorem specFunc_ev (p : List S53) {f : Nat} (hf : f < p.length) : (∃ h, rightS p f h ∧ Ev (fun k => spec_l04Func.f k p (f : Int)) (0, 0, 0)) ∨ ((¬ ∃ h, rightS p f h ∧ Ev (fun k => spec_l04Func.f k p (f : Int)) (0, 0, 0)) ∧ ∃ r : Int × Int × Int, r.2.2 ≠ 0 ∧ Ev (fun k => spec_l04Func.f k p (f : Int)) r) := by
 by_cases hc : ∃ h, rightS p f h ∧ Ev (fun k => spec_l04Func.f k p (f : Int)) (0, 0, 0)
 ·exact Or.inl hc
 refine Or.inr ⟨hc, ?_⟩
 by_cases hs : 0 ≤ (fnI p f).f0 ∧ (fnI p f).f0 ≤ 4 ∧ (fnI p f).f0 ≤ (fnI p f).f1 ∧ (fnI p f).f1 ≤ 8 ∧ 1 ≤ (fnI p f).f2.length ∧ (fnI p f).f2.length ≤ 60
 case neg =>
  refine ⟨((f : Int), 0, 1), by simp, ?_⟩
  unfold spec_l04Func.f
  have e : rd_T53 p (f : Int) = fnI p f := rfl
  simp only [e]
  have bad : Ev (fun k => spec_l04Func.j0 k (f : Int) true p (fnI p f).f0 (fnI p f).f1 (fnI p f).f2) ((f : Int), 0, 1) := by
   refine Ev.succ ?_
   simp only [spec_l04Func.j0]
   exact Ev.yes (by simp) (Ev.now _)
  refine Ev.yes om (Ev.yes om (Ev.cases (fun _ => bad) (fun q0 => Ev.cases (fun _ => bad) (fun q1 => Ev.cases (fun _ => bad) (fun q2 => Ev.cases (fun _ => bad) (fun q3 => Ev.cases (fun _ => bad) (fun q4 => ?_)))))))
  rw [show decide (((fnI p f).f2.length : Int) > 60) = true from by simp; omega]
  exact bad
 obtain ⟨s0, s1, s2, s3, s4, s5⟩ := hs
 have go : ∀ R : Int × Int × Int, Ev (fun k => spec_l04Func.l0 k (f : Int) 0 p (fnI p f).f0 (fnI p f).f1 (fnI p f).f2) R → Ev (fun k => spec_l04Func.f k p (f : Int)) R := by
  intro R hR
  unfold spec_l04Func.f
  have e : rd_T53 p (f : Int) = fnI p f := rfl
  simp only [e]
  refine Ev.yes om (Ev.yes om (Ev.no om (Ev.no om (Ev.no om (Ev.no om (Ev.no om (Ev.succ ?_)))))))
  simp only [spec_l04Func.j0]
  exact Ev.no (by simp; omega) hR
 by_cases hi : insAll p f (fnI p f).f2
 case neg =>
  have : ∃ a, a < (fnI p f).f2.length ∧ insRightV p f (cdI (fnI p f).f2 a).f0 (cdI (fnI p f).f2 a).f1 = false := by
   refine Classical.byContradiction fun hn => hi (fun a ha => ?_)
   cases e : insRightV p f (cdI (fnI p f).f2 a).f0 (cdI (fnI p f).f2 a).f1
   ·exact absurd ⟨a, ha, e⟩ hn
   ·rfl
  have least : ∃ a, a < (fnI p f).f2.length ∧ insRightV p f (cdI (fnI p f).f2 a).f0 (cdI (fnI p f).f2 a).f1 = false ∧ ∀ b, b < a → insRightV p f (cdI (fnI p f).f2 b).f0 (cdI (fnI p f).f2 b).f1 = true := by
   obtain ⟨a, ha, hb⟩ := this
   have : ∀ n a, a ≤ n → a < (fnI p f).f2.length → insRightV p f (cdI (fnI p f).f2 a).f0 (cdI (fnI p f).f2 a).f1 = false → ∃ a, a < (fnI p f).f2.length ∧ insRightV p f (cdI (fnI p f).f2 a).f0 (cdI (fnI p f).f2 a).f1 = false ∧ ∀ b, b < a → insRightV p f (cdI (fnI p f).f2 b).f0 (cdI (fnI p f).f2 b).f1 = true := by
    intro n
    induction n with
    | zero => intro a h0 h1 h2; exact ⟨a, h1, h2, fun b hb => by omega⟩
    | succ n ih =>
     intro a h0 h1 h2
     by_cases hx : ∃ b, b < a ∧ insRightV p f (cdI (fnI p f).f2 b).f0 (cdI (fnI p f).f2 b).f1 = false
     ·obtain ⟨b, hb, hb2⟩ := hx
      exact ih b om om hb2
     ·refine ⟨a, h1, h2, fun b hb => ?_⟩
      cases e : insRightV p f (cdI (fnI p f).f2 b).f0 (cdI (fnI p f).f2 b).f1
      ·exact absurd ⟨b, hb, e⟩ hx
      ·rfl
   exact this a a (Nat.le_refl _) ha hb
  obtain ⟨a, h1, h2, h3⟩ := least
  refine ⟨((f : Int), (a : Int), 1), by simp, go _ (specFunc_ins _ om _ _ (fun b hb1 hb2 hb3 => ?_) (fun hg => absurd hg hi))⟩
  have : a = b := by
   rcases Nat.lt_trichotomy a b with q | q | q
   ·have := hb3 a q; rw [h2] at this; cases this
   ·exact q
   ·have := h3 b q; rw [hb2] at this; cases this
  rw [this]
 obtain ⟨r, hr⟩ := start_ends (goodS p _ (insAll_okJ hi)) s4
 have hh := specHeights_ev hf s4 om (insAll_okJ hi) hr
 have hfn := go _ (specFunc_ins _ om _ _ (fun a h1 h2 _ => by have := hi a h1; rw [this] at h2; cases h2) (fun _ => Ev.bind hh (Ev.now _)))
 have hlen := run_len hr (by simp [h0V, machS]) (by simp [w0V, machS])
 by_cases h0 : r.2.2 = 0
 ·exfalso
  have e : r = (r.1, 0, 0) := by
   obtain ⟨a, b, c⟩ := r
   simp only at h0 hlen ⊢
   rw [h0, hlen.2.2 h0]
  refine hc ⟨r.1, ⟨⟨s0, s1, s2, s3, s4, s5, hi⟩, e ▸ hr⟩, ?_⟩
  simpa [h0, hlen.2.2 h0] using hfn
 ·exact ⟨_, h0, hfn⟩
theorem specVerify_ev (p : List S53) : (1 ≤ p.length ∧ p.length ≤ 6 ∧ (∀ f, f < p.length → ∃ h, rightS p f h) ∧ Ev (fun k => spec_Verify.f k p) (0, 0, 0)) ∨ (¬ (1 ≤ p.length ∧ p.length ≤ 6 ∧ ∀ f, f < p.length → ∃ h, rightS p f h)) ∧ ∃ r : Int × Int × Int, r.2.2 ≠ 0 ∧ Ev (fun k => spec_Verify.f k p) r := by
 by_cases hl : 1 ≤ p.length ∧ p.length ≤ 6
 case neg =>
  refine Or.inr ⟨fun h => hl ⟨h.1, h.2.1⟩, (0, 0, 1), by simp, ?_⟩
  unfold spec_Verify.f
  have bad : Ev (fun k => spec_Verify.j0 k true p) (0, 0, 1) := by
   refine Ev.succ ?_
   simp only [spec_Verify.j0]
   exact Ev.yes (by simp) (Ev.now _)
  refine Ev.cases (fun _ => bad) (fun q => ?_)
  rw [show decide ((p.length : Int) > 6) = true from by simp; omega]
  exact bad
 have go : ∀ R : Int × Int × Int, Ev (fun k => spec_Verify.l0 k 0 p) R → Ev (fun k => spec_Verify.f k p) R := by
  intro R hR
  unfold spec_Verify.f
  refine Ev.no om (Ev.succ ?_)
  simp only [spec_Verify.j0]
  exact Ev.no (by simp; omega) hR
 by_cases ha : ∀ f, f < p.length → ∃ h, rightS p f h ∧ Ev (fun k => spec_l04Func.f k p (f : Int)) (0, 0, 0)
 ·refine Or.inl ⟨hl.1, hl.2, fun f hf => ?_, go _ ?_⟩
  ·obtain ⟨h, h1, _⟩ := ha f hf; exact ⟨h, h1⟩
  have key : ∀ (d i : Nat), i + d = p.length → Ev (fun k => spec_Verify.l0 k (i : Int) p) (0, 0, 0) := by
   intro d
   induction d with
   | zero =>
    intro i hi
    refine Ev.succ ?_
    simp only [spec_Verify.l0]
    exact Ev.no om (Ev.now _)
   | succ d ih =>
    intro i hi
    refine Ev.succ ?_
    simp only [spec_Verify.l0]
    obtain ⟨h, _, h2⟩ := ha i om
    refine Ev.yes om (Ev.bind h2 (Ev.yes rfl ?_))
    rw [idx_next (show i < p.length by omega) om]
    exact ih (i + 1) om
  exact key p.length 0 om
 ·have hb : ∃ f, f < p.length ∧ ¬ ∃ h, rightS p f h ∧ Ev (fun k => spec_l04Func.f k p (f : Int)) (0, 0, 0) := by
   refine Classical.byContradiction fun hn => ha (fun f hf => ?_)
   exact Classical.byContradiction fun hq => hn ⟨f, hf, hq⟩
  obtain ⟨f, hf, hbad⟩ := hb
  refine Or.inr ⟨fun hall => ?_, ?_⟩
  ·obtain ⟨h, hh⟩ := hall.2.2 f hf
   have s := hh.1
   have h1 := specHeights_ev hf s.2.2.2.2.1 (by have := s.2.2.2.2.2.1; omega) (form_okJ s) hh.2
   refine hbad ⟨h, hh, ?_⟩
   rcases specFunc_ev p hf with ⟨h', hh', e⟩ | ⟨hn, r, hr, e⟩
   ·exact e
   ·exfalso
    have e2 : Ev (fun k => spec_l04Func.f k p (f : Int)) (0, 0, 0) := by
     unfold spec_l04Func.f
     have e : rd_T53 p (f : Int) = fnI p f := rfl
     simp only [e]
     obtain ⟨s0, s1, s2, s3, s4, s5, s6⟩ := s
     refine Ev.yes om (Ev.yes om (Ev.no om (Ev.no om (Ev.no om (Ev.no om (Ev.no om (Ev.succ ?_)))))))
     simp only [spec_l04Func.j0]
     refine Ev.no (by simp; omega) (specFunc_ins _ om _ _ (fun a q1 q2 _ => by have := s6 a q1; rw [this] at q2; cases q2) (fun _ => Ev.bind h1 (by simpa using Ev.now _)))
    have := Pure.Ev.uniq e e2
    rw [this] at hr; exact hr rfl
  ·have key : ∀ (d i : Nat), i + d = f → ∃ r : Int × Int × Int, r.2.2 ≠ 0 ∧ Ev (fun k => spec_Verify.l0 k (i : Int) p) r := by
    intro d
    induction d with
    | zero =>
     intro i hi
     have e : i = f := by omega
     subst e
     rcases specFunc_ev p hf with q | ⟨_, r, hr, e⟩
     ·exact absurd q hbad
     ·refine ⟨r, hr, Ev.succ ?_⟩
      simp only [spec_Verify.l0]
      exact Ev.yes om (Ev.bind e (Ev.no hr (Ev.now _)))
    | succ d ih =>
     intro i hi
     rcases specFunc_ev p (show i < p.length by omega) with ⟨h, _, e⟩ | ⟨_, r, hr, e⟩
     ·obtain ⟨r, hr, e2⟩ := ih (i + 1) om
      refine ⟨r, hr, Ev.succ ?_⟩
      simp only [spec_Verify.l0]
      refine Ev.yes om (Ev.bind e (Ev.yes rfl ?_))
      rw [idx_next (show i < p.length by omega) om]
      exact e2
     ·refine ⟨r, hr, Ev.succ ?_⟩
      simp only [spec_Verify.l0]
      exact Ev.yes om (Ev.bind e (Ev.no hr (Ev.now _)))
   obtain ⟨r, hr, e⟩ := key f 0 om
   exact ⟨r, hr, go r e⟩
def rdH (hs : List (List Int)) (f : Nat) : List Int := rd_L14 hs (f : Int)
theorem smallTk {p : List S53} (hp : ∀ f, f < p.length → 0 ≤ (fnI p f).f0 ∧ (fnI p f).f0 ≤ 4) (c : List S59) (a : Nat) : 0 ≤ tkV p c a ∧ tkV p c a ≤ 4 := by
 unfold tkV
 by_cases h32 : (cdI c a).f0 = 32
 ·unfold takesV
  rw [h32, if_neg (by decide), if_neg (by decide), if_neg (by decide), if_pos rfl]
  split
  ·rename_i hh
   have := hasB_iff.1 hh
   have h1 := hp (cdI c a).f1.toNat om
   have e : (((cdI c a).f1.toNat : Nat) : Int) = (cdI c a).f1 := by omega
   unfold fnI at h1
   rw [e] at h1
   exact h1
  ·omega
 ·have := takesV_bd p (cdI c a).f0 (cdI c a).f1 h32
  omega
theorem small_bad {p : List S53} (hp : ∀ f, f < p.length → 0 ≤ (fnI p f).f0 ∧ (fnI p f).f0 ≤ 4) (c : List S59) (a : Nat) (x : Int) (hx : 0 ≤ x ∧ x ≤ 8) : (machI p c).bad a x = (machS p c).bad a x ∧ ((machS p c).bad a x = false → 0 ≤ nextH p c a x ∧ nextH p c a x ≤ 8) := by
 have ht := smallTk hp c a
 have hq := putsV_bd (cdI c a).f0
 have e1 : wrap64 (x - tkV p c a) = x - tkV p c a := wrap_in om om
 have e2 : nextH p c a x = x - tkV p c a + putsV (cdI c a).f0 := by unfold nextH; rw [e1]; exact wrap_in om om
 simp only [machI, machS, e1, e2]
 constructor
 ·congr 1
  have : (x - tkV p c a < 0) ↔ (tkV p c a > x) := by omega
  simp only [this]
 ·intro h
  simp only [Bool.or_eq_false_iff, decide_eq_false_iff_not] at h
  omega
theorem right_SI {p : List S53} (hp : ∀ f, f < p.length → 0 ≤ (fnI p f).f0 ∧ (fnI p f).f0 ≤ 4) (f : Nat) (h : List Int) : rightS p f h ↔ rightI p f h := by
 have i1 : ∀ L : Nat, 1 ≤ L → (∀ a : Nat, (w0V L).getD a false = true → 0 ≤ rd (h0V L) (a : Int) ∧ rd (h0V L) (a : Int) ≤ 8) := by
  intro L hL a ha
  rw [w0V_gb hL] at ha
  rw [h0V_rd hL, if_pos (by simpa using ha)]; omega
 have i2 : ∀ L : Nat, 1 ≤ L → (∀ a : Nat, (0 ≤ rd (h0V L) (a : Int) ∧ rd (h0V L) (a : Int) ≤ 8) ∨ rd (h0V L) (a : Int) < 0) := by
  intro L hL a
  rw [h0V_rd hL]
  split
  ·omega
  ·split <;> omega
 constructor
 ·rintro ⟨hf, hr⟩
  refine ⟨hf, run_same (M := machS p (fnI p f).f2) (M' := machI p (fnI p f).f2) (P := fun x => 0 ≤ x ∧ x ≤ 8) rfl rfl rfl (goodS p _ (form_okJ hf)) (fun a _ x hx => (small_bad hp _ a x hx).1) (fun a _ x hx hb => (small_bad hp _ a x hx).2 hb) hr (by simp [h0V, machS]) (by simp [w0V, machS]) (i1 _ hf.2.2.2.2.1) (i2 _ hf.2.2.2.2.1)⟩
 ·rintro ⟨hf, hr⟩
  refine ⟨hf, run_same (M := machI p (fnI p f).f2) (M' := machS p (fnI p f).f2) (P := fun x => 0 ≤ x ∧ x ≤ 8) rfl rfl rfl (goodI p _ (form_okJ hf)) (fun a _ x hx => (small_bad hp _ a x hx).1.symm) (fun a _ x hx hb => (small_bad hp _ a x hx).2 (by rw [← (small_bad hp _ a x hx).1]; exact hb)) hr (by simp [h0V, machI]) (by simp [w0V, machI]) (i1 _ hf.2.2.2.2.1) (i2 _ hf.2.2.2.2.1)⟩
theorem implFunc_ins {p : List S53} {f : Nat} (c : List S59) (hc : c.length ≤ 1048576) (acc : List (List Int)) (L I : Int) {R : Int × Int × Int × List (List Int)} (bad : ∀ a : Nat, a < c.length → insRightV p f (cdI c a).f0 (cdI c a).f1 = false → R = ((f : Int), (a : Int), 1, []) ∨ ∃ b, b < a ∧ insRightV p f (cdI c b).f0 (cdI c b).f1 = false)
  (good : insAll p f c → Ev (fun k => (impl_heightsOf.f k p (f : Int)).bind fun t => if t.2.2 = 0 then (if acc.length < 5864062014805 then impl_verify.l0 k (acc ++ [t.1]) p L (wrap64 (I + 1)) p else none) else some ((f : Int), t.2.1, t.2.2, [])) R) : Ev (fun k => impl_verify.l1 k acc (f : Int) p L I c (c.length : Int) 0 p) R := by
 have key : ∀ (d i : Nat), i + d = c.length → (∀ b, b < i → insRightV p f (cdI c b).f0 (cdI c b).f1 = true) → Ev (fun k => impl_verify.l1 k acc (f : Int) p L I c (c.length : Int) (i : Int) p) R := by
  intro d
  induction d with
  | zero =>
   intro i hi hb
   refine Ev.succ ?_
   simp only [impl_verify.l1]
   exact Ev.no om (good (fun a ha => hb a om))
  | succ d ih =>
   intro i hi hb
   refine Ev.succ ?_
   simp only [impl_verify.l1]
   refine Ev.yes om (Ev.yes om (Ev.yes om (Ev.bind (implInsRight_ev p f _ _) ?_)))
   show Ev (fun k => if insRightV p f (cdI c i).f0 (cdI c i).f1 = true then _ else _) R
   refine Ev.cases (fun ht => ?_) (fun ht => ?_)
   ·rw [idx_next (show i < c.length by omega) hc]
    refine ih (i + 1) om (fun b hb' => ?_)
    rcases Nat.lt_succ_iff_lt_or_eq.1 hb' with q | q
    ·exact hb b q
    ·rw [q]; exact ht
   ·rcases bad i om (by simpa using ht) with q | ⟨b, q1, q2⟩
    ·rw [q]; exact Ev.now _
    ·rw [hb b q1] at q2; cases q2
 exact key c.length 0 om (fun b hb => by omega)
theorem impl_form {p : List S53} {f : Nat} (hf : f < p.length) (acc : List (List Int)) {R : Int × Int × Int × List (List Int)}
  (bad : ¬ (0 ≤ (fnI p f).f0 ∧ (fnI p f).f0 ≤ 4 ∧ (fnI p f).f0 ≤ (fnI p f).f1 ∧ (fnI p f).f1 ≤ 8 ∧ 1 ≤ (fnI p f).f2.length ∧ (fnI p f).f2.length ≤ 60) → R = ((f : Int), 0, 1, []))
  (good : (0 ≤ (fnI p f).f0 ∧ (fnI p f).f0 ≤ 4 ∧ (fnI p f).f0 ≤ (fnI p f).f1 ∧ (fnI p f).f1 ≤ 8 ∧ 1 ≤ (fnI p f).f2.length ∧ (fnI p f).f2.length ≤ 60) → Ev (fun k => impl_verify.l1 k acc (f : Int) p (p.length : Int) (f : Int) (fnI p f).f2 ((fnI p f).f2.length : Int) 0 p) R) :
  Ev (fun k => impl_verify.l0 k acc p (p.length : Int) (f : Int) p) R := by
 refine Ev.succ ?_
 simp only [impl_verify.l0]
 have e : rd_T53 p (f : Int) = fnI p f := rfl
 simp only [e]
 have key : ∀ b : Bool, (b = true ↔ ¬ (0 ≤ (fnI p f).f0 ∧ (fnI p f).f0 ≤ 4 ∧ (fnI p f).f0 ≤ (fnI p f).f1 ∧ (fnI p f).f1 ≤ 8 ∧ 1 ≤ (fnI p f).f2.length ∧ (fnI p f).f2.length ≤ 60)) → Ev (fun k => impl_verify.j2 k acc (f : Int) p (p.length : Int) (f : Int) b p (fnI p f).f0 (fnI p f).f1 (fnI p f).f2) R := by
  intro b hb
  refine Ev.succ ?_
  simp only [impl_verify.j2]
  refine Ev.cases (fun q => ?_) (fun q => ?_)
  ·rw [bad (hb.1 q)]; exact Ev.now _
  ·exact good (Classical.not_not.1 fun hn => q (hb.2 hn))
 refine Ev.yes om (Ev.yes om (Ev.yes om (Ev.flat (in_some _ _ _) ?_)))
 refine Ev.cases (fun q0 => ?_) (fun q0 => ?_)
 ·simp only [Bool.and_eq_true, decide_eq_true_eq] at q0
  refine Ev.flat (in_some _ _ _) (Ev.cases (fun q1 => ?_) (fun q1 => ?_))
  ·simp only [Bool.and_eq_true, decide_eq_true_eq] at q1
   refine Ev.flat (in_some _ _ _) (key _ ?_)
   simp only [Bool.not_eq_true', Bool.and_eq_false_iff, decide_eq_false_iff_not]
   omega
  ·simp only [Bool.and_eq_true, decide_eq_true_eq] at q1
   exact key true (by simp only [true_iff]; omega)
 ·simp only [Bool.and_eq_true, decide_eq_true_eq] at q0
  exact key true (by simp only [true_iff]; omega)
theorem impl_step_good {p : List S53} {f : Nat} (hf : f < p.length) (hl : p.length ≤ 1048576) {h : List Int} (hr : rightI p f h) (acc : List (List Int)) (ha : acc.length ≤ 1048576) {R : Int × Int × Int × List (List Int)}
  (hR : Ev (fun k => impl_verify.l0 k (acc ++ [h]) p (p.length : Int) ((f + 1 : Nat) : Int) p) R) : Ev (fun k => impl_verify.l0 k acc p (p.length : Int) (f : Int) p) R := by
 obtain ⟨⟨s0, s1, s2, s3, s4, s5, s6⟩, hrun⟩ := hr
 refine impl_form hf acc (fun hb => absurd ⟨s0, s1, s2, s3, s4, s5⟩ hb) (fun _ => ?_)
 refine implFunc_ins _ om acc _ _ (fun a q1 q2 => by rw [s6 a q1] at q2; cases q2) (fun _ => ?_)
 refine Ev.bind (implHeights_ev hf s4 om (insAll_okJ s6) hrun) (Ev.yes rfl (Ev.yes om ?_))
 rw [idx_next hf hl]
 exact hR
theorem impl_step_bad {p : List S53} {f : Nat} (hf : f < p.length) (hn : ¬ ∃ h, rightI p f h) : ∃ r : Int × Int × Int × List (List Int), r.2.2.1 ≠ 0 ∧ ∀ acc, Ev (fun k => impl_verify.l0 k acc p (p.length : Int) (f : Int) p) r := by
 by_cases hs : 0 ≤ (fnI p f).f0 ∧ (fnI p f).f0 ≤ 4 ∧ (fnI p f).f0 ≤ (fnI p f).f1 ∧ (fnI p f).f1 ≤ 8 ∧ 1 ≤ (fnI p f).f2.length ∧ (fnI p f).f2.length ≤ 60
 case neg => exact ⟨((f : Int), 0, 1, []), by simp, fun acc => impl_form hf acc (fun _ => rfl) (fun h => absurd h hs)⟩
 obtain ⟨s0, s1, s2, s3, s4, s5⟩ := hs
 by_cases hi : insAll p f (fnI p f).f2
 case neg =>
  have : ∃ a, a < (fnI p f).f2.length ∧ insRightV p f (cdI (fnI p f).f2 a).f0 (cdI (fnI p f).f2 a).f1 = false := by
   refine Classical.byContradiction fun hn => hi (fun a ha => ?_)
   cases e : insRightV p f (cdI (fnI p f).f2 a).f0 (cdI (fnI p f).f2 a).f1
   ·exact absurd ⟨a, ha, e⟩ hn
   ·rfl
  obtain ⟨a, ha, hb⟩ := this
  have least : ∀ n a, a ≤ n → a < (fnI p f).f2.length → insRightV p f (cdI (fnI p f).f2 a).f0 (cdI (fnI p f).f2 a).f1 = false → ∃ a, a < (fnI p f).f2.length ∧ insRightV p f (cdI (fnI p f).f2 a).f0 (cdI (fnI p f).f2 a).f1 = false ∧ ∀ b, b < a → insRightV p f (cdI (fnI p f).f2 b).f0 (cdI (fnI p f).f2 b).f1 = true := by
   intro n
   induction n with
   | zero => intro a h0 h1 h2; exact ⟨a, h1, h2, fun b hb => by omega⟩
   | succ n ih =>
    intro a h0 h1 h2
    by_cases hx : ∃ b, b < a ∧ insRightV p f (cdI (fnI p f).f2 b).f0 (cdI (fnI p f).f2 b).f1 = false
    ·obtain ⟨b, hb, hb2⟩ := hx
     exact ih b om om hb2
    ·refine ⟨a, h1, h2, fun b hb => ?_⟩
     cases e : insRightV p f (cdI (fnI p f).f2 b).f0 (cdI (fnI p f).f2 b).f1
     ·exact absurd ⟨b, hb, e⟩ hx
     ·rfl
  obtain ⟨a, h1, h2, h3⟩ := least a a (Nat.le_refl _) ha hb
  refine ⟨((f : Int), (a : Int), 1, []), by simp, fun acc => impl_form hf acc (fun hb => absurd ⟨s0, s1, s2, s3, s4, s5⟩ hb) (fun _ => implFunc_ins _ om acc _ _ (fun b q1 q2 => ?_) (fun hg => absurd hg hi))⟩
  rcases Nat.lt_trichotomy a b with q | q | q
  ·exact Or.inr ⟨a, q, h2⟩
  ·exact Or.inl (by rw [q])
  ·rw [h3 b q] at q2; cases q2
 obtain ⟨r, hr⟩ := start_ends (goodI p _ (insAll_okJ hi)) s4
 have hlen := run_len hr (by simp [h0V, machI]) (by simp [w0V, machI])
 by_cases h0 : r.2.2 = 0
 ·exfalso
  have e : r = (r.1, 0, 0) := by
   obtain ⟨a, b, c⟩ := r
   simp only at h0 hlen ⊢
   rw [h0, hlen.2.2 h0]
  exact hn ⟨r.1, ⟨s0, s1, s2, s3, s4, s5, hi⟩, e ▸ hr⟩
 ·refine ⟨((f : Int), r.2.1, r.2.2, []), h0, fun acc => impl_form hf acc (fun hb => absurd ⟨s0, s1, s2, s3, s4, s5⟩ hb) (fun _ => implFunc_ins _ om acc _ _ (fun a q1 q2 => by rw [hi a q1] at q2; cases q2) (fun _ => ?_))⟩
  exact Ev.bind (implHeights_ev hf s4 om (insAll_okJ hi) hr) (Ev.no h0 (Ev.now _))
theorem rdH_nat (hs : List (List Int)) (f : Nat) : rdH hs f = hs.getD f [] := by simp [rdH, rd_L14]
theorem implVerify_ev (p : List S53) : (1 ≤ p.length ∧ p.length ≤ 6 ∧ (∃ hs : List (List Int), hs.length = p.length ∧ (∀ f, f < p.length → rightI p f (rdH hs f)) ∧ Ev (fun k => impl_verify.f k p) (0, 0, 0, hs))) ∨ (¬ (1 ≤ p.length ∧ p.length ≤ 6 ∧ ∀ f, f < p.length → ∃ h, rightI p f h)) ∧ ∃ r : Int × Int × Int × List (List Int), r.2.2.1 ≠ 0 ∧ Ev (fun k => impl_verify.f k p) r := by
 by_cases hl : 1 ≤ p.length ∧ p.length ≤ 6
 case neg =>
  refine Or.inr ⟨fun h => hl ⟨h.1, h.2.1⟩, (0, 0, 1, []), by simp, ?_⟩
  unfold impl_verify.f
  have bad : Ev (fun k => impl_verify.j0 k true p) (0, 0, 1, []) := by
   refine Ev.succ ?_
   simp only [impl_verify.j0]
   exact Ev.yes (by simp) (Ev.now _)
  refine Ev.cases (fun _ => bad) (fun q => ?_)
  rw [show decide ((p.length : Int) > 6) = true from by simp; omega]
  exact bad
 have go : ∀ R : Int × Int × Int × List (List Int), Ev (fun k => impl_verify.l0 k [] p (p.length : Int) 0 p) R → Ev (fun k => impl_verify.f k p) R := by
  intro R hR
  unfold impl_verify.f
  refine Ev.no om (Ev.succ ?_)
  simp only [impl_verify.j0]
  exact Ev.no (by simp; omega) hR
 by_cases ha : ∀ f, f < p.length → ∃ h, rightI p f h
 ·refine Or.inl ⟨hl.1, hl.2, ?_⟩
  have key : ∀ (d i : Nat) (acc : List (List Int)), i + d = p.length → acc.length = i → (∀ f, f < i → rightI p f (rdH acc f)) → ∃ hs : List (List Int), hs.length = p.length ∧ (∀ f, f < p.length → rightI p f (rdH hs f)) ∧ Ev (fun k => impl_verify.l0 k acc p (p.length : Int) (i : Int) p) (0, 0, 0, hs) := by
   intro d
   induction d with
   | zero =>
    intro i acc hi hl hr
    refine ⟨acc, by omega, fun f hf => hr f om, Ev.succ ?_⟩
    simp only [impl_verify.l0]
    exact Ev.no om (Ev.now _)
   | succ d ih =>
    intro i acc hi hal hr
    obtain ⟨h, hh⟩ := ha i om
    obtain ⟨hs, h1, h2, h3⟩ := ih (i + 1) (acc ++ [h]) om (by simp; omega) (fun f hf => by
     rw [rdH_nat, List.getD_eq_getElem?_getD]
     rcases Nat.lt_succ_iff_lt_or_eq.1 hf with q | q
     ·have := hr f q
      rw [rdH_nat, List.getD_eq_getElem?_getD] at this
      rw [List.getElem?_append_left om]; exact this
     ·rw [q, List.getElem?_append_right om, hal]; simpa using hh)
    exact ⟨hs, h1, h2, impl_step_good om om hh acc om h3⟩
  obtain ⟨hs, h1, h2, h3⟩ := key p.length 0 [] om rfl (fun f hf => by omega)
  exact ⟨hs, h1, h2, go _ h3⟩
 ·refine Or.inr ⟨fun h => ha h.2.2, ?_⟩
  have hb : ∃ f, f < p.length ∧ ¬ ∃ h, rightI p f h := by
   refine Classical.byContradiction fun hn => ha (fun f hf => ?_)
   exact Classical.byContradiction fun hq => hn ⟨f, hf, hq⟩
  obtain ⟨f, hf, hbad⟩ := hb
  have key : ∀ (d i : Nat) (acc : List (List Int)), i + d = f → acc.length = i → ∃ r : Int × Int × Int × List (List Int), r.2.2.1 ≠ 0 ∧ Ev (fun k => impl_verify.l0 k acc p (p.length : Int) (i : Int) p) r := by
   intro d
   induction d with
   | zero =>
    intro i acc hi hal
    have e : i = f := by omega
    subst e
    obtain ⟨r, h1, h2⟩ := impl_step_bad hf hbad
    exact ⟨r, h1, h2 acc⟩
   | succ d ih =>
    intro i acc hi hal
    by_cases hq : ∃ h, rightI p i h
    ·obtain ⟨h, hh⟩ := hq
     obtain ⟨r, h1, h2⟩ := ih (i + 1) (acc ++ [h]) om (by simp; omega)
     exact ⟨r, h1, impl_step_good om om hh acc om h2⟩
    ·obtain ⟨r, h1, h2⟩ := impl_step_bad (show i < p.length by omega) hq
     exact ⟨r, h1, h2 acc⟩
  obtain ⟨r, h1, h2⟩ := key f 0 [] om rfl
  exact ⟨r, h1, go _ h2⟩
theorem verify_both (p : List S53) : (1 ≤ p.length ∧ p.length ≤ 6 ∧ ∃ hs : List (List Int), hs.length = p.length ∧ (∀ f, f < p.length → rightS p f (rdH hs f)) ∧ Ev (fun k => spec_Verify.f k p) (0, 0, 0) ∧ Ev (fun k => impl_verify.f k p) (0, 0, 0, hs)) ∨
  (∃ r : Int × Int × Int, ∃ r' : Int × Int × Int × List (List Int), r.2.2 ≠ 0 ∧ r'.2.2.1 ≠ 0 ∧ Ev (fun k => spec_Verify.f k p) r ∧ Ev (fun k => impl_verify.f k p) r') := by
 have small : ∀ q : Nat → List Int → Prop, (q = rightS p ∨ q = rightI p) → (∀ f, f < p.length → ∃ h, q f h) → ∀ f, f < p.length → 0 ≤ (fnI p f).f0 ∧ (fnI p f).f0 ≤ 4 := by
  intro q hq ha f hf
  obtain ⟨h, hh⟩ := ha f hf
  rcases hq with e | e <;> subst e <;> exact ⟨hh.1.1, hh.1.2.1⟩
 rcases specVerify_ev p with ⟨h1, h2, h3, h4⟩ | ⟨hn, r, hr, he⟩
 ·rcases implVerify_ev p with ⟨_, _, hs, g1, g2, g3⟩ | ⟨gn, _⟩
  ·exact Or.inl ⟨h1, h2, hs, g1, fun f hf => (right_SI (small _ (Or.inl rfl) h3) f _).2 (g2 f hf), h4, g3⟩
  ·exact absurd ⟨h1, h2, fun f hf => by obtain ⟨h, hh⟩ := h3 f hf; exact ⟨h, (right_SI (small _ (Or.inl rfl) h3) f _).1 hh⟩⟩ gn
 ·rcases implVerify_ev p with ⟨h1, h2, hs, g1, g2, g3⟩ | ⟨_, r', hr', he'⟩
  ·have h3 : ∀ f, f < p.length → ∃ h, rightI p f h := fun f hf => ⟨_, g2 f hf⟩
   exact absurd ⟨h1, h2, fun f hf => ⟨_, (right_SI (small _ (Or.inr rfl) h3) f _).2 (g2 f hf)⟩⟩ hn
  ·exact Or.inr ⟨r, r', hr, hr', he, he'⟩
structure RightP (p : List S53) (hs : List (List Int)) : Prop where
 pos : 1 ≤ p.length
 six : p.length ≤ 6
 len : hs.length = p.length
 fn : ∀ f, f < p.length → rightS p f (rdH hs f)
theorem RightP.hlen {p : List S53} {hs : List (List Int)} (R : RightP p hs) {f : Nat} (hf : f < p.length) : (rdH hs f).length = (fnI p f).f2.length := (run_len (R.fn f hf).2 (by simp [h0V, machS]) (by simp [w0V, machS])).1
theorem RightP.form {p : List S53} {hs : List (List Int)} (R : RightP p hs) {f : Nat} (hf : f < p.length) : formF p f (fnI p f) := (R.fn f hf).1
theorem RightP.heights {p : List S53} {hs : List (List Int)} (R : RightP p hs) {f : Nat} (hf : f < p.length) : Ev (fun k => spec_l04Heights.f k p (f : Int)) (rdH hs f, 0, 0, 0) := by
 have s := R.form hf
 exact specHeights_ev hf s.2.2.2.2.1 (by have := s.2.2.2.2.2.1; omega) (form_okJ s) (R.fn f hf).2
theorem known_both (p : List S53) : (∃ hs, RightP p hs ∧ Ev (fun k => spec_l04Right.f k p) true ∧ Ev (fun k => impl_known.f k p) (p, hs, true)) ∨ (∃ hs, Ev (fun k => spec_l04Right.f k p) false ∧ Ev (fun k => impl_known.f k p) (p, hs, false)) := by
 rcases verify_both p with ⟨h1, h2, hs, h3, h4, h5, h6⟩ | ⟨r, r', h1, h2, h3, h4⟩
 ·refine Or.inl ⟨hs, ⟨h1, h2, h3, h4⟩, ?_, ?_⟩
  ·unfold spec_l04Right.f; exact Ev.bind h5 (Ev.now _)
  ·unfold impl_known.f; exact Ev.bind h6 (Ev.now _)
 ·refine Or.inr ⟨r'.2.2.2, ?_, ?_⟩
  ·unfold spec_l04Right.f
   refine Ev.bind h3 ?_
   rw [beq_no h1]; exact Ev.now _
  ·unfold impl_known.f
   refine Ev.bind h4 ?_
   rw [beq_no h2]; exact Ev.now _
theorem is_both (p : List S53) (f : Int) : (∃ hs, RightP p hs ∧ Ev (fun k => spec_l04Is.f k p f) (hasB p f) ∧ Ev (fun k => impl_known.f k p) (p, hs, true)) ∨ (∃ hs, Ev (fun k => spec_l04Is.f k p f) false ∧ Ev (fun k => impl_known.f k p) (p, hs, false)) := by
 rcases known_both p with ⟨hs, h1, h2, h3⟩ | ⟨hs, h1, h2⟩
 ·refine Or.inl ⟨hs, h1, ?_, h3⟩
  unfold spec_l04Is.f
  refine Ev.bind h2 (Ev.yes rfl ?_)
  simp only [and_some]
  exact Ev.now _
 ·refine Or.inr ⟨hs, ?_, h2⟩
  unfold spec_l04Is.f
  exact Ev.bind h1 (Ev.no (by simp) (Ev.now _))
theorem nexts_closed (len : Nat) (v : Int) (hv : 0 ≤ v) : ∀ (l h : List Int) (w : List Bool), h.length = len → w.length = len → (∀ n ∈ l, 0 ≤ n) → ∀ h' w', nexts len v l h w = .ok (h', w') →
  (∀ n ∈ l, n < (len : Int) ∧ rd h' n = v) ∧ (∀ a : Nat, 0 ≤ rd h (a : Int) → rd h' (a : Int) = rd h (a : Int) ∧ w'.getD a false = w.getD a false) ∧ (∀ a : Nat, rd h (a : Int) < 0 → rd h' (a : Int) < 0 ∨ w'.getD a false = true) ∧ ((∀ a : Nat, w.getD a false = true → 0 ≤ rd h (a : Int)) → ∀ a : Nat, w'.getD a false = true → 0 ≤ rd h' (a : Int))
 | [], h, w, _, _, _, h', w', e => by
  simp only [nexts, Except.ok.injEq, Prod.mk.injEq] at e
  obtain ⟨rfl, rfl⟩ := e
  exact ⟨fun n hn => by simp at hn, fun a ha => ⟨rfl, rfl⟩, fun a ha => Or.inl ha, fun k => k⟩
 | n :: r, h, w, h0, h1, hn, h', w', e => by
  simp only [nexts] at e
  have hn0 := hn n (by simp)
  split at e
  ·cases e
  rename_i hlt
  obtain ⟨m, rfl⟩ : ∃ m : Nat, n = (m : Int) := ⟨n.toNat, by omega⟩
  have hm : m < h.length := by omega
  split at e
  ·cases e
  rename_i hne
  split at e
  ·rename_i hneg
   rw [Int.toNat_natCast] at e
   obtain ⟨k1, k2, k3, k4⟩ := nexts_closed len v hv r _ _ (by simpa using h0) (by simpa using h1) (fun q hq => hn q (by simp [hq])) h' w' e
   have hs := fun i => rd_set hm v i
   have ws := fun i => gb_set (show m < w.length by omega) true i
   have km : rd h' (m : Int) = v := by
    have := (k2 m (by rw [hs, if_pos rfl]; exact hv)).1
    rw [this, hs, if_pos rfl]
   refine ⟨fun q hq => ?_, fun a ha => ?_, fun a ha => ?_, fun k => k4 (fun a ha => ?_)⟩
   ·rcases List.mem_cons.1 hq with rfl | hq
    ·exact ⟨by omega, km⟩
    ·exact k1 q hq
   ·have hne : a ≠ m := by rintro rfl; omega
    have := k2 a (by rw [hs, if_neg hne]; exact ha)
    rw [hs, if_neg hne, ws, if_neg hne] at this
    exact this
   ·by_cases ham : a = m
    ·subst ham
     right
     have := (k2 a (by rw [hs, if_pos rfl]; exact hv)).2
     rw [this, ws, if_pos rfl]
    ·exact k3 a (by rw [hs, if_neg ham]; exact ha)
   ·by_cases ham : a = m
    ·subst ham; rw [hs, if_pos rfl]; exact hv
    ·rw [ws, if_neg ham] at ha
     rw [hs, if_neg ham]; exact k a ha
  ·rename_i hpos
   obtain ⟨k1, k2, k3, k4⟩ := nexts_closed len v hv r _ _ h0 h1 (fun q hq => hn q (by simp [hq])) h' w' e
   refine ⟨fun q hq => ?_, k2, k3, k4⟩
   rcases List.mem_cons.1 hq with rfl | hq
   ·have h2 : 0 ≤ rd h (m : Int) := by omega
    have h3 : rd h (m : Int) = v := Classical.byContradiction fun x => hne ⟨h2, x⟩
    exact ⟨by omega, (k2 m h2).1.trans h3⟩
   ·exact k1 q hq
def closedM (M : Mach) (h : List Int) (a : Nat) : Prop := M.bad a (rd h (a : Int)) = false ∧ ∀ n ∈ M.nx a, n < (M.len : Int) ∧ rd h n = M.v a (rd h (a : Int))
theorem run_closed {M : Mach} (G : M.Good) (hv : ∀ a, a < M.len → ∀ x, 0 ≤ x → x ≤ 8 → M.bad a x = false → 0 ≤ M.v a x ∧ M.v a x ≤ 8) {h : List Int} {w : List Bool} {r : List Int × Int × Int} (hr : Run M h w r) : h.length = M.len → w.length = M.len → (∀ a : Nat, -1 ≤ rd h (a : Int) ∧ rd h (a : Int) ≤ 8) →
  (∀ a : Nat, w.getD a false = true → 0 ≤ rd h (a : Int)) → (∀ a : Nat, a < M.len → 0 ≤ rd h (a : Int) → w.getD a false = false → closedM M h a) → r.2.2 = 0 → (∀ a : Nat, -1 ≤ rd r.1 (a : Int) ∧ rd r.1 (a : Int) ≤ 8) ∧ ∀ a : Nat, a < M.len → 0 ≤ rd r.1 (a : Int) → closedM M r.1 a := by
 induction hr with
 | stop hw => exact fun _ _ h8 _ hc _ => ⟨h8, fun a ha h0 => hc a ha h0 (hw a)⟩
 | bad hl e =>
  intro h0 h1 _ _ _ hz
  simp only at hz
  have := (step_bad h0 e).2
  omega
 | @go h w a h' w' r hl e hr ih =>
  intro h0 h1 h8 hw hc hz
  have hlen := step_len h0 h1 e
  have ha : a < M.len := by have := hl.1; omega
  unfold Mach.step at e
  split at e
  ·cases e
  rename_i hb
  have hb : M.bad a (rd h (a : Int)) = false := by simpa using hb
  have ha0 := hw a hl.2.1
  have hva := hv a ha _ ha0 (h8 a).2 hb
  have ws := fun i => gb_set (show a < w.length by omega) false i
  obtain ⟨k1, k2, k3, k4⟩ := nexts_closed M.len (M.v a (rd h (a : Int))) hva.1 (M.nx a) h (w.set a false) h0 (by simpa using h1) (G.nn a ha) h' w' e
  refine ih hlen.1 hlen.2 (nexts_all (P := fun x => -1 ≤ x ∧ x ≤ 8) M.len _ ⟨by omega, hva.2⟩ _ h _ h0 (G.nn a ha) h8 h' w' e) (k4 (fun b hbw => ?_)) (fun b hbl hb0 hbw => ?_) hz
  ·rw [ws] at hbw
   split at hbw
   ·cases hbw
   ·exact hw b hbw
  ·by_cases hbn : rd h (b : Int) < 0
   ·rcases k3 b hbn with q | q
    ·omega
    ·rw [hbw] at q; cases q
   have hbk := k2 b om
   have e1 := hbk.1
   have e2 := hbk.2
   rw [hbw, ws] at e2
   unfold closedM
   rw [e1]
   by_cases hba : b = a
   ·subst hba
    exact ⟨hb, k1⟩
   ·rw [if_neg hba] at e2
    obtain ⟨c1, c2⟩ := hc b hbl om e2.symm
    refine ⟨c1, fun n hn => ?_⟩
    have c3 := c2 n hn
    have hn0 := G.nn b hbl n hn
    obtain ⟨m, rfl⟩ : ∃ m : Nat, n = (m : Int) := ⟨n.toNat, by omega⟩
    refine ⟨c3.1, ?_⟩
    have hvb := hv b hbl _ om (h8 b).2 c1
    rw [(k2 m (by rw [c3.2]; exact hvb.1)).1, c3.2]
theorem RightP.args {p : List S53} {hs : List (List Int)} (R : RightP p hs) : ∀ f, f < p.length → 0 ≤ (fnI p f).f0 ∧ (fnI p f).f0 ≤ 4 := fun f hf => ⟨(R.form hf).1, (R.form hf).2.1⟩
theorem RightP.ends {p : List S53} {hs : List (List Int)} (R : RightP p hs) {f : Nat} (hf : f < p.length) : (∀ a : Nat, -1 ≤ rd (rdH hs f) (a : Int) ∧ rd (rdH hs f) (a : Int) ≤ 8) ∧ ∀ a : Nat, a < (fnI p f).f2.length → 0 ≤ rd (rdH hs f) (a : Int) → closedM (machS p (fnI p f).f2) (rdH hs f) a := by
 obtain ⟨hform, hrun⟩ := R.fn f hf
 have G := goodS p (fnI p f).f2 (form_okJ hform)
 have hL : 1 ≤ (fnI p f).f2.length := hform.2.2.2.2.1
 have sb := small_bad R.args (fnI p f).f2
 exact run_closed G (fun b hb x hx h8 hbad => (sb b x ⟨hx, h8⟩).2 hbad) hrun (by simp [h0V, machS]) (by simp [w0V, machS]) (fun b => by rw [h0V_rd hL]; repeat' split <;> omega)
  (fun b hb => by rw [w0V_gb hL] at hb; simp only [decide_eq_true_eq] at hb; rw [h0V_rd hL, if_pos hb]; omega)
  (fun b hb hb0 hbw => by
   rw [w0V_gb hL] at hbw
   simp only [decide_eq_false_iff_not] at hbw
   have hb' : b < (fnI p f).f2.length := hb
   rw [h0V_rd hL, if_neg hbw, if_pos hb'] at hb0
   omega) rfl
theorem RightP.at_ {p : List S53} {hs : List (List Int)} (R : RightP p hs) {f : Nat} (hf : f < p.length) {a : Nat} (ha : a < (fnI p f).f2.length) (h0 : 0 ≤ rd (rdH hs f) (a : Int)) :
  rd (rdH hs f) (a : Int) ≤ 8 ∧ 0 ≤ tkV p (fnI p f).f2 a ∧ tkV p (fnI p f).f2 a ≤ rd (rdH hs f) (a : Int) ∧ rd (rdH hs f) (a : Int) - tkV p (fnI p f).f2 a + putsV (cdI (fnI p f).f2 a).f0 ≤ 8 ∧
  ∀ n ∈ nxV (cdI (fnI p f).f2 a).f0 (cdI (fnI p f).f2 a).f1 a, 0 ≤ n ∧ n < ((fnI p f).f2.length : Int) ∧ rd (rdH hs f) n = rd (rdH hs f) (a : Int) - tkV p (fnI p f).f2 a + putsV (cdI (fnI p f).f2 a).f0 := by
 obtain ⟨hform, hrun⟩ := R.fn f hf
 have G := goodS p (fnI p f).f2 (form_okJ hform)
 obtain ⟨k8, kc⟩ := R.ends hf
 obtain ⟨c1, c2⟩ := kc a ha h0
 have tk := smallTk R.args (fnI p f).f2 a
 have pb := putsV_bd (cdI (fnI p f).f2 a).f0
 have hx8 := (k8 a).2
 simp only [machS, Bool.or_eq_false_iff, decide_eq_false_iff_not] at c1
 have hx8' : rd (rdH hs f) (a : Int) ≤ 8 := hx8
 have hv : nextH p (fnI p f).f2 a (rd (rdH hs f) (a : Int)) = rd (rdH hs f) (a : Int) - tkV p (fnI p f).f2 a + putsV (cdI (fnI p f).f2 a).f0 := by
  unfold nextH
  rw [wrap_in (n := rd (rdH hs f) (a : Int) - tkV p (fnI p f).f2 a) om om, wrap_in om om]
 rw [hv] at c1
 refine ⟨hx8', tk.1, by omega, by omega, fun n hn => ?_⟩
 have c3 := c2 n hn
 exact ⟨G.nn a ha n hn, c3.1, c3.2.trans hv⟩
def slN (L : Int) (H : List Int) (a : Int) : Nat := (L + rd H a).toNat
def tkN (p : List S53) (c : List S59) (a : Nat) : Nat := (tkV p c a).toNat
def ptN (c : List S59) (a : Nat) : Nat := (putsV (cdI c a).f0).toNat
structure Place (p : List S53) (x : S53) (H : List Int) (a : Nat) : Prop where
 l0 : 0 ≤ x.f1
 l8 : x.f1 ≤ 8
 x0 : 0 ≤ rd H (a : Int)
 x8 : rd H (a : Int) ≤ 8
 t0 : 0 ≤ tkV p x.f2 a
 tx : tkV p x.f2 a ≤ rd H (a : Int)
 ux : rd H (a : Int) - tkV p x.f2 a + putsV (cdI x.f2 a).f0 ≤ 8
 ar : (cdI x.f2 a).f0 = 2 ∨ (cdI x.f2 a).f0 = 3 → 0 ≤ (cdI x.f2 a).f1 ∧ (cdI x.f2 a).f1 < x.f1
 nx : ∀ n ∈ nxV (cdI x.f2 a).f0 (cdI x.f2 a).f1 a, 0 ≤ n ∧ n < (x.f2.length : Int) ∧ rd H n = rd H (a : Int) - tkV p x.f2 a + putsV (cdI x.f2 a).f0
theorem RightP.place {p : List S53} {hs : List (List Int)} (R : RightP p hs) {f : Nat} (hf : f < p.length) {a : Nat} (ha : a < (fnI p f).f2.length) (h0 : 0 ≤ rd (rdH hs f) (a : Int)) : Place p (fnI p f) (rdH hs f) a := by
 have s := R.form hf
 obtain ⟨k1, k2, k3, k4, k5⟩ := R.at_ hf ha h0
 refine ⟨by have := s.2.2.1; have := s.1; omega, s.2.2.2.1, h0, k1, k2, k3, k4, fun h => ?_, k5⟩
 have hi := s.2.2.2.2.2.2 a ha
 unfold insRightV at hi
 split at hi
 ·rw [if_neg om] at hi
  (try rw [if_pos h] at hi)
  simp only [Bool.and_eq_true, decide_eq_true_eq] at hi
  exact hi
 ·cases hi
theorem Place.num {p : List S53} {x : S53} {H : List Int} {a : Nat} (P : Place p x H a) : slN x.f1 H a ≤ 16 ∧ tkN p x.f2 a ≤ slN x.f1 H a ∧ slN x.f1 H a - tkN p x.f2 a + ptN x.f2 a ≤ 16 ∧ ptN x.f2 a ≤ 2 ∧ tkN p x.f2 a ≤ 8 := by
 have := P.l0; have := P.l8; have := P.x0; have := P.x8; have := P.t0; have := P.tx; have := P.ux
 have pb := putsV_bd (cdI x.f2 a).f0
 unfold slN tkN ptN
 omega
def cellsV (lo n : Nat) : List S55 := (List.range' lo n).map fun (j : Nat) => (⟨1, 6 + (j : Int)⟩ : S55)
theorem cellsV_succ (lo n : Nat) : cellsV lo (n + 1) = (⟨1, 6 + (lo : Int)⟩ : S55) :: cellsV (lo + 1) n := by simp [cellsV, List.range'_succ]
theorem cellsV_len (lo n : Nat) : (cellsV lo n).length = n := by simp [cellsV]
def nopV : S50 := ⟨[], 0, -1, [], 0⟩
def insPV (op A : Int) (n low : Nat) : S50 :=
 if op = 1 then ⟨[], 1, 6 + (low : Int), [⟨2, A⟩], 0⟩ else if op = 2 then ⟨[], 1, 6 + (low : Int), [⟨1, wrap64 (6 + A)⟩], 0⟩ else if op = 3 then ⟨[], 1, wrap64 (6 + A), [⟨1, 6 + (low : Int)⟩], 0⟩
 else if op = 4 then ⟨[], 1, 6 + (n : Int), [⟨1, 6 + (low : Int)⟩], 0⟩ else if op = 5 then nopV
 else ⟨[], op, if putsV op > 0 then 6 + (low : Int) else -1, cellsV low (n - low), if op = 30 ∨ op = 31 ∨ op = 32 then A else 0⟩
theorem implMem_loop (a b : Int) (hb : -1048576 ≤ a + b ∧ a + b ≤ 1048576) : ∀ (d lo : Nat) (acc : List S55), ((lo + d : Nat) : Int) = a + b → acc.length + d ≤ 1048576 → Ev (fun k => impl_memories.l0 k a b acc (lo : Int)) (acc ++ cellsV lo d) := by
 intro d
 induction d with
 | zero =>
  intro lo acc h1 h2
  refine Ev.succ ?_
  simp only [impl_memories.l0]
  refine Ev.no (by rw [wrap_in om om]; omega) ?_
  simp only [cellsV, List.range'_zero, List.map_nil, List.append_nil]
  exact Ev.now _
 | succ d ih =>
  intro lo acc h1 h2
  refine Ev.succ ?_
  simp only [impl_memories.l0]
  refine Ev.yes (by rw [wrap_in om om]; omega) (Ev.flat (show impl_memory.f (lo : Int) = some (6 + (lo : Int)) from by unfold impl_memory.f; rw [wrap_in om om]) (Ev.flat (show impl_loc.f (6 + (lo : Int)) = some (1, 6 + (lo : Int)) from rfl) (Ev.yes om ?_)))
  rw [wrap_in (n := (lo : Int) + 1) om om, show ((lo : Int) + 1) = ((lo + 1 : Nat) : Int) from by omega]
  have e : acc ++ cellsV lo (d + 1) = (acc ++ [(⟨1, 6 + (lo : Int)⟩ : S55)]) ++ cellsV (lo + 1) d := by rw [cellsV_succ]; simp
  rw [e]
  exact ih (lo + 1) _ om (by simp; omega)
theorem implMem_ev (lo d : Nat) (h : lo + d ≤ 1000) : Ev (fun k => impl_memories.f k (lo : Int) (d : Int)) (cellsV lo d) := by
 unfold impl_memories.f
 exact implMem_loop (lo : Int) (d : Int) om d lo [] om (by simp; omega)
theorem specMem_loop (x2 x7 op A o1 tq T : Int) (n : Nat) (hn : x2 = (n : Int)) (hn2 : n ≤ 1000) : ∀ (d lo : Nat) (acc : List S55) (r : _), lo + d = n → acc.length + d ≤ 1048576 → (Ev (fun k => spec_l12Ins.l0 k x2 x7 (n : Int) op A o1 tq (acc ++ cellsV lo d) T) r → Ev (fun k => spec_l12Ins.l0 k x2 x7 (lo : Int) op A o1 tq acc T) r) := by
 subst hn
 intro d
 induction d with
 | zero =>
  intro lo acc r h1 h2 h
  simp only [cellsV, List.range'_zero, List.map_nil, List.append_nil] at h
  have : lo = n := by omega
  subst this
  exact h
 | succ d ih =>
  intro lo acc r h1 h2 h
  refine Ev.succ ?_
  simp only [spec_l12Ins.l0]
  refine Ev.yes om (Ev.flat (show spec_l12Cell.f (lo : Int) = some (1, 6 + (lo : Int)) from by unfold spec_l12Cell.f; rw [wrap_in om om]) (Ev.yes om ?_))
  rw [wrap_in (n := (lo : Int) + 1) om om, show ((lo : Int) + 1) = ((lo + 1 : Nat) : Int) from by omega]
  have e : acc ++ cellsV lo (d + 1) = (acc ++ [(⟨1, 6 + (lo : Int)⟩ : S55)]) ++ cellsV (lo + 1) d := by rw [cellsV_succ]; simp
  rw [e] at h
  exact ih (lo + 1) _ r om (by simp; omega) h
theorem specCells_loop (p : List S53) (H : List Int) (f : Int) (a : Int) (g1 : Int) (cs : List S50) (ms : List (List S55)) (n : Nat) (hn2 : n ≤ 1000) : ∀ (d lo : Nat) (acc : List S55) (r : _), lo + d = n → acc.length + d ≤ 1048576 → (Ev (fun k => spec_Plain.l1 k f H a (acc ++ cellsV lo d) (n : Int) (n : Int) p g1 cs ms) r → Ev (fun k => spec_Plain.l1 k f H a acc (n : Int) (lo : Int) p g1 cs ms) r) := by
 intro d
 induction d with
 | zero =>
  intro lo acc r h1 h2 h
  simp only [cellsV, List.range'_zero, List.map_nil, List.append_nil] at h
  have : lo = n := by omega
  subst this
  exact h
 | succ d ih =>
  intro lo acc r h1 h2 h
  refine Ev.succ ?_
  simp only [spec_Plain.l1]
  refine Ev.yes om (Ev.flat (show spec_l12Cell.f (lo : Int) = some (1, 6 + (lo : Int)) from by unfold spec_l12Cell.f; rw [wrap_in om om]) (Ev.yes om ?_))
  rw [wrap_in (n := (lo : Int) + 1) om om, show ((lo : Int) + 1) = ((lo + 1 : Nat) : Int) from by omega]
  have e : acc ++ cellsV lo (d + 1) = (acc ++ [(⟨1, 6 + (lo : Int)⟩ : S55)]) ++ cellsV (lo + 1) d := by rw [cellsV_succ]; simp
  rw [e] at h
  exact ih (lo + 1) _ r om (by simp; omega) h
theorem takesV_1 (p : List S53) (A : Int) : takesV p 1 A = 0 := by simp [takesV, isBin, isUn]
theorem takesV_2 (p : List S53) (A : Int) : takesV p 2 A = 0 := by simp [takesV, isBin, isUn]
theorem takesV_3 (p : List S53) (A : Int) : takesV p 3 A = 1 := by simp [takesV, isBin, isUn]
theorem takesV_4 (p : List S53) (A : Int) : takesV p 4 A = 1 := by simp [takesV, isBin, isUn]
def tupA (x : S50) : List S108 × Int × Int × List S55 × Int := (x.f0, x.f1, x.f2, x.f3, x.f4)
theorem specIns_ev (p : List S53) (op A : Int) (n low : Nat) (hn : n ≤ 1000) (ht : takesV p op A = (n : Int) - (low : Int)) (hl : low ≤ n) : Ev (fun k => spec_l12Ins.f k p op A (n : Int)) (tupA (insPV op A n low)) := by
 unfold spec_l12Ins.f
 refine Ev.bind (specTakes_ev p op A) ?_
 rw [ht, wrap_in (n := (n : Int) - ((n : Int) - (low : Int))) om om, show (n : Int) - ((n : Int) - (low : Int)) = (low : Int) from by omega]
 refine specMem_loop (n : Int) (low : Int) op A op (-1) 0 n rfl hn (n - low) low [] _ om (by simp; omega) ?_
 rw [List.nil_append]
 refine Ev.succ ?_
 simp only [spec_l12Ins.l0]
 refine Ev.no om ?_
 unfold insPV
 have w6 : wrap64 (6 + (low : Int)) = 6 + (low : Int) := wrap_in om om
 have n6 : wrap64 (6 + (n : Int)) = 6 + (n : Int) := wrap_in om om
 have cell : spec_l12Cell.f (low : Int) = some (1, 6 + (low : Int)) := by unfold spec_l12Cell.f; rw [w6]
 refine Ev.cases (fun h => ?_) (fun h1 => ?_)
 ·rw [if_pos h, w6]; exact Ev.now _
 rw [if_neg h1]
 refine Ev.cases (fun h => ?_) (fun h2 => ?_)
 ·rw [if_pos h, w6]; exact Ev.flat (show spec_l12Cell.f A = some (1, wrap64 (6 + A)) from rfl) (Ev.now _)
 rw [if_neg h2]
 refine Ev.cases (fun h => ?_) (fun h3 => ?_)
 ·rw [if_pos h]; exact Ev.flat cell (Ev.now _)
 rw [if_neg h3]
 refine Ev.cases (fun h => ?_) (fun h4 => ?_)
 ·rw [if_pos h, n6]; exact Ev.flat cell (Ev.now _)
 rw [if_neg h4]
 refine Ev.cases (fun h => ?_) (fun h5 => ?_)
 ·rw [if_pos h]; exact Ev.now _
 rw [if_neg h5]
 have j2 : ∀ T : Int, Ev (fun k => spec_l12Ins.j2 k (low : Int) op A op (-1) (cellsV low (n - low)) T) (tupA ⟨[], op, if putsV op > 0 then 6 + (low : Int) else -1, cellsV low (n - low), T⟩) := by
  intro T
  refine Ev.succ ?_
  simp only [spec_l12Ins.j2]
  refine Ev.bind (specPuts_ev op A) ?_
  refine Ev.cases (fun h => ?_) (fun h => ?_)
  ·rw [if_pos h, w6]; exact Ev.now _
  ·rw [if_neg h]; exact Ev.now _
 have j1 : ∀ b : Bool, Ev (fun k => spec_l12Ins.j1 k (low : Int) b op A op (-1) (cellsV low (n - low)) 0) (tupA ⟨[], op, if putsV op > 0 then 6 + (low : Int) else -1, cellsV low (n - low), if b = true then A else 0⟩) := by
  intro b
  refine Ev.succ ?_
  simp only [spec_l12Ins.j1]
  refine Ev.cases (fun h => ?_) (fun h => ?_)
  ·rw [if_pos h]; exact j2 A
  ·rw [if_neg h]; exact j2 0
 refine Ev.cases (fun h => ?_) (fun h30 => ?_)
 ·subst h; exact j1 true
 refine Ev.cases (fun h => ?_) (fun h31 => ?_)
 ·subst h; exact j1 true
 by_cases h32 : op = 32
 ·subst h32; exact j1 true
 ·rw [beq_no h32, show (if op = 30 ∨ op = 31 ∨ op = 32 then A else 0) = (if false = true then A else 0) from by rw [if_neg om, if_neg (by simp)]]
  exact j1 false
def codeV (p : List S53) (x : S53) (H : List Int) (i : Nat) : S50 := if rd H (i : Int) < 0 then nopV else insPV (cdI x.f2 i).f0 (cdI x.f2 i).f1 (slN x.f1 H (i : Int)) (slN x.f1 H (i : Int) - tkN p x.f2 i)
def mapsV (x : S53) (H : List Int) (i : Nat) : List S55 := if rd H (i : Int) < 0 then [] else cellsV 0 (slN x.f1 H (i : Int))
def codesV (p : List S53) (x : S53) (H : List Int) : List S50 := (List.range' 0 x.f2.length).map (codeV p x H)
def allMapsV (x : S53) (H : List Int) : List (List S55) := (List.range' 0 x.f2.length).map (mapsV x H)
section
variable {p : List S53} {hs : List (List Int)} {g : Nat}
theorem specPlain_loop (R : RightP p hs) (hg : g < p.length) : ∀ (d i : Nat) (cs : List S50) (ms : List (List S55)), i + d = (fnI p g).f2.length → cs.length = i → ms.length = i →
  Ev (fun k => spec_Plain.l0 k (g : Int) (rdH hs g) (i : Int) p (g : Int) cs ms) ((g : Int), cs ++ (List.range' i d).map (codeV p (fnI p g) (rdH hs g)), ms ++ (List.range' i d).map (mapsV (fnI p g) (rdH hs g))) := by
 have hlen := R.hlen hg
 have hc60 : (fnI p g).f2.length ≤ 60 := (R.form hg).2.2.2.2.2.1
 intro d
 induction d with
 | zero =>
  intro i cs ms h1 h2 h3
  refine Ev.succ ?_
  simp only [spec_Plain.l0]
  refine Ev.no om ?_
  simp only [List.range'_zero, List.map_nil, List.append_nil]
  exact Ev.now _
 | succ d ih =>
  intro i cs ms h1 h2 h3
  refine Ev.succ ?_
  simp only [spec_Plain.l0]
  refine Ev.yes om ?_
  simp only [Option.bind_some]
  refine Ev.yes om ?_
  have nx : wrap64 ((i : Int) + 1) = ((i + 1 : Nat) : Int) := by rw [wrap_in om om]; omega
  have e1 : ∀ (z : S50), z = codeV p (fnI p g) (rdH hs g) i → cs ++ (List.range' i (d + 1)).map (codeV p (fnI p g) (rdH hs g)) = (cs ++ [z]) ++ (List.range' (i + 1) d).map (codeV p (fnI p g) (rdH hs g)) := by
   intro z hz; rw [List.range'_succ, hz]; simp
  have e2 : ∀ (z : List S55), z = mapsV (fnI p g) (rdH hs g) i → ms ++ (List.range' i (d + 1)).map (mapsV (fnI p g) (rdH hs g)) = (ms ++ [z]) ++ (List.range' (i + 1) d).map (mapsV (fnI p g) (rdH hs g)) := by
   intro z hz; rw [List.range'_succ, hz]; simp
  refine Ev.cases (fun h0 => ?_) (fun h0 => ?_)
  ·have P := R.place hg (a := i) om om
   have N := P.num
   have l0 := P.l0; have l8 := P.l8; have x8 := P.x8; have t0 := P.t0; have tx := P.tx
   refine Ev.yes om (Ev.yes om ?_)
   have es : wrap64 ((rd_T53 p (g : Int)).f1 + rd (rdH hs g) (i : Int)) = ((slN (fnI p g).f1 (rdH hs g) (i : Int) : Nat) : Int) := by
    show wrap64 ((fnI p g).f1 + rd (rdH hs g) (i : Int)) = _
    unfold slN
    rw [wrap_in om om]; omega
   rw [es]
   refine specCells_loop p (rdH hs g) (g : Int) (i : Int) (g : Int) cs ms _ om (slN (fnI p g).f1 (rdH hs g) (i : Int)) 0 [] _ om (by simp; omega) ?_
   rw [List.nil_append]
   refine Ev.succ ?_
   simp only [spec_Plain.l1]
   refine Ev.no om (Ev.yes om (Ev.yes om (Ev.yes om (Ev.yes ?_ ?_))))
   ·show (i : Int) < (((fnI p g).f2).length : Int); omega
   refine Ev.bind (specIns_ev p (cdI (fnI p g).f2 i).f0 (cdI (fnI p g).f2 i).f1 _ (slN (fnI p g).f1 (rdH hs g) (i : Int) - tkN p (fnI p g).f2 i) om ?_ om) ?_
   ·show tkV p (fnI p g).f2 i = _
    have : tkN p (fnI p g).f2 i = (tkV p (fnI p g).f2 i).toNat := rfl
    omega
   refine Ev.yes om (Ev.yes om ?_)
   rw [nx, e1 (insPV (cdI (fnI p g).f2 i).f0 (cdI (fnI p g).f2 i).f1 (slN (fnI p g).f1 (rdH hs g) (i : Int)) (slN (fnI p g).f1 (rdH hs g) (i : Int) - tkN p (fnI p g).f2 i)) (by unfold codeV; rw [if_neg om]), e2 _ (by unfold mapsV; rw [if_neg om])]
   exact ih (i + 1) _ _ om (by simp; omega) (by simp; omega)
  ·refine Ev.yes om (Ev.yes om ?_)
   rw [nx, e1 nopV (by unfold codeV; rw [if_pos om]), e2 [] (by unfold mapsV; rw [if_pos om])]
   exact ih (i + 1) _ _ om (by simp; omega) (by simp; omega)
theorem specPlain_ev (R : RightP p hs) (hg : g < p.length) (e1 : Ev (fun k => spec_l04Is.f k p (g : Int)) true) : Ev (fun k => spec_Plain.f k p (g : Int)) ((g : Int), codesV p (fnI p g) (rdH hs g), allMapsV (fnI p g) (rdH hs g)) := by
 unfold spec_Plain.f
 refine Ev.bind e1 (Ev.yes rfl (Ev.bind (R.heights hg) ?_))
 exact specPlain_loop R hg (fnI p g).f2.length 0 [] [] om rfl rfl
theorem implReached_ev (R : RightP p hs) (hg : g < p.length) {i : Nat} (hi : i < (fnI p g).f2.length) : impl_prog_reached.f p hs (g : Int) (i : Int) = some (decide (0 ≤ rd (rdH hs g) (i : Int))) := by
 have hlen := R.hlen hg
 have hhs := R.len
 unfold impl_prog_reached.f
 rw [hasFunc_some, Option.bind_some, if_pos (hasB_iff.2 om), if_pos om, if_pos om, if_pos om]
 show (if (i : Int) < ((rdH hs g).length : Int) then _ else _) = _
 rw [if_pos om, if_pos om]
 rfl
theorem implSlots_ev (R : RightP p hs) (hg : g < p.length) {i : Nat} (hi : i < (fnI p g).f2.length) (h0 : 0 ≤ rd (rdH hs g) (i : Int)) : impl_prog_slots.f p hs (g : Int) (i : Int) = some ((slN (fnI p g).f1 (rdH hs g) (i : Int) : Nat) : Int) := by
 have P := R.place hg hi h0
 have l0 := P.l0; have l8 := P.l8; have x8 := P.x8
 have hlen := R.hlen hg
 have hhs := R.len
 unfold impl_prog_slots.f
 rw [if_pos om, if_pos om, if_pos om, if_pos om]
 show (if (i : Int) < ((rdH hs g).length : Int) then some (wrap64 ((fnI p g).f1 + rd (rdH hs g) (i : Int))) else none) = _
 rw [if_pos om]
 unfold slN
 rw [wrap_in om om]
 congr 1; omega
theorem implSet (tq kind n : Int) : impl_prog_plain_1.f tq kind n = some ([], 1, wrap64 (6 + tq), [⟨kind, n⟩], 0) := rfl
theorem pl_wl {n t : Nat} (hn : n ≤ 1000) : wrap64 (6 + ((n - t : Nat) : Int)) = 6 + ((n - t : Nat) : Int) := wrap_in om om
theorem pl_w1 {n t : Nat} (hn : n ≤ 1000) (ht : t ≤ n) (h : t = 1) : wrap64 ((n : Int) - 1) = ((n - t : Nat) : Int) := by rw [wrap_in om om]; omega
theorem pl_wt {n t : Nat} (hn : n ≤ 1000) (ht : t ≤ n) : wrap64 ((n : Int) - (t : Int)) = ((n - t : Nat) : Int) := by rw [wrap_in om om]; omega
theorem pl_t0 {t : Nat} (h : (0 : Int) = (t : Int)) : t = 0 := by omega
theorem pl_t1 {t : Nat} (h : (1 : Int) = (t : Int)) : t = 1 := by omega
theorem pl_nt {n t : Nat} (ht : t ≤ n) : n - (n - t) = t := by omega
theorem pl_le {n t : Nat} (hn : n ≤ 1000) (ht : t ≤ n) : n - t + t ≤ 1000 := by omega
theorem implPlace {f : Int} {c : List S59} {len i q : Int} {cs : List S50} {ms : List (List S55)} {r : Int × List S50 × List (List S55)} {op A : Int} {n t : Nat} (ho : (rd_T59 c i).f0 = op) (hA : (rd_T59 c i).f1 = A) (g1 : i < len) (g2 : 0 ≤ i) (g3 : i < (c.length : Int))
  (hr : impl_prog_reached.f p hs f i = some true) (hsl : impl_prog_slots.f p hs f i = some (n : Int)) (htk : takesV p op A = (t : Int)) (hn : n ≤ 1000) (ht : t ≤ n)
  (jj : ∀ x : S50, x = insPV op A n (n - t) → Ev (fun k => impl_prog_plain.j3 k f (n : Int) c len i p hs q cs ms x.f0 x.f1 x.f2 x.f3 x.f4) r) : Ev (fun k => impl_prog_plain.l0 k f c len i p hs q cs ms) r := by
 have wn : wrap64 (6 + (n : Int)) = 6 + (n : Int) := pl_wl (t := 0) hn
 have wl : wrap64 (6 + ((n - t : Nat) : Int)) = 6 + ((n - t : Nat) : Int) := pl_wl hn
 have w1 : t = 1 → wrap64 ((n : Int) - 1) = ((n - t : Nat) : Int) := pl_w1 hn ht
 have wt : wrap64 ((n : Int) - (t : Int)) = ((n - t : Nat) : Int) := pl_wt hn ht
 have mem : impl_memory.f ((n - t : Nat) : Int) = some (6 + ((n - t : Nat) : Int)) := by unfold impl_memory.f; rw [wl]
 have loc_ : ∀ z : Int, impl_loc.f z = some (1, z) := fun _ => rfl
 refine Ev.succ ?_
 simp only [impl_prog_plain.l0]
 rw [ho, hA]
 refine Ev.yes g1 (Ev.yes g2 (Ev.yes g3 (Ev.flat (show impl_bareNop.f = some ([], 0, -1, [], 0) from rfl) (Ev.flat hr (Ev.yes rfl (Ev.flat hsl (Ev.bind (implTakes_ev p op A) ?_)))))))
 rw [htk]
 refine Ev.cases (fun h => ?_) (fun h1 => ?_)
 ·rw [h, takesV_1] at htk
  have t0 : t = 0 := pl_t0 htk
  refine Ev.flat (show impl_constant.f A = some (2, A) from rfl) (Ev.flat (implSet _ _ _) ?_)
  rw [wn]
  exact jj ⟨[], 1, 6 + (n : Int), [⟨2, A⟩], 0⟩ (by rw [h, t0]; rfl)
 refine Ev.cases (fun h => ?_) (fun h2 => ?_)
 ·rw [h, takesV_2] at htk
  have t0 : t = 0 := pl_t0 htk
  refine Ev.flat (show impl_memory.f A = some (wrap64 (6 + A)) from rfl) (Ev.flat (loc_ _) (Ev.flat (implSet _ _ _) ?_))
  rw [wn]
  exact jj ⟨[], 1, 6 + (n : Int), [⟨1, wrap64 (6 + A)⟩], 0⟩ (by rw [h, t0]; rfl)
 refine Ev.cases (fun h => ?_) (fun h3 => ?_)
 ·rw [h, takesV_3] at htk
  have t0 : t = 1 := pl_t1 htk
  rw [w1 t0]
  refine Ev.flat mem (Ev.flat (loc_ _) (Ev.flat (implSet _ _ _) ?_))
  exact jj ⟨[], 1, wrap64 (6 + A), [⟨1, 6 + ((n - t : Nat) : Int)⟩], 0⟩ (by rw [h]; rfl)
 refine Ev.cases (fun h => ?_) (fun h4 => ?_)
 ·rw [h, takesV_4] at htk
  have t0 : t = 1 := pl_t1 htk
  rw [w1 t0]
  refine Ev.flat mem (Ev.flat (loc_ _) (Ev.flat (implSet _ _ _) ?_))
  rw [wn]
  exact jj ⟨[], 1, 6 + (n : Int), [⟨1, 6 + ((n - t : Nat) : Int)⟩], 0⟩ (by rw [h]; rfl)
 refine Ev.cases (fun h => ?_) (fun h5 => ?_)
 ·exact jj ⟨[], 0, -1, [], 0⟩ (by rw [h]; rfl)
 rw [wt]
 have ht2 : n - (n - t) = t := pl_nt ht
 have hx : ∀ tq T : Int, tq = (if putsV op > 0 then 6 + ((n - t : Nat) : Int) else -1) → T = (if op = 30 ∨ op = 31 ∨ op = 32 then A else 0) → (⟨[], op, tq, cellsV (n - t) t, T⟩ : S50) = insPV op A n (n - t) := by
  intro tq T h6 h7
  unfold insPV
  rw [if_neg h1, if_neg h2, if_neg h3, if_neg h4, if_neg h5, h6, h7, ht2]
 have jb : ∀ tq : Int, tq = (if putsV op > 0 then 6 + ((n - t : Nat) : Int) else -1) → Ev (fun k => impl_prog_plain.j1 k f (n : Int) c len i p hs q cs ms op A op tq (cellsV (n - t) t) 0) r := by
  intro tq hto
  have j2 : ∀ b : Bool, (b = true ↔ op = 30 ∨ op = 31 ∨ op = 32) → Ev (fun k => impl_prog_plain.j2 k f (n : Int) c len i b p hs q cs ms op A op tq (cellsV (n - t) t) 0) r := by
   intro b hb
   refine Ev.succ ?_
   simp only [impl_prog_plain.j2]
   refine Ev.cases (fun h => ?_) (fun h => ?_)
   ·exact jj ⟨[], op, tq, cellsV (n - t) t, A⟩ (hx _ _ hto (by rw [if_pos (hb.1 h)]))
   ·exact jj ⟨[], op, tq, cellsV (n - t) t, 0⟩ (hx _ _ hto (by rw [if_neg (fun z => h (hb.2 z))]))
  refine Ev.succ ?_
  simp only [impl_prog_plain.j1]
  refine Ev.cases (fun h => ?_) (fun h30 => ?_)
  ·exact j2 true (by simp [h])
  refine Ev.cases (fun h => ?_) (fun h31 => ?_)
  ·exact j2 true (by simp [h])
  exact j2 (op == 32) (by simp [h30, h31])
 refine Ev.bind (implMem_ev (n - t) t (pl_le hn ht)) (Ev.bind (implPuts_ev op A) ?_)
 refine Ev.cases (fun h => ?_) (fun h => ?_)
 ·exact Ev.flat mem (jb _ (by rw [if_pos h]))
 ·exact jb _ (by rw [if_neg h])
theorem implPlain_loop (R : RightP p hs) (hg : g < p.length) : ∀ (d i : Nat) (cs : List S50) (ms : List (List S55)), i + d = (fnI p g).f2.length → cs.length = i → ms.length = i →
  Ev (fun k => impl_prog_plain.l0 k (g : Int) (fnI p g).f2 ((fnI p g).f2.length : Int) (i : Int) p hs (g : Int) cs ms) ((g : Int), cs ++ (List.range' i d).map (codeV p (fnI p g) (rdH hs g)), ms ++ (List.range' i d).map (mapsV (fnI p g) (rdH hs g))) := by
 have hlen := R.hlen hg
 have hc60 : (fnI p g).f2.length ≤ 60 := (R.form hg).2.2.2.2.2.1
 intro d
 induction d with
 | zero =>
  intro i cs ms h1 h2 h3
  refine Ev.succ ?_
  simp only [impl_prog_plain.l0]
  refine Ev.no om ?_
  simp only [List.range'_zero, List.map_nil, List.append_nil]
  exact Ev.now _
 | succ d ih =>
  intro i cs ms h1 h2 h3
  have nx : wrap64 ((i : Int) + 1) = ((i + 1 : Nat) : Int) := by rw [wrap_in om om]; omega
  have hrc := implReached_ev R hg (i := i) om
  rw [List.range'_succ, List.map_cons, List.map_cons]
  by_cases h0 : 0 ≤ rd (rdH hs g) (i : Int)
  ·have P := R.place hg (a := i) om h0
   have N := P.num
   have t0 := P.t0
   have htk : takesV p (cdI (fnI p g).f2 i).f0 (cdI (fnI p g).f2 i).f1 = ((tkN p (fnI p g).f2 i : Nat) : Int) := by
    show tkV p (fnI p g).f2 i = _
    unfold tkN; omega
   rw [decide_eq_true h0] at hrc
   refine implPlace (op := (cdI (fnI p g).f2 i).f0) (A := (cdI (fnI p g).f2 i).f1) rfl rfl om om om hrc (implSlots_ev R hg om h0) htk om om ?_
   intro x hx
   refine Ev.succ ?_
   simp only [impl_prog_plain.j3]
   refine Ev.yes om (Ev.bind (implMem_ev 0 (slN (fnI p g).f1 (rdH hs g) (i : Int)) om) (Ev.yes om ?_))
   have hz := ih (i + 1) (cs ++ [codeV p (fnI p g) (rdH hs g) i]) (ms ++ [mapsV (fnI p g) (rdH hs g) i]) om (by simp; omega) (by simp; omega)
   rw [List.append_assoc, List.append_assoc, List.singleton_append, List.singleton_append] at hz
   have e1 : (⟨x.f0, x.f1, x.f2, x.f3, x.f4⟩ : S50) = codeV p (fnI p g) (rdH hs g) i := by
    show x = _
    rw [hx]; unfold codeV; rw [if_neg om]
   have e2 : cellsV 0 (slN (fnI p g).f1 (rdH hs g) (i : Int)) = mapsV (fnI p g) (rdH hs g) i := by unfold mapsV; rw [if_neg om]
   rw [nx, e1, e2]
   exact hz
  ·rw [decide_eq_false h0] at hrc
   refine Ev.succ ?_
   simp only [impl_prog_plain.l0]
   refine Ev.yes om (Ev.yes om (Ev.yes om (Ev.flat (show impl_bareNop.f = some ([], 0, -1, [], 0) from rfl) (Ev.flat hrc (Ev.no (by simp) (Ev.yes om (Ev.yes om ?_)))))))
   have hz := ih (i + 1) (cs ++ [codeV p (fnI p g) (rdH hs g) i]) (ms ++ [mapsV (fnI p g) (rdH hs g) i]) om (by simp; omega) (by simp; omega)
   rw [List.append_assoc, List.append_assoc, List.singleton_append, List.singleton_append] at hz
   have e1 : (⟨[], 0, -1, [], 0⟩ : S50) = codeV p (fnI p g) (rdH hs g) i := by unfold codeV; rw [if_pos om]; rfl
   have e2 : ([] : List S55) = mapsV (fnI p g) (rdH hs g) i := by unfold mapsV; rw [if_pos om]
   rw [nx, e1, e2]
   exact hz
theorem implPlain_ev (R : RightP p hs) (hg : g < p.length) : Ev (fun k => impl_prog_plain.f k p hs (g : Int)) ((g : Int), codesV p (fnI p g) (rdH hs g), allMapsV (fnI p g) (rdH hs g)) := by
 unfold impl_prog_plain.f
 refine Ev.flat (show impl_prog_code.f p hs (g : Int) = some (fnI p g).f2 from by unfold impl_prog_code.f; rw [if_pos om, if_pos om]; rfl) ?_
 exact implPlain_loop R hg (fnI p g).f2.length 0 [] [] om rfl rfl
end
theorem fold_in {α : Type} {g : Int → α → Int} {B : Int} (hB : 0 ≤ B) : ∀ (l : List α) (k : Int), (∀ x ∈ l, ∀ k, 0 ≤ k → k + B ≤ 9223372036854775807 → k ≤ g k x ∧ g k x ≤ k + B) → 0 ≤ k → k + B * (l.length : Int) ≤ 9223372036854775807 → k ≤ l.foldl g k ∧ l.foldl g k ≤ k + B * (l.length : Int)
 | [], k, _, _, _ => by simp
 | x :: l, k, h, h0, h1 => by
  have hl : 0 ≤ B * (l.length : Int) := Int.mul_nonneg hB om
  have e : B * ((x :: l).length : Int) = B * (l.length : Int) + B := by rw [List.length_cons, Int.natCast_add, Int.mul_add]; show _ + B * 1 = _; rw [Int.mul_one]
  rw [e] at h1 ⊢
  have hx := h x (by simp) k h0 om
  have := fold_in hB l (g k x) (fun y hy => h y (by simp [hy])) om om
  rw [List.foldl_cons]
  omega
theorem fold_cap {α : Type} {g : Int → α → Int} {B : Int} (hB : 0 ≤ B) (l : List α) (hl : l.length ≤ 1048576) (h : ∀ x ∈ l, ∀ k, 0 ≤ k → k + B ≤ 9223372036854775807 → k ≤ g k x ∧ g k x ≤ k + B) (k : Int) (h0 : 0 ≤ k) (h1 : k + B * 1048576 ≤ 9223372036854775807) : k ≤ l.foldl g k ∧ l.foldl g k ≤ k + B * 1048576 := by
 have hm : B * (l.length : Int) ≤ B * 1048576 := Int.mul_le_mul_of_nonneg_left om hB
 have := fold_in hB l k h h0 om
 omega
theorem wrap1 {k : Int} (h0 : 0 ≤ k) (h1 : k + 1 ≤ 9223372036854775807) : wrap64 (k + 1) = k + 1 := wrap_in om h1
theorem wrap2 {k : Int} (h0 : 0 ≤ k) (h1 : k + 2 ≤ 9223372036854775807) : wrap64 (wrap64 (k + 1) + 1) = k + 1 + 1 := by rw [wrap1 h0 om, wrap1 om om]
theorem wrap3 {k : Int} (h0 : 0 ≤ k) (h1 : k + 3 ≤ 9223372036854775807) : wrap64 (wrap64 (wrap64 (k + 1) + 1) + 1) = k + 1 + 1 + 1 := by rw [wrap2 h0 om, wrap1 om om]
theorem eqVal_refl (x : S55) : Ev (fun k => laws_eqVal.f x.f0 x.f1 x.f0 x.f1) true := by
 unfold laws_eqVal.f
 exact Ev.yes rfl (Ev.yes rfl (Ev.now _))
def okValS (x : List S55) : Prop := x.length ≤ 1048576
theorem eqValS_refl (x : List S55) (h : okValS x) : Ev (fun k => laws_eqValS.f k x x) true := by
 unfold laws_eqValS.f
 refine Ev.yes rfl ?_
 exact eq_loop (l0 := laws_eqValS.l0) (rdA := rd_T55) (E := fun k a b => laws_eqVal.f a.f0 a.f1 b.f0 b.f1) (zA := z55) (fun k x y i => by simp only [laws_eqValS.l0]) (fun _ _ => rfl) x h (fun a ha => eqVal_refl a)
theorem eqMov_refl (x : S108) : Ev (fun k => laws_eqMov.f x.f0 x.f1.f0 x.f1.f1 x.f0 x.f1.f0 x.f1.f1) true := by
 unfold laws_eqMov.f
 exact Ev.yes rfl (Ev.bind (eqVal_refl x.f1) (Ev.yes rfl (Ev.now _)))
def okMovS (x : List S108) : Prop := x.length ≤ 1048576
theorem eqMovS_refl (x : List S108) (h : okMovS x) : Ev (fun k => laws_eqMovS.f k x x) true := by
 unfold laws_eqMovS.f
 refine Ev.yes rfl ?_
 exact eq_loop (l0 := laws_eqMovS.l0) (rdA := rd_T108) (E := fun k a b => laws_eqMov.f a.f0 a.f1.f0 a.f1.f1 b.f0 b.f1.f0 b.f1.f1) (zA := z108) (fun k x y i => by simp only [laws_eqMovS.l0]) (fun _ _ => rfl) x h (fun a ha => eqMov_refl a)
def okAsmIns (x : S50) : Prop := okMovS x.f0 ∧ okValS x.f3
theorem eqAsmIns_refl (x : S50) (h : okAsmIns x) : Ev (fun k => laws_eqAsmIns.f k x.f0 x.f1 x.f2 x.f3 x.f4 x.f0 x.f1 x.f2 x.f3 x.f4) true := by
 obtain ⟨h0, h3⟩ := h
 unfold laws_eqAsmIns.f
 exact Ev.bind (eqMovS_refl x.f0 h0) (Ev.yes rfl (Ev.yes rfl (Ev.yes rfl (Ev.bind (eqValS_refl x.f3 h3) (Ev.yes rfl (Ev.yes rfl (Ev.now _)))))))
def okAsmInsS (x : List S50) : Prop := x.length ≤ 1048576 ∧ ∀ z ∈ x, okAsmIns z
theorem eqAsmInsS_refl (x : List S50) (h : okAsmInsS x) : Ev (fun k => laws_eqAsmInsS.f k x x) true := by
 unfold laws_eqAsmInsS.f
 refine Ev.yes rfl ?_
 exact eq_loop (l0 := laws_eqAsmInsS.l0) (rdA := rd_T50) (E := fun k a b => laws_eqAsmIns.f k a.f0 a.f1 a.f2 a.f3 a.f4 b.f0 b.f1 b.f2 b.f3 b.f4) (zA := z50) (fun k x y i => by simp only [laws_eqAsmInsS.l0]) (fun _ _ => rfl) x h.1 (fun a ha => eqAsmIns_refl a (h.2 a ha))
def okValSS (x : List (List S55)) : Prop := x.length ≤ 1048576 ∧ ∀ z ∈ x, okValS z
theorem eqValSS_refl (x : List (List S55)) (h : okValSS x) : Ev (fun k => laws_eqValSS.f k x x) true := by
 unfold laws_eqValSS.f
 refine Ev.yes rfl ?_
 exact eq_loop (l0 := laws_eqValSS.l0) (rdA := rd_L12) (E := fun k a b => laws_eqValS.f k a b) (zA := []) (fun k x y i => by simp only [laws_eqValSS.l0]) (fun _ _ => rfl) x h.1 (fun a ha => eqValS_refl a (h.2 a ha))
def okAsm (x : S29) : Prop := okAsmInsS x.f1 ∧ okValSS x.f2
theorem eqAsm_refl (x : S29) (h : okAsm x) : Ev (fun k => laws_eqAsm.f k x.f0 x.f1 x.f2 x.f0 x.f1 x.f2) true := by
 obtain ⟨h1, h2⟩ := h
 unfold laws_eqAsm.f
 exact Ev.yes rfl (Ev.bind (eqAsmInsS_refl x.f1 h1) (Ev.yes rfl (Ev.bind (eqValSS_refl x.f2 h2) (Ev.yes rfl (Ev.now _)))))
theorem markValS_in (l : List S55) (hl : l.length ≤ 1048576) (k : Int) (h0 : 0 ≤ k) (h1 : k + 2097152 ≤ 9223372036854775807) : k ≤ laws_markValS.mk k l ∧ laws_markValS.mk k l ≤ k + 2097152 :=
 fold_cap (B := 2) om l hl (fun x _ k h0 h1 => by unfold laws_markValS.g; rw [wrap2 h0 om]; omega) k h0 om
theorem markMovS_in (l : List S108) (hl : l.length ≤ 1048576) (k : Int) (h0 : 0 ≤ k) (h1 : k + 3145728 ≤ 9223372036854775807) : k ≤ laws_markMovS.mk k l ∧ laws_markMovS.mk k l ≤ k + 3145728 :=
 fold_cap (B := 3) om l hl (fun x _ k h0 h1 => by unfold laws_markMovS.g; rw [wrap3 h0 om]; omega) k h0 om
theorem markAsmInsS_in (l : List S50) (hl : okAsmInsS l) (k : Int) (h0 : 0 ≤ k) (h1 : k + 5497561284608 ≤ 9223372036854775807) : k ≤ laws_markAsmInsS.mk k l ∧ laws_markAsmInsS.mk k l ≤ k + 5497561284608 :=
 fold_cap (B := 5242883) om l hl.1 (fun x hx k h0 h1 => by
  have o := hl.2 x hx
  have a := markMovS_in x.f0 o.1 k h0 om
  unfold laws_markAsmInsS.g
  rw [wrap1 (k := laws_markMovS.mk k x.f0) om om, wrap1 (k := laws_markMovS.mk k x.f0 + 1) om om]
  have b := markValS_in x.f3 o.2 (laws_markMovS.mk k x.f0 + 1 + 1) om om
  rw [wrap1 om om]
  omega) k h0 om
theorem markValSS_in (l : List (List S55)) (hl : okValSS l) (k : Int) (h0 : 0 ≤ k) (h1 : k + 2199023255552 ≤ 9223372036854775807) : k ≤ laws_markValSS.mk k l ∧ laws_markValSS.mk k l ≤ k + 2199023255552 :=
 fold_cap (B := 2097152) om l hl.1 (fun x hx k h0 h1 => markValS_in x (hl.2 x hx) k h0 h1) k h0 om
theorem take_next {α : Type} {x : List α} {i : Nat} (h : i < x.length) (z : α) : x.take (i + 1) = x.take i ++ [x.getD i z] := by
 rw [List.take_succ_eq_append_getElem h, List.getD_eq_getElem?_getD, List.getElem?_eq_getElem h]
 rfl
theorem getD_mem {α : Type} {x : List α} {i : Nat} (h : i < x.length) (z : α) : x.getD i z ∈ x := by
 rw [List.getD_eq_getElem?_getD, List.getElem?_eq_getElem h]
 exact List.getElem_mem h
theorem mkV_len : ∀ (k : Int) (l : List S55), (mkV k l).length = l.length
 | _, [] => rfl
 | k, _ :: l => by show (mkV _ l).length + 1 = _; rw [mkV_len]; rfl
theorem mkM_len : ∀ (k : Int) (l : List S108), (mkM k l).length = l.length
 | _, [] => rfl
 | k, _ :: l => by show (mkM _ l).length + 1 = _; rw [mkM_len]; rfl
theorem mkA_len : ∀ (k : Int) (l : List S50), (mkA k l).length = l.length
 | _, [] => rfl
 | k, _ :: l => by show (mkA _ l).length + 1 = _; rw [mkA_len]; rfl
theorem mkVS_len : ∀ (k : Int) (l : List (List S55)), (mkVS k l).length = l.length
 | _, [] => rfl
 | k, _ :: l => by show (mkVS _ l).length + 1 = _; rw [mkVS_len]; rfl
theorem mkV_at : ∀ (x : List S55) (s : Int) (i : Nat), i < x.length → (mkV s x).getD i z55 = ⟨laws_markValS.mk s (x.take i), wrap64 (laws_markValS.mk s (x.take i) + 1)⟩
 | _ :: _, _, 0, _ => rfl
 | a :: l, s, i + 1, h => mkV_at l (laws_markValS.g s a) i (by simpa using h)
theorem mkM_at : ∀ (x : List S108) (s : Int) (i : Nat), i < x.length → (mkM s x).getD i z108 = ⟨laws_markMovS.mk s (x.take i), ⟨wrap64 (laws_markMovS.mk s (x.take i) + 1), wrap64 (wrap64 (laws_markMovS.mk s (x.take i) + 1) + 1)⟩⟩
 | _ :: _, _, 0, _ => rfl
 | a :: l, s, i + 1, h => mkM_at l (laws_markMovS.g s a) i (by simpa using h)
def mkA1 (k : Int) (x : S50) : S50 := ⟨mkM k x.f0, laws_markMovS.mk k x.f0, wrap64 (laws_markMovS.mk k x.f0 + 1), mkV (wrap64 (wrap64 (laws_markMovS.mk k x.f0 + 1) + 1)) x.f3, laws_markValS.mk (wrap64 (wrap64 (laws_markMovS.mk k x.f0 + 1) + 1)) x.f3⟩
theorem mkA_at : ∀ (x : List S50) (s : Int) (i : Nat), i < x.length → (mkA s x).getD i z50 = mkA1 (laws_markAsmInsS.mk s (x.take i)) (x.getD i z50)
 | _ :: _, _, 0, _ => rfl
 | a :: l, s, i + 1, h => mkA_at l (laws_markAsmInsS.g s a) i (by simpa using h)
theorem mkVS_at : ∀ (x : List (List S55)) (s : Int) (i : Nat), i < x.length → (mkVS s x).getD i [] = mkV (laws_markValSS.mk s (x.take i)) (x.getD i [])
 | _ :: _, _, 0, _ => rfl
 | a :: l, s, i + 1, h => mkVS_at l (laws_markValS.mk s a) i (by simpa using h)
theorem heldV_ev (x : List S55) (s : Int) (hx : x.length ≤ 1048576) : Ev (fun k => laws_heldValS.f k (mkV s x) s) (laws_markValS.mk s x) := by
 have hn := mkV_len s x
 have key : ∀ (d i : Nat), i + d = x.length → Ev (fun k => laws_heldValS.l0 k (mkV s x) (laws_markValS.mk s (x.take i)) (i : Int)) (laws_markValS.mk s x) := by
  intro d
  induction d with
  | zero =>
   intro i hi
   refine Ev.succ ?_
   simp only [laws_heldValS.l0]
   refine Ev.no om ?_
   rw [List.take_of_length_le om]
   exact Ev.now _
  | succ d ih =>
   intro i hi
   refine Ev.succ ?_
   simp only [laws_heldValS.l0]
   have e : rd_T55 (mkV s x) (i : Int) = _ := mkV_at x s i om
   rw [e]
   refine Ev.yes om (Ev.yes om (Ev.yes rfl (Ev.yes rfl ?_)))
   rw [wrap_in (n := (i : Int) + 1) om om]
   have h := ih (i + 1) om
   rw [take_next (show i < x.length by omega) z55, laws_markValS.mk, List.foldl_append] at h
   exact h
 unfold laws_heldValS.f
 exact key x.length 0 om
theorem heldM_ev (x : List S108) (s : Int) (hx : x.length ≤ 1048576) : Ev (fun k => laws_heldMovS.f k (mkM s x) s) (laws_markMovS.mk s x) := by
 have hn := mkM_len s x
 have key : ∀ (d i : Nat), i + d = x.length → Ev (fun k => laws_heldMovS.l0 k (mkM s x) (laws_markMovS.mk s (x.take i)) (i : Int)) (laws_markMovS.mk s x) := by
  intro d
  induction d with
  | zero =>
   intro i hi
   refine Ev.succ ?_
   simp only [laws_heldMovS.l0]
   refine Ev.no om ?_
   rw [List.take_of_length_le om]
   exact Ev.now _
  | succ d ih =>
   intro i hi
   refine Ev.succ ?_
   simp only [laws_heldMovS.l0]
   have e : rd_T108 (mkM s x) (i : Int) = _ := mkM_at x s i om
   rw [e]
   refine Ev.yes om (Ev.yes om (Ev.yes rfl (Ev.yes rfl (Ev.yes rfl ?_))))
   rw [wrap_in (n := (i : Int) + 1) om om]
   have h := ih (i + 1) om
   rw [take_next (show i < x.length by omega) z108, laws_markMovS.mk, List.foldl_append] at h
   exact h
 unfold laws_heldMovS.f
 exact key x.length 0 om
theorem heldA_ev (x : List S50) (s : Int) (hs : 0 ≤ s ∧ s ≤ 4611686018427387904) (hx : okAsmInsS x) : Ev (fun k => laws_heldAsmInsS.f k (mkA s x) s) (laws_markAsmInsS.mk s x) := by
 have hn := mkA_len s x
 have hl := hx.1
 have pos : ∀ i, 0 ≤ laws_markAsmInsS.mk s (x.take i) ∧ laws_markAsmInsS.mk s (x.take i) ≤ 4611691515988672512 := fun i => by
  have := markAsmInsS_in (x.take i) ⟨by rw [List.length_take]; omega, fun z hz => hx.2 z (List.mem_of_mem_take hz)⟩ s hs.1 om
  omega
 have key : ∀ (d i : Nat), i + d = x.length → Ev (fun k => laws_heldAsmInsS.l0 k (mkA s x) (laws_markAsmInsS.mk s (x.take i)) (i : Int)) (laws_markAsmInsS.mk s x) := by
  intro d
  induction d with
  | zero =>
   intro i hi
   refine Ev.succ ?_
   simp only [laws_heldAsmInsS.l0]
   refine Ev.no om ?_
   rw [List.take_of_length_le om]
   exact Ev.now _
  | succ d ih =>
   intro i hi
   have hi' : i < x.length := by omega
   have o := hx.2 _ (getD_mem hi' z50)
   refine Ev.succ ?_
   simp only [laws_heldAsmInsS.l0]
   have e : rd_T50 (mkA s x) (i : Int) = mkA1 (laws_markAsmInsS.mk s (x.take i)) (x.getD i z50) := mkA_at x s i hi'
   rw [e]
   have h := ih (i + 1) om
   rw [take_next hi' z50, show laws_markAsmInsS.mk s (x.take i ++ [x.getD i z50]) = laws_markAsmInsS.g (laws_markAsmInsS.mk s (x.take i)) (x.getD i z50) by unfold laws_markAsmInsS.mk; rw [List.foldl_append]; rfl] at h
   have ps := pos i
   revert h o ps
   generalize laws_markAsmInsS.mk s (x.take i) = c
   generalize x.getD i z50 = y
   intro o h ps
   have a := markMovS_in y.f0 o.1 c ps.1 om
   have b := markValS_in y.f3 o.2 (wrap64 (wrap64 (laws_markMovS.mk c y.f0 + 1) + 1)) (by rw [wrap2 om om]; omega) (by rw [wrap2 om om]; omega)
   rw [wrap2 om om] at b
   refine Ev.yes om (Ev.yes om (Ev.bind (heldM_ev y.f0 c o.1) (Ev.no om (Ev.yes rfl (Ev.yes rfl (Ev.bind (heldV_ev y.f3 _ o.2) (Ev.no ?_ (Ev.yes rfl ?_))))))))
   ·rw [wrap2 (k := laws_markMovS.mk c y.f0) om om]
    omega
   ·rw [wrap_in (n := (i : Int) + 1) om om]
    exact h
 unfold laws_heldAsmInsS.f
 exact key x.length 0 om
theorem heldVS_ev (x : List (List S55)) (s : Int) (hs : 0 ≤ s ∧ s ≤ 4611691515988672512) (hx : okValSS x) : Ev (fun k => laws_heldValSS.f k (mkVS s x) s) (laws_markValSS.mk s x) := by
 have hn := mkVS_len s x
 have hl := hx.1
 have pos : ∀ i, 0 ≤ laws_markValSS.mk s (x.take i) := fun i => by
  have := markValSS_in (x.take i) ⟨by rw [List.length_take]; omega, fun z hz => hx.2 z (List.mem_of_mem_take hz)⟩ s hs.1 om
  omega
 have key : ∀ (d i : Nat), i + d = x.length → Ev (fun k => laws_heldValSS.l0 k (mkVS s x) (laws_markValSS.mk s (x.take i)) (i : Int)) (laws_markValSS.mk s x) := by
  intro d
  induction d with
  | zero =>
   intro i hi
   refine Ev.succ ?_
   simp only [laws_heldValSS.l0]
   refine Ev.no om ?_
   rw [List.take_of_length_le om]
   exact Ev.now _
  | succ d ih =>
   intro i hi
   have hi' : i < x.length := by omega
   refine Ev.succ ?_
   simp only [laws_heldValSS.l0]
   have e : rd_L12 (mkVS s x) (i : Int) = mkV (laws_markValSS.mk s (x.take i)) (x.getD i []) := mkVS_at x s i hi'
   rw [e]
   refine Ev.yes om (Ev.yes om (Ev.bind (heldV_ev (x.getD i []) _ (hx.2 _ (getD_mem hi' []))) ?_))
   have e2 : laws_markValS.mk (laws_markValSS.mk s (x.take i)) (x.getD i []) = laws_markValSS.mk s (x.take (i + 1)) := by
    rw [take_next hi' []]
    unfold laws_markValSS.mk
    rw [List.foldl_append]
    rfl
   rw [e2, wrap_in (n := (i : Int) + 1) om om]
   exact Ev.no (by have := pos (i + 1); omega) (ih (i + 1) om)
 unfold laws_heldValSS.f
 exact key x.length 0 om
theorem heldAsm_ev (C : List S50) (M : List (List S55)) (f : Int) (hC : okAsmInsS C) (hM : okValSS M) : Ev (fun k => laws_heldAsm.f k f (mkA 1 C) (mkVS (laws_markAsmInsS.mk 1 C) M) 1) (laws_markValSS.mk (laws_markAsmInsS.mk 1 C) M) ∧ ¬ laws_markValSS.mk (laws_markAsmInsS.mk 1 C) M < 0 := by
 have a := markAsmInsS_in C hC 1 om om
 have b := markValSS_in M hM (laws_markAsmInsS.mk 1 C) om om
 refine ⟨?_, by omega⟩
 unfold laws_heldAsm.f
 exact Ev.bind (heldA_ev C 1 om hC) (Ev.no om (Ev.bind (heldVS_ev M _ ⟨by omega, by omega⟩ hM) (Ev.no om (Ev.now _))))
theorem markIns_in : ∀ (l : List S59) (k : Int), 0 ≤ k → k + 2 * l.length ≤ 4611686018427387904 → laws_markInsS.mk k l = k + 2 * (l.length : Int)
 | [], k, _, _ => by show k = _; simp
 | x :: l, k, h0, h1 => by
  have e : laws_markInsS.mk k (x :: l) = laws_markInsS.mk (wrap64 (wrap64 (k + 1) + 1)) l := rfl
  simp only [List.length_cons] at h1
  rw [e, wrap_in (n := k + 1) om om, wrap_in om om, markIns_in l _ om om]
  simp only [List.length_cons]
  omega
theorem markFunc_in : ∀ (l : List S53) (k : Int), (∀ x ∈ l, x.f2.length ≤ 1048576) → 0 ≤ k → k + 4194304 * l.length ≤ 4611686018427387904 → k ≤ laws_markFuncS.mk k l
 | [], k, _, _, _ => Int.le_refl _
 | x :: l, k, h, h0, h1 => by
  have e : laws_markFuncS.mk k (x :: l) = laws_markFuncS.mk (laws_markInsS.mk (wrap64 (wrap64 (k + 1) + 1)) x.f2) l := rfl
  have hx := h x (by simp)
  simp only [List.length_cons] at h1
  rw [e, wrap_in (n := k + 1) om om, wrap_in om om, markIns_in _ _ om om]
  have := markFunc_in l (k + 1 + 1 + 2 * (x.f2.length : Int)) (fun y hy => h y (by simp [hy])) om om
  omega
theorem markProgram_in (l : List S53) (h : okFuncS l) : ¬ laws_markProgram.mk 1 l < 0 := by
 have := markFunc_in l 1 (fun x hx => h.2 x hx) om (by have := h.1; omega)
 show ¬ laws_markFuncS.mk 1 l < 0
 omega
/- FnExactPlain, the plain part: what the law asks at its arguments. No condition. -/
theorem insPV_ok (op A : Int) (n low : Nat) (hn : n ≤ 1000) : okAsmIns (insPV op A n low) := by
 unfold insPV
 repeat' split
 all_goals refine ⟨by simp [okMovS, nopV], ?_⟩
 all_goals simp only [okValS, nopV, List.length_cons, List.length_nil, cellsV_len]
 all_goals omega
theorem codesV_ok {p : List S53} {hs : List (List Int)} (R : RightP p hs) {g : Nat} (hg : g < p.length) : okAsmInsS (codesV p (fnI p g) (rdH hs g)) ∧ okValSS (allMapsV (fnI p g) (rdH hs g)) := by
 have hc60 : (fnI p g).f2.length ≤ 60 := (R.form hg).2.2.2.2.2.1
 have hsl : ∀ i, i < (fnI p g).f2.length → 0 ≤ rd (rdH hs g) (i : Int) → slN (fnI p g).f1 (rdH hs g) (i : Int) ≤ 1000 := fun i hi h0 => by
  have Q := R.place hg (a := i) om om
  have N := Q.num
  have l0 := Q.l0; have l8 := Q.l8; have x8 := Q.x8; have t0 := Q.t0; have tx := Q.tx
  omega
 refine ⟨⟨by simp [codesV]; omega, fun y hy => ?_⟩, ⟨by simp [allMapsV]; omega, fun y hy => ?_⟩⟩
 ·obtain ⟨i, hi, rfl⟩ := List.mem_map.1 hy
  have hi := (List.mem_range'_1.1 hi).2
  unfold codeV
  split
  ·exact ⟨by simp [okMovS, nopV], by simp [okValS, nopV]⟩
  ·exact insPV_ok _ _ _ _ (hsl i om om)
 ·obtain ⟨i, hi, rfl⟩ := List.mem_map.1 hy
  have hi := (List.mem_range'_1.1 hi).2
  unfold mapsV
  split
  ·simp [okValS]
  ·have := hsl i om om
   simp only [okValS, cellsV_len]
   omega
theorem FnExactPlain (x : S24) (wx : wf24 x) (f : Int) (_ : (Lit.int .i64 f).wf = true) : LawP x.f0 f := by
 have hm := mProgram_nonneg x
 have eS := szProgram_ev x wx 1048576 om om
 by_cases h : mProgram x ≤ 1048576
 case neg =>
  rw [left_no h] at eS
  obtain ⟨K, hK⟩ := eS
  exact ⟨K, _, hK K (Nat.le_refl _), fun h0 => absurd (show (-1 : Int) < 0 by omega) h0⟩
 have tp := toProgram_ev x h
 have okp := okProgram_c x h
 have eqp := eqProgram_refl (cProgram x) okp
 have mp := markProgram_in (cFuncS x.f0) okp
 revert tp eqp mp
 show Ev (fun k => laws_toProgram.f k x.f0) (cFuncS x.f0) → Ev (fun k => laws_eqProgram.f k (cFuncS x.f0) (cFuncS x.f0)) true → _
 generalize cFuncS x.f0 = P
 intro tp eqp mp
 have fin : ∃ (fu : Int) (C : List S50) (M : List (List S55)), okAsmInsS C ∧ okValSS M ∧ Ev (fun k => spec_Plain.f k P f) (fu, C, M) ∧ Ev (fun k => impl_Plain.f k P f) (fu, C, M) := by
  unfold impl_Plain.f impl_knownFunc.f
  have none_ : Ev (fun k => spec_l04Is.f k P f) false → Ev (fun k => spec_Plain.f k P f) (0, [], []) := by
   intro e1
   unfold spec_Plain.f
   exact Ev.bind e1 (Ev.no (by simp) (Ev.now _))
  rcases is_both P f with ⟨hs, R, e1, e2⟩ | ⟨hs, e1, e2⟩
  case inr => exact ⟨0, [], [], ⟨by simp, by simp⟩, ⟨by simp, by simp⟩, none_ e1, Ev.bind (Ev.bind e2 (Ev.no (by simp) (Ev.now _))) (Ev.no (by simp) (Ev.now _))⟩
  by_cases hf : hasB P f = true
  case neg =>
   have hf' : hasB P f = false := by simpa using hf
   rw [hf'] at e1
   refine ⟨0, [], [], ⟨by simp, by simp⟩, ⟨by simp, by simp⟩, none_ e1, Ev.bind (Ev.bind e2 (Ev.yes rfl (Ev.flat (hasFunc_some P f) (Ev.now _)))) ?_⟩
   rw [hf']
   exact Ev.no (by simp) (Ev.now _)
  have hf2 := hasB_iff.1 hf
  obtain ⟨g, rfl⟩ : ∃ g : Nat, f = (g : Int) := ⟨f.toNat, by omega⟩
  have hg : g < P.length := by omega
  rw [hf] at e1
  obtain ⟨k1, k2⟩ := codesV_ok R hg
  refine ⟨_, _, _, k1, k2, specPlain_ev R hg e1, Ev.bind (Ev.bind e2 (Ev.yes rfl (Ev.flat (hasFunc_some P (g : Int)) (Ev.now _)))) ?_⟩
  rw [hf]
  exact Ev.yes rfl (Ev.bind (implPlain_ev R hg) (Ev.now _))
 obtain ⟨fu, C, M, hC, hM, sp, im⟩ := fin
 have eqa := eqAsm_refl (⟨fu, C, M⟩ : S29) ⟨hC, hM⟩
 obtain ⟨hd, hn⟩ := heldAsm_ev C M fu hC hM
 obtain ⟨K1, q1⟩ := eS
 obtain ⟨K2, q2⟩ := tp
 obtain ⟨K3, q3⟩ := sp
 obtain ⟨K4, q4⟩ := im
 obtain ⟨K5, q5⟩ := eqa
 obtain ⟨K6, q6⟩ := eqp
 obtain ⟨K7, q7⟩ := hd
 exact ⟨K1 + K2 + K3 + K4 + K5 + K6 + K7, _, q1 _ om, fun _ => ⟨P, fu, C, M, _, _, q2 _ om, q3 _ om, q4 _ om, q5 _ om, q6 _ om, ⟨rfl, mp⟩, q7 _ om, rfl, hn⟩⟩
end Go.Proofs.Ytcdohkilplgmjaa.Pure
