/- FnExactInsRight: the program's InsRight answers what the reference's answers, for every program, number and instruction. No condition. -/
import Derived.Test.YtpkkicaablnakaaQFnExactInsRightx5
import Derived.Test.YtpkkicaablnakaaWfFnExactInsRight
namespace Go.Proofs.Ytpkkicaablnakaa.Pure
open Go.RowKit Go.Proofs.Ytpkkicaablnakaa.QFnExactInsRight Go.Proofs.YtpkkicaablnakaaW.PrintWords Go.Proofs.YtpkkicaablnakaaW.PrintLast
set_option linter.unusedVariables false
set_option linter.unusedSimpArgs false

structure S25 where
  f0 : (List S108)

/-! plain words: rounds, wraps, lists -/
theorem Ev.succ {α : Type} {g : Nat → Option α} {r : α} (h : Ev (fun k => g (k + 1)) r) : Ev g r := Ev.step (fun _ => rfl) h
theorem Ev.yes {α : Type} {c : Prop} [Decidable c] {g f : Nat → Option α} {r : α} (hc : c) (h : Ev g r) : Ev (fun k => if c then g k else f k) r := Ev.congr (fun _ => if_pos hc) h
theorem Ev.no {α : Type} {c : Prop} [Decidable c] {g f : Nat → Option α} {r : α} (hc : ¬ c) (h : Ev f r) : Ev (fun k => if c then g k else f k) r := Ev.congr (fun _ => if_neg hc) h
theorem Ev.cases {α : Type} {c : Prop} [Decidable c] {g f : Nat → Option α} {r : α} (h1 : c → Ev g r) (h2 : ¬ c → Ev f r) : Ev (fun k => if c then g k else f k) r := by
  by_cases hc : c
  · exact Ev.yes hc (h1 hc)
  · exact Ev.no hc (h2 hc)
/-- A call that needs no rounds. -/
theorem Ev.flat {α β : Type} {g : Option α} {f : Nat → α → Option β} {a : α} {r : β} (h : g = some a) (k : Ev (fun n => f n a) r) : Ev (fun n => g.bind (f n)) r := Ev.bind (g := fun _ => g) ⟨0, fun _ _ => h⟩ k
theorem wrap_in {n : Int} (h0 : -9223372036854775808 ≤ n) (h1 : n ≤ 9223372036854775807) : wrap64 n = n := by unfold wrap64; omega
theorem wrap_lo (n : Int) : -9223372036854775808 ≤ wrap64 n := by unfold wrap64; omega
theorem wrap_hi (n : Int) : wrap64 n ≤ 9223372036854775807 := by unfold wrap64; omega
theorem wf64 {n : Int} (h : (Lit.int .i64 n).wf = true) : -9223372036854775808 ≤ n ∧ n ≤ 9223372036854775807 := by
  simp only [Lit.wf, IntKind.min, IntKind.max, IntKind.signed, IntKind.bits, Bool.and_eq_true, decide_eq_true_eq, if_true] at h
  omega
theorem drop_at {α : Type} (x : List α) (z : α) (i : Nat) (h : i < x.length) : x.drop i = x.getD i z :: x.drop (i + 1) := by
  rw [List.drop_eq_getElem_cons h, List.getD_eq_getElem?_getD, List.getElem?_eq_getElem h]; rfl
/-- Two lists, place by place. -/
def sameL {α : Type} (s : α → α → Bool) : List α → List α → Bool
  | [], [] => true
  | a :: x, b :: y => s a b && sameL s x y
  | _, _ => false
theorem sameL_refl {α : Type} {s : α → α → Bool} (hs : ∀ a, s a a = true) : ∀ x : List α, sameL s x x = true
  | [] => rfl
  | a :: x => by simp [sameL, hs a, sameL_refl hs x]
theorem sameL_len {α : Type} {s : α → α → Bool} : ∀ x y : List α, x.length ≠ y.length → sameL s x y = false
  | [], [], h => absurd rfl h
  | [], _ :: _, _ => rfl
  | _ :: _, [], _ => rfl
  | a :: x, b :: y, h => by simp [sameL, sameL_len x y (fun e => h (by simp [e]))]
theorem nand {a b : Bool} (h : (a && b) = false) : (!a || !b) = true := by cases a <;> cases b <;> simp_all
theorem beq_no {a b : Int} (h : ¬ a = b) : (a == b) = false := beq_eq_false_iff_ne.2 h

/-! loops that go through a list -/
theorem idx_next {i n : Nat} (h : i < n) (hn : n ≤ 1048576) : wrap64 ((i : Int) + 1) = ((i + 1 : Nat) : Int) := by rw [wrap_in (by omega) (by omega)]; simp
theorem to_loop {α β ρ : Type} {l0 : Nat → List α → List β → Int → Option (List β)} {rdA : List α → Int → α} {E : Nat → α → Option ρ} {mk : ρ → β} {conv : α → β} {zA : α} {zB : β}
    (hl : ∀ k x y i, l0 (k + 1) x y i = if i < (x.length : Int) then (if 0 ≤ i then (E k (rdA x i)).bind fun r => (if i < (y.length : Int) then l0 k x (y.set i.toNat (mk r)) (wrap64 (i + 1)) else none) else none) else some y)
    (hrd : ∀ (x : List α) (i : Nat), rdA x (i : Int) = x.getD i zA) (x : List α) (hx : x.length ≤ 1048576) (hE : ∀ a ∈ x, ∃ r, Ev (fun k => E k a) r ∧ mk r = conv a) :
    Ev (fun k => l0 k x (List.replicate x.length zB) 0) (x.map conv) := by
  have key : ∀ (d i : Nat), i + d = x.length → ∀ y : List β, y.length = x.length → y.take i = (x.take i).map conv → Ev (fun k => l0 k x y (i : Int)) (x.map conv) := by
    intro d
    induction d with
    | zero =>
      intro i hi y hy ht
      refine Ev.succ ?_
      simp only [hl]
      refine Ev.no (by omega) ?_
      rw [List.take_of_length_le (by omega), List.take_of_length_le (by omega)] at ht
      subst ht
      exact Ev.now _
    | succ d ih =>
      intro i hi y hy ht
      have hli : i < x.length := by omega
      refine Ev.succ ?_
      simp only [hl]
      have hr : rdA x (i : Int) = x[i] := by rw [hrd, List.getD_eq_getElem?_getD, List.getElem?_eq_getElem hli]; rfl
      obtain ⟨r, h1, h2⟩ := hE x[i] (List.getElem_mem hli)
      simp only [hr]
      refine Ev.yes (by omega) (Ev.yes (by omega) (Ev.bind h1 (Ev.yes (by omega) ?_)))
      rw [idx_next hli hx]
      refine ih (i + 1) (by omega) _ (by simp [hy]) ?_
      simp only [Int.toNat_natCast]
      rw [List.take_succ_eq_append_getElem (by simp; omega), List.take_succ_eq_append_getElem hli, List.map_append, ← ht, List.take_set_of_le (Nat.le_refl _)]
      simp [h2]
  exact key x.length 0 (by omega) _ (by simp) (by simp)
theorem eq_loop {α : Type} {l0 : Nat → List α → List α → Int → Option Bool} {rdA : List α → Int → α} {E : Nat → α → α → Option Bool} {zA : α}
    (hl : ∀ k x y i, l0 (k + 1) x y i = if i < (x.length : Int) then (if 0 ≤ i then (if i < (y.length : Int) then (E k (rdA x i) (rdA y i)).bind fun t => (if t = true then l0 k x y (wrap64 (i + 1)) else some false) else none) else none) else some true)
    (hrd : ∀ (x : List α) (i : Nat), rdA x (i : Int) = x.getD i zA) (x : List α) (hx : x.length ≤ 1048576) (hE : ∀ a ∈ x, Ev (fun k => E k a a) true) : Ev (fun k => l0 k x x 0) true := by
  have key : ∀ (d i : Nat), i + d = x.length → Ev (fun k => l0 k x x (i : Int)) true := by
    intro d
    induction d with
    | zero =>
      intro i hi
      refine Ev.succ ?_
      simp only [hl]
      exact Ev.no (by omega) (Ev.now _)
    | succ d ih =>
      intro i hi
      have hli : i < x.length := by omega
      refine Ev.succ ?_
      simp only [hl]
      have hr : rdA x (i : Int) = x[i] := by rw [hrd, List.getD_eq_getElem?_getD, List.getElem?_eq_getElem hli]; rfl
      simp only [hr]
      refine Ev.yes (by omega) (Ev.yes (by omega) (Ev.yes (by omega) (Ev.bind (hE x[i] (List.getElem_mem hli)) (Ev.yes rfl ?_))))
      rw [idx_next hli hx]
      exact ih (i + 1) (by omega)
  exact key x.length 0 (by omega)
/-- How much is left of a room of 'a'. -/
def left (m a : Int) : Int := if m ≤ a then a - m else -1
def sumL {α : Type} (m : α → Int) (x : List α) : Int := (x.map m).sum
theorem sumL_nonneg {α : Type} {m : α → Int} (hm : ∀ a, 0 ≤ m a) : ∀ x : List α, 0 ≤ sumL m x
  | [] => by simp [sumL]
  | a :: x => by have := hm a; have := sumL_nonneg hm x; simp [sumL] at *; omega
theorem sumL_mem {α : Type} {m : α → Int} (hm : ∀ a, 0 ≤ m a) : ∀ {x : List α} {a : α}, a ∈ x → m a ≤ sumL m x
  | b :: x, a, h => by
    have h0 := sumL_nonneg hm x
    have hb := hm b
    rcases List.mem_cons.1 h with rfl | h
    · simp [sumL] at *; omega
    · have := sumL_mem hm h; simp [sumL] at *; omega
theorem sz_loop {α : Type} {l0 : Nat → List α → Int → Int → Option Int} {rdA : List α → Int → α} {E : Nat → α → Int → Option Int} {zA : α} {m : α → Int} (hm : ∀ a, 0 ≤ m a)
    (hl : ∀ k x a i, l0 (k + 1) x a i = if i < (x.length : Int) then (if 0 ≤ i then (E k (rdA x i) a).bind fun t => (if t < 0 then some (-1) else l0 k x t (wrap64 (i + 1))) else none) else some a)
    (hrd : ∀ (x : List α) (i : Nat), rdA x (i : Int) = x.getD i zA) (x : List α) (hx : x.length ≤ 1048576) (hE : ∀ z ∈ x, ∀ a, 0 ≤ a → a ≤ 1048576 → Ev (fun k => E k z a) (left (m z) a)) (a : Int) (h0 : 0 ≤ a) (h1 : a ≤ 1048576) :
    Ev (fun k => l0 k x a 0) (left (sumL m x) a) := by
  have key : ∀ (d i : Nat), i + d = x.length → ∀ a, 0 ≤ a → a ≤ 1048576 → Ev (fun k => l0 k x a (i : Int)) (left (sumL m (x.drop i)) a) := by
    intro d
    induction d with
    | zero =>
      intro i hi a h0 h1
      refine Ev.succ ?_
      simp only [hl]
      rw [List.drop_of_length_le (by omega)]
      refine Ev.no (by omega) ?_
      simp only [left, sumL, List.map_nil, List.sum_nil, Int.sub_zero, if_pos h0]
      exact Ev.now _
    | succ d ih =>
      intro i hi a h0 h1
      have hli : i < x.length := by omega
      refine Ev.succ ?_
      simp only [hl]
      have hr : rdA x (i : Int) = x[i] := by rw [hrd, List.getD_eq_getElem?_getD, List.getElem?_eq_getElem hli]; rfl
      simp only [hr]
      refine Ev.yes (by omega) (Ev.yes (by omega) (Ev.bind (hE x[i] (List.getElem_mem hli) a h0 h1) ?_))
      have hs : sumL m (x.drop i) = m x[i] + sumL m (x.drop (i + 1)) := by rw [List.drop_eq_getElem_cons hli]; unfold sumL; rw [List.map_cons, List.sum_cons]
      have hp := sumL_nonneg hm (x.drop (i + 1))
      have hq := hm x[i]
      rw [hs, idx_next hli hx]
      by_cases hc : m x[i] ≤ a
      · have e : left (m x[i]) a = a - m x[i] := by simp [left, hc]
        rw [e]
        refine Ev.no (by omega) ?_
        have e2 : left (m x[i] + sumL m (x.drop (i + 1))) a = left (sumL m (x.drop (i + 1))) (a - m x[i]) := by
          unfold left
          by_cases h : m x[i] + sumL m (x.drop (i + 1)) ≤ a
          · rw [if_pos h, if_pos (by omega)]; omega
          · rw [if_neg h, if_neg (by omega)]
        rw [e2]
        exact ih (i + 1) (by omega) _ (by omega) (by omega)
      · have e : left (m x[i]) a = -1 := by simp [left, hc]
        have e2 : left (m x[i] + sumL m (x.drop (i + 1))) a = -1 := by unfold left; rw [if_neg (by omega)]
        rw [e, e2]
        exact Ev.yes (by omega) (Ev.now _)
  simpa using key x.length 0 (by omega) a h0 h1
theorem left_step {m n a : Int} (h : m ≤ a) : left m a = a - m := by simp [left, h]
theorem left_no {m a : Int} (h : ¬ m ≤ a) : left m a = -1 := by simp [left, h]
/-- First one thing takes its room, then another one. -/
theorem sz_then {m n a : Int} {E : Nat → Option Int} {F : Nat → Int → Option Int} (hm : 0 ≤ m) (hn : 0 ≤ n) (h0 : 0 ≤ a) (h1 : a ≤ 1048576) (hE : Ev E (left m a)) (hF : m ≤ a → Ev (fun k => F k (a - m)) (left n (a - m))) :
    Ev (fun k => (E k).bind fun t => if t < 0 then some (-1) else F k t) (left (m + n) a) := by
  refine Ev.bind hE ?_
  by_cases hc : m ≤ a
  · rw [left_step (n := 0) hc]
    refine Ev.no (by omega) ?_
    have e : left (m + n) a = left n (a - m) := by
      unfold left
      by_cases h : m + n ≤ a
      · rw [if_pos h, if_pos (by omega)]; omega
      · rw [if_neg h, if_neg (by omega)]
    rw [e]
    exact hF hc
  · rw [left_no hc, left_no (by omega)]
    exact Ev.yes (by omega) (Ev.now _)
theorem sz_last {m a : Int} {E : Nat → Option Int} (hm : 0 ≤ m) (hE : Ev E (left m a)) : Ev (fun k => (E k).bind fun t => if t < 0 then some (-1) else some t) (left m a) := by
  refine Ev.bind hE ?_
  by_cases hc : m ≤ a
  · rw [left_step (n := 0) hc]
    exact Ev.no (by omega) (Ev.now _)
  · rw [left_no hc]
    exact Ev.yes (by omega) (Ev.now _)
/-- A list takes as much room as it has items. -/
theorem sz_len {n : Nat} {a : Int} {F : Nat → Int → Option Int} {m : Int} (hm : 0 ≤ m) (hn : n ≤ 9223372036854775807) (h0 : 0 ≤ a) (h1 : a ≤ 1048576) (hF : (n : Int) ≤ a → Ev (fun k => F k (a - n)) (left m (a - n))) :
    Ev (fun k => if wrap64 (a - (n : Int)) < 0 then some (-1) else F k (wrap64 (a - (n : Int)))) (left (n + m) a) := by
  have e : wrap64 (a - (n : Int)) = a - n := wrap_in (by omega) (by omega)
  rw [e]
  by_cases hc : (n : Int) ≤ a
  · refine Ev.no (by omega) ?_
    have e : left (n + m) a = left m (a - n) := by
      unfold left
      by_cases h : n + m ≤ a
      · rw [if_pos h, if_pos (by omega)]; omega
      · rw [if_neg h, if_neg (by omega)]
    rw [e]
    exact hF hc
  · rw [left_no (by omega)]
    exact Ev.yes (by omega) (Ev.now _)
theorem left_zero {a : Int} (h : 0 ≤ a) : left 0 a = a := by simp [left, h]
theorem eq_loop_int {l0 : Nat → List Int → List Int → Int → Option Bool}
    (hl : ∀ k x y i, l0 (k + 1) x y i = if i < (x.length : Int) then (if 0 ≤ i then (if i < (y.length : Int) then (if rd x i = rd y i then l0 k x y (wrap64 (i + 1)) else some false) else none) else none) else some true)
    (x : List Int) (hx : x.length ≤ 1048576) : Ev (fun k => l0 k x x 0) true := by
  have key : ∀ (d i : Nat), i + d = x.length → Ev (fun k => l0 k x x (i : Int)) true := by
    intro d
    induction d with
    | zero =>
      intro i hi
      refine Ev.succ ?_
      simp only [hl]
      exact Ev.no (by omega) (Ev.now _)
    | succ d ih =>
      intro i hi
      refine Ev.succ ?_
      simp only [hl]
      refine Ev.yes (by omega) (Ev.yes (by omega) (Ev.yes (by omega) (Ev.yes (by simp) ?_)))
      rw [idx_next (show i < x.length by omega) hx]
      exact ih (i + 1) (by omega)
  exact key x.length 0 (by omega)
theorem to_loop_int {l0 : Nat → List Int → List Int → Int → Option (List Int)}
    (hl : ∀ k x y i, l0 (k + 1) x y i = if i < (x.length : Int) then (if 0 ≤ i then (if i < (y.length : Int) then l0 k x (y.set i.toNat (rd x i)) (wrap64 (i + 1)) else none) else none) else some y)
    (x : List Int) (hx : x.length ≤ 1048576) (z : Int) : Ev (fun k => l0 k x (List.replicate x.length z) 0) x := by
  have h := to_loop (l0 := l0) (rdA := rd) (E := fun _ a => some a) (mk := fun a => a) (conv := fun a => a) (zA := 0) (zB := z) (fun k x y i => by rw [hl]; rfl) (fun _ _ => rfl) x hx (fun a _ => ⟨a, Ev.now _, rfl⟩)
  simpa using h

def cIns (x : S52) : S56 := ⟨x.f0, x.f1⟩
theorem toIns_some (x : S52) : laws_toIns.f x.f0 x.f1 = some (x.f0, x.f1) := rfl
theorem eqIns_refl (x : S56) : Ev (fun k => laws_eqIns.f x.f0 x.f1 x.f0 x.f1) true := by
  unfold laws_eqIns.f
  exact Ev.yes rfl (Ev.yes rfl (Ev.now _))

def cInsS (x : List S52) : List S56 := x.map cIns
theorem mInsS_nonneg (x : List S52) : (0 : Int) ≤ (x.length : Int) := by omega
def mInsS (x : List S52) : Int := (x.length : Int)
theorem mInsS_nonneg' (x : List S52) : 0 ≤ mInsS x := mInsS_nonneg x
theorem szInsS_ev (x : List S52) (w : x.length ≤ 9223372036854775807 ∧ ∀ z ∈ x, wf52 z) (a : Int) (h0 : 0 ≤ a) (h1 : a ≤ 1048576) : Ev (fun _ => laws_szInsS.f x a) (left (x.length : Int) a) := by
  unfold laws_szInsS.f
  have h := sz_len (n := x.length) (a := a) (F := fun _ t => some t) (m := 0) (by omega) w.1 h0 h1 (fun h => by rw [left_zero (by omega)]; exact Ev.now _)
  simpa using h
theorem toInsS_ev (x : List S52) (h : (x.length : Int) ≤ 1048576) : Ev (fun k => laws_toInsS.f k x) (cInsS x) := by
  unfold laws_toInsS.f
  refine Ev.yes (by omega) (Ev.yes (by simp; omega) ?_)
  exact to_loop (l0 := laws_toInsS.l0) (rdA := rd_T52) (E := fun k z => laws_toIns.f z.f0 z.f1) (mk := fun r => (⟨r.1, r.2⟩ : S56)) (conv := cIns) (zA := z52) (zB := z56) (fun k x y i => by simp only [laws_toInsS.l0]) (fun _ _ => rfl) x (by omega) (fun z hz => ⟨_, ⟨0, fun _ _ => rfl⟩, rfl⟩)
def okInsS (x : List S56) : Prop := x.length ≤ 1048576
theorem okInsS_c (x : List S52) (h : (x.length : Int) ≤ 1048576) : okInsS (cInsS x) := by
  unfold okInsS cInsS
  rw [List.length_map]; omega
theorem eqInsS_refl (x : List S56) (h : okInsS x) : Ev (fun k => laws_eqInsS.f k x x) true := by
  unfold laws_eqInsS.f
  refine Ev.yes rfl ?_
  exact eq_loop (l0 := laws_eqInsS.l0) (rdA := rd_T56) (E := fun k a b => laws_eqIns.f a.f0 a.f1 b.f0 b.f1) (zA := z56) (fun k x y i => by simp only [laws_eqInsS.l0]) (fun _ _ => rfl) x h (fun a ha => eqIns_refl a)

def cFunc (x : S180) : S108 := ⟨x.f0, x.f1, (cInsS x.f2)⟩
def mFunc (x : S180) : Int := (x.f2.length : Int)
theorem mFunc_nonneg (x : S180) : 0 ≤ mFunc x := by
  unfold mFunc
  have h2 : (0 : Int) ≤ (x.f2.length : Int) := mInsS_nonneg _
  omega
theorem toFunc_ev (x : S180) (h : mFunc x ≤ 1048576) : Ev (fun k => laws_toFunc.f k x.f0 x.f1 x.f2) (x.f0, x.f1, (cInsS x.f2)) := by
  unfold mFunc at h
  have p2 : (0 : Int) ≤ (x.f2.length : Int) := mInsS_nonneg _
  have h2 : (x.f2.length : Int) ≤ 1048576 := by omega
  unfold laws_toFunc.f
  exact Ev.bind (toInsS_ev x.f2 h2) (Ev.now _)
theorem szFunc_ev (x : S180) (w : wf180 x) (a : Int) (h0 : 0 ≤ a) (h1 : a ≤ 1048576) : Ev (fun k => laws_szFunc.f x.f0 x.f1 x.f2 a) (left (mFunc x) a) := by
  obtain ⟨w0, w1, w2⟩ := w
  have p2 : (0 : Int) ≤ (x.f2.length : Int) := mInsS_nonneg _
  have e : mFunc x = (x.f2.length : Int) := by unfold mFunc; omega
  rw [e]
  unfold laws_szFunc.f
  exact sz_last (mInsS_nonneg _) (szInsS_ev x.f2 w2 a (by omega) (by omega))
def okFunc (x : S108) : Prop := okInsS x.f2
theorem okFunc_c (x : S180) (h : mFunc x ≤ 1048576) : okFunc (cFunc x) := by
  unfold mFunc at h
  have p2 : (0 : Int) ≤ (x.f2.length : Int) := mInsS_nonneg _
  exact okInsS_c _ (by omega)
theorem eqFunc_refl (x : S108) (h : okFunc x) : Ev (fun k => laws_eqFunc.f k x.f0 x.f1 x.f2 x.f0 x.f1 x.f2) true := by
  have h2 := h
  unfold laws_eqFunc.f
  exact Ev.yes rfl (Ev.yes rfl (Ev.bind (eqInsS_refl x.f2 h2) (Ev.yes rfl (Ev.now _))))

def cFuncS (x : List S180) : List S108 := x.map cFunc
theorem mFuncS_nonneg (x : List S180) : (0 : Int) ≤ (x.length + sumL mFunc x : Int) := by have := sumL_nonneg mFunc_nonneg x; omega
def mFuncS (x : List S180) : Int := (x.length + sumL mFunc x : Int)
theorem mFuncS_nonneg' (x : List S180) : 0 ≤ mFuncS x := mFuncS_nonneg x
theorem szFuncS_ev (x : List S180) (w : x.length ≤ 9223372036854775807 ∧ ∀ z ∈ x, wf180 z) (a : Int) (h0 : 0 ≤ a) (h1 : a ≤ 1048576) : Ev (fun k => laws_szFuncS.f k x a) (left (x.length + sumL mFunc x : Int) a) := by
  unfold laws_szFuncS.f
  refine sz_len (F := fun k t => laws_szFuncS.l0 k x t 0) (sumL_nonneg mFunc_nonneg x) w.1 h0 h1 (fun h => ?_)
  exact sz_loop (l0 := laws_szFuncS.l0) (rdA := rd_T180) (E := fun k z a => laws_szFunc.f z.f0 z.f1 z.f2 a) (zA := z180) (m := mFunc) mFunc_nonneg (fun k x a i => by simp only [laws_szFuncS.l0]) (fun _ _ => rfl) x (by omega) (fun z hz a h0 h1 => szFunc_ev z (w.2 z hz) a h0 h1) _ (by omega) (by omega)
theorem toFuncS_ev (x : List S180) (h : (x.length + sumL mFunc x : Int) ≤ 1048576) : Ev (fun k => laws_toFuncS.f k x) (cFuncS x) := by
  unfold laws_toFuncS.f
  have hs := sumL_nonneg mFunc_nonneg x
  refine Ev.yes (by omega) (Ev.yes (by simp; omega) ?_)
  exact to_loop (l0 := laws_toFuncS.l0) (rdA := rd_T180) (E := fun k z => laws_toFunc.f k z.f0 z.f1 z.f2) (mk := fun r => (⟨r.1, r.2.1, r.2.2⟩ : S108)) (conv := cFunc) (zA := z180) (zB := z108) (fun k x y i => by simp only [laws_toFuncS.l0]) (fun _ _ => rfl) x (by omega) (fun z hz => ⟨_, toFunc_ev z (by have := sumL_mem mFunc_nonneg hz; omega), rfl⟩)
def okFuncS (x : List S108) : Prop := x.length ≤ 1048576 ∧ ∀ z ∈ x, okFunc z
theorem okFuncS_c (x : List S180) (h : (x.length + sumL mFunc x : Int) ≤ 1048576) : okFuncS (cFuncS x) := by
  have hs := sumL_nonneg mFunc_nonneg x
  refine ⟨by unfold cFuncS; rw [List.length_map]; omega, fun z hz => ?_⟩
  obtain ⟨y, hy, rfl⟩ := List.mem_map.1 hz
  exact okFunc_c y (by have := sumL_mem mFunc_nonneg hy; omega)
theorem eqFuncS_refl (x : List S108) (h : okFuncS x) : Ev (fun k => laws_eqFuncS.f k x x) true := by
  unfold laws_eqFuncS.f
  refine Ev.yes rfl ?_
  exact eq_loop (l0 := laws_eqFuncS.l0) (rdA := rd_T108) (E := fun k a b => laws_eqFunc.f k a.f0 a.f1 a.f2 b.f0 b.f1 b.f2) (zA := z108) (fun k x y i => by simp only [laws_eqFuncS.l0]) (fun _ _ => rfl) x h.1 (fun a ha => eqFunc_refl a (h.2 a ha))

def cProgram (x : S50) : S25 := ⟨(cFuncS x.f0)⟩
def mProgram (x : S50) : Int := (x.f0.length + sumL mFunc x.f0 : Int)
theorem mProgram_nonneg (x : S50) : 0 ≤ mProgram x := by
  unfold mProgram
  have h0 : (0 : Int) ≤ (x.f0.length + sumL mFunc x.f0 : Int) := mFuncS_nonneg _
  omega
theorem toProgram_ev (x : S50) (h : mProgram x ≤ 1048576) : Ev (fun k => laws_toProgram.f k x.f0) ((cFuncS x.f0)) := by
  unfold mProgram at h
  have p0 : (0 : Int) ≤ (x.f0.length + sumL mFunc x.f0 : Int) := mFuncS_nonneg _
  have h0 : (x.f0.length + sumL mFunc x.f0 : Int) ≤ 1048576 := by omega
  unfold laws_toProgram.f
  exact Ev.bind (toFuncS_ev x.f0 h0) (Ev.now _)
theorem szProgram_ev (x : S50) (w : wf50 x) (a : Int) (h0 : 0 ≤ a) (h1 : a ≤ 1048576) : Ev (fun k => laws_szProgram.f k x.f0 a) (left (mProgram x) a) := by
  unfold mProgram laws_szProgram.f
  exact sz_last (mFuncS_nonneg _) (szFuncS_ev x.f0 w a h0 h1)
def okProgram (x : S25) : Prop := okFuncS x.f0
theorem okProgram_c (x : S50) (h : mProgram x ≤ 1048576) : okProgram (cProgram x) := by
  unfold mProgram at h
  have p0 : (0 : Int) ≤ (x.f0.length + sumL mFunc x.f0 : Int) := mFuncS_nonneg _
  exact okFuncS_c _ (by omega)
theorem eqProgram_refl (x : S25) (h : okProgram x) : Ev (fun k => laws_eqProgram.f k x.f0 x.f0) true := by
  have h0 := h
  unfold laws_eqProgram.f
  exact Ev.bind (eqFuncS_refl x.f0 h0) (Ev.yes rfl (Ev.now _))

/-! is there a function of that number? -/
theorem in_some (a b c : Int) : impl_in.f a b c = some (decide (b ≤ a) && decide (a ≤ c)) := by
  unfold impl_in.f
  by_cases h : a ≥ b
  · rw [if_pos h]; simp [show b ≤ a from h]
  · rw [if_neg h]; simp [show ¬ b ≤ a from h]
def hasB {α : Type} (p : List α) (f : Int) : Bool := decide (0 ≤ f) && decide (f < p.length)
theorem hasFunc_some (p : List S108) (f : Int) : impl_hasFunc.f p f = some (hasB p f) := by
  unfold impl_hasFunc.f hasB
  by_cases h : f ≥ 0
  · rw [if_pos h]; simp [show 0 ≤ f from h]
  · rw [if_neg h]; simp [show ¬ 0 ≤ f from h]
theorem ite_some' {α : Type} {c : Prop} [Decidable c] {a b : α} : (if c then some a else some b) = some (if c then a else b) := by split <;> rfl
theorem hasB_iff {α : Type} {p : List α} {f : Int} : hasB p f = true ↔ 0 ≤ f ∧ f < p.length := by simp [hasB]

/-! ops' names -/
def namedB (op : Int) : Bool := (decide (1 ≤ op) && decide (op ≤ 5)) || (decide (10 ≤ op) && decide (op ≤ 38))
def nameV (op : Int) : ByteArray := (impl_OpName.f op).getD ⟨#[]⟩
theorem names_small : ∀ n : Nat, n < 39 → impl_OpName.f (n : Int) = some (nameV (n : Int)) ∧ spec_OpName.f 1 (n : Int) = some (nameV (n : Int)) ∧ (((nameV (n : Int)).toList = []) ↔ namedB (n : Int) = false) := by
  decide +kernel
theorem name_all (op : Int) : impl_OpName.f op = some (nameV op) ∧ spec_OpName.f 1 op = some (nameV op) ∧ (((nameV op).toList = []) ↔ namedB op = false) := by
  by_cases hr : 0 ≤ op ∧ op ≤ 38
  · obtain ⟨n, rfl⟩ := Int.eq_ofNat_of_zero_le hr.1
    exact names_small n (by omega)
  · have h1 : impl_OpName.f op = some ⟨#[]⟩ := by
      unfold impl_OpName.f impl_in.f
      by_cases hc : op ≥ 0
      · rw [if_pos hc]
        have : decide (op ≤ 38) = false := by simp; omega
        simp [this]
      · rw [if_neg hc]
        simp
    have hv : nameV op = ⟨#[]⟩ := by unfold nameV; rw [h1]; rfl
    rw [hv]
    refine ⟨h1, ?_, ?_⟩
    · unfold spec_OpName.f
      simp only [Option.bind_some]
      by_cases hc : op ≥ 1
      · rw [if_pos hc]
        have : decide (op ≤ 5) = false := by simp; omega
        simp only [this, spec_OpName.j0]
        by_cases hd : op ≥ 10
        · rw [if_neg (by simp), if_pos hd, if_neg (by omega)]
        · rw [if_neg (by simp), if_neg hd]
      · rw [if_neg hc]
        simp only [spec_OpName.j0]
        rw [if_neg (by simp), if_neg (by omega)]
    · have : namedB op = false := by
        unfold namedB
        simp
        omega
      simp [this]
theorem implName_some (op : Int) : impl_OpName.f op = some (nameV op) := (name_all op).1
theorem specName_ev (op : Int) : Ev (fun k => spec_OpName.f k op) (nameV op) := Ev.of (fun k => spec_OpName.mono _ k) (name_all op).2.1
theorem name_none (op : Int) : (nameV op).toList = [] ↔ namedB op = false := (name_all op).2.2

/-! does an instruction stand right? -/
def insRightV (p : List S108) (f op a : Int) : Bool :=
  if hasB p f = true then
    (if op = 1 then true else if op = 2 ∨ op = 3 then decide (0 ≤ a) && decide (a < (rd_T108 p f).f1) else if op = 30 ∨ op = 31 then decide (0 ≤ a) && decide (a < (rd_T108 p f).f2.length)
     else if op = 32 then hasB p a else namedB op && (a == 0))
  else false
theorem and_some (a : Int) (q : Prop) [Decidable q] : (if a ≥ 0 then some (decide q) else some false) = some (decide (0 ≤ a) && decide q) := by
  by_cases h : a ≥ 0
  · rw [if_pos h]; simp [show 0 ≤ a from h]
  · rw [if_neg h]; simp [show ¬ 0 ≤ a from h]
theorem implInsRight_ev (p : List S108) (f op a : Int) : Ev (fun k => impl_InsRight.f k p f op a) (insRightV p f op a) := by
  refine Ev.of (fun k => impl_InsRight.mono _ _ _ _ k) (k := 2) ?_
  unfold impl_InsRight.f insRightV
  rw [hasFunc_some, Option.bind_some]
  by_cases hf : hasB p f = true
  · have h2 := hasB_iff.1 hf
    simp only [if_pos hf, impl_InsRight.j0, impl_InsRight.j1, if_pos h2.1, if_pos h2.2, and_some, hasFunc_some, implName_some, Option.bind_some]
    by_cases h1 : op = 1
    · simp only [if_pos h1]
    simp only [if_neg h1]
    by_cases h2 : op = 2
    · subst h2; simp
    by_cases h3 : op = 3
    · subst h3; simp
    simp only [if_neg h2, beq_no h3, Bool.false_eq_true, if_false, h2, h3, or_self]
    by_cases h30 : op = 30
    · subst h30; simp
    by_cases h31 : op = 31
    · subst h31; simp
    simp only [if_neg h30, beq_no h31, Bool.false_eq_true, if_false, h30, h31, or_self]
    by_cases h32 : op = 32
    · simp only [if_pos h32]
    simp only [if_neg h32, name_none]
    cases namedB op <;> simp
  · simp only [if_neg hf]
theorem specInsRight_ev (p : List S108) (f op a : Int) : Ev (fun k => spec_InsRight.f k p f op a) (insRightV p f op a) := by
  unfold spec_InsRight.f insRightV
  by_cases h0 : f < 0
  · have hf : ¬ hasB p f = true := fun h => by have := hasB_iff.1 h; omega
    rw [if_neg hf]
    refine Ev.yes h0 (Ev.succ ?_)
    simp only [spec_InsRight.j0, if_true]
    exact Ev.now _
  refine Ev.no h0 (Ev.succ ?_)
  simp only [spec_InsRight.j0]
  by_cases hl : f ≥ (p.length : Int)
  · have hf : ¬ hasB p f = true := fun h => by have := hasB_iff.1 h; omega
    rw [if_neg hf]
    exact Ev.yes (by simp [hl]) (Ev.now _)
  have hf : hasB p f = true := hasB_iff.2 ⟨by omega, by omega⟩
  have hg0 : 0 ≤ f := by omega
  have hg1 : f < (p.length : Int) := by omega
  rw [if_pos hf]
  refine Ev.no (by simp; omega) ?_
  by_cases h1 : op = 1
  · rw [if_pos h1]; exact Ev.yes h1 (Ev.now _)
  refine Ev.no h1 ?_
  rw [if_neg h1]
  have hj2 : ∀ b : Bool, Ev (fun k => spec_InsRight.j2 k f op b p op a) (if b = true then decide (0 ≤ a) && decide (a < (rd_T108 p f).f2.length) else if op = 32 then hasB p a else namedB op && (a == 0)) := by
    intro b
    refine Ev.succ ?_
    simp only [spec_InsRight.j2, if_pos hg0, if_pos hg1, and_some]
    refine Ev.cases (fun hb => ?_) (fun hb => ?_)
    · rw [if_pos hb]; exact Ev.now _
    · rw [if_neg hb]
      refine Ev.cases (fun h32 => ?_) (fun h32 => ?_)
      · rw [if_pos h32]; exact Ev.now _
      · rw [if_neg h32]
        refine Ev.bind (specName_ev op) ?_
        simp only [name_none]
        cases namedB op
        · exact Ev.yes rfl (by simpa using Ev.now false)
        · exact Ev.no (by simp) (by simpa using Ev.now (a == 0))
  have hj1 : ∀ b : Bool, Ev (fun k => spec_InsRight.j1 k f op b p op a) (if b = true then decide (0 ≤ a) && decide (a < (rd_T108 p f).f1) else if op = 30 ∨ op = 31 then decide (0 ≤ a) && decide (a < (rd_T108 p f).f2.length) else if op = 32 then hasB p a else namedB op && (a == 0)) := by
    intro b
    refine Ev.succ ?_
    simp only [spec_InsRight.j1, if_pos hg0, if_pos hg1, and_some]
    refine Ev.cases (fun hb => ?_) (fun hb => ?_)
    · rw [if_pos hb]; exact Ev.now _
    · rw [if_neg hb]
      refine Ev.cases (fun h30 => ?_) (fun h30 => ?_)
      · have := hj2 (op == 30)
        simpa [h30] using this
      · have := hj2 (op == 31)
        by_cases h31 : op = 31
        · simpa [h31] using this
        · simpa [h30, h31] using this
  refine Ev.cases (fun h2 => ?_) (fun h2 => ?_)
  · simpa [h2] using hj1 (op == 2)
  · by_cases h3 : op = 3
    · simpa [h3] using hj1 (op == 3)
    · simpa [h2, h3] using hj1 (op == 3)

theorem FnExactInsRight (x : S50) (wx : wf50 x) (f : Int) (_ : (Lit.int .i64 f).wf = true) (y : S52) (_ : wf52 y) : ∃ k, laws_FnExactInsRight.f k x.f0 f y.f0 y.f1 = some true := by
  refine Ev.rounds ?_
  unfold laws_FnExactInsRight.f
  refine Ev.bind (szProgram_ev x wx 1048576 (by omega) (by omega)) ?_
  have hm := mProgram_nonneg x
  by_cases h : mProgram x ≤ 1048576
  case neg => rw [left_no h]; exact Ev.yes (by omega) (Ev.now _)
  rw [left_step (n := 0) h]
  have tp := toProgram_ev x h
  have h1 := implInsRight_ev (cFuncS x.f0) f y.f0 y.f1
  have h2 := specInsRight_ev (cFuncS x.f0) f y.f0 y.f1
  refine Ev.no (by omega) (Ev.bind tp (Ev.flat (by rfl) (Ev.bind h2 (Ev.bind tp (Ev.flat (by rfl) (Ev.bind h1 (Ev.no (by simp) (Ev.bind tp (Ev.bind (eqProgram_refl (cProgram x) (okProgram_c x h)) (Ev.yes rfl (Ev.now _)))))))))))

end Go.Proofs.Ytpkkicaablnakaa.Pure
