/- FnExactFuncSame: the program's FuncSame answers what the reference's answers, for all functions. No condition. -/
import Derived.Test.YtmmcafjppiamhaaPFnExactFuncSamex4
import Derived.Test.YtmmcafjppiamhaaWfFnExactFuncSame
namespace Go.Proofs.Ytmmcafjppiamhaa.Pure
open Go.RowKit Go.Proofs.Ytmmcafjppiamhaa.PFnExactFuncSame Go.Proofs.YtmmcafjppiamhaaW.PrintWords Go.Proofs.YtmmcafjppiamhaaW.PrintLast
set_option linter.unusedVariables false
set_option linter.unusedSimpArgs false

/-! plain words: rounds, wraps, lists -/
theorem Ev.succ {α : Type} {g : Nat → Option α} {r : α} (h : Ev (fun k => g (k + 1)) r) : Ev g r := Ev.step (fun _ => rfl) h
theorem Ev.yes {α : Type} {c : Prop} [Decidable c] {g f : Nat → Option α} {r : α} (hc : c) (h : Ev g r) : Ev (fun k => if c then g k else f k) r := Ev.congr (fun _ => if_pos hc) h
theorem Ev.no {α : Type} {c : Prop} [Decidable c] {g f : Nat → Option α} {r : α} (hc : ¬ c) (h : Ev f r) : Ev (fun k => if c then g k else f k) r := Ev.congr (fun _ => if_neg hc) h
theorem Ev.cases {α : Type} {c : Prop} [Decidable c] {g f : Nat → Option α} {r : α} (h1 : c → Ev g r) (h2 : ¬ c → Ev f r) : Ev (fun k => if c then g k else f k) r := by
  by_cases hc : c
  · exact Ev.yes hc (h1 hc)
  · exact Ev.no hc (h2 hc)
/-- A call that needs no rounds. -/
theorem Ev.flat {α β : Type} {g : Option α} {f : Nat → α → Option β} {a : α} {r : β} (h : g = some a) (k : Ev (fun n => f n a) r) : Ev (fun n => g.bind (f n)) r := Ev.bind (g := fun _ => g) ⟨0, fun _ _ => h⟩ k
theorem wrap_in {n : Int} (h0 : -9223372036854775808 ≤ n) (h1 : n ≤ 9223372036854775807) : wrap64 n = n := by unfold wrap64; omega
theorem wrap_lo (n : Int) : -9223372036854775808 ≤ wrap64 n := by unfold wrap64; omega
theorem wrap_hi (n : Int) : wrap64 n ≤ 9223372036854775807 := by unfold wrap64; omega
theorem wf64 {n : Int} (h : (Lit.int .i64 n).wf = true) : -9223372036854775808 ≤ n ∧ n ≤ 9223372036854775807 := by
  simp only [Lit.wf, IntKind.min, IntKind.max, IntKind.signed, IntKind.bits, Bool.and_eq_true, decide_eq_true_eq, if_true] at h
  omega
theorem drop_at {α : Type} (x : List α) (z : α) (i : Nat) (h : i < x.length) : x.drop i = x.getD i z :: x.drop (i + 1) := by
  rw [List.drop_eq_getElem_cons h, List.getD_eq_getElem?_getD, List.getElem?_eq_getElem h]; rfl
/-- Two lists, place by place. -/
def sameL {α : Type} (s : α → α → Bool) : List α → List α → Bool
  | [], [] => true
  | a :: x, b :: y => s a b && sameL s x y
  | _, _ => false
theorem sameL_refl {α : Type} {s : α → α → Bool} (hs : ∀ a, s a a = true) : ∀ x : List α, sameL s x x = true
  | [] => rfl
  | a :: x => by simp [sameL, hs a, sameL_refl hs x]
theorem sameL_len {α : Type} {s : α → α → Bool} : ∀ x y : List α, x.length ≠ y.length → sameL s x y = false
  | [], [], h => absurd rfl h
  | [], _ :: _, _ => rfl
  | _ :: _, [], _ => rfl
  | a :: x, b :: y, h => by simp [sameL, sameL_len x y (fun e => h (by simp [e]))]
theorem nand {a b : Bool} (h : (a && b) = false) : (!a || !b) = true := by cases a <;> cases b <;> simp_all
theorem beq_no {a b : Int} (h : ¬ a = b) : (a == b) = false := beq_eq_false_iff_ne.2 h

def toI (x : S29) : S31 := ⟨x.f0, x.f1⟩
theorem toInsS_l (l : List S29) (hl : l.length ≤ 1048576) (d : Nat) : ∀ (i : Nat), i + d = l.length → ∀ y : List S31, y.length = l.length → y.take i = (l.take i).map toI → Ev (fun k => laws_toInsS.l0 k l y (i : Int)) (l.map toI) := by
  induction d with
  | zero =>
    intro i hi y hy ht
    refine Ev.succ ?_
    simp only [laws_toInsS.l0]
    refine Ev.no (by omega) ?_
    rw [List.take_of_length_le (by omega), List.take_of_length_le (by omega)] at ht
    subst ht
    exact Ev.now _
  | succ d ih =>
    intro i hi y hy ht
    refine Ev.succ ?_
    simp only [laws_toInsS.l0]
    refine Ev.yes (by omega) (Ev.yes (by omega) ?_)
    refine Ev.flat (a := (_, _)) rfl (Ev.yes (by omega) ?_)
    have e : wrap64 ((i : Int) + 1) = ((i + 1 : Nat) : Int) := by rw [wrap_in (by omega) (by omega)]; simp
    rw [e]
    refine ih (i + 1) (by omega) _ (by simp [hy]) ?_
    have hli : i < l.length := by omega
    simp only [Int.toNat_natCast]
    rw [List.take_succ_eq_append_getElem (by simp; omega), List.take_succ_eq_append_getElem hli, List.map_append, ← ht, List.take_set_of_le (Nat.le_refl _)]
    simp [rd_T29, toI, List.getD_eq_getElem?_getD, List.getElem?_eq_getElem hli]
theorem toInsS_ev (l : List S29) (hl : l.length ≤ 1048576) : Ev (fun k => laws_toInsS.f k l) (l.map toI) := by
  unfold laws_toInsS.f
  refine Ev.yes (by omega) (Ev.yes (by simp; omega) ?_)
  exact toInsS_l l hl l.length 0 (by omega) _ (by simp) (by simp)

theorem szInsS_ev (l : List S29) (a : Int) (h0 : 0 ≤ a) (h1 : a ≤ 1048576) (hl : l.length ≤ 9223372036854775807) :
    laws_szInsS.f l a = some (if (l.length : Int) ≤ a then a - l.length else -1) := by
  unfold laws_szInsS.f
  rw [wrap_in (by omega) (by omega)]
  by_cases h : (l.length : Int) ≤ a
  · rw [if_neg (by omega), if_pos h]
  · rw [if_pos (by omega), if_neg h]

def sameI (a b : S31) : Bool := a.f0 == b.f0 && a.f1 == b.f1
theorem sameI_refl (a : S31) : sameI a a = true := by simp [sameI]
theorem dropI (x : List S31) (i : Nat) (h : i < x.length) : x.drop i = rd_T31 x (i : Int) :: x.drop (i + 1) := drop_at x z31 i h
theorem eqIns_some (a b : S31) : laws_eqIns.f a.f0 a.f1 b.f0 b.f1 = some (sameI a b) := by
  unfold laws_eqIns.f sameI
  by_cases h1 : a.f0 = b.f0 <;> by_cases h2 : a.f1 = b.f1 <;> simp [h1, h2]
theorem eqInsS_l (x y : List S31) (hxy : x.length = y.length) (hx : x.length ≤ 1048576) (d : Nat) : ∀ i : Nat, i + d = x.length → Ev (fun k => laws_eqInsS.l0 k x y (i : Int)) (sameL sameI (x.drop i) (y.drop i)) := by
  induction d with
  | zero =>
    intro i hi
    refine Ev.succ ?_
    simp only [laws_eqInsS.l0]
    refine Ev.no (by omega) ?_
    rw [List.drop_of_length_le (by omega), List.drop_of_length_le (by omega)]
    exact Ev.now _
  | succ d ih =>
    intro i hi
    refine Ev.succ ?_
    simp only [laws_eqInsS.l0]
    refine Ev.yes (by omega) (Ev.yes (by omega) (Ev.yes (by omega) ?_))
    have e : wrap64 ((i : Int) + 1) = ((i + 1 : Nat) : Int) := by rw [wrap_in (by omega) (by omega)]; simp
    rw [dropI x i (by omega), dropI y i (by omega), e]
    refine Ev.flat (eqIns_some _ _) ?_
    simp only [sameL]
    cases h : sameI (rd_T31 x i) (rd_T31 y i) with
    | true => exact Ev.yes rfl (by simpa using ih (i + 1) (by omega))
    | false => exact Ev.no (by simp) (by simpa using Ev.now false)
theorem eqInsS_ev (x y : List S31) (hx : x.length ≤ 1048576) : Ev (fun k => laws_eqInsS.f k x y) (sameL sameI x y) := by
  unfold laws_eqInsS.f
  refine Ev.cases (fun h => eqInsS_l x y (by omega) hx x.length 0 (by omega)) (fun h => ?_)
  rw [sameL_len x y (by omega)]
  exact Ev.now _

theorem specIns_l (p q r s : Int) (x y : List S31) (hxy : x.length = y.length) (hx : x.length ≤ 1048576) (d : Nat) : ∀ i : Nat, i + d = x.length → Ev (fun k => spec_FuncSame.l0 k (i : Int) p q x r s y) (sameL sameI (x.drop i) (y.drop i)) := by
  induction d with
  | zero =>
    intro i hi
    refine Ev.succ ?_
    simp only [spec_FuncSame.l0]
    refine Ev.no (by omega) ?_
    rw [List.drop_of_length_le (by omega), List.drop_of_length_le (by omega)]
    exact Ev.now _
  | succ d ih =>
    intro i hi
    refine Ev.succ ?_
    simp only [spec_FuncSame.l0]
    refine Ev.yes (by omega) (Ev.yes (by omega) (Ev.yes (by omega) ?_))
    have e : wrap64 ((i : Int) + 1) = ((i + 1 : Nat) : Int) := by rw [wrap_in (by omega) (by omega)]; simp
    rw [dropI x i (by omega), dropI y i (by omega), e]
    simp only [sameL]
    cases h : sameI (rd_T31 x i) (rd_T31 y i) with
    | true =>
      have h' := h
      simp only [sameI, Bool.and_eq_true, beq_iff_eq] at h'
      exact Ev.no (by rw [h'.1, h'.2]; simp) (by simpa using ih (i + 1) (by omega))
    | false => exact Ev.yes (nand h) (by simpa using Ev.now false)
theorem implIns_l (x y : List S31) (hxy : x.length = y.length) (hx : x.length ≤ 1048576) (d : Nat) : ∀ i : Nat, i + d = x.length → Ev (fun k => impl_Ins.l0 k x y (x.length : Int) (i : Int)) (sameL sameI (x.drop i) (y.drop i)) := by
  induction d with
  | zero =>
    intro i hi
    refine Ev.succ ?_
    simp only [impl_Ins.l0]
    refine Ev.no (by omega) ?_
    rw [List.drop_of_length_le (by omega), List.drop_of_length_le (by omega)]
    exact Ev.now _
  | succ d ih =>
    intro i hi
    refine Ev.succ ?_
    simp only [impl_Ins.l0]
    refine Ev.yes (by omega) (Ev.yes (by omega) (Ev.yes (by omega) (Ev.yes (by omega) ?_)))
    have e : wrap64 ((i : Int) + 1) = ((i + 1 : Nat) : Int) := by rw [wrap_in (by omega) (by omega)]; simp
    rw [dropI x i (by omega), dropI y i (by omega), e]
    simp only [sameL]
    cases h : sameI (rd_T31 x i) (rd_T31 y i) with
    | true =>
      have h' := h
      simp only [sameI, Bool.and_eq_true, beq_iff_eq] at h'
      exact Ev.no (by rw [h'.1, h'.2]; simp) (by simpa using ih (i + 1) (by omega))
    | false => exact Ev.yes (nand h) (by simpa using Ev.now false)
def sameF (p q : Int) (x : List S31) (r s : Int) (y : List S31) : Bool := p == r && (q == s && sameL sameI x y)
theorem specSame_ev (p q r s : Int) (x y : List S31) (hx : x.length ≤ 1048576) : Ev (fun k => spec_FuncSame.f k p q x r s y) (sameF p q x r s y) := by
  unfold spec_FuncSame.f sameF
  have hj : ∀ b : Bool, Ev (fun k => spec_FuncSame.j0 k true p q x r s y) false := fun b => Ev.succ (by simp only [spec_FuncSame.j0, if_true]; exact Ev.now false)
  refine Ev.cases (fun h1 => Ev.cases (fun h2 => ?_) (fun h2 => ?_)) (fun h1 => ?_)
  · refine Ev.succ ?_
    simp only [spec_FuncSame.j0]
    refine Ev.cases (fun h3 => ?_) (fun h3 => ?_)
    · rw [sameL_len x y (by simp at h3; omega)]
      simpa using Ev.now false
    · subst h1 h2
      simpa using specIns_l p q p q x y (by simp at h3; omega) hx x.length 0 (by omega)
  · rw [beq_no h2]; simpa using hj true
  · rw [beq_no h1]; simpa using hj true
theorem implSame_ev (p q r s : Int) (x y : List S31) (hx : x.length ≤ 1048576) : Ev (fun k => impl_FuncSame.f k p q x r s y) (sameF p q x r s y) := by
  unfold impl_FuncSame.f sameF impl_Ins.f
  refine Ev.cases (fun h1 => Ev.cases (fun h2 => ?_) (fun h2 => ?_)) (fun h1 => ?_)
  · refine Ev.bind (a := sameL sameI x y) (Ev.cases (fun h3 => ?_) (fun h3 => ?_)) (by simpa [h1, h2] using Ev.now (sameL sameI x y))
    · exact implIns_l x y (by omega) hx x.length 0 (by omega)
    · rw [sameL_len x y (by omega)]
      exact Ev.now _
  · rw [beq_no h2]; simpa using Ev.now false
  · rw [beq_no h1]; simpa using Ev.now false
theorem toFunc_ev (x : S53) (hl : x.f2.length ≤ 1048576) : Ev (fun k => laws_toFunc.f k x.f0 x.f1 x.f2) (x.f0, x.f1, x.f2.map toI) := by
  unfold laws_toFunc.f
  exact Ev.bind (toInsS_ev _ hl) (Ev.now _)
theorem eqFunc_refl (p q : Int) (x : List S31) (hx : x.length ≤ 1048576) : Ev (fun k => laws_eqFunc.f k p q x p q x) true := by
  unfold laws_eqFunc.f
  refine Ev.yes rfl (Ev.yes rfl (Ev.bind (eqInsS_ev x x hx) ?_))
  rw [sameL_refl sameI_refl]
  exact Ev.yes rfl (Ev.now _)
theorem szFunc_some (x : S53) (a : Int) (h0 : 0 ≤ a) (h1 : a ≤ 1048576) (hl : x.f2.length ≤ 9223372036854775807) :
    laws_szFunc.f x.f0 x.f1 x.f2 a = some (if (x.f2.length : Int) ≤ a then a - x.f2.length else -1) := by
  unfold laws_szFunc.f
  rw [szInsS_ev _ a h0 h1 hl]
  by_cases h : (x.f2.length : Int) ≤ a
  · simp only [if_pos h, Option.bind_some]; rw [if_neg (by omega)]
  · simp [if_neg h]
theorem FnExactFuncSame (x : S53) (wx : wf53 x) (y : S53) (wy : wf53 y) : ∃ k, laws_FnExactFuncSame.f k x.f0 x.f1 x.f2 y.f0 y.f1 y.f2 = some true := by
  have hx := wx.2.2.1
  have hy := wy.2.2.1
  refine Ev.rounds ?_
  unfold laws_FnExactFuncSame.f
  refine Ev.flat (szFunc_some x 1048576 (by omega) (by omega) hx) ?_
  by_cases h1 : (x.f2.length : Int) ≤ 1048576
  case neg => rw [if_neg h1]; exact Ev.yes (by omega) (Ev.now _)
  rw [if_pos h1]
  refine Ev.no (by omega) (Ev.flat (szFunc_some y _ (by omega) (by omega) hy) ?_)
  by_cases h2 : (y.f2.length : Int) ≤ 1048576 - x.f2.length
  case neg => rw [if_neg h2]; exact Ev.yes (by omega) (Ev.now _)
  rw [if_pos h2]
  have tx := toFunc_ev x (by omega)
  have ty := toFunc_ev y (by omega)
  refine Ev.no (by omega) (Ev.bind tx (Ev.bind ty (Ev.bind (specSame_ev _ _ _ _ _ _ (by simp; omega)) (Ev.bind tx (Ev.bind ty (Ev.bind (implSame_ev _ _ _ _ _ _ (by simp; omega)) ?_))))))
  refine Ev.no (by simp) (Ev.bind tx (Ev.bind (eqFunc_refl _ _ _ (by simp; omega)) (Ev.yes rfl (Ev.bind ty (Ev.bind (eqFunc_refl _ _ _ (by simp; omega)) (Ev.yes rfl (Ev.now _)))))))

end Go.Proofs.Ytmmcafjppiamhaa.Pure
