/- FnExactPutNum: the program's PutNum answers what the reference's answers, for every number. No condition. -/
import Derived.Test.YtmmcafjppiamhaaQFnExactPutNumx1
namespace Go.Proofs.Ytmmcafjppiamhaa.Pure
open Go.RowKit Go.Proofs.Ytmmcafjppiamhaa.QFnExactPutNum Go.Proofs.YtmmcafjppiamhaaW.PrintWords Go.Proofs.YtmmcafjppiamhaaW.PrintLast
set_option linter.unusedVariables false
set_option linter.unusedSimpArgs false

/-! plain words: rounds, wraps, lists -/
theorem Ev.succ {α : Type} {g : Nat → Option α} {r : α} (h : Ev (fun k => g (k + 1)) r) : Ev g r := Ev.step (fun _ => rfl) h
theorem Ev.yes {α : Type} {c : Prop} [Decidable c] {g f : Nat → Option α} {r : α} (hc : c) (h : Ev g r) : Ev (fun k => if c then g k else f k) r := Ev.congr (fun _ => if_pos hc) h
theorem Ev.no {α : Type} {c : Prop} [Decidable c] {g f : Nat → Option α} {r : α} (hc : ¬ c) (h : Ev f r) : Ev (fun k => if c then g k else f k) r := Ev.congr (fun _ => if_neg hc) h
theorem Ev.cases {α : Type} {c : Prop} [Decidable c] {g f : Nat → Option α} {r : α} (h1 : c → Ev g r) (h2 : ¬ c → Ev f r) : Ev (fun k => if c then g k else f k) r := by
  by_cases hc : c
  · exact Ev.yes hc (h1 hc)
  · exact Ev.no hc (h2 hc)
/-- A call that needs no rounds. -/
theorem Ev.flat {α β : Type} {g : Option α} {f : Nat → α → Option β} {a : α} {r : β} (h : g = some a) (k : Ev (fun n => f n a) r) : Ev (fun n => g.bind (f n)) r := Ev.bind (g := fun _ => g) ⟨0, fun _ _ => h⟩ k
theorem wrap_in {n : Int} (h0 : -9223372036854775808 ≤ n) (h1 : n ≤ 9223372036854775807) : wrap64 n = n := by unfold wrap64; omega
theorem wrap_lo (n : Int) : -9223372036854775808 ≤ wrap64 n := by unfold wrap64; omega
theorem wrap_hi (n : Int) : wrap64 n ≤ 9223372036854775807 := by unfold wrap64; omega
theorem wf64 {n : Int} (h : (Lit.int .i64 n).wf = true) : -9223372036854775808 ≤ n ∧ n ≤ 9223372036854775807 := by
  simp only [Lit.wf, IntKind.min, IntKind.max, IntKind.signed, IntKind.bits, Bool.and_eq_true, decide_eq_true_eq, if_true] at h
  omega
theorem drop_at {α : Type} (x : List α) (z : α) (i : Nat) (h : i < x.length) : x.drop i = x.getD i z :: x.drop (i + 1) := by
  rw [List.drop_eq_getElem_cons h, List.getD_eq_getElem?_getD, List.getElem?_eq_getElem h]; rfl
/-- Two lists, place by place. -/
def sameL {α : Type} (s : α → α → Bool) : List α → List α → Bool
  | [], [] => true
  | a :: x, b :: y => s a b && sameL s x y
  | _, _ => false
theorem sameL_refl {α : Type} {s : α → α → Bool} (hs : ∀ a, s a a = true) : ∀ x : List α, sameL s x x = true
  | [] => rfl
  | a :: x => by simp [sameL, hs a, sameL_refl hs x]
theorem sameL_len {α : Type} {s : α → α → Bool} : ∀ x y : List α, x.length ≠ y.length → sameL s x y = false
  | [], [], h => absurd rfl h
  | [], _ :: _, _ => rfl
  | _ :: _, [], _ => rfl
  | a :: x, b :: y, h => by simp [sameL, sameL_len x y (fun e => h (by simp [e]))]
theorem nand {a b : Bool} (h : (a && b) = false) : (!a || !b) = true := by cases a <;> cases b <;> simp_all
theorem beq_no {a b : Int} (h : ¬ a = b) : (a == b) = false := beq_eq_false_iff_ne.2 h

/-! a number's bytes -/
theorem u64w (x : Int) : IntKind.u64.wrap x = x % 18446744073709551616 := by simp [IntKind.wrap, IntKind.signed, IntKind.bits]
def foldV (n : Int) : Nat := if n < 0 then (-2 * n - 1).toNat else (2 * n).toNat
def encB (u : Nat) : List Int := if u < 128 then [(u : Int)] else ((u % 128 + 128 : Nat) : Int) :: encB (u / 128)
termination_by u
decreasing_by omega
theorem encB_small {u : Nat} (h : u < 128) : encB u = [(u : Int)] := by rw [encB, if_pos h]
theorem encB_big {u : Nat} (h : ¬ u < 128) : encB u = ((u % 128 + 128 : Nat) : Int) :: encB (u / 128) := by rw [encB, if_neg h]
theorem or128 : ∀ n : Nat, n < 256 → Go.bits .or .u8 (n : Int) 128 = ((n % 128 + 128 : Nat) : Int) := by decide +kernel
theorem xor_ones (x : Int) (h0 : 0 ≤ x) (h1 : x < 18446744073709551616) : Go.bits .xor .u64 18446744073709551615 x = 18446744073709551615 - x := by
  show IntKind.u64.wrap ((BitVec.ofInt 64 18446744073709551615 ^^^ BitVec.ofInt 64 x).toNat : Int) = _
  have e : BitVec.ofInt 64 18446744073709551615 = BitVec.allOnes 64 := by decide +kernel
  have hx : (BitVec.ofInt 64 x).toNat = x.toNat := by
    rw [BitVec.toNat_ofInt, Int.emod_eq_of_lt h0 (by simpa using h1)]
  rw [e, BitVec.allOnes_xor, BitVec.toNat_not, hx, u64w]
  omega
theorem foldV_lt (n : Int) (h0 : -9223372036854775808 ≤ n) (h1 : n ≤ 9223372036854775807) : foldV n < 18446744073709551616 := by unfold foldV; split <;> omega
theorem bytes_l (m : Nat) : ∀ (u : Nat) (y : List Int), u < 128 ^ m → u < 18446744073709551616 → y.length + m ≤ 1048676 → Ev (fun k => impl_numBytes.l0 k (u : Int) y) (y ++ encB u) := by
  induction m with
  | zero =>
    intro u y hu _ hy
    have hu0 : u = 0 := by simpa using hu
    subst hu0
    refine Ev.succ ?_
    simp only [impl_numBytes.l0]
    refine Ev.no (by omega) (Ev.yes (by omega) ?_)
    rw [encB_small (by omega)]
    exact Ev.now _
  | succ m ih =>
    intro u y hu hb hy
    refine Ev.succ ?_
    simp only [impl_numBytes.l0]
    by_cases h : u < 128
    · refine Ev.no (by omega) (Ev.yes (by omega) ?_)
      rw [encB_small h, show ((u : Int) % 256) = u by omega]
      exact Ev.now _
    · refine Ev.yes (by omega) (Ev.yes (by omega) ?_)
      have e1 : Go.bits .or .u8 ((u : Int) % 256) 128 = ((u % 128 + 128 : Nat) : Int) := by
        have := or128 (u % 256) (by omega)
        rw [show (((u % 256 : Nat) : Int)) = (u : Int) % 256 by omega] at this
        rw [this]
        omega
      have e2 : (u : Int) / 128 = ((u / 128 : Nat) : Int) := by omega
      rw [encB_big h, e1, e2]
      have := ih (u / 128) (y ++ [((u % 128 + 128 : Nat) : Int)]) (by rw [Nat.pow_succ] at hu; omega) (by omega) (by simp; omega)
      simpa using this
theorem numBytes_ev (n : Int) (h0 : -9223372036854775808 ≤ n) (h1 : n ≤ 9223372036854775807) : Ev (fun k => impl_numBytes.f k n) (encB (foldV n)) := by
  unfold impl_numBytes.f
  have hl := foldV_lt n h0 h1
  have key : Ev (fun k => impl_numBytes.j0 k (foldV n : Int)) (encB (foldV n)) := by
    refine Ev.succ ?_
    simp only [impl_numBytes.j0]
    simpa using bytes_l 10 (foldV n) [] (Nat.lt_trans hl (by decide)) hl (by simp)
  refine Ev.cases (fun h => ?_) (fun h => ?_)
  · have e : Go.bits .xor .u64 18446744073709551615 (IntKind.u64.wrap (IntKind.u64.wrap n * 2)) = (foldV n : Int) := by
      rw [u64w, u64w, xor_ones _ (by omega) (by omega)]
      unfold foldV
      rw [if_pos h]
      omega
    rw [e]
    exact key
  · have e : IntKind.u64.wrap (IntKind.u64.wrap n * 2) = (foldV n : Int) := by
      rw [u64w, u64w]
      unfold foldV
      rw [if_neg h]
      omega
    rw [e]
    exact key

theorem specBytes_l (m : Nat) : ∀ (u : Nat) (y : List Int), u < 128 ^ m → u < 18446744073709551616 → y.length + m ≤ 1048676 → Ev (fun k => spec_PutNum.l0 k (u : Int) y) (strOfNums (y ++ encB u)) := by
  induction m with
  | zero =>
    intro u y hu _ hy
    have hu0 : u = 0 := by simpa using hu
    subst hu0
    refine Ev.succ ?_
    simp only [spec_PutNum.l0]
    refine Ev.no (by omega) (Ev.yes (by omega) ?_)
    rw [encB_small (by omega)]
    exact Ev.now _
  | succ m ih =>
    intro u y hu hb hy
    refine Ev.succ ?_
    simp only [spec_PutNum.l0]
    by_cases h : u < 128
    · refine Ev.no (by omega) (Ev.yes (by omega) ?_)
      rw [encB_small h, show ((u : Int) % 256) = u by omega]
      exact Ev.now _
    · refine Ev.yes (by omega) (Ev.yes (by omega) ?_)
      have e1 : (IntKind.u64.wrap (Int.tmod (u : Int) 128 + 128)) % 256 = ((u % 128 + 128 : Nat) : Int) := by
        rw [u64w, Int.tmod_eq_emod_of_nonneg (by omega)]
        omega
      have e2 : IntKind.u64.wrap (Int.tdiv (u : Int) 128) = ((u / 128 : Nat) : Int) := by
        rw [u64w, Int.tdiv_eq_ediv_of_nonneg (by omega)]
        omega
      rw [encB_big h, e1, e2]
      have := ih (u / 128) (y ++ [((u % 128 + 128 : Nat) : Int)]) (by rw [Nat.pow_succ] at hu; omega) (by omega) (by simp; omega)
      simpa using this
theorem fold_some (n : Int) (h0 : -9223372036854775808 ≤ n) (h1 : n ≤ 9223372036854775807) : spec_l01Fold.f n = some (foldV n : Int) := by
  unfold spec_l01Fold.f foldV
  by_cases h : n < 0
  · rw [if_pos h, if_pos h, wrap_in (n := n + 1) (by omega) (by omega), wrap_in (by omega) (by omega)]
    simp only [u64w]
    congr 1
    omega
  · rw [if_neg h, if_neg h]
    simp only [u64w]
    congr 1
    omega
theorem specPut_ev (n : Int) (h0 : -9223372036854775808 ≤ n) (h1 : n ≤ 9223372036854775807) : Ev (fun k => spec_PutNum.f k n) (strOfNums (encB (foldV n))) := by
  unfold spec_PutNum.f
  have hl := foldV_lt n h0 h1
  refine Ev.flat (fold_some n h0 h1) ?_
  simpa using specBytes_l 10 (foldV n) [] (Nat.lt_trans hl (by decide)) hl (by simp)

theorem implPut_ev (n : Int) (h0 : -9223372036854775808 ≤ n) (h1 : n ≤ 9223372036854775807) : Ev (fun k => impl_PutNum.f k n) (strOfNums (encB (foldV n))) := by
  unfold impl_PutNum.f
  exact Ev.bind (numBytes_ev n h0 h1) (Ev.now _)
theorem FnExactPutNum : laws_FnExactPutNum.Pure := by
  intro n h
  obtain ⟨h0, h1⟩ := wf64 h
  refine Ev.rounds ?_
  unfold laws_FnExactPutNum.f
  exact Ev.bind (specPut_ev n h0 h1) (Ev.bind (implPut_ev n h0 h1) (Ev.yes rfl (Ev.now _)))

end Go.Proofs.Ytmmcafjppiamhaa.Pure
