/- FnNums: a drawn number is got back from its bytes, with the place behind them; of bytes that end too early nothing is got; drawn numbers put together are got back one by one. No condition. -/
import Derived.Test.YtkmohnlkldkhdaaQFnNumsx
namespace Go.Proofs.Ytkmohnlkldkhdaa.Pure
open Go.RowKit Go.Proofs.Ytkmohnlkldkhdaa.QFnNums Go.Proofs.YtkmohnlkldkhdaaW.PrintWords Go.Proofs.YtkmohnlkldkhdaaW.PrintLast
set_option linter.unusedVariables false
set_option linter.unusedSimpArgs false
theorem Ev.succ {α : Type} {g : Nat → Option α} {r : α} (h : Ev (fun k => g (k + 1)) r) : Ev g r := Ev.step (fun _ => rfl) h
theorem Ev.yes {α : Type} {c : Prop} [Decidable c] {g f : Nat → Option α} {r : α} (hc : c) (h : Ev g r) : Ev (fun k => if c then g k else f k) r := Ev.congr (fun _ => if_pos hc) h
theorem Ev.no {α : Type} {c : Prop} [Decidable c] {g f : Nat → Option α} {r : α} (hc : ¬ c) (h : Ev f r) : Ev (fun k => if c then g k else f k) r := Ev.congr (fun _ => if_neg hc) h
theorem Ev.cases {α : Type} {c : Prop} [Decidable c] {g f : Nat → Option α} {r : α} (h1 : c → Ev g r) (h2 : ¬ c → Ev f r) : Ev (fun k => if c then g k else f k) r := by
 by_cases hc : c
 ·exact Ev.yes hc (h1 hc)
 ·exact Ev.no hc (h2 hc)
/-- A call that needs no rounds. -/
theorem Ev.flat {α β : Type} {g : Option α} {f : Nat → α → Option β} {a : α} {r : β} (h : g = some a) (k : Ev (fun n => f n a) r) : Ev (fun n => g.bind (f n)) r := Ev.bind (g := fun _ => g) ⟨0, fun _ _ => h⟩ k
theorem wrap_in {n : Int} (h0 : -9223372036854775808 ≤ n) (h1 : n ≤ 9223372036854775807) : wrap64 n = n := by unfold wrap64; omega
theorem wrap_lo (n : Int) : -9223372036854775808 ≤ wrap64 n := by unfold wrap64; omega
theorem wrap_hi (n : Int) : wrap64 n ≤ 9223372036854775807 := by unfold wrap64; omega
/-- Two lists, place by place. -/
theorem beq_no {a b : Int} (h : ¬ a = b) : (a == b) = false := beq_eq_false_iff_ne.2 h
theorem u64w (x : Int) : IntKind.u64.wrap x = x % 18446744073709551616 := by simp [IntKind.wrap, IntKind.signed, IntKind.bits]
def foldV (n : Int) : Nat := if n < 0 then (-2 * n - 1).toNat else (2 * n).toNat
def encB (u : Nat) : List Int := if u < 128 then [(u : Int)] else ((u % 128 + 128 : Nat) : Int) :: encB (u / 128)
termination_by u
decreasing_by omega
theorem encB_small {u : Nat} (h : u < 128) : encB u = [(u : Int)] := by rw [encB, if_pos h]
theorem encB_big {u : Nat} (h : ¬ u < 128) : encB u = ((u % 128 + 128 : Nat) : Int) :: encB (u / 128) := by rw [encB, if_neg h]
theorem or128 : ∀ n : Nat, n < 256 → Go.bits .or .u8 (n : Int) 128 = ((n % 128 + 128 : Nat) : Int) := by decide +kernel
theorem xor_ones (x : Int) (h0 : 0 ≤ x) (h1 : x < 18446744073709551616) : Go.bits .xor .u64 18446744073709551615 x = 18446744073709551615 - x := by
 show IntKind.u64.wrap ((BitVec.ofInt 64 18446744073709551615 ^^^ BitVec.ofInt 64 x).toNat : Int) = _
 have e : BitVec.ofInt 64 18446744073709551615 = BitVec.allOnes 64 := by decide +kernel
 have hx : (BitVec.ofInt 64 x).toNat = x.toNat := by
  rw [BitVec.toNat_ofInt, Int.emod_eq_of_lt h0 (by simpa using h1)]
 rw [e, BitVec.allOnes_xor, BitVec.toNat_not, hx, u64w]
 omega
theorem foldV_lt (n : Int) (h0 : -9223372036854775808 ≤ n) (h1 : n ≤ 9223372036854775807) : foldV n < 18446744073709551616 := by unfold foldV; split <;> omega
theorem bytes_l (m : Nat) : ∀ (u : Nat) (y : List Int), u < 128 ^ m → u < 18446744073709551616 → y.length + m ≤ 1048676 → Ev (fun k => impl_numBytes.l0 k (u : Int) y) (y ++ encB u) := by
 induction m with
 | zero =>
  intro u y hu _ hy
  have hu0 : u = 0 := by simpa using hu
  subst hu0
  refine Ev.succ ?_
  simp only [impl_numBytes.l0]
  refine Ev.no (by omega) (Ev.yes (by omega) ?_)
  rw [encB_small (by omega)]
  exact Ev.now _
 | succ m ih =>
  intro u y hu hb hy
  refine Ev.succ ?_
  simp only [impl_numBytes.l0]
  by_cases h : u < 128
  ·refine Ev.no (by omega) (Ev.yes (by omega) ?_)
   rw [encB_small h, show ((u : Int) % 256) = u by omega]
   exact Ev.now _
  ·refine Ev.yes (by omega) (Ev.yes (by omega) ?_)
   have e1 : Go.bits .or .u8 ((u : Int) % 256) 128 = ((u % 128 + 128 : Nat) : Int) := by
    have := or128 (u % 256) (by omega)
    rw [show (((u % 256 : Nat) : Int)) = (u : Int) % 256 by omega] at this
    rw [this]
    omega
   have e2 : (u : Int) / 128 = ((u / 128 : Nat) : Int) := by omega
   rw [encB_big h, e1, e2]
   have := ih (u / 128) (y ++ [((u % 128 + 128 : Nat) : Int)]) (by rw [Nat.pow_succ] at hu; omega) (by omega) (by simp; omega)
   simpa using this
theorem numBytes_ev (n : Int) (h0 : -9223372036854775808 ≤ n) (h1 : n ≤ 9223372036854775807) : Ev (fun k => impl_numBytes.f k n) (encB (foldV n)) := by
 unfold impl_numBytes.f
 have hl := foldV_lt n h0 h1
 have key : Ev (fun k => impl_numBytes.j0 k (foldV n : Int)) (encB (foldV n)) := by
  refine Ev.succ ?_
  simp only [impl_numBytes.j0]
  simpa using bytes_l 10 (foldV n) [] (Nat.lt_trans hl (by decide)) hl (by simp)
 refine Ev.cases (fun h => ?_) (fun h => ?_)
 ·have e : Go.bits .xor .u64 18446744073709551615 (IntKind.u64.wrap (IntKind.u64.wrap n * 2)) = (foldV n : Int) := by
   rw [u64w, u64w, xor_ones _ (by omega) (by omega)]
   unfold foldV
   rw [if_pos h]
   omega
  rw [e]
  exact key
 ·have e : IntKind.u64.wrap (IntKind.u64.wrap n * 2) = (foldV n : Int) := by
   rw [u64w, u64w]
   unfold foldV
   rw [if_neg h]
   omega
  rw [e]
  exact key
theorem specBytes_l (m : Nat) : ∀ (u : Nat) (y : List Int), u < 128 ^ m → u < 18446744073709551616 → y.length + m ≤ 1048676 → Ev (fun k => spec_PutNum.l0 k (u : Int) y) (strOfNums (y ++ encB u)) := by
 induction m with
 | zero =>
  intro u y hu _ hy
  have hu0 : u = 0 := by simpa using hu
  subst hu0
  refine Ev.succ ?_
  simp only [spec_PutNum.l0]
  refine Ev.no (by omega) (Ev.yes (by omega) ?_)
  rw [encB_small (by omega)]
  exact Ev.now _
 | succ m ih =>
  intro u y hu hb hy
  refine Ev.succ ?_
  simp only [spec_PutNum.l0]
  by_cases h : u < 128
  ·refine Ev.no (by omega) (Ev.yes (by omega) ?_)
   rw [encB_small h, show ((u : Int) % 256) = u by omega]
   exact Ev.now _
  ·refine Ev.yes (by omega) (Ev.yes (by omega) ?_)
   have e1 : (IntKind.u64.wrap (Int.tmod (u : Int) 128 + 128)) % 256 = ((u % 128 + 128 : Nat) : Int) := by
    rw [u64w, Int.tmod_eq_emod_of_nonneg (by omega)]
    omega
   have e2 : IntKind.u64.wrap (Int.tdiv (u : Int) 128) = ((u / 128 : Nat) : Int) := by
    rw [u64w, Int.tdiv_eq_ediv_of_nonneg (by omega)]
    omega
   rw [encB_big h, e1, e2]
   have := ih (u / 128) (y ++ [((u % 128 + 128 : Nat) : Int)]) (by rw [Nat.pow_succ] at hu; omega) (by omega) (by simp; omega)
   simpa using this
theorem fold_some (n : Int) (h0 : -9223372036854775808 ≤ n) (h1 : n ≤ 9223372036854775807) : spec_l01Fold.f n = some (foldV n : Int) := by
 unfold spec_l01Fold.f foldV
 by_cases h : n < 0
 ·rw [if_pos h, if_pos h, wrap_in (n := n + 1) (by omega) (by omega), wrap_in (by omega) (by omega)]
  simp only [u64w]
  congr 1
  omega
 ·rw [if_neg h, if_neg h]
  simp only [u64w]
  congr 1
  omega
theorem specPut_ev (n : Int) (h0 : -9223372036854775808 ≤ n) (h1 : n ≤ 9223372036854775807) : Ev (fun k => spec_PutNum.f k n) (strOfNums (encB (foldV n))) := by
 unfold spec_PutNum.f
 have hl := foldV_lt n h0 h1
 refine Ev.flat (fold_some n h0 h1) ?_
 simpa using specBytes_l 10 (foldV n) [] (Nat.lt_trans hl (by decide)) hl (by simp)
theorem i64w (n : Int) : IntKind.i64.wrap n = wrap64 n := by
 unfold wrap64
 simp [IntKind.wrap, IntKind.bits, IntKind.signed]
 split <;> omega
theorem toNat64 (x : Int) : (BitVec.ofInt 64 x).toNat = (x % 18446744073709551616).toNat := by rw [BitVec.toNat_ofInt]; rfl
theorem not64 (a : Int) (h0 : -9223372036854775808 ≤ a) (h1 : a ≤ 9223372036854775807) : Go.bits .xor .i64 (-1) a = -a - 1 := by
 show IntKind.i64.wrap ((BitVec.ofInt 64 (-1) ^^^ BitVec.ofInt 64 a).toNat : Int) = _
 have e : BitVec.ofInt 64 (-1) = BitVec.allOnes 64 := by decide +kernel
 rw [e, BitVec.allOnes_xor, BitVec.toNat_not, toNat64, i64w]
 unfold wrap64
 omega
def vw (T : ByteArray) : List Int := T.data.toList.map (fun b => (b.toNat : Int))
theorem vw_len (T : ByteArray) : (vw T).length = T.size := by unfold vw; rw [List.length_map, Array.length_toList]; rfl
theorem vw_bt (T : ByteArray) (i : Nat) : bt T (i : Int) = (vw T).getD i 0 := by
 unfold bt vw
 by_cases h : i < T.size
 ·have h2 : i < T.data.toList.length := by rw [Array.length_toList]; exact h
  rw [dif_pos (by rw [Int.toNat_natCast]; exact h), List.getD_eq_getElem?_getD, List.getElem?_map, List.getElem?_eq_getElem h2]
  rfl
 ·have h2 : ¬ i < T.data.toList.length := by rw [Array.length_toList]; exact h
  rw [dif_neg (by rw [Int.toNat_natCast]; exact h), List.getD_eq_getElem?_getD, List.getElem?_eq_none (by rw [List.length_map]; omega)]
  rfl
theorem vw_append (A B : ByteArray) : vw (A ++ B) = vw A ++ vw B := by simp [vw]
theorem vw_nums (l : List Int) (h : ∀ x ∈ l, 0 ≤ x ∧ x < 256) : vw (strOfNums l) = l := by
 unfold vw
 rw [strOfNums_data, List.map_map]
 conv => rhs; rw [← List.map_id l]
 refine List.map_congr_left (fun x hx => ?_)
 have := h x hx
 simp only [Function.comp, id, UInt8.toNat_ofNat']
 omega
theorem vw_extract (T : ByteArray) (n : Nat) : vw (T.extract 0 n) = (vw T).take n := by
 unfold vw
 rw [ByteArray.data_extract, Array.toList_extract, List.extract_eq_take_drop, List.drop_zero, Nat.sub_zero, List.map_take]
theorem and127 : ∀ n : Nat, n < 256 → Go.bits .and .u8 (n : Int) 127 = ((n % 128 : Nat) : Int) := by decide +kernel
theorem or_add (x y s : Nat) (hx : x < 2 ^ s) (hy : x + y * 2 ^ s < 18446744073709551616) : Go.bits .or .u64 (x : Int) ((y * 2 ^ s : Nat) : Int) = ((x + y * 2 ^ s : Nat) : Int) := by
 show IntKind.u64.wrap ((BitVec.ofInt 64 (x : Int) ||| BitVec.ofInt 64 ((y * 2 ^ s : Nat) : Int)).toNat : Int) = _
 have e : x ||| y * 2 ^ s = x + y * 2 ^ s := by
  have := Nat.two_pow_add_eq_or_of_lt hx y
  rw [Nat.or_comm, Nat.mul_comm y, ← this, Nat.add_comm]
 rw [BitVec.toNat_or, toNat64, toNat64, u64w]
 rw [show ((x : Int) % 18446744073709551616).toNat = x by omega, show (((y * 2 ^ s : Nat) : Int) % 18446744073709551616).toNat = y * 2 ^ s by omega, e]
 omega
theorem and_one (u : Nat) (h : u < 18446744073709551616) : Go.bits .and .u64 (u : Int) 1 = ((u % 2 : Nat) : Int) := by
 show IntKind.u64.wrap ((BitVec.ofInt 64 (u : Int) &&& BitVec.ofInt 64 1).toNat : Int) = _
 rw [BitVec.toNat_and, toNat64, u64w, show ((u : Int) % 18446744073709551616).toNat = u by omega, show (BitVec.ofInt 64 1).toNat = 1 from rfl, Nat.and_one_is_mod]
 omega
theorem shl_u (d i : Nat) (hi : i ≤ 9) (h : d * 2 ^ (7 * i) < 18446744073709551616) : shl .u64 (d : Int) ((7 * i : Nat) : Int) = ((d * 2 ^ (7 * i) : Nat) : Int) := by
 have := shl_small (k := .u64) (x := (d : Int)) (y := ((7 * i : Nat) : Int)) rfl (by simp [IntKind.bits]; omega)
 rw [Int.toNat_natCast, u64w] at this
 rw [← this]
 have e : (d : Int) * 2 ^ (7 * i) = ((d * 2 ^ (7 * i) : Nat) : Int) := by simp
 rw [e]
 omega
def unf (u : Nat) : Int := if u % 2 = 1 then -((u / 2 : Nat) : Int) - 1 else ((u / 2 : Nat) : Int)
theorem unf_fold (n : Int) : unf (foldV n) = n := by
 unfold unf foldV
 by_cases h : n < 0
 ·rw [if_pos h, if_pos (by omega)]; omega
 ·rw [if_neg h, if_neg (by omega)]; omega
theorem encB_pos (u : Nat) : 0 < (encB u).length := by
 by_cases h : u < 128
 ·rw [encB_small h]; simp
 ·rw [encB_big h]; simp
theorem encB_ok (m : Nat) : ∀ u : Nat, u < 128 ^ m → (∀ x ∈ encB u, 0 ≤ x ∧ x < 256) ∧ (encB u).length ≤ m + 1 := by
 induction m with
 | zero =>
  intro u hu
  have : u = 0 := by simpa using hu
  subst this
  rw [encB_small (by omega)]
  simp
 | succ m ih =>
  intro u hu
  by_cases h : u < 128
  ·rw [encB_small h]
   exact ⟨fun x hx => by simp at hx; subst hx; omega, by simp⟩
  ·rw [encB_big h]
   have := ih (u / 128) (by rw [Nat.pow_succ] at hu; omega)
   refine ⟨fun x hx => ?_, by simp; exact this.2⟩
   rcases List.mem_cons.1 hx with rfl | hx
   ·omega
   ·exact this.1 x hx
theorem pow7 (i : Nat) : 2 ^ (7 * (i + 1)) = 128 * 2 ^ (7 * i) := by rw [show 7 * (i + 1) = 7 + 7 * i by omega, Nat.pow_add]
theorem small_i {v i : Nat} (hv : 0 < v) (h : v * 2 ^ (7 * i) < 18446744073709551616) : i ≤ 9 := by
 rcases Nat.lt_or_ge 9 i with q | q
 ·exfalso
  have h1 : 2 ^ (7 * 10) ≤ 2 ^ (7 * i) := Nat.pow_le_pow_right (by decide) (by omega)
  have h2 : 2 ^ (7 * i) ≤ v * 2 ^ (7 * i) := Nat.le_mul_of_pos_left _ hv
  have h3 : (2 : Nat) ^ (7 * 10) = 1180591620717411303424 := by decide
  omega
 ·exact q
theorem byte_at {T : ByteArray} {p : Nat} {b : Int} {Y : List Int} (h : (vw T).drop p = b :: Y) : bt T (p : Int) = b ∧ p < T.size := by
 have hl : p < (vw T).length := by
  rcases Nat.lt_or_ge p (vw T).length with q | q
  ·exact q
  ·rw [List.drop_of_length_le q] at h; cases h
 rw [List.drop_eq_getElem_cons hl] at h
 injection h with h1 h2
 rw [vw_bt, List.getD_eq_getElem?_getD, List.getElem?_eq_getElem hl]
 exact ⟨h1, by rw [← vw_len]; exact hl⟩
theorem drop_next {T : ByteArray} {p : Nat} {b : Int} {Y : List Int} (h : (vw T).drop p = b :: Y) : (vw T).drop (p + 1) = Y := by
 rw [← List.drop_drop, h]; rfl
theorem wadd {a i : Nat} (h : a + i ≤ 40000) : wrap64 ((a : Int) + (i : Int)) = ((a + i : Nat) : Int) := by rw [wrap_in (by omega) (by omega)]; omega
theorem w7i {i : Nat} (h : i ≤ 9) : wrap64 (7 * (i : Int)) = ((7 * i : Nat) : Int) := by rw [wrap_in (by omega) (by omega)]; omega
theorem winc {i : Nat} (h : i ≤ 40000) : wrap64 ((i : Int) + 1) = ((i + 1 : Nat) : Int) := by rw [wrap_in (by omega) (by omega)]; omega
theorem ge_no {a n : Nat} (h : a < n) : decide ((a : Int) ≥ (n : Int)) = false := decide_eq_false (by omega)
theorem get_step {T : ByteArray} {a i acc v : Nat} {Y : List Int} {r : Int × Int × Int} (hT : T.size ≤ 20000) (hv : 128 ≤ v) (h1 : acc < 2 ^ (7 * i)) (h2 : acc + v * 2 ^ (7 * i) < 18446744073709551616) (hb : (vw T).drop (a + i) = ((v % 128 + 128 : Nat) : Int) :: Y)
  (h : Ev (fun k => impl_getNum.l0 k T (a : Int) ((acc + v % 128 * 2 ^ (7 * i) : Nat) : Int) ((i + 1 : Nat) : Int)) r) : Ev (fun k => impl_getNum.l0 k T (a : Int) (acc : Int) (i : Int)) r := by
 obtain ⟨hbt, hlt⟩ := byte_at hb
 have hi : i ≤ 8 := by
  have := small_i (v := v / 128) (i := i + 1) (by omega) (by
   rw [pow7]
   have : v / 128 * (128 * 2 ^ (7 * i)) = (v / 128 * 128) * 2 ^ (7 * i) := by rw [Nat.mul_assoc]
   rw [this]
   have : v / 128 * 128 * 2 ^ (7 * i) ≤ v * 2 ^ (7 * i) := Nat.mul_le_mul_right _ (by omega)
   omega)
  omega
 have hm : v % 128 * 2 ^ (7 * i) ≤ v * 2 ^ (7 * i) := Nat.mul_le_mul_right _ (Nat.mod_le _ _)
 have hq : v % 128 * 2 ^ (7 * i) < 18446744073709551616 := by omega
 have hq2 : acc + v % 128 * 2 ^ (7 * i) < 18446744073709551616 := by omega
 have hb' : v % 128 + 128 < 256 := by omega
 have ed : IntKind.u64.wrap (Go.bits .and .u8 ((v % 128 + 128 : Nat) : Int) 127) = ((v % 128 : Nat) : Int) := by
  rw [and127 _ hb', u64w]; omega
 have eor : Go.bits .or .u64 (acc : Int) (shl .u64 ((v % 128 : Nat) : Int) ((7 * i : Nat) : Int)) = ((acc + v % 128 * 2 ^ (7 * i) : Nat) : Int) := by
  rw [shl_u _ i (Nat.le_succ_of_le hi) hq, or_add acc (v % 128) (7 * i) h1 hq2]
 generalize hG : acc + v % 128 * 2 ^ (7 * i) = G at h eor
 clear hG hq hq2 hm h1 h2 hb
 have w1 : wrap64 ((a : Int) + (i : Int)) = ((a + i : Nat) : Int) := wadd (by omega)
 have w7 : wrap64 (7 * (i : Int)) = ((7 * i : Nat) : Int) := w7i (by omega)
 have hd : decide (wrap64 ((a : Int) + (i : Int)) ≥ (T.size : Int)) = false := by rw [w1]; exact ge_no hlt
 refine Ev.succ ?_
 simp only [impl_getNum.l0]
 refine Ev.no (by omega) ?_
 rw [hd]
 have j2 : Ev (fun k => impl_getNum.j2 k T (a : Int) (acc : Int) (i : Int) ((v % 128 + 128 : Nat) : Int) false) r := by
  refine Ev.succ ?_
  simp only [impl_getNum.j2]
  refine Ev.no (by simp) (Ev.yes (by rw [w7]; omega) (Ev.no (by omega) ?_))
  rw [ed, w7, eor, winc (by omega)]
  exact h
 have hne : ((((v % 128 + 128 : Nat) : Int)) == 0) = false := beq_no (by omega)
 refine Ev.succ ?_
 simp only [impl_getNum.j1]
 refine Ev.no (by simp) (Ev.yes (by rw [w1]; omega) (Ev.yes (by rw [w1]; omega) (Ev.no (by omega) ?_)))
 rw [w1, hbt, hne]
 exact Ev.cases (fun _ => j2) (fun _ => j2)
theorem get_last {T : ByteArray} {a i acc v : Nat} {Y : List Int} (hT : T.size ≤ 20000) (hv : v < 128) (h1 : acc < 2 ^ (7 * i)) (h2 : acc + v * 2 ^ (7 * i) < 18446744073709551616) (h3 : 0 < i → 0 < v) (hb : (vw T).drop (a + i) = encB v ++ Y) : Ev (fun k => impl_getNum.l0 k T (a : Int) (acc : Int) (i : Int)) (unf (acc + v * 2 ^ (7 * i)), ((a + i + (encB v).length : Nat) : Int), 0) := by
 rw [encB_small hv] at hb
 obtain ⟨hbt, hlt⟩ := byte_at hb
 rw [encB_small hv]
 have hi : i ≤ 9 := by
  by_cases q : 0 < i
  ·exact small_i (h3 q) (by omega)
  ·omega
 have h9 : i = 9 → v ≤ 1 := by
  intro q
  subst q
  have : (2 : Nat) ^ (7 * 9) = 9223372036854775808 := by decide
  rw [this] at h2
  omega
 have hq : v * 2 ^ (7 * i) < 18446744073709551616 := by omega
 have eor : Go.bits .or .u64 (acc : Int) (shl .u64 (v : Int) ((7 * i : Nat) : Int)) = ((acc + v * 2 ^ (7 * i) : Nat) : Int) := by
  rw [shl_u _ i hi hq, or_add acc v (7 * i) h1 h2]
 clear hq h1
 generalize acc + v * 2 ^ (7 * i) = U at h2 eor
 clear hb
 have w1 : wrap64 ((a : Int) + (i : Int)) = ((a + i : Nat) : Int) := wadd (by omega)
 have w7 : wrap64 (7 * (i : Int)) = ((7 * i : Nat) : Int) := w7i hi
 have w2 : wrap64 (((a + i : Nat) : Int) + 1) = ((a + i + [(v : Int)].length : Nat) : Int) := winc (by omega)
 have hd : decide (wrap64 ((a : Int) + (i : Int)) ≥ (T.size : Int)) = false := by rw [w1]; exact ge_no hlt
 refine Ev.succ ?_
 simp only [impl_getNum.l0]
 refine Ev.no (by omega) ?_
 rw [hd]
 have j2 : Ev (fun k => impl_getNum.j2 k T (a : Int) (acc : Int) (i : Int) (v : Int) false) (unf U, ((a + i + [(v : Int)].length : Nat) : Int), 0) := by
  refine Ev.succ ?_
  simp only [impl_getNum.j2]
  have ed : IntKind.u64.wrap (Go.bits .and .u8 (v : Int) 127) = (v : Int) := by
   rw [and127 _ (by omega), u64w]; omega
  refine Ev.no (by simp) (Ev.yes (by rw [w7]; omega) (Ev.yes (by omega) ?_))
  rw [ed, w7, eor, and_one _ h2, w1, w2]
  have wu : wrap64 ((U : Int) / 2) = ((U / 2 : Nat) : Int) := by rw [wrap_in (by omega) (by omega)]; omega
  rw [wu]
  unfold unf
  by_cases q : U % 2 = 1
  ·refine Ev.yes (by omega) ?_
   rw [if_pos q, not64 _ (by omega) (by omega)]
   exact Ev.now _
  ·refine Ev.no (by omega) ?_
   rw [if_neg q]
   exact Ev.now _
 have fin : Ev (fun k => if (i : Int) > 0 then impl_getNum.j2 k T (a : Int) (acc : Int) (i : Int) (v : Int) ((v : Int) == 0) else impl_getNum.j2 k T (a : Int) (acc : Int) (i : Int) (v : Int) false) (unf U, ((a + i + [(v : Int)].length : Nat) : Int), 0) := by
  refine Ev.cases (fun q => ?_) (fun _ => j2)
  have : 0 < v := h3 (by omega)
  rw [beq_no (show ¬ (v : Int) = 0 by omega)]
  exact j2
 refine Ev.succ ?_
 simp only [impl_getNum.j1]
 refine Ev.no (by simp) (Ev.yes (by rw [w1]; omega) (Ev.yes (by rw [w1]; omega) ?_))
 rw [w1, hbt]
 exact Ev.cases (fun q => Ev.no (by have := h9 (by omega); omega) fin) (fun _ => fin)
theorem get_end {T : ByteArray} {a i acc v : Nat} (hT : T.size ≤ 20000) (h2 : acc + v * 2 ^ (7 * i) < 18446744073709551616) (h3 : 0 < i → 0 < v) (hb : (vw T).drop (a + i) = []) : Ev (fun k => impl_getNum.l0 k T (a : Int) (acc : Int) (i : Int)) (0, 0, 4) := by
 have hl : T.size ≤ a + i := by rw [← vw_len]; exact List.drop_eq_nil_iff.1 hb
 have hi : i ≤ 9 := by
  by_cases q : 0 < i
  ·exact small_i (h3 q) (by omega)
  ·omega
 have j1 : Ev (fun k => impl_getNum.j1 k T (a : Int) (acc : Int) (i : Int) true) (0, 0, 4) := by
  refine Ev.succ ?_
  simp only [impl_getNum.j1]
  exact Ev.yes (by simp) (Ev.now _)
 refine Ev.succ ?_
 simp only [impl_getNum.l0]
 refine Ev.cases (fun _ => j1) (fun q => ?_)
 rw [show decide (wrap64 ((a : Int) + (i : Int)) ≥ (T.size : Int)) = true by simp; rw [wrap_in (by omega) (by omega)]; omega]
 exact j1
theorem get_ev (m : Nat) : ∀ {T : ByteArray} {a i acc v : Nat} {Y : List Int}, T.size ≤ 20000 → v < 128 ^ m → acc < 2 ^ (7 * i) → acc + v * 2 ^ (7 * i) < 18446744073709551616 → (0 < i → 0 < v) → (vw T).drop (a + i) = encB v ++ Y → Ev (fun k => impl_getNum.l0 k T (a : Int) (acc : Int) (i : Int)) (unf (acc + v * 2 ^ (7 * i)), ((a + i + (encB v).length : Nat) : Int), 0) := by
 induction m with
 | zero =>
  intro T a i acc v Y hT hv h1 h2 h3 hb
  have : v = 0 := by simpa using hv
  subst this
  exact get_last hT (by omega) h1 h2 h3 hb
 | succ m ih =>
  intro T a i acc v Y hT hv h1 h2 h3 hb
  by_cases h : v < 128
  ·exact get_last hT h h1 h2 h3 hb
  ·rw [encB_big h, List.cons_append] at hb
   have e : acc + v % 128 * 2 ^ (7 * i) + v / 128 * 2 ^ (7 * (i + 1)) = acc + v * 2 ^ (7 * i) := by
    rw [pow7, ← Nat.mul_assoc, Nat.add_assoc, ← Nat.add_mul, show v % 128 + v / 128 * 128 = v by omega]
   have := ih (T := T) (a := a) (i := i + 1) (acc := acc + v % 128 * 2 ^ (7 * i)) (v := v / 128) (Y := Y) hT (by rw [Nat.pow_succ] at hv; omega) (by
    rw [pow7]
    have : v % 128 * 2 ^ (7 * i) ≤ 127 * 2 ^ (7 * i) := Nat.mul_le_mul_right _ (by omega)
    omega) (by rw [e]; exact h2) (by omega) (by rw [← Nat.add_assoc]; exact drop_next hb)
   rw [e] at this
   rw [encB_big h, List.length_cons, show a + i + ((encB (v / 128)).length + 1) = a + (i + 1) + (encB (v / 128)).length by omega]
   exact get_step hT (by omega) h1 h2 hb this
theorem get_short (m : Nat) : ∀ {T : ByteArray} {a i acc v : Nat}, T.size ≤ 20000 → v < 128 ^ m → acc < 2 ^ (7 * i) → acc + v * 2 ^ (7 * i) < 18446744073709551616 → (0 < i → 0 < v) → (vw T).drop (a + i) = (encB v).dropLast → Ev (fun k => impl_getNum.l0 k T (a : Int) (acc : Int) (i : Int)) (0, 0, 4) := by
 induction m with
 | zero =>
  intro T a i acc v hT hv h1 h2 h3 hb
  have : v = 0 := by simpa using hv
  subst this
  exact get_end hT (i := i) (v := 0) h2 h3 (by rw [encB_small (by omega)] at hb; exact hb)
 | succ m ih =>
  intro T a i acc v hT hv h1 h2 h3 hb
  by_cases h : v < 128
  ·exact get_end hT h2 h3 (by rw [encB_small h] at hb; exact hb)
  ·have hne : encB (v / 128) ≠ [] := fun e => by have := encB_pos (v / 128); rw [e] at this; simp at this
   rw [encB_big h, List.dropLast_cons_of_ne_nil hne] at hb
   have e : acc + v % 128 * 2 ^ (7 * i) + v / 128 * 2 ^ (7 * (i + 1)) = acc + v * 2 ^ (7 * i) := by
    rw [pow7, ← Nat.mul_assoc, Nat.add_assoc, ← Nat.add_mul, show v % 128 + v / 128 * 128 = v by omega]
   have := ih (T := T) (a := a) (i := i + 1) (acc := acc + v % 128 * 2 ^ (7 * i)) (v := v / 128) hT (by rw [Nat.pow_succ] at hv; omega) (by
    rw [pow7]
    have : v % 128 * 2 ^ (7 * i) ≤ 127 * 2 ^ (7 * i) := Nat.mul_le_mul_right _ (by omega)
    omega) (by rw [e]; exact h2) (by omega) (by rw [← Nat.add_assoc]; exact drop_next hb)
   exact get_step hT (by omega) h1 h2 hb this
theorem u64_lo (x : Int) : 0 ≤ IntKind.u64.wrap x := by show 0 ≤ x % _; exact Int.emod_nonneg _ (by decide)
theorem u64_in {x : Int} (h0 : 0 ≤ x) (h1 : x < 18446744073709551616) : IntKind.u64.wrap x = x := Int.emod_eq_of_lt h0 h1
theorem drawn_v {X most : Int} (hX : 0 ≤ X) (h0 : 1 < most) (h1 : most ≤ 9223372036854775807) : ∃ v, wrap64 (Int.tmod X (IntKind.u64.wrap most)) = v ∧ 0 ≤ v ∧ v < most := by
 rw [u64_in (x := most) (by omega) (by omega)]
 have a := Int.tmod_nonneg most hX
 have b := Int.tmod_lt_of_pos X (show 0 < most by omega)
 exact ⟨_, wrap_in (by omega) (by omega), a, b⟩
theorem n_some (b : List Int) (at_ mix size : Int) (ha : 0 ≤ at_ ∧ at_ ≤ b.length) (hb : b.length ≤ 1048576) (most : Int) (h1 : 1 ≤ most) (h2 : most ≤ 9223372036854775807) : ∃ v at1 mix1, spec_l01Src_n.f b at_ mix size most = some (v, at1, mix1, size) ∧ 0 ≤ v ∧ v < most ∧ 0 ≤ at1 ∧ at1 ≤ b.length := by
 unfold spec_l01Src_n.f
 by_cases hm : most ≤ 1
 ·rw [if_pos hm]; exact ⟨0, _, _, rfl, by omega, by omega, ha.1, ha.2⟩
 rw [if_neg hm]
 have hne : ¬ IntKind.u64.wrap most = 0 := by rw [u64_in (by omega) (by omega)]; omega
 by_cases hc : at_ < (b.length : Int)
 ·rw [if_pos hc, if_pos ha.1, if_neg hne]
  obtain ⟨v, e, p, q⟩ := drawn_v (X := IntKind.u64.wrap _) (u64_lo _) (show 1 < most by omega) h2
  refine ⟨v, _, _, by rw [e], p, q, ?_, ?_⟩ <;> rw [wrap_in (by omega) (by omega)] <;> omega
 ·rw [if_neg hc, if_neg hne]
  obtain ⟨v, e, p, q⟩ := drawn_v (X := IntKind.u64.wrap _) (u64_lo _) (show 1 < most by omega) h2
  exact ⟨v, _, _, by rw [e], p, q, ha.1, ha.2⟩
theorem source_ev (l : List Int) (h : l.length ≤ 1048576) : ∃ mix size, Ev (fun k => spec_l01Source.f k l) (l, 0, mix, size) ∧ 0 ≤ size ∧ size ≤ 12 := by
 have fin : ∃ size, (if wrap64 ((l.length : Int) / 20) > 12 then 12 else wrap64 ((l.length : Int) / 20)) = size ∧ 0 ≤ size ∧ size ≤ 12 := by
  have : wrap64 ((l.length : Int) / 20) = (l.length : Int) / 20 := wrap_in (by omega) (by omega)
  rw [this]
  by_cases q : (l.length : Int) / 20 > 12
  ·rw [if_pos q]; exact ⟨12, rfl, by omega, by omega⟩
  ·rw [if_neg q]; exact ⟨_, rfl, by omega, by omega⟩
 obtain ⟨size, he, h0, h1⟩ := fin
 have last : ∀ mix : Int, Ev (fun _ => if wrap64 ((l.length : Int) / 20) > 12 then some (l, (0 : Int), mix, (12 : Int)) else some (l, 0, mix, wrap64 ((l.length : Int) / 20))) (l, 0, mix, size) := by
  intro mix
  by_cases q : wrap64 ((l.length : Int) / 20) > 12
  ·rw [if_pos q] at he; subst he; exact Ev.yes q (Ev.now _)
  ·rw [if_neg q] at he; subst he; exact Ev.no q (Ev.now _)
 have key : ∀ (d i : Nat), i + d = 64 → ∀ mix : Int, ∃ mix', Ev (fun k => spec_l01Source.l0 k l (i : Int) l 0 mix 0) (l, 0, mix', size) := by
  intro d
  induction d with
  | zero =>
   intro i hi mix
   refine ⟨mix, Ev.succ ?_⟩
   simp only [spec_l01Source.l0]
   by_cases hc : (i : Int) < (l.length : Int)
   ·exact Ev.yes hc (Ev.no (by omega) (last mix))
   ·exact Ev.no hc (last mix)
  | succ d ih =>
   intro i hi mix
   by_cases hc : (i : Int) < (l.length : Int)
   ·obtain ⟨m', e⟩ := ih (i + 1) (by omega) (IntKind.u64.wrap ((Go.bits .xor .u64 mix (IntKind.u64.wrap (rd l i))) * 1099511628211))
    refine ⟨m', Ev.succ ?_⟩
    simp only [spec_l01Source.l0]
    refine Ev.yes hc (Ev.yes (by omega) (Ev.yes (by omega) ?_))
    rw [wrap_in (n := (i : Int) + 1) (by omega) (by omega)]
    exact e
   ·refine ⟨mix, Ev.succ ?_⟩
    simp only [spec_l01Source.l0]
    exact Ev.no hc (last mix)
 obtain ⟨mix, e⟩ := key 64 0 (by omega) 88172645463325252
 exact ⟨mix, size, by unfold spec_l01Source.f; exact e, h0, h1⟩
theorem one_some (b : List Int) (at_ mix size : Int) (ha : 0 ≤ at_ ∧ at_ ≤ b.length) (hb : b.length ≤ 1048576) (most : Int) (h1 : 1 ≤ most) (h2 : most ≤ 9223372036854775807) : ∃ t at1 mix1, spec_l01Src_one.f b at_ mix size most = some (t, at1, mix1, size) ∧ 0 ≤ at1 ∧ at1 ≤ b.length := by
 obtain ⟨v, a1, m1, e, _, _, q⟩ := n_some b at_ mix size ha hb most h1 h2
 exact ⟨v == 0, a1, m1, by unfold spec_l01Src_one.f; rw [e]; rfl, q⟩
theorem rd_mem {L : List Int} {v : Int} (h0 : 0 ≤ v) (h1 : v < L.length) : rd L v ∈ L := by
 show L.getD v.toNat 0 ∈ L
 rw [List.getD_eq_getElem?_getD, List.getElem?_eq_getElem (show v.toNat < L.length by omega)]
 exact List.getElem_mem _
def in64 (a : Int) : Prop := -9223372036854775808 ≤ a ∧ a ≤ 9223372036854775807
theorem rd_in64 {L : List Int} (hL : ∀ x ∈ L, -9223372036854775808 ≤ x ∧ x ≤ 9223372036854775807) {v : Int} (h0 : 0 ≤ v) (h1 : v < L.length) : in64 (rd L v) := hL _ (rd_mem h0 h1)
theorem edge_some (b : List Int) (at_ mix size : Int) (ha : 0 ≤ at_ ∧ at_ ≤ b.length) (hb : b.length ≤ 1048576) : ∃ a at1 mix1, spec_l01Src_edge.f b at_ mix size = some (a, at1, mix1, size) ∧ in64 a ∧ 0 ≤ at1 ∧ at1 ≤ b.length := by
 obtain ⟨v, a1, m1, e, v0, v1, q⟩ := n_some b at_ mix size ha hb 14 (by omega) (by omega)
 unfold spec_l01Src_edge.f
 rw [e]
 simp only [Option.bind_some]
 rw [if_pos v0, if_pos (by simp; omega)]
 exact ⟨_, _, _, rfl, rd_in64 (by decide) v0 (by simp; omega), q⟩
theorem any_some (b : List Int) (at_ mix size : Int) (ha : 0 ≤ at_ ∧ at_ ≤ b.length) (hb : b.length ≤ 1048576) : ∃ a at1 mix1, spec_l01Src_l01Any.f b at_ mix size = some (a, at1, mix1, size) ∧ in64 a ∧ 0 ≤ at1 ∧ at1 ≤ b.length := by
 obtain ⟨t, a1, m1, e, q⟩ := one_some b at_ mix size ha hb 4 (by omega) (by omega)
 unfold spec_l01Src_l01Any.f
 rw [e]
 simp only [Option.bind_some]
 cases t with
 | true =>
  obtain ⟨x, a2, m2, e2, hx, q2⟩ := edge_some b a1 m1 size q hb
  rw [if_pos rfl, e2]
  exact ⟨x, a2, m2, rfl, hx, q2⟩
 | false =>
  obtain ⟨x, a2, m2, e2, x0, x1, q2⟩ := n_some b a1 m1 size q hb 1099511627776 (by omega) (by omega)
  rw [if_neg (by simp), e2]
  exact ⟨_, a2, m2, rfl, ⟨wrap_lo _, wrap_hi _⟩, q2⟩
theorem drawPutNum_ev (l : List Int) (h : l.length ≤ 1048576) : ∃ n, Ev (fun k => spec_DrawPutNum.f k l) n ∧ in64 n := by
 obtain ⟨mix, size, hs, _, _⟩ := source_ev l h
 obtain ⟨n, a1, m1, e, hn, _⟩ := any_some l 0 mix size ⟨by omega, by omega⟩ h
 unfold spec_DrawPutNum.f
 exact ⟨n, Ev.bind hs (Ev.flat e (Ev.now _)), hn⟩
theorem drawPutNums_ev (l : List Int) (h : l.length ≤ 1048576) : ∃ y, Ev (fun k => spec_DrawPutNums.f k l) y ∧ (∀ n ∈ y, in64 n) ∧ y.length ≤ 5 := by
 obtain ⟨mix, size, hs, _, _⟩ := source_ev l h
 obtain ⟨v, s1, s2, hn, hv0, hv1, hq⟩ := n_some l 0 mix size ⟨by omega, by omega⟩ h 6 (by omega) (by omega)
 have key : ∀ (d : Nat) (y : List Int) (at1 mix1 : Int), (0 ≤ at1 ∧ at1 ≤ l.length) → (∀ n ∈ y, in64 n) → y.length + d ≤ 5 → ∃ z, Ev (fun k => spec_DrawPutNums.l0 k y (d : Int) l at1 mix1 size) z ∧ (∀ n ∈ z, in64 n) ∧ z.length ≤ 5 := by
  intro d
  induction d with
  | zero =>
   intro y at1 mix1 q hy hl
   refine ⟨y, Ev.succ ?_, hy, by omega⟩
   simp only [spec_DrawPutNums.l0]
   exact Ev.no (by omega) (Ev.now _)
  | succ d ih =>
   intro y at1 mix1 q hy hl
   obtain ⟨n, a1, m1, e, hn, q2⟩ := any_some l at1 mix1 size q h
   obtain ⟨z, hz, h2, h3⟩ := ih (y ++ [n]) a1 m1 q2 (fun x hx => by
    rcases List.mem_append.1 hx with hx | hx
    ·exact hy x hx
    ·rw [List.mem_singleton.1 hx]; exact hn) (by rw [List.length_append, List.length_singleton]; omega)
   refine ⟨z, Ev.succ ?_, h2, h3⟩
   simp only [spec_DrawPutNums.l0]
   refine Ev.yes (by omega) (Ev.flat e (Ev.yes (by omega) ?_))
   rw [wrap_in (by omega) (by omega), show ((d + 1 : Nat) : Int) - 1 = (d : Int) by omega]
   exact hz
 obtain ⟨d, rfl⟩ := Int.eq_ofNat_of_zero_le hv0
 obtain ⟨z, hz, h2, h3⟩ := key d [] s1 s2 hq (by simp) (by simp; omega)
 unfold spec_DrawPutNums.f
 exact ⟨z, Ev.bind hs (Ev.flat hn hz), h2, h3⟩
def enc (n : Int) : List Int := encB (foldV n)
theorem enc_ok {n : Int} (h : in64 n) : (∀ x ∈ enc n, 0 ≤ x ∧ x < 256) ∧ (enc n).length ≤ 11 ∧ 0 < (enc n).length := by
 have := encB_ok 10 (foldV n) (Nat.lt_trans (foldV_lt n h.1 h.2) (by decide))
 exact ⟨this.1, this.2, encB_pos _⟩
theorem enc_ten {n : Int} (h : in64 n) : (enc n).length ≤ 10 := by
 have hl := foldV_lt n h.1 h.2
 unfold enc
 generalize foldV n = u at hl
 have st : ∀ (m v : Nat), v < 128 ^ (m + 1) → (encB v).length ≤ m + 1 := by
  intro m
  induction m with
  | zero => intro v hv; rw [encB_small (by omega)]; simp
  | succ m ih =>
   intro v hv
   by_cases q : v < 128
   ·rw [encB_small q]; simp
   ·rw [encB_big q]
    have := ih (v / 128) (by rw [Nat.pow_succ] at hv; omega)
    simp only [List.length_cons]; omega
 exact st 9 u (Nat.lt_trans hl (by decide))
theorem num_at {T : ByteArray} {p : Nat} {n : Int} {Y : List Int} (hT : T.size ≤ 20000) (hn : in64 n) (h : (vw T).drop p = enc n ++ Y) : Ev (fun k => impl_GetNum.f k T (p : Int)) (n, ((p + (enc n).length : Nat) : Int), 0) := by
 have := get_ev 10 (T := T) (a := p) (i := 0) (acc := 0) (v := foldV n) (Y := Y) hT (Nat.lt_trans (foldV_lt n hn.1 hn.2) (by decide)) (by simp) (by simpa using foldV_lt n hn.1 hn.2) (by simp) (by rw [Nat.add_zero]; exact h)
 have this2 : Ev (fun k => impl_getNum.l0 k T (p : Int) 0 0) (n, ((p + (enc n).length : Nat) : Int), 0) := by simpa [unf_fold, enc] using this
 unfold impl_GetNum.f impl_getNum.f
 exact Ev.no (by omega) (Ev.bind (Ev.no (by omega) this2) (Ev.now _))
theorem num_cut {T : ByteArray} {n : Int} (hT : T.size ≤ 20000) (hn : in64 n) (h : vw T = (enc n).dropLast) : Ev (fun k => impl_GetNum.f k T 0) (0, 0, 4) := by
 have := get_short 10 (T := T) (a := 0) (i := 0) (acc := 0) (v := foldV n) hT (Nat.lt_trans (foldV_lt n hn.1 hn.2) (by decide)) (by simp) (by simpa using foldV_lt n hn.1 hn.2) (by simp) (by rw [Nat.add_zero, List.drop_zero]; exact h)
 unfold impl_GetNum.f impl_getNum.f
 exact Ev.no (by omega) (Ev.bind (Ev.no (by omega) this) (Ev.now _))
theorem implPut_ev (n : Int) (h : in64 n) : Ev (fun k => impl_PutNum.f k n) (strOfNums (enc n)) := by
 unfold impl_PutNum.f
 exact Ev.bind (numBytes_ev n h.1 h.2) (Ev.now _)
def encAll (l : List Int) : List Int := (l.map enc).flatten
theorem encAll_ok : ∀ (l : List Int), (∀ n ∈ l, in64 n) → (∀ x ∈ encAll l, 0 ≤ x ∧ x < 256) ∧ (encAll l).length ≤ 11 * l.length
 | [], _ => by simp [encAll]
 | n :: l, h => by
  have h1 := enc_ok (h n (by simp))
  have h2 := encAll_ok l (fun m hm => h m (by simp [hm]))
  have e : encAll (n :: l) = enc n ++ encAll l := rfl
  rw [e]
  refine ⟨fun x hx => ?_, by rw [List.length_append, List.length_cons]; omega⟩
  rcases List.mem_append.1 hx with hx | hx
  ·exact h1.1 x hx
  ·exact h2.1 x hx
theorem putNums_ev (l : List Int) (h : ∀ n ∈ l, in64 n) (hl : l.length ≤ 5) : Ev (fun k => impl_PutNums.f k l) (strOfNums (enc (l.length : Int) ++ encAll l)) := by
 have key : ∀ (r : List Int) (i : Nat) (b : List Int), l.drop i = r → b.length + 11 * r.length ≤ 100 → Ev (fun k => impl_PutNums.l0 k b l (l.length : Int) (i : Int)) (strOfNums (b ++ encAll r)) := by
  intro r
  induction r with
  | nil =>
   intro i b hi hb
   have := List.drop_eq_nil_iff.1 hi
   refine Ev.succ ?_
   simp only [impl_PutNums.l0]
   refine Ev.no (by omega) ?_
   rw [show encAll [] = [] from rfl, List.append_nil]
   exact Ev.now _
  | cons n r ih =>
   intro i b hi hb
   have hlt : i < l.length := by
    rcases Nat.lt_or_ge i l.length with q | q
    ·exact q
    ·rw [List.drop_of_length_le q] at hi; cases hi
   rw [List.drop_eq_getElem_cons hlt] at hi
   injection hi with h1 h2
   have hr : rd l (i : Int) = n := by
    show l.getD _ 0 = n
    rw [Int.toNat_natCast, List.getD_eq_getElem?_getD, List.getElem?_eq_getElem hlt]; exact h1
   have hn : in64 n := by rw [← h1]; exact h _ (List.getElem_mem hlt)
   have hk := enc_ok hn
   rw [List.length_cons] at hb
   refine Ev.succ ?_
   simp only [impl_PutNums.l0]
   refine Ev.yes (by omega) (Ev.yes (by omega) (Ev.yes (by omega) ?_))
   rw [hr]
   refine Ev.bind (numBytes_ev n hn.1 hn.2) (Ev.yes (by show b.length + (enc n).length < _; omega) ?_)
   rw [wrap_in (by omega) (by omega)]
   have := ih (i + 1) (b ++ enc n) h2 (by rw [List.length_append]; omega)
   rw [show b ++ encAll (n :: r) = b ++ enc n ++ encAll r by rw [List.append_assoc]; rfl]
   exact this
 unfold impl_PutNums.f
 have hl64 : in64 (l.length : Int) := ⟨by omega, by omega⟩
 have := enc_ok hl64
 exact Ev.no (by omega) (Ev.bind (numBytes_ev _ hl64.1 hl64.2) (key l 0 _ rfl (by show (enc (l.length : Int)).length + _ ≤ _; omega)))
theorem FnNums : laws_FnNums.Pure := by
 intro l0 l1 hl0 _ hw0 hl1 _ hw1
 refine Ev.rounds ?_
 unfold laws_FnNums.f
 have jt : Ev (fun k => laws_FnNums.j0 k l0 l1 true) true := by
  refine Ev.succ ?_
  simp only [laws_FnNums.j0]
  exact Ev.yes (by simp) (Ev.now _)
 refine Ev.cases (fun _ => jt) (fun hb0 => ?_)
 by_cases hb1 : (l1.length : Int) > 1048576
 ·rw [decide_eq_true hb1]; exact jt
 rw [decide_eq_false hb1]
 obtain ⟨n, hd, hn⟩ := drawPutNum_ev l0 (by omega)
 obtain ⟨y, hdy, hy, hyl⟩ := drawPutNums_ev l1 (by omega)
 have hk := enc_ok hn
 have hk10 := enc_ten hn
 have hvw : vw (strOfNums (enc n)) = enc n := vw_nums _ hk.1
 have hsz : (strOfNums (enc n)).size = (enc n).length := strOfNums_size _
 have j2 : Ev (fun k => laws_FnNums.j2 k l1 false) true := by
  have hyo := encAll_ok y hy
  have hy64 : in64 (y.length : Int) := ⟨by omega, by omega⟩
  have hle := enc_ok hy64
  generalize hU : strOfNums (enc (y.length : Int) ++ encAll y) = U
  have hvU : vw U = enc (y.length : Int) ++ encAll y := by
   rw [← hU]
   refine vw_nums _ (fun x hx => ?_)
   rcases List.mem_append.1 hx with hx | hx
   ·exact hle.1 x hx
   ·exact hyo.1 x hx
  have hUs : U.size = (enc (y.length : Int)).length + (encAll y).length := by rw [← vw_len, hvU, List.length_append]
  have key : ∀ (r : List Int) (i p : Nat) (x0 : Int), y.drop i = r → (vw U).drop p = encAll r → p + (encAll r).length = U.size → Ev (fun k => laws_FnNums.l0 k y U (i : Int) x0 (p : Int) 0) true := by
   intro r
   induction r with
   | nil =>
    intro i p x0 hi hp hs
    have := List.drop_eq_nil_iff.1 hi
    refine Ev.succ ?_
    simp only [laws_FnNums.l0]
    refine Ev.no (by omega) ?_
    have e : (p : Int) = (U.size : Int) := by have : (encAll []).length = 0 := rfl; omega
    rw [e, beq_self_eq_true]
    exact Ev.now _
   | cons m r ih =>
    intro i p x0 hi hp hs
    have hlt : i < y.length := by
     rcases Nat.lt_or_ge i y.length with q | q
     ·exact q
     ·rw [List.drop_of_length_le q] at hi; cases hi
    rw [List.drop_eq_getElem_cons hlt] at hi
    injection hi with h1 h2
    have hr : rd y (i : Int) = m := by
     show y.getD _ 0 = m
     rw [Int.toNat_natCast, List.getD_eq_getElem?_getD, List.getElem?_eq_getElem hlt]; exact h1
    have hm : in64 m := by rw [← h1]; exact hy _ (List.getElem_mem hlt)
    have ea : encAll (m :: r) = enc m ++ encAll r := rfl
    rw [ea] at hp hs
    rw [List.length_append] at hs
    refine Ev.succ ?_
    simp only [laws_FnNums.l0]
    refine Ev.yes (by omega) (Ev.bind (num_at (by omega) hm hp) (Ev.yes rfl (Ev.yes (by omega) (Ev.yes hr.symm ?_))))
    rw [wrap_in (by omega) (by omega)]
    refine ih (i + 1) (p + (enc m).length) m h2 ?_ (by omega)
    rw [← List.drop_drop, hp, List.drop_left]
  have hg : Ev (fun k => impl_GetNum.f k U 0) ((y.length : Int), ((0 + (enc (y.length : Int)).length : Nat) : Int), 0) := num_at (p := 0) (by omega) hy64 (by rw [List.drop_zero]; exact hvU)
  refine Ev.succ ?_
  simp only [laws_FnNums.j2]
  refine Ev.no (by simp) (Ev.bind hdy (Ev.flat (a := []) rfl (Ev.yes (by simp; omega) ?_)))
  rw [List.nil_append]
  have hpn := putNums_ev y hy hyl
  rw [hU] at hpn
  refine Ev.bind hpn (Ev.bind hg (Ev.yes rfl ?_))
  simp only [bne_self_eq_false]
  refine Ev.succ ?_
  simp only [laws_FnNums.j3]
  refine Ev.no (by simp) ?_
  rw [Nat.zero_add]
  refine key y 0 _ _ rfl ?_ (by omega)
  rw [hvU, List.drop_left]
 generalize hU : strOfNums (enc n) = U at hvw hsz
 have j1 : Ev (fun k => laws_FnNums.j1 k l1 n U false) true := by
  have hv2 : vw (((⟨#[120, 121]⟩ : ByteArray) ++ U) ++ (⟨#[122]⟩ : ByteArray)) = [120, 121] ++ (enc n ++ [122]) := by
   rw [vw_append, vw_append, hvw, List.append_assoc]; rfl
  have hs2 : (((⟨#[120, 121]⟩ : ByteArray) ++ U) ++ (⟨#[122]⟩ : ByteArray)).size ≤ 20000 := by
   rw [← vw_len, hv2]; simp; omega
  have hg : Ev (fun k => impl_GetNum.f k (((⟨#[120, 121]⟩ : ByteArray) ++ U) ++ (⟨#[122]⟩ : ByteArray)) 2) (n, ((2 + (enc n).length : Nat) : Int), 0) := num_at (p := 2) (Y := [122]) hs2 hn (by rw [hv2]; rfl)
  have hw : wrap64 ((U.size : Int) - 1) = (((enc n).length - 1 : Nat) : Int) := by rw [hsz, wrap_in (by omega) (by omega)]; omega
  have hcut : Ev (fun k => impl_GetNum.f k (U.extract 0 ((wrap64 ((U.size : Int) - 1)) : Int).toNat) 0) (0, 0, 4) := by
   rw [hw, Int.toNat_natCast]
   have hv3 : vw (U.extract 0 ((enc n).length - 1)) = (enc n).dropLast := by rw [vw_extract, hvw, List.dropLast_eq_take]
   refine num_cut ?_ hn hv3
   rw [← vw_len, hv3, List.length_dropLast]; omega
  refine Ev.succ ?_
  simp only [laws_FnNums.j1]
  refine Ev.no (by simp) (Ev.yes (by rw [hsz]; omega) (Ev.yes ?_ (Ev.bind hg (Ev.no ?_ (Ev.yes (by rw [hw]; omega) (Ev.yes (by rw [hw, hsz]; omega) (Ev.bind hcut ?_)))))))
  ·rw [ByteArray.size_append, hsz]
   show 2 + (enc n).length + 1 ≤ _
   omega
  ·rw [hsz, wrap_in (by omega) (by omega), show ((2 + (enc n).length : Nat) : Int) = ((enc n).length : Int) + 2 by omega]
   simp
  ·simp only [bne_self_eq_false]
   exact j2
 refine Ev.succ ?_
 simp only [laws_FnNums.j0]
 have hpi := implPut_ev n hn
 have hps := specPut_ev n hn.1 hn.2
 rw [hU] at hpi
 rw [show encB (foldV n) = enc n from rfl, hU] at hps
 refine Ev.no (by simp) (Ev.bind hd (Ev.bind hpi (Ev.bind hps (Ev.yes rfl (Ev.no (by rw [hsz]; omega) ?_)))))
 rw [show decide ((U.size : Int) > 10) = false from decide_eq_false (by rw [hsz]; omega)]
 exact j1
end Go.Proofs.Ytkmohnlkldkhdaa.Pure
