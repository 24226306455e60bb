import Derived.Test.YtopaefhfjioecaaCFnFileCutg6
namespace Go.Proofs.Ytopaefhfjioecaa.Pure
open Go.RowKit Go.Proofs.Ytopaefhfjioecaa.QFnFileCut Go.Proofs.YtopaefhfjioecaaW.PrintWords Go.Proofs.YtopaefhfjioecaaW.PrintLast
set_option linter.unusedVariables false
set_option linter.unusedSimpArgs false
theorem om {Q : Prop} (h : Q := by omega) : Q := h
theorem Ev.succ {α : Type} {g : Nat → Option α} {r : α} (h : Ev (fun k => g (k + 1)) r) : Ev g r := Ev.step (fun _ => rfl) h
theorem Ev.yes {α : Type} {c : Prop} [Decidable c] {g f : Nat → Option α} {r : α} (hc : c) (h : Ev g r) : Ev (fun k => if c then g k else f k) r := Ev.congr (fun _ => if_pos hc) h
theorem Ev.no {α : Type} {c : Prop} [Decidable c] {g f : Nat → Option α} {r : α} (hc : ¬ c) (h : Ev f r) : Ev (fun k => if c then g k else f k) r := Ev.congr (fun _ => if_neg hc) h
theorem Ev.cases {α : Type} {c : Prop} [Decidable c] {g f : Nat → Option α} {r : α} (h1 : c → Ev g r) (h2 : ¬ c → Ev f r) : Ev (fun k => if c then g k else f k) r := by
 by_cases hc : c
 ·exact Ev.yes hc (h1 hc)
 ·exact Ev.no hc (h2 hc)
theorem Ev.flat {α β : Type} {g : Option α} {f : Nat → α → Option β} {a : α} {r : β} (h : g = some a) (k : Ev (fun n => f n a) r) : Ev (fun n => g.bind (f n)) r := Ev.bind (g := fun _ => g) ⟨0, fun _ _ => h⟩ k
theorem wrap_in {n : Int} (h0 : -9223372036854775808 ≤ n) (h1 : n ≤ 9223372036854775807) : wrap64 n = n := by unfold wrap64; omega
theorem wrap_lo (n : Int) : -9223372036854775808 ≤ wrap64 n := by unfold wrap64; omega
theorem drop_at {α : Type} (x : List α) (z : α) (i : Nat) (h : i < x.length) : x.drop i = x.getD i z :: x.drop (i + 1) := by
 rw [List.drop_eq_getElem_cons h, List.getD_eq_getElem?_getD, List.getElem?_eq_getElem h]; rfl
theorem beq_no {a b : Int} (h : ¬ a = b) : (a == b) = false := beq_eq_false_iff_ne.2 h
theorem Ev.uniq {α : Type} {g : Nat → Option α} {r r' : α} (h : Ev g r) (h' : Ev g r') : r = r' := by
 obtain ⟨a, ha⟩ := h
 obtain ⟨b, hb⟩ := h'
 have h1 := ha (max a b) (Nat.le_max_left _ _)
 rw [hb (max a b) (Nat.le_max_right _ _)] at h1
 exact (Option.some.inj h1).symm
theorem u64w (x : Int) : IntKind.u64.wrap x = x % 18446744073709551616 := by simp [IntKind.wrap, IntKind.signed, IntKind.bits]
def foldV (n : Int) : Nat := if n < 0 then (-2 * n - 1).toNat else (2 * n).toNat
def encB (u : Nat) : List Int := if u < 128 then [(u : Int)] else ((u % 128 + 128 : Nat) : Int) :: encB (u / 128)
termination_by u
decreasing_by omega
theorem encB_small {u : Nat} (h : u < 128) : encB u = [(u : Int)] := by rw [encB, if_pos h]
theorem encB_big {u : Nat} (h : ¬ u < 128) : encB u = ((u % 128 + 128 : Nat) : Int) :: encB (u / 128) := by rw [encB, if_neg h]
theorem foldV_lt (n : Int) (h0 : -9223372036854775808 ≤ n) (h1 : n ≤ 9223372036854775807) : foldV n < 18446744073709551616 := by unfold foldV; split <;> omega
theorem specBytes_l (m : Nat) : ∀ (u : Nat) (y : List Int), u < 128 ^ m → u < 18446744073709551616 → y.length + m ≤ 1048676 → Ev (fun k => spec_PutNum.l0 k (u : Int) y) (strOfNums (y ++ encB u)) := by
 induction m with
 | zero =>
  intro u y hu _ hy
  have hu0 : u = 0 := by simpa using hu
  subst hu0
  refine Ev.succ ?_
  simp only [spec_PutNum.l0]
  refine Ev.no om (Ev.yes om ?_)
  rw [encB_small om]
  exact Ev.now _
 | succ m ih =>
  intro u y hu hb hy
  refine Ev.succ ?_
  simp only [spec_PutNum.l0]
  by_cases h : u < 128
  ·refine Ev.no om (Ev.yes om ?_)
   rw [encB_small h, show ((u : Int) % 256) = u by omega]
   exact Ev.now _
  ·refine Ev.yes om (Ev.yes om ?_)
   have e1 : (IntKind.u64.wrap (Int.tmod (u : Int) 128 + 128)) % 256 = ((u % 128 + 128 : Nat) : Int) := by
    rw [u64w, Int.tmod_eq_emod_of_nonneg om]
    omega
   have e2 : IntKind.u64.wrap (Int.tdiv (u : Int) 128) = ((u / 128 : Nat) : Int) := by
    rw [u64w, Int.tdiv_eq_ediv_of_nonneg om]
    omega
   rw [encB_big h, e1, e2]
   have := ih (u / 128) (y ++ [((u % 128 + 128 : Nat) : Int)]) (by rw [Nat.pow_succ] at hu; omega) om (by simp; omega)
   simpa using this
theorem fold_some (n : Int) (h0 : -9223372036854775808 ≤ n) (h1 : n ≤ 9223372036854775807) : spec_l01Fold.f n = some (foldV n : Int) := by
 unfold spec_l01Fold.f foldV
 by_cases h : n < 0
 ·rw [if_pos h, if_pos h, wrap_in (n := n + 1) om om, wrap_in om om]
  simp only [u64w]
  congr 1
  omega
 ·rw [if_neg h, if_neg h]
  simp only [u64w]
  congr 1
  omega
theorem specPut_ev (n : Int) (h0 : -9223372036854775808 ≤ n) (h1 : n ≤ 9223372036854775807) : Ev (fun k => spec_PutNum.f k n) (strOfNums (encB (foldV n))) := by
 unfold spec_PutNum.f
 have hl := foldV_lt n h0 h1
 refine Ev.flat (fold_some n h0 h1) ?_
 simpa using specBytes_l 10 (foldV n) [] (Nat.lt_trans hl (by decide)) hl (by simp)
theorem i64w (n : Int) : IntKind.i64.wrap n = wrap64 n := by
 unfold wrap64
 simp [IntKind.wrap, IntKind.bits, IntKind.signed]
 split <;> omega
theorem toNat64 (x : Int) : (BitVec.ofInt 64 x).toNat = (x % 18446744073709551616).toNat := by rw [BitVec.toNat_ofInt]; rfl
theorem not64 (a : Int) (h0 : -9223372036854775808 ≤ a) (h1 : a ≤ 9223372036854775807) : Go.bits .xor .i64 (-1) a = -a - 1 := by
 show IntKind.i64.wrap ((BitVec.ofInt 64 (-1) ^^^ BitVec.ofInt 64 a).toNat : Int) = _
 have e : BitVec.ofInt 64 (-1) = BitVec.allOnes 64 := by decide +kernel
 rw [e, BitVec.allOnes_xor, BitVec.toNat_not, toNat64, i64w]
 unfold wrap64
 omega
def vw (T : ByteArray) : List Int := T.data.toList.map (fun b => (b.toNat : Int))
theorem vw_len (T : ByteArray) : (vw T).length = T.size := by unfold vw; rw [List.length_map, Array.length_toList]; rfl
theorem vw_bt (T : ByteArray) (i : Nat) : bt T (i : Int) = (vw T).getD i 0 := by
 unfold bt vw
 by_cases h : i < T.size
 ·have h2 : i < T.data.toList.length := by rw [Array.length_toList]; exact h
  rw [dif_pos (by rw [Int.toNat_natCast]; exact h), List.getD_eq_getElem?_getD, List.getElem?_map, List.getElem?_eq_getElem h2]
  rfl
 ·have h2 : ¬ i < T.data.toList.length := by rw [Array.length_toList]; exact h
  rw [dif_neg (by rw [Int.toNat_natCast]; exact h), List.getD_eq_getElem?_getD, List.getElem?_eq_none (by rw [List.length_map]; omega)]
  rfl
theorem vw_nums (l : List Int) (h : ∀ x ∈ l, 0 ≤ x ∧ x < 256) : vw (strOfNums l) = l := by
 unfold vw
 rw [strOfNums_data, List.map_map]
 conv => rhs; rw [← List.map_id l]
 refine List.map_congr_left (fun x hx => ?_)
 have := h x hx
 simp only [Function.comp, id, UInt8.toNat_ofNat']
 omega
theorem vw_extract (T : ByteArray) (n : Nat) : vw (T.extract 0 n) = (vw T).take n := by
 unfold vw
 rw [ByteArray.data_extract, Array.toList_extract, List.extract_eq_take_drop, List.drop_zero, Nat.sub_zero, List.map_take]
theorem and127 : ∀ n : Nat, n < 256 → Go.bits .and .u8 (n : Int) 127 = ((n % 128 : Nat) : Int) := by decide +kernel
theorem or_add (x y s : Nat) (hx : x < 2 ^ s) (hy : x + y * 2 ^ s < 18446744073709551616) : Go.bits .or .u64 (x : Int) ((y * 2 ^ s : Nat) : Int) = ((x + y * 2 ^ s : Nat) : Int) := by
 show IntKind.u64.wrap ((BitVec.ofInt 64 (x : Int) ||| BitVec.ofInt 64 ((y * 2 ^ s : Nat) : Int)).toNat : Int) = _
 have e : x ||| y * 2 ^ s = x + y * 2 ^ s := by
  have := Nat.two_pow_add_eq_or_of_lt hx y
  rw [Nat.or_comm, Nat.mul_comm y, ← this, Nat.add_comm]
 rw [BitVec.toNat_or, toNat64, toNat64, u64w]
 rw [show ((x : Int) % 18446744073709551616).toNat = x by omega, show (((y * 2 ^ s : Nat) : Int) % 18446744073709551616).toNat = y * 2 ^ s by omega, e]
 omega
theorem and_one (u : Nat) (h : u < 18446744073709551616) : Go.bits .and .u64 (u : Int) 1 = ((u % 2 : Nat) : Int) := by
 show IntKind.u64.wrap ((BitVec.ofInt 64 (u : Int) &&& BitVec.ofInt 64 1).toNat : Int) = _
 rw [BitVec.toNat_and, toNat64, u64w, show ((u : Int) % 18446744073709551616).toNat = u by omega, show (BitVec.ofInt 64 1).toNat = 1 from rfl, Nat.and_one_is_mod]
 omega
theorem shl_u (d i : Nat) (hi : i ≤ 9) (h : d * 2 ^ (7 * i) < 18446744073709551616) : shl .u64 (d : Int) ((7 * i : Nat) : Int) = ((d * 2 ^ (7 * i) : Nat) : Int) := by
 have := shl_small (k := .u64) (x := (d : Int)) (y := ((7 * i : Nat) : Int)) rfl (by simp [IntKind.bits]; omega)
 rw [Int.toNat_natCast, u64w] at this
 rw [← this]
 have e : (d : Int) * 2 ^ (7 * i) = ((d * 2 ^ (7 * i) : Nat) : Int) := by simp
 rw [e]
 omega
def unf (u : Nat) : Int := if u % 2 = 1 then -((u / 2 : Nat) : Int) - 1 else ((u / 2 : Nat) : Int)
theorem unf_fold (n : Int) : unf (foldV n) = n := by
 unfold unf foldV
 by_cases h : n < 0
 ·rw [if_pos h, if_pos om]; omega
 ·rw [if_neg h, if_neg om]; omega
theorem encB_ok (m : Nat) : ∀ u : Nat, u < 128 ^ m → (∀ x ∈ encB u, 0 ≤ x ∧ x < 256) ∧ (encB u).length ≤ m + 1 := by
 induction m with
 | zero =>
  intro u hu
  have : u = 0 := by simpa using hu
  subst this
  rw [encB_small om]
  simp
 | succ m ih =>
  intro u hu
  by_cases h : u < 128
  ·rw [encB_small h]
   exact ⟨fun x hx => by simp at hx; subst hx; omega, by simp⟩
  ·rw [encB_big h]
   have := ih (u / 128) (by rw [Nat.pow_succ] at hu; omega)
   refine ⟨fun x hx => ?_, by simp; exact this.2⟩
   rcases List.mem_cons.1 hx with rfl | hx
   ·omega
   ·exact this.1 x hx
theorem pow7 (i : Nat) : 2 ^ (7 * (i + 1)) = 128 * 2 ^ (7 * i) := by rw [show 7 * (i + 1) = 7 + 7 * i by omega, Nat.pow_add]
theorem small_i {v i : Nat} (hv : 0 < v) (h : v * 2 ^ (7 * i) < 18446744073709551616) : i ≤ 9 := by
 rcases Nat.lt_or_ge 9 i with q | q
 ·exfalso
  have h1 : 2 ^ (7 * 10) ≤ 2 ^ (7 * i) := Nat.pow_le_pow_right (by decide) om
  have h2 : 2 ^ (7 * i) ≤ v * 2 ^ (7 * i) := Nat.le_mul_of_pos_left _ hv
  have h3 : (2 : Nat) ^ (7 * 10) = 1180591620717411303424 := by decide
  omega
 ·exact q
theorem byte_at {T : ByteArray} {p : Nat} {b : Int} {Y : List Int} (h : (vw T).drop p = b :: Y) : bt T (p : Int) = b ∧ p < T.size := by
 have hl : p < (vw T).length := by
  rcases Nat.lt_or_ge p (vw T).length with q | q
  ·exact q
  ·rw [List.drop_of_length_le q] at h; cases h
 rw [List.drop_eq_getElem_cons hl] at h
 injection h with h1 h2
 rw [vw_bt, List.getD_eq_getElem?_getD, List.getElem?_eq_getElem hl]
 exact ⟨h1, by rw [← vw_len]; exact hl⟩
theorem drop_next {T : ByteArray} {p : Nat} {b : Int} {Y : List Int} (h : (vw T).drop p = b :: Y) : (vw T).drop (p + 1) = Y := by
 rw [← List.drop_drop, h]; rfl
theorem wadd {a i : Nat} (h : a + i ≤ 40000) : wrap64 ((a : Int) + (i : Int)) = ((a + i : Nat) : Int) := by rw [wrap_in om om]; omega
theorem w7i {i : Nat} (h : i ≤ 9) : wrap64 (7 * (i : Int)) = ((7 * i : Nat) : Int) := by rw [wrap_in om om]; omega
theorem winc {i : Nat} (h : i ≤ 40000) : wrap64 ((i : Int) + 1) = ((i + 1 : Nat) : Int) := by rw [wrap_in om om]; omega
theorem ge_no {a n : Nat} (h : a < n) : decide ((a : Int) ≥ (n : Int)) = false := decide_eq_false om
theorem get_step {T : ByteArray} {a i acc v : Nat} {Y : List Int} {r : Int × Int × Int} (hT : T.size ≤ 20000) (hv : 128 ≤ v) (h1 : acc < 2 ^ (7 * i)) (h2 : acc + v * 2 ^ (7 * i) < 18446744073709551616) (hb : (vw T).drop (a + i) = ((v % 128 + 128 : Nat) : Int) :: Y)
  (h : Ev (fun k => impl_getNum.l0 k T (a : Int) ((acc + v % 128 * 2 ^ (7 * i) : Nat) : Int) ((i + 1 : Nat) : Int)) r) : Ev (fun k => impl_getNum.l0 k T (a : Int) (acc : Int) (i : Int)) r := by
 obtain ⟨hbt, hlt⟩ := byte_at hb
 have hi : i ≤ 8 := by
  have := small_i (v := v / 128) (i := i + 1) om (by
   rw [pow7]
   have : v / 128 * (128 * 2 ^ (7 * i)) = (v / 128 * 128) * 2 ^ (7 * i) := by rw [Nat.mul_assoc]
   rw [this]
   have : v / 128 * 128 * 2 ^ (7 * i) ≤ v * 2 ^ (7 * i) := Nat.mul_le_mul_right _ om
   omega)
  omega
 have hm : v % 128 * 2 ^ (7 * i) ≤ v * 2 ^ (7 * i) := Nat.mul_le_mul_right _ (Nat.mod_le _ _)
 have hq : v % 128 * 2 ^ (7 * i) < 18446744073709551616 := by omega
 have hq2 : acc + v % 128 * 2 ^ (7 * i) < 18446744073709551616 := by omega
 have hb' : v % 128 + 128 < 256 := by omega
 have ed : IntKind.u64.wrap (Go.bits .and .u8 ((v % 128 + 128 : Nat) : Int) 127) = ((v % 128 : Nat) : Int) := by
  rw [and127 _ hb', u64w]; omega
 have eor : Go.bits .or .u64 (acc : Int) (shl .u64 ((v % 128 : Nat) : Int) ((7 * i : Nat) : Int)) = ((acc + v % 128 * 2 ^ (7 * i) : Nat) : Int) := by
  rw [shl_u _ i (Nat.le_succ_of_le hi) hq, or_add acc (v % 128) (7 * i) h1 hq2]
 generalize hG : acc + v % 128 * 2 ^ (7 * i) = G at h eor
 clear hG hq hq2 hm h1 h2 hb
 have w1 : wrap64 ((a : Int) + (i : Int)) = ((a + i : Nat) : Int) := wadd om
 have w7 : wrap64 (7 * (i : Int)) = ((7 * i : Nat) : Int) := w7i om
 have hd : decide (wrap64 ((a : Int) + (i : Int)) ≥ (T.size : Int)) = false := by rw [w1]; exact ge_no hlt
 refine Ev.succ ?_
 simp only [impl_getNum.l0]
 refine Ev.no om ?_
 rw [hd]
 have j2 : Ev (fun k => impl_getNum.j2 k T (a : Int) (acc : Int) (i : Int) ((v % 128 + 128 : Nat) : Int) false) r := by
  refine Ev.succ ?_
  simp only [impl_getNum.j2]
  refine Ev.no (by simp) (Ev.yes (by rw [w7]; omega) (Ev.no om ?_))
  rw [ed, w7, eor, winc om]
  exact h
 have hne : ((((v % 128 + 128 : Nat) : Int)) == 0) = false := beq_no om
 refine Ev.succ ?_
 simp only [impl_getNum.j1]
 refine Ev.no (by simp) (Ev.yes (by rw [w1]; omega) (Ev.yes (by rw [w1]; omega) (Ev.no om ?_)))
 rw [w1, hbt, hne]
 exact Ev.cases (fun _ => j2) (fun _ => j2)
theorem get_last {T : ByteArray} {a i acc v : Nat} {Y : List Int} (hT : T.size ≤ 20000) (hv : v < 128) (h1 : acc < 2 ^ (7 * i)) (h2 : acc + v * 2 ^ (7 * i) < 18446744073709551616) (h3 : 0 < i → 0 < v) (hb : (vw T).drop (a + i) = encB v ++ Y) : Ev (fun k => impl_getNum.l0 k T (a : Int) (acc : Int) (i : Int)) (unf (acc + v * 2 ^ (7 * i)), ((a + i + (encB v).length : Nat) : Int), 0) := by
 rw [encB_small hv] at hb
 obtain ⟨hbt, hlt⟩ := byte_at hb
 rw [encB_small hv]
 have hi : i ≤ 9 := by
  by_cases q : 0 < i
  ·exact small_i (h3 q) om
  ·omega
 have h9 : i = 9 → v ≤ 1 := by
  intro q
  subst q
  have : (2 : Nat) ^ (7 * 9) = 9223372036854775808 := by decide
  rw [this] at h2
  omega
 have hq : v * 2 ^ (7 * i) < 18446744073709551616 := by omega
 have eor : Go.bits .or .u64 (acc : Int) (shl .u64 (v : Int) ((7 * i : Nat) : Int)) = ((acc + v * 2 ^ (7 * i) : Nat) : Int) := by
  rw [shl_u _ i hi hq, or_add acc v (7 * i) h1 h2]
 clear hq h1
 generalize acc + v * 2 ^ (7 * i) = U at h2 eor
 clear hb
 have w1 : wrap64 ((a : Int) + (i : Int)) = ((a + i : Nat) : Int) := wadd om
 have w7 : wrap64 (7 * (i : Int)) = ((7 * i : Nat) : Int) := w7i hi
 have w2 : wrap64 (((a + i : Nat) : Int) + 1) = ((a + i + [(v : Int)].length : Nat) : Int) := winc om
 have hd : decide (wrap64 ((a : Int) + (i : Int)) ≥ (T.size : Int)) = false := by rw [w1]; exact ge_no hlt
 refine Ev.succ ?_
 simp only [impl_getNum.l0]
 refine Ev.no om ?_
 rw [hd]
 have j2 : Ev (fun k => impl_getNum.j2 k T (a : Int) (acc : Int) (i : Int) (v : Int) false) (unf U, ((a + i + [(v : Int)].length : Nat) : Int), 0) := by
  refine Ev.succ ?_
  simp only [impl_getNum.j2]
  have ed : IntKind.u64.wrap (Go.bits .and .u8 (v : Int) 127) = (v : Int) := by
   rw [and127 _ om, u64w]; omega
  refine Ev.no (by simp) (Ev.yes (by rw [w7]; omega) (Ev.yes om ?_))
  rw [ed, w7, eor, and_one _ h2, w1, w2]
  have wu : wrap64 ((U : Int) / 2) = ((U / 2 : Nat) : Int) := by rw [wrap_in om om]; omega
  rw [wu]
  unfold unf
  by_cases q : U % 2 = 1
  ·refine Ev.yes om ?_
   rw [if_pos q, not64 _ om om]
   exact Ev.now _
  ·refine Ev.no om ?_
   rw [if_neg q]
   exact Ev.now _
 have fin : Ev (fun k => if (i : Int) > 0 then impl_getNum.j2 k T (a : Int) (acc : Int) (i : Int) (v : Int) ((v : Int) == 0) else impl_getNum.j2 k T (a : Int) (acc : Int) (i : Int) (v : Int) false) (unf U, ((a + i + [(v : Int)].length : Nat) : Int), 0) := by
  refine Ev.cases (fun q => ?_) (fun _ => j2)
  have : 0 < v := h3 om
  rw [beq_no (show ¬ (v : Int) = 0 by omega)]
  exact j2
 refine Ev.succ ?_
 simp only [impl_getNum.j1]
 refine Ev.no (by simp) (Ev.yes (by rw [w1]; omega) (Ev.yes (by rw [w1]; omega) ?_))
 rw [w1, hbt]
 exact Ev.cases (fun q => Ev.no (by have := h9 om; omega) fin) (fun _ => fin)
theorem get_end {T : ByteArray} {a i acc v : Nat} (hT : T.size ≤ 20000) (h2 : acc + v * 2 ^ (7 * i) < 18446744073709551616) (h3 : 0 < i → 0 < v) (hb : (vw T).drop (a + i) = []) : Ev (fun k => impl_getNum.l0 k T (a : Int) (acc : Int) (i : Int)) (0, 0, 4) := by
 have hl : T.size ≤ a + i := by rw [← vw_len]; exact List.drop_eq_nil_iff.1 hb
 have hi : i ≤ 9 := by
  by_cases q : 0 < i
  ·exact small_i (h3 q) om
  ·omega
 have j1 : Ev (fun k => impl_getNum.j1 k T (a : Int) (acc : Int) (i : Int) true) (0, 0, 4) := by
  refine Ev.succ ?_
  simp only [impl_getNum.j1]
  exact Ev.yes (by simp) (Ev.now _)
 refine Ev.succ ?_
 simp only [impl_getNum.l0]
 refine Ev.cases (fun _ => j1) (fun q => ?_)
 rw [show decide (wrap64 ((a : Int) + (i : Int)) ≥ (T.size : Int)) = true by simp; rw [wrap_in om om]; omega]
 exact j1
theorem get_ev (m : Nat) : ∀ {T : ByteArray} {a i acc v : Nat} {Y : List Int}, T.size ≤ 20000 → v < 128 ^ m → acc < 2 ^ (7 * i) → acc + v * 2 ^ (7 * i) < 18446744073709551616 → (0 < i → 0 < v) → (vw T).drop (a + i) = encB v ++ Y → Ev (fun k => impl_getNum.l0 k T (a : Int) (acc : Int) (i : Int)) (unf (acc + v * 2 ^ (7 * i)), ((a + i + (encB v).length : Nat) : Int), 0) := by
 induction m with
 | zero =>
  intro T a i acc v Y hT hv h1 h2 h3 hb
  have : v = 0 := by simpa using hv
  subst this
  exact get_last hT om h1 h2 h3 hb
 | succ m ih =>
  intro T a i acc v Y hT hv h1 h2 h3 hb
  by_cases h : v < 128
  ·exact get_last hT h h1 h2 h3 hb
  ·rw [encB_big h, List.cons_append] at hb
   have e : acc + v % 128 * 2 ^ (7 * i) + v / 128 * 2 ^ (7 * (i + 1)) = acc + v * 2 ^ (7 * i) := by
    rw [pow7, ← Nat.mul_assoc, Nat.add_assoc, ← Nat.add_mul, show v % 128 + v / 128 * 128 = v by omega]
   have := ih (T := T) (a := a) (i := i + 1) (acc := acc + v % 128 * 2 ^ (7 * i)) (v := v / 128) (Y := Y) hT (by rw [Nat.pow_succ] at hv; omega) (by
    rw [pow7]
    have : v % 128 * 2 ^ (7 * i) ≤ 127 * 2 ^ (7 * i) := Nat.mul_le_mul_right _ om
    omega) (by rw [e]; exact h2) om (by rw [← Nat.add_assoc]; exact drop_next hb)
   rw [e] at this
   rw [encB_big h, List.length_cons, show a + i + ((encB (v / 128)).length + 1) = a + (i + 1) + (encB (v / 128)).length by omega]
   exact get_step hT om h1 h2 hb this
theorem idx_next {i n : Nat} (h : i < n) (hn : n ≤ 1048576) : wrap64 ((i : Int) + 1) = ((i + 1 : Nat) : Int) := by rw [wrap_in om om]; simp
def left (m a : Int) : Int := if m ≤ a then a - m else -1
def isLeast (w : List Bool) (a : Nat) : Prop := a < w.length ∧ w.getD a false = true ∧ ∀ b, b < a → w.getD b false = false
theorem least_ex (w : List Bool) : (∀ b, w.getD b false = false) ∨ ∃ a, isLeast w a := by
 induction w with
 | nil => exact Or.inl (fun b => by simp)
 | cons x w ih =>
  cases x with
  | true => exact Or.inr ⟨0, by simp, by simp, fun b hb => by omega⟩
  | false =>
   rcases ih with h | ⟨a, h1, h2, h3⟩
   ·refine Or.inl (fun b => ?_)
    cases b with
    | zero => simp
    | succ b => simpa using h b
   ·refine Or.inr ⟨a + 1, by simpa using h1, by simpa using h2, fun b hb => ?_⟩
    cases b with
    | zero => simp
    | succ b => simpa using h3 b om
def nexts (len : Nat) (v : Int) : List Int → List Int → List Bool → Except (List Int × Int) (List Int × List Bool)
 | [], h, w => .ok (h, w)
 | n :: r, h, w => if (len : Int) ≤ n then .error (h, 6) else if 0 ≤ rd h n ∧ rd h n ≠ v then .error (h, 5) else if rd h n < 0 then nexts len v r (h.set n.toNat v) (w.set n.toNat true) else nexts len v r h w
structure Mach where
 len : Nat
 bad : Nat → Int → Bool
 v : Nat → Int → Int
 nx : Nat → List Int
def Mach.step (M : Mach) (h : List Int) (w : List Bool) (a : Nat) : Except (List Int × Int) (List Int × List Bool) := if M.bad a (rd h a) = true then .error (h, 5) else nexts M.len (M.v a (rd h a)) (M.nx a) h (w.set a false)
inductive Run (M : Mach) : List Int → List Bool → List Int × Int × Int → Prop
 | stop {h w} : (∀ b, w.getD b false = false) → Run M h w (h, 0, 0)
 | bad {h w a h' c} : isLeast w a → M.step h w a = .error (h', c) → Run M h w (h', (a : Int), c)
 | go {h w a h' w' r} : isLeast w a → M.step h w a = .ok (h', w') → Run M h' w' r → Run M h w r
def sumTo (g : Nat → Nat) : Nat → Nat
 | 0 => 0
 | n + 1 => sumTo g n + g n
theorem sumTo_congr {g g' : Nat → Nat} : ∀ n, (∀ i, i < n → g i = g' i) → sumTo g n = sumTo g' n
 | 0, _ => rfl
 | n + 1, h => by simp only [sumTo]; rw [sumTo_congr n (fun i hi => h i om), h n om]
theorem sumTo_at {g g' : Nat → Nat} {a : Nat} (he : ∀ i, i ≠ a → g i = g' i) : ∀ n, a < n → sumTo g n + g' a = sumTo g' n + g a
 | 0, h => by omega
 | n + 1, h => by
  simp only [sumTo]
  by_cases hn : a = n
  ·subst hn
   rw [sumTo_congr a (fun i hi => he i om)]; omega
  ·have := sumTo_at he n om
   rw [he n (fun e => hn e.symm)]; omega
def wt (len : Nat) (h : List Int) (w : List Bool) (a : Nat) : Nat := (if rd h a < 0 ∨ w.getD a false = true then 2 * len + 1 else 0) + (if rd h a < 0 ∧ w.getD a false = true then len - a else 0)
theorem rd_nat (h : List Int) (a : Nat) : rd h (a : Int) = h.getD a 0 := by simp [rd]
theorem rd_set {h : List Int} {n : Nat} (hn : n < h.length) (x : Int) (i : Nat) : rd (h.set n x) (i : Int) = if i = n then x else rd h i := by
 rw [rd_nat, rd_nat, List.getD_eq_getElem?_getD, List.getD_eq_getElem?_getD, List.getElem?_set]
 by_cases e : n = i
 ·subst e; simp [hn]
 ·rw [if_neg e, if_neg (fun e' => e e'.symm)]
theorem gb_set {w : List Bool} {n : Nat} (hn : n < w.length) (x : Bool) (i : Nat) : (w.set n x).getD i false = if i = n then x else w.getD i false := by
 rw [List.getD_eq_getElem?_getD, List.getD_eq_getElem?_getD, List.getElem?_set]
 by_cases e : n = i
 ·subst e; simp [hn]
 ·rw [if_neg e, if_neg (fun e' => e e'.symm)]
theorem nexts_len (len : Nat) (v : Int) : ∀ (l h : List Int) (w : List Bool), h.length = len → w.length = len → ∀ h' w', nexts len v l h w = .ok (h', w') → h'.length = len ∧ w'.length = len
 | [], h, w, h0, h1, h', w', e => by simp only [nexts, Except.ok.injEq, Prod.mk.injEq] at e; obtain ⟨rfl, rfl⟩ := e; exact ⟨h0, h1⟩
 | n :: r, h, w, h0, h1, h', w', e => by
  simp only [nexts] at e
  split at e
  ·cases e
  ·split at e
   ·cases e
   ·split at e
    ·exact nexts_len len v r _ _ (by simpa using h0) (by simpa using h1) h' w' e
    ·exact nexts_len len v r _ _ h0 h1 h' w' e
theorem nexts_bad (len : Nat) (v : Int) : ∀ (l h : List Int) (w : List Bool), h.length = len → ∀ h' c, nexts len v l h w = .error (h', c) → h'.length = len ∧ (c = 5 ∨ c = 6)
 | [], h, w, h0, h', c, e => by simp [nexts] at e
 | n :: r, h, w, h0, h', c, e => by
  simp only [nexts] at e
  split at e
  ·simp only [Except.error.injEq, Prod.mk.injEq] at e; obtain ⟨rfl, rfl⟩ := e; exact ⟨h0, Or.inr rfl⟩
  ·split at e
   ·simp only [Except.error.injEq, Prod.mk.injEq] at e; obtain ⟨rfl, rfl⟩ := e; exact ⟨h0, Or.inl rfl⟩
   ·split at e
    ·exact nexts_bad len v r _ _ (by simpa using h0) h' c e
    ·exact nexts_bad len v r _ _ h0 h' c e
theorem nexts_wt (len : Nat) (v : Int) : ∀ (l h : List Int) (w : List Bool), h.length = len → w.length = len → (∀ n ∈ l, 0 ≤ n) → ∀ h' w', nexts len v l h w = .ok (h', w') →
  sumTo (wt len h' w') len ≤ sumTo (wt len h w) len + (l.map fun n => len - n.toNat).sum
 | [], h, w, h0, h1, hp, h', w', e => by simp only [nexts, Except.ok.injEq, Prod.mk.injEq] at e; obtain ⟨rfl, rfl⟩ := e; simp
 | n :: r, h, w, h0, h1, hp, h', w', e => by
  have hn := hp n (by simp)
  have hr : ∀ m ∈ r, 0 ≤ m := fun m hm => hp m (by simp [hm])
  simp only [nexts] at e
  simp only [List.map_cons, List.sum_cons]
  split at e
  ·cases e
  rename_i hlt
  split at e
  ·cases e
  split at e
  ·rename_i hneg
   have ih := nexts_wt len v r _ _ (by simpa using h0) (by simpa using h1) hr h' w' e
   have hb : n.toNat < len := by omega
   have eq : ((n.toNat : Nat) : Int) = n := by omega
   have st := sumTo_at (g := wt len (h.set n.toNat v) (w.set n.toNat true)) (g' := wt len h w) (a := n.toNat) (fun i hi => by
    unfold wt
    rw [rd_set om, gb_set om, if_neg hi, if_neg hi]) len hb
   have w1 : wt len (h.set n.toNat v) (w.set n.toNat true) n.toNat ≤ 2 * len + 1 + (len - n.toNat) := by
    unfold wt; split <;> split <;> omega
   have w2 : 2 * len + 1 ≤ wt len h w n.toNat := by
    unfold wt; rw [eq, if_pos (Or.inl hneg)]; omega
   omega
  ·have ih := nexts_wt len v r _ _ h0 h1 hr h' w' e
   omega
structure Mach.Good (M : Mach) : Prop where
 nn : ∀ a, a < M.len → ∀ n ∈ M.nx a, 0 ≤ n
 two : ∀ a, a < M.len → (M.nx a).length ≤ 2
 lo : ∀ a x, -9223372036854775808 ≤ M.v a x
 neg : ∀ a, a < M.len → ∀ x, x < 0 → -9223372036854775808 ≤ x → M.bad a x = false → M.nx a = [] ∨ M.nx a = [(a : Int) + 1]
theorem nexts_all {P : Int → Prop} (len : Nat) (v : Int) (hv : P v) : ∀ (l h : List Int) (w : List Bool), h.length = len → (∀ n ∈ l, 0 ≤ n) → (∀ a : Nat, P (rd h a)) → ∀ h' w', nexts len v l h w = .ok (h', w') → ∀ a : Nat, P (rd h' a)
 | [], h, w, h0, hp, i1, h', w', e => by simp only [nexts, Except.ok.injEq, Prod.mk.injEq] at e; obtain ⟨rfl, rfl⟩ := e; exact i1
 | n :: r, h, w, h0, hp, i1, h', w', e => by
  have hn := hp n (by simp)
  have hr : ∀ m ∈ r, 0 ≤ m := fun m hm => hp m (by simp [hm])
  simp only [nexts] at e
  split at e
  ·cases e
  split at e
  ·cases e
  split at e
  ·refine nexts_all len v hv r _ _ (by simpa using h0) hr (fun a => ?_) h' w' e
   rw [rd_set om]
   split
   ·exact hv
   ·exact i1 a
  ·exact nexts_all len v hv r _ _ h0 hr i1 h' w' e
theorem step_wt {M : Mach} (G : M.Good) {h : List Int} {w : List Bool} {a : Nat} (h0 : h.length = M.len) (h1 : w.length = M.len) (hl : isLeast w a) (hR : ∀ b : Nat, -9223372036854775808 ≤ rd h b) {h' : List Int} {w' : List Bool} (e : M.step h w a = .ok (h', w')) :
  sumTo (wt M.len h' w') M.len < sumTo (wt M.len h w) M.len ∧ (h'.length = M.len ∧ w'.length = M.len) ∧ ∀ b : Nat, -9223372036854775808 ≤ rd h' b := by
 obtain ⟨ha, hw, _⟩ := hl
 have ha' : a < M.len := by omega
 unfold Mach.step at e
 split at e
 ·cases e
 rename_i hb
 have hL := nexts_len _ _ _ _ _ h0 (by simpa using h1) _ _ e
 refine ⟨?_, hL, nexts_all _ _ (G.lo _ _) _ _ _ h0 (G.nn a ha') hR _ _ e⟩
 have hs := nexts_wt _ _ _ _ _ h0 (by simpa using h1) (G.nn a ha') _ _ e
 have st := sumTo_at (g := wt M.len h (w.set a false)) (g' := wt M.len h w) (a := a) (fun i hi => by
  unfold wt
  rw [gb_set ha, if_neg hi]) M.len ha'
 by_cases hx : rd h a < 0
 ·have w1 : wt M.len h (w.set a false) a = 2 * M.len + 1 := by
   unfold wt; rw [gb_set ha]; simp [hx]
  have w2 : wt M.len h w a = 2 * M.len + 1 + (M.len - a) := by
   unfold wt; rw [if_pos (Or.inl hx), if_pos ⟨hx, hw⟩]
  rcases G.neg a ha' _ hx (hR a) (by simpa using hb) with hn | hn
  ·rw [hn] at hs; simp at hs; omega
  ·rw [hn] at hs; simp at hs
   omega
 ·have w1 : wt M.len h (w.set a false) a = 0 := by
   unfold wt; rw [gb_set ha]; simp [hx]
  have w2 : wt M.len h w a = 2 * M.len + 1 := by
   unfold wt; rw [if_pos (Or.inr hw), if_neg (fun c => hx c.1)]
  have h2 := G.two a ha'
  have hs2 : ((M.nx a).map fun n => M.len - n.toNat).sum ≤ 2 * M.len := by
   match hq : M.nx a with
   | [] => simp
   | [x] => simp; omega
   | [x, y] => simp; omega
   | x :: y :: z :: t => rw [hq] at h2; simp at h2
  omega
theorem run_ends {M : Mach} (G : M.Good) : ∀ (m : Nat) (h : List Int) (w : List Bool), h.length = M.len → w.length = M.len → (∀ b : Nat, -9223372036854775808 ≤ rd h b) → sumTo (wt M.len h w) M.len ≤ m → ∃ r, Run M h w r := by
 intro m
 induction m with
 | zero =>
  intro h w h0 h1 hR hm
  rcases least_ex w with hn | ⟨a, ha⟩
  ·exact ⟨_, Run.stop hn⟩
  ·match e : M.step h w a with
   | .error (h', c) => exact ⟨_, Run.bad ha e⟩
   | .ok (h', w') => have := (step_wt G h0 h1 ha hR e).1; omega
 | succ m ih =>
  intro h w h0 h1 hR hm
  rcases least_ex w with hn | ⟨a, ha⟩
  ·exact ⟨_, Run.stop hn⟩
  ·match e : M.step h w a with
   | .error (h', c) => exact ⟨_, Run.bad ha e⟩
   | .ok (h', w') =>
    obtain ⟨hs, hl, hR'⟩ := step_wt G h0 h1 ha hR e
    obtain ⟨r, hr⟩ := ih h' w' hl.1 hl.2 hR' om
    exact ⟨r, Run.go ha e hr⟩
theorem step_bad {M : Mach} {h : List Int} {w : List Bool} {a : Nat} (h0 : h.length = M.len) {h' : List Int} {c : Int} (e : M.step h w a = .error (h', c)) : h'.length = M.len ∧ (c = 5 ∨ c = 6) := by
 unfold Mach.step at e
 split at e
 ·simp only [Except.error.injEq, Prod.mk.injEq] at e; obtain ⟨rfl, rfl⟩ := e; exact ⟨h0, Or.inl rfl⟩
 ·exact nexts_bad _ _ _ _ _ h0 _ _ e
theorem step_len {M : Mach} {h : List Int} {w : List Bool} {a : Nat} (h0 : h.length = M.len) (h1 : w.length = M.len) {h' : List Int} {w' : List Bool} (e : M.step h w a = .ok (h', w')) : h'.length = M.len ∧ w'.length = M.len := by
 unfold Mach.step at e
 split at e
 ·cases e
 ·exact nexts_len _ _ _ _ _ h0 (by simpa using h1) _ _ e
theorem run_len {M : Mach} {h : List Int} {w : List Bool} {r : List Int × Int × Int} (hr : Run M h w r) : h.length = M.len → w.length = M.len → r.1.length = M.len ∧ (r.2.2 = 0 ∨ r.2.2 = 5 ∨ r.2.2 = 6) ∧ (r.2.2 = 0 → r.2.1 = 0) := by
 induction hr with
 | stop hn => intro h0 h1; exact ⟨h0, Or.inl rfl, fun _ => rfl⟩
 | bad ha e => intro h0 h1; have := step_bad h0 e; exact ⟨this.1, Or.inr this.2, fun hc => by have := this.2; simp at hc; omega⟩
 | go ha e _ ih => intro h0 h1; have := step_len h0 h1 e; exact ih this.1 this.2
theorem nexts_ok {P : Int → Prop} (len : Nat) (v : Int) (hv : P v) : ∀ (l h : List Int) (w : List Bool), h.length = len → w.length = len → (∀ n ∈ l, 0 ≤ n) → (∀ a : Nat, w.getD a false = true → P (rd h a)) → (∀ a : Nat, P (rd h a) ∨ rd h a < 0) → ∀ h' w', nexts len v l h w = .ok (h', w') →
  (∀ a : Nat, w'.getD a false = true → P (rd h' a)) ∧ (∀ a : Nat, P (rd h' a) ∨ rd h' a < 0)
 | [], h, w, h0, h1, hp, i1, i2, h', w', e => by simp only [nexts, Except.ok.injEq, Prod.mk.injEq] at e; obtain ⟨rfl, rfl⟩ := e; exact ⟨i1, i2⟩
 | n :: r, h, w, h0, h1, hp, i1, i2, h', w', e => by
  have hn := hp n (by simp)
  have hr : ∀ m ∈ r, 0 ≤ m := fun m hm => hp m (by simp [hm])
  simp only [nexts] at e
  split at e
  ·cases e
  rename_i hlt
  split at e
  ·cases e
  split at e
  ·have hb : n.toNat < len := by omega
   refine nexts_ok len v hv r _ _ (by simpa using h0) (by simpa using h1) hr (fun a ha => ?_) (fun a => ?_) h' w' e
   ·rw [rd_set om]
    rw [gb_set om] at ha
    split
    ·exact hv
    ·rename_i hne; rw [if_neg hne] at ha; exact i1 a ha
   ·rw [rd_set om]
    split
    ·exact Or.inl hv
    ·exact i2 a
  ·exact nexts_ok len v hv r _ _ h0 h1 hr i1 i2 h' w' e
theorem run_same {M M' : Mach} {P : Int → Prop} (e1 : M'.len = M.len) (e2 : M'.v = M.v) (e3 : M'.nx = M.nx) (G : M.Good) (hb : ∀ a, a < M.len → ∀ x, P x → M'.bad a x = M.bad a x) (hv : ∀ a, a < M.len → ∀ x, P x → M.bad a x = false → P (M.v a x))
  {h : List Int} {w : List Bool} {r : List Int × Int × Int} (hr : Run M h w r) : h.length = M.len → w.length = M.len → (∀ a : Nat, w.getD a false = true → P (rd h a)) → (∀ a : Nat, P (rd h a) ∨ rd h a < 0) → Run M' h w r := by
 induction hr with
 | stop hn => intro _ _ _ _; exact Run.stop hn
 | @bad h w a h' c ha e =>
  intro h0 h1 i1 i2
  refine Run.bad ha ?_
  have hl : a < M.len := by have := ha.1; omega
  unfold Mach.step at e ⊢
  rw [hb a hl _ (i1 a ha.2.1), e1, e2, e3]; exact e
 | @go h w a h' w' r ha e _ ih =>
  intro h0 h1 i1 i2
  have hl : a < M.len := by have := ha.1; omega
  have hL := step_len h0 h1 e
  have e' := e
  unfold Mach.step at e
  split at e
  ·cases e
  rename_i hnb
  have := nexts_ok (P := P) M.len (M.v a (rd h a)) (hv a hl _ (i1 a ha.2.1) (by simpa using hnb)) (M.nx a) h (w.set a false) h0 (by simpa using h1) (G.nn a hl) (fun b hb => by
   rw [gb_set ha.1] at hb
   split at hb
   ·cases hb
   ·exact i1 b hb) i2 h' w' e
  refine Run.go ha ?_ (ih hL.1 hL.2 this.1 this.2)
  unfold Mach.step at e' ⊢
  rw [hb a hl _ (i1 a ha.2.1), e1, e2, e3]; exact e'
theorem in_some (a b c : Int) : impl_in.f a b c = some (decide (b ≤ a) && decide (a ≤ c)) := by
 unfold impl_in.f
 by_cases h : a ≥ b
 ·rw [if_pos h]; simp [show b ≤ a from h]
 ·rw [if_neg h]; simp [show ¬ b ≤ a from h]
def hasB {α : Type} (p : List α) (f : Int) : Bool := decide (0 ≤ f) && decide (f < p.length)
theorem hasFunc_some (p : List S35) (f : Int) : impl_hasFunc.f p f = some (hasB p f) := by
 unfold impl_hasFunc.f hasB
 by_cases h : f ≥ 0
 ·rw [if_pos h]; simp [show 0 ≤ f from h]
 ·rw [if_neg h]; simp [show ¬ 0 ≤ f from h]
theorem ite_some' {α : Type} {c : Prop} [Decidable c] {a b : α} : (if c then some a else some b) = some (if c then a else b) := by split <;> rfl
theorem hasB_iff {α : Type} {p : List α} {f : Int} : hasB p f = true ↔ 0 ≤ f ∧ f < p.length := by simp [hasB]
def isBin (op : Int) : Bool := decide (10 ≤ op) && decide (op ≤ 23)
def isUn (op : Int) : Bool := decide (24 ≤ op) && decide (op ≤ 29)
theorem implBin_some (op : Int) : impl_isBinary.f op = some (isBin op) := by unfold impl_isBinary.f; rw [in_some]; rfl
theorem implUn_some (op : Int) : impl_isUnary.f op = some (isUn op) := by unfold impl_isUnary.f; rw [in_some]; rfl
theorem specBin_some (op : Int) : spec_l03Binary.f op = some (isBin op) := by
 unfold spec_l03Binary.f isBin
 by_cases h : op ≥ 10
 ·rw [if_pos h]; simp [show 10 ≤ op from h]
 ·rw [if_neg h]; simp [show ¬ 10 ≤ op from h]
theorem specUn_some (op : Int) : spec_l03Unary.f op = some (isUn op) := by
 unfold spec_l03Unary.f isUn
 by_cases h : op ≥ 24
 ·rw [if_pos h]; simp [show 24 ≤ op from h]
 ·rw [if_neg h]; simp [show ¬ 24 ≤ op from h]
def takesV (p : List S35) (op a : Int) : Int :=
 if isBin op = true then 2 else if op = 35 then 2 else if op = 36 then 3 else if op = 32 then (if hasB p a = true then (rd_T35 p a).f0 else 0)
 else if isUn op = true then 1 else if op = 3 then 1 else if op = 4 then 1 else if op = 5 then 1 else if op = 31 then 1 else if op = 33 then 1 else if op = 34 then 1 else if op = 37 then 1 else if op = 38 then 1 else 0
theorem ite_ite {α : Type} {c : Prop} [Decidable c] (a b d : α) : (if c then (if c then a else b) else d) = (if c then a else d) := by by_cases h : c <;> simp [h]
theorem implTakes_ev (p : List S35) (op a : Int) : Ev (fun k => impl_Takes.f k p op a) (takesV p op a) := by
 refine Ev.of (fun k => impl_Takes.mono _ _ _ k) (k := 2) ?_
 unfold impl_Takes.f takesV
 rw [implBin_some, Option.bind_some]
 by_cases hb : isBin op = true
 ·rw [if_pos hb, if_pos hb]; simp only [impl_Takes.j0]; rw [if_pos hb]
 ·rw [if_neg hb, if_neg hb]
  simp only [impl_Takes.j0, impl_Takes.j1, implUn_some, hasFunc_some, Option.bind_some]
  by_cases h35 : op = 35
  ·rw [if_pos (by simp [h35]), if_pos h35]
  ·rw [if_neg (by simp [h35]), if_neg h35]
   by_cases h32 : op = 32
   ·subst h32
    simp only [show ((32 : Int) = 36) = False from by simp, if_false, if_true]
    by_cases hh : hasB p a = true
    ·have h2 := hasB_iff.1 hh
     simp only [if_pos hh, if_pos h2.1, if_pos h2.2]
    ·simp only [if_neg hh]
   ·rw [if_neg h32, if_neg h32]
    simp only [beq_iff_eq, ite_ite, ite_some']
theorem specTakes_ev (p : List S35) (op a : Int) : Ev (fun k => spec_Takes.f k p op a) (takesV p op a) := by
 refine Ev.of (fun k => spec_Takes.mono _ _ _ k) (k := 2) ?_
 unfold spec_Takes.f takesV
 rw [specBin_some, Option.bind_some]
 by_cases hb : isBin op = true
 ·rw [if_pos hb, if_pos hb]; simp only [spec_Takes.j0, if_true]
 ·rw [if_neg hb, if_neg hb]
  simp only [spec_Takes.j0, spec_Takes.j1, specUn_some, Option.bind_some]
  by_cases h35 : op = 35
  ·rw [if_pos (by simp [h35]), if_pos h35]
  ·rw [if_neg (by simp [h35]), if_neg h35]
   by_cases h32 : op = 32
   ·subst h32
    simp only [show ((32 : Int) = 36) = False from by simp, if_false, if_true]
    by_cases hh : hasB p a = true
    ·have h2 := hasB_iff.1 hh
     rw [if_neg om, if_neg om, if_pos h2.1, if_pos h2.2]; simp only [if_pos hh]
    ·simp only [if_neg hh]
     have h2 : ¬ (0 ≤ a ∧ a < p.length) := fun h => hh (hasB_iff.2 h)
     by_cases h0 : a < 0
     ·rw [if_pos h0]
     ·rw [if_neg h0, if_pos om]
   ·rw [if_neg h32, if_neg h32]
    simp only [beq_iff_eq, ite_ite, ite_some']
def putsV (op : Int) : Int := if isBin op = true then 1 else if isUn op = true then 1 else if op = 4 then 2 else if op = 1 then 1 else if op = 2 then 1 else if op = 32 then 1 else if op = 34 then 1 else if op = 35 then 1 else if op = 37 then 1 else 0
theorem putsV_bd (op : Int) : 0 ≤ putsV op ∧ putsV op ≤ 2 := by unfold putsV; repeat' split <;> omega
theorem isBin_iff {op : Int} : isBin op = true ↔ 10 ≤ op ∧ op ≤ 23 := by simp [isBin]
theorem isUn_iff {op : Int} : isUn op = true ↔ 24 ≤ op ∧ op ≤ 29 := by simp [isUn]
theorem implArith_some (op : Int) : impl_isArith.f op = some (decide (10 ≤ op) && decide (op ≤ 29)) := by unfold impl_isArith.f; rw [in_some]; rfl
theorem arith_split (op : Int) : (decide (10 ≤ op) && decide (op ≤ 29)) = true ↔ isBin op = true ∨ isUn op = true := by
 rw [isBin_iff, isUn_iff]; simp only [Bool.and_eq_true, decide_eq_true_eq]; omega
theorem implPuts_ev (op a : Int) : Ev (fun k => impl_Puts.f k op a) (putsV op) := by
 refine Ev.of (fun k => impl_Puts.mono _ _ k) (k := 1) ?_
 unfold impl_Puts.f putsV
 simp only [impl_Puts.j0, implArith_some, Option.bind_some, arith_split]
 by_cases h4 : op = 4
 ·subst h4; simp [isBin, isUn]
 by_cases h1 : op = 1
 ·subst h1; simp [isBin, isUn]
 by_cases h2 : op = 2
 ·subst h2; simp [isBin, isUn]
 by_cases h32 : op = 32
 ·subst h32; simp [isBin, isUn]
 by_cases h34 : op = 34
 ·subst h34; simp [isBin, isUn]
 by_cases h35 : op = 35
 ·subst h35; simp [isBin, isUn]
 by_cases h37 : op = 37
 ·subst h37; simp [isBin, isUn]
 simp only [if_neg h4, if_neg h1, if_neg h2, if_neg h32, if_neg h34, if_neg h35, beq_no h37, Bool.false_eq_true, if_false, if_neg h37]
 by_cases hb : isBin op = true
 ·simp [hb]
 ·by_cases hu : isUn op = true
  ·simp [hb, hu]
  ·simp [hb, hu]
theorem specPuts_ev (op a : Int) : Ev (fun k => spec_Puts.f k op a) (putsV op) := by
 refine Ev.of (fun k => spec_Puts.mono _ _ k) (k := 2) ?_
 unfold spec_Puts.f putsV
 rw [specBin_some, specUn_some, Option.bind_some, Option.bind_some]
 simp only [spec_Puts.j0, spec_Puts.j1, beq_iff_eq, ite_ite, ite_some', if_true]
def namedB (op : Int) : Bool := (decide (1 ≤ op) && decide (op ≤ 5)) || (decide (10 ≤ op) && decide (op ≤ 38))
def nameV (op : Int) : ByteArray := (impl_OpName.f op).getD ⟨#[]⟩
theorem names_small : ∀ n : Nat, n < 39 → impl_OpName.f (n : Int) = some (nameV (n : Int)) ∧ spec_OpName.f 1 (n : Int) = some (nameV (n : Int)) ∧ (((nameV (n : Int)).toList = []) ↔ namedB (n : Int) = false) := by
 decide +kernel
theorem name_all (op : Int) : impl_OpName.f op = some (nameV op) ∧ spec_OpName.f 1 op = some (nameV op) ∧ (((nameV op).toList = []) ↔ namedB op = false) := by
 by_cases hr : 0 ≤ op ∧ op ≤ 38
 ·obtain ⟨n, rfl⟩ := Int.eq_ofNat_of_zero_le hr.1
  exact names_small n om
 ·have h1 : impl_OpName.f op = some ⟨#[]⟩ := by
   unfold impl_OpName.f impl_in.f
   by_cases hc : op ≥ 0
   ·rw [if_pos hc]
    have : decide (op ≤ 38) = false := by simp; omega
    simp [this]
   ·rw [if_neg hc]
    simp
  have hv : nameV op = ⟨#[]⟩ := by unfold nameV; rw [h1]; rfl
  rw [hv]
  refine ⟨h1, ?_, ?_⟩
  ·unfold spec_OpName.f
   simp only [Option.bind_some]
   by_cases hc : op ≥ 1
   ·rw [if_pos hc]
    have : decide (op ≤ 5) = false := by simp; omega
    simp only [this, spec_OpName.j0]
    by_cases hd : op ≥ 10
    ·rw [if_neg (by simp), if_pos hd, if_neg om]
    ·rw [if_neg (by simp), if_neg hd]
   ·rw [if_neg hc]
    simp only [spec_OpName.j0]
    rw [if_neg (by simp), if_neg om]
  ·have : namedB op = false := by
    unfold namedB
    simp
    omega
   simp [this]
theorem implName_some (op : Int) : impl_OpName.f op = some (nameV op) := (name_all op).1
theorem specName_ev (op : Int) : Ev (fun k => spec_OpName.f k op) (nameV op) := Ev.of (fun k => spec_OpName.mono _ k) (name_all op).2.1
theorem name_none (op : Int) : (nameV op).toList = [] ↔ namedB op = false := (name_all op).2.2
def insRightV (p : List S35) (f op a : Int) : Bool :=
 if hasB p f = true then
  (if op = 1 then true else if op = 2 ∨ op = 3 then decide (0 ≤ a) && decide (a < (rd_T35 p f).f1) else if op = 30 ∨ op = 31 then decide (0 ≤ a) && decide (a < (rd_T35 p f).f2.length)
  else if op = 32 then hasB p a else namedB op && (a == 0))
 else false
theorem and_some (a : Int) (q : Prop) [Decidable q] : (if a ≥ 0 then some (decide q) else some false) = some (decide (0 ≤ a) && decide q) := by
 by_cases h : a ≥ 0
 ·rw [if_pos h]; simp [show 0 ≤ a from h]
 ·rw [if_neg h]; simp [show ¬ 0 ≤ a from h]
theorem implInsRight_ev (p : List S35) (f op a : Int) : Ev (fun k => impl_InsRight.f k p f op a) (insRightV p f op a) := by
 refine Ev.of (fun k => impl_InsRight.mono _ _ _ _ k) (k := 2) ?_
 unfold impl_InsRight.f insRightV
 rw [hasFunc_some, Option.bind_some]
 by_cases hf : hasB p f = true
 ·have h2 := hasB_iff.1 hf
  simp only [if_pos hf, impl_InsRight.j0, impl_InsRight.j1, if_pos h2.1, if_pos h2.2, and_some, hasFunc_some, implName_some, Option.bind_some]
  by_cases h1 : op = 1
  ·simp only [if_pos h1]
  simp only [if_neg h1]
  by_cases h2 : op = 2
  ·subst h2; simp
  by_cases h3 : op = 3
  ·subst h3; simp
  simp only [if_neg h2, beq_no h3, Bool.false_eq_true, if_false, h2, h3, or_self]
  by_cases h30 : op = 30
  ·subst h30; simp
  by_cases h31 : op = 31
  ·subst h31; simp
  simp only [if_neg h30, beq_no h31, Bool.false_eq_true, if_false, h30, h31, or_self]
  by_cases h32 : op = 32
  ·simp only [if_pos h32]
  simp only [if_neg h32, name_none]
  cases namedB op <;> simp
 ·simp only [if_neg hf]
theorem specInsRight_ev (p : List S35) (f op a : Int) : Ev (fun k => spec_InsRight.f k p f op a) (insRightV p f op a) := by
 unfold spec_InsRight.f insRightV
 by_cases h0 : f < 0
 ·have hf : ¬ hasB p f = true := fun h => by have := hasB_iff.1 h; omega
  rw [if_neg hf]
  refine Ev.yes h0 (Ev.succ ?_)
  simp only [spec_InsRight.j0, if_true]
  exact Ev.now _
 refine Ev.no h0 (Ev.succ ?_)
 simp only [spec_InsRight.j0]
 by_cases hl : f ≥ (p.length : Int)
 ·have hf : ¬ hasB p f = true := fun h => by have := hasB_iff.1 h; omega
  rw [if_neg hf]
  exact Ev.yes (by simp [hl]) (Ev.now _)
 have hf : hasB p f = true := hasB_iff.2 ⟨by omega, by omega⟩
 have hg0 : 0 ≤ f := by omega
 have hg1 : f < (p.length : Int) := by omega
 rw [if_pos hf]
 refine Ev.no (by simp; omega) ?_
 by_cases h1 : op = 1
 ·rw [if_pos h1]; exact Ev.yes h1 (Ev.now _)
 refine Ev.no h1 ?_
 rw [if_neg h1]
 have hj2 : ∀ b : Bool, Ev (fun k => spec_InsRight.j2 k f op b p op a) (if b = true then decide (0 ≤ a) && decide (a < (rd_T35 p f).f2.length) else if op = 32 then hasB p a else namedB op && (a == 0)) := by
  intro b
  refine Ev.succ ?_
  simp only [spec_InsRight.j2, if_pos hg0, if_pos hg1, and_some]
  refine Ev.cases (fun hb => ?_) (fun hb => ?_)
  ·rw [if_pos hb]; exact Ev.now _
  ·rw [if_neg hb]
   refine Ev.cases (fun h32 => ?_) (fun h32 => ?_)
   ·rw [if_pos h32]; exact Ev.now _
   ·rw [if_neg h32]
    refine Ev.bind (specName_ev op) ?_
    simp only [name_none]
    cases namedB op
    ·exact Ev.yes rfl (by simpa using Ev.now false)
    ·exact Ev.no (by simp) (by simpa using Ev.now (a == 0))
 have hj1 : ∀ b : Bool, Ev (fun k => spec_InsRight.j1 k f op b p op a) (if b = true then decide (0 ≤ a) && decide (a < (rd_T35 p f).f1) else if op = 30 ∨ op = 31 then decide (0 ≤ a) && decide (a < (rd_T35 p f).f2.length) else if op = 32 then hasB p a else namedB op && (a == 0)) := by
  intro b
  refine Ev.succ ?_
  simp only [spec_InsRight.j1, if_pos hg0, if_pos hg1, and_some]
  refine Ev.cases (fun hb => ?_) (fun hb => ?_)
  ·rw [if_pos hb]; exact Ev.now _
  ·rw [if_neg hb]
   refine Ev.cases (fun h30 => ?_) (fun h30 => ?_)
   ·have := hj2 (op == 30)
    simpa [h30] using this
   ·have := hj2 (op == 31)
    by_cases h31 : op = 31
    ·simpa [h31] using this
    ·simpa [h30, h31] using this
 refine Ev.cases (fun h2 => ?_) (fun h2 => ?_)
 ·simpa [h2] using hj1 (op == 2)
 ·by_cases h3 : op = 3
  ·simpa [h3] using hj1 (op == 3)
  ·simpa [h2, h3] using hj1 (op == 3)
def nxV (op a : Int) (n : Nat) : List Int := if op = 33 then [] else if op = 30 then [a] else if op = 31 then [(n : Int) + 1, a] else [(n : Int) + 1]
def cdI (c : List S38) (a : Nat) : S38 := rd_T38 c (a : Int)
def tkV (p : List S35) (c : List S38) (a : Nat) : Int := takesV p (cdI c a).f0 (cdI c a).f1
def nextH (p : List S35) (c : List S38) (a : Nat) (x : Int) : Int := wrap64 (wrap64 (x - tkV p c a) + putsV (cdI c a).f0)
def machS (p : List S35) (c : List S38) : Mach := ⟨c.length, fun a x => decide (tkV p c a > x) || decide (nextH p c a x > 8), nextH p c, fun a => nxV (cdI c a).f0 (cdI c a).f1 a⟩
def machI (p : List S35) (c : List S38) : Mach := ⟨c.length, fun a x => decide (wrap64 (x - tkV p c a) < 0) || decide (nextH p c a x > 8), nextH p c, fun a => nxV (cdI c a).f0 (cdI c a).f1 a⟩
def okJ (c : List S38) : Prop := ∀ a, a < c.length → (cdI c a).f0 = 30 ∨ (cdI c a).f0 = 31 → 0 ≤ (cdI c a).f1 ∧ (cdI c a).f1 < c.length
theorem takesV_bd (p : List S35) (op a : Int) (h : op ≠ 32) : 0 ≤ takesV p op a ∧ takesV p op a ≤ 3 := by
 unfold takesV
 rw [if_neg h]
 repeat' split <;> omega
theorem nxV_mem {op a : Int} {n : Nat} {L : Nat} (hn : n < L) (h : op = 30 ∨ op = 31 → 0 ≤ a ∧ a < L) : ∀ m ∈ nxV op a n, 0 ≤ m ∧ m ≤ L := by
 intro m hm
 unfold nxV at hm
 split at hm
 ·simp at hm
 split at hm
 ·rename_i h30; have := h (Or.inl h30); simp at hm; omega
 split at hm
 ·rename_i h31; have := h (Or.inr h31); simp at hm; omega
 ·simp at hm; omega
theorem nxV_two (op a : Int) (n : Nat) : (nxV op a n).length ≤ 2 := by
 unfold nxV
 split
 ·simp
 split
 ·simp
 split <;> simp
theorem nextH_lo (p : List S35) (c : List S38) (a : Nat) (x : Int) : -9223372036854775808 ≤ nextH p c a x := wrap_lo _
theorem takesV_30 (p : List S35) (a : Int) : takesV p 30 a = 0 := by simp [takesV, isBin, isUn]
theorem takesV_31 (p : List S35) (a : Int) : takesV p 31 a = 1 := by simp [takesV, isBin, isUn]
theorem putsV_31 : putsV 31 = 0 := by simp [putsV, isBin, isUn]
theorem goodS (p : List S35) (c : List S38) (hj : okJ c) : (machS p c).Good where
 nn := fun a ha n hn => (nxV_mem ha (hj a ha) n hn).1
 two := fun a _ => nxV_two _ _ _
 lo := fun a x => nextH_lo p c a x
 neg := fun a ha x hx _ hb => by
  simp only [machS, Bool.or_eq_false_iff, decide_eq_false_iff_not] at hb
  by_cases h32 : (cdI c a).f0 = 32
  ·simp only [machS, h32]; exact Or.inr (by simp [nxV])
  ·have := takesV_bd p (cdI c a).f0 (cdI c a).f1 h32
   have h1 := hb.1
   unfold tkV at h1
   omega
theorem goodI (p : List S35) (c : List S38) (hj : okJ c) : (machI p c).Good where
 nn := fun a ha n hn => (nxV_mem ha (hj a ha) n hn).1
 two := fun a _ => nxV_two _ _ _
 lo := fun a x => nextH_lo p c a x
 neg := fun a ha x hx hlo hb => by
  simp only [machI, Bool.or_eq_false_iff, decide_eq_false_iff_not] at hb
  show nxV (cdI c a).f0 (cdI c a).f1 a = [] ∨ nxV (cdI c a).f0 (cdI c a).f1 a = [(a : Int) + 1]
  unfold nxV
  by_cases h33 : (cdI c a).f0 = 33
  ·rw [if_pos h33]; exact Or.inl rfl
  rw [if_neg h33]
  by_cases h30 : (cdI c a).f0 = 30
  ·exfalso
   have h1 := hb.1
   unfold tkV at h1
   rw [h30, takesV_30, wrap_in om om] at h1
   omega
  rw [if_neg h30]
  by_cases h31 : (cdI c a).f0 = 31
  ·exfalso
   have h1 := hb.1
   have h2 := hb.2
   unfold nextH at h2
   unfold tkV at h1 h2
   rw [h31, takesV_31] at h1 h2
   rw [putsV_31] at h2
   unfold wrap64 at h1 h2
   omega
  rw [if_neg h31]; exact Or.inr rfl
theorem rdOf_nat (w : List Bool) (a : Nat) : rdOf false w (a : Int) = w.getD a false := by simp [rdOf]
theorem specLeast_l0 (w : List Bool) (hw : w.length ≤ 1048576) (a : Nat) (ha : isLeast w a) : ∀ (d i : Nat), i + d = a → Ev (fun k => spec_l04Least.l0 k w (i : Int)) (a : Int) := by
 intro d
 have hlt := ha.1
 induction d with
 | zero =>
  intro i hi
  have e : i = a := by omega
  subst e
  refine Ev.succ ?_
  simp only [spec_l04Least.l0]
  exact Ev.yes om (Ev.yes om (Ev.yes (by rw [rdOf_nat]; exact ha.2.1) (Ev.now _)))
 | succ d ih =>
  intro i hi
  refine Ev.succ ?_
  simp only [spec_l04Least.l0]
  refine Ev.yes om (Ev.yes om (Ev.no (by rw [rdOf_nat, ha.2.2 i om]; simp) ?_))
  rw [idx_next (show i < w.length by omega) hw]
  exact ih (i + 1) om
theorem specLeast_n0 (w : List Bool) (hw : w.length ≤ 1048576) (ha : ∀ b, w.getD b false = false) : ∀ (d i : Nat), i + d = w.length → Ev (fun k => spec_l04Least.l0 k w (i : Int)) (-1) := by
 intro d
 induction d with
 | zero =>
  intro i hi
  refine Ev.succ ?_
  simp only [spec_l04Least.l0]
  exact Ev.no om (Ev.now _)
 | succ d ih =>
  intro i hi
  refine Ev.succ ?_
  simp only [spec_l04Least.l0]
  refine Ev.yes om (Ev.yes om (Ev.no (by rw [rdOf_nat, ha i]; simp) ?_))
  rw [idx_next (show i < w.length by omega) hw]
  exact ih (i + 1) om
theorem specLeast_ev (w : List Bool) (hw : w.length ≤ 1048576) (a : Nat) (ha : isLeast w a) : Ev (fun k => spec_l04Least.f k w) (a : Int) := by
 unfold spec_l04Least.f; exact specLeast_l0 w hw a ha a 0 om
theorem specLeast_no (w : List Bool) (hw : w.length ≤ 1048576) (ha : ∀ b, w.getD b false = false) : Ev (fun k => spec_l04Least.f k w) (-1) := by
 unfold spec_l04Least.f; exact specLeast_n0 w hw ha w.length 0 om
theorem rd_cons_at {x : List Int} {i : Nat} {n : Int} {r : List Int} (h : x.drop i = n :: r) : i < x.length ∧ rd x (i : Int) = n ∧ x.drop (i + 1) = r := by
 have hi : i < x.length := by
  rcases Nat.lt_or_ge i x.length with h' | h'
  ·exact h'
  ·rw [List.drop_of_length_le h'] at h; cases h
 rw [List.drop_eq_getElem_cons hi] at h
 injection h with h1 h2
 refine ⟨hi, ?_, h2⟩
 rw [rd_nat, List.getD_eq_getElem?_getD, List.getElem?_eq_getElem hi]; exact h1
theorem spec_l2_ev (p : List S35) (c : List S38) (f v b0 b1 : Int) (R : List Int × Int × Int × Int) : ∀ (r x : List Int) (i : Nat) (h : List Int) (w : List Bool), x.drop i = r → x.length ≤ 1048576 → h.length = c.length → w.length = c.length → (∀ n ∈ r, 0 ≤ n) →
  (∀ h' e, nexts c.length v r h w = .error (h', e) → R = (h', b0, b1, e)) → (∀ h' w', nexts c.length v r h w = .ok (h', w') → Ev (fun k => spec_l04Heights.l1 k f c h' w' p) R) → Ev (fun k => spec_l04Heights.l2 k f c h w v x (i : Int) p b0 b1 5) R
 | [], x, i, h, w, hx, hl, h0, h1, hp, he, ho => by
  refine Ev.succ ?_
  simp only [spec_l04Heights.l2]
  have : x.length ≤ i := List.drop_eq_nil_iff.1 hx
  exact Ev.no om (ho h w rfl)
 | n :: r, x, i, h, w, hx, hl, h0, h1, hp, he, ho => by
  obtain ⟨hi, hn, hd⟩ := rd_cons_at hx
  have hn0 := hp n (by simp)
  refine Ev.succ ?_
  simp only [spec_l04Heights.l2, hn]
  simp only [nexts] at he ho
  refine Ev.yes om (Ev.yes om ?_)
  by_cases hL : (c.length : Int) ≤ n
  ·rw [if_pos hL] at he
   rw [he _ _ rfl]
   exact Ev.yes hL (Ev.now _)
  rw [if_neg hL] at he ho
  refine Ev.no hL (Ev.yes hn0 (Ev.yes om ?_))
  have key : ∀ b : Bool, (b = true ↔ 0 ≤ rd h n ∧ rd h n ≠ v) → Ev (fun k => spec_l04Heights.j8 k f c h w v x (i : Int) b p b0 b1 5) R := by
   intro b hb
   refine Ev.succ ?_
   simp only [spec_l04Heights.j8, hn]
   by_cases hB : 0 ≤ rd h n ∧ rd h n ≠ v
   ·rw [if_pos hB] at he
    rw [he _ _ rfl]
    exact Ev.yes (hb.2 hB) (Ev.now _)
   rw [if_neg hB] at he ho
   refine Ev.no (fun hc => hB (hb.1 hc)) (Ev.yes om (Ev.yes om (Ev.yes hn0 (Ev.yes om ?_))))
   rw [idx_next hi hl]
   by_cases hN : rd h n < 0
   ·rw [if_pos hN] at he ho
    refine Ev.yes hN (Ev.yes om ?_)
    exact spec_l2_ev p c f v b0 b1 R r x (i + 1) _ _ hd hl (by simpa using h0) (by simpa using h1) (fun m hm => hp m (by simp [hm])) he ho
   ·rw [if_neg hN] at he ho
    refine Ev.no hN ?_
    exact spec_l2_ev p c f v b0 b1 R r x (i + 1) _ _ hd hl h0 h1 (fun m hm => hp m (by simp [hm])) he ho
  by_cases hge : rd h n ≥ 0
  ·refine Ev.yes hge (key _ ?_)
   simp only [bne_iff_ne, ne_eq]
   exact ⟨fun hv => ⟨hge, hv⟩, fun hv => hv.2⟩
  ·refine Ev.no hge (key _ ?_)
   simp only [Bool.false_eq_true, false_iff]
   exact fun hv => hge hv.1
theorem spec_run {p : List S35} {c : List S38} (f : Int) (hc : c.length ≤ 1048576) (hj : okJ c) {h : List Int} {w : List Bool} {r : List Int × Int × Int} (hr : Run (machS p c) h w r) :
  h.length = c.length → w.length = c.length → Ev (fun k => spec_l04Heights.l1 k f c h w p) (r.1, (if r.2.2 = 0 then 0 else f), r.2.1, r.2.2) := by
 have step : ∀ {h : List Int} {w : List Bool} {a : Nat} (R : List Int × Int × Int × Int), isLeast w a → h.length = c.length → w.length = c.length → (∀ h' e, (machS p c).step h w a = .error (h', e) → R = (h', f, (a : Int), e)) →
   (∀ h' w', (machS p c).step h w a = .ok (h', w') → Ev (fun k => spec_l04Heights.l1 k f c h' w' p) R) → Ev (fun k => spec_l04Heights.l1 k f c h w p) R := by
  intro h w a R ha h0 h1 he ho
  have hal : a < c.length := by have := ha.1; omega
  refine Ev.succ ?_
  simp only [spec_l04Heights.l1]
  refine Ev.bind (specLeast_ev w om a ha) (Ev.no om (Ev.yes om (Ev.yes om ?_)))
  simp only [Option.bind_some]
  refine Ev.yes om (Ev.bind (specTakes_ev p _ _) (Ev.yes om (Ev.bind (specPuts_ev _ _) ?_)))
  have key : ∀ b : Bool, b = (machS p c).bad a (rd h a) → Ev (fun k => spec_l04Heights.j2 k f c h (w.set a false) (a : Int) (nextH p c a (rd h a)) b p (cdI c a).f0 (cdI c a).f1 f (a : Int) 5) R := by
   intro b hb
   unfold Mach.step at he ho
   rw [← hb] at he ho
   refine Ev.succ ?_
   simp only [spec_l04Heights.j2, Option.bind_some]
   cases b with
   | true =>
    simp only [if_true] at he
    rw [he _ _ rfl]
    exact Ev.yes rfl (Ev.now _)
   | false =>
    simp only [Bool.false_eq_true, if_false] at he ho
    refine Ev.no (by simp) ?_
    have fin : ∀ x : List Int, x = nxV (cdI c a).f0 (cdI c a).f1 a → Ev (fun k => spec_l04Heights.j6 k f c h (w.set a false) (nextH p c a (rd h a)) x p f (a : Int) 5) R := by
     intro x hx
     refine Ev.succ ?_
     simp only [spec_l04Heights.j6]
     have hx2 := nxV_two (cdI c a).f0 (cdI c a).f1 a
     exact spec_l2_ev p c f _ f (a : Int) R x x 0 h (w.set a false) rfl (by rw [hx]; omega) h0 (by simpa using h1) (by rw [hx]; exact fun n hn => (nxV_mem hal (hj a hal) n hn).1) (by rw [hx]; exact he) (by rw [hx]; exact ho)
    have f5 : ∀ (x : List Int) (b : Bool), x.length ≤ 2 → (if b = true then x ++ [(cdI c a).f1] else x) = nxV (cdI c a).f0 (cdI c a).f1 a → Ev (fun k => spec_l04Heights.j5 k f c h (w.set a false) (nextH p c a (rd h a)) x b p (cdI c a).f0 (cdI c a).f1 f (a : Int) 5) R := by
     intro x b hxl hx
     refine Ev.succ ?_
     simp only [spec_l04Heights.j5]
     cases b with
     | true => exact Ev.yes rfl (Ev.yes om (fin _ (by simpa using hx)))
     | false => exact Ev.no (by simp) (fin _ (by simpa using hx))
    have f4 : ∀ (x : List Int), x.length ≤ 2 → (if (cdI c a).f0 = 30 ∨ (cdI c a).f0 = 31 then x ++ [(cdI c a).f1] else x) = nxV (cdI c a).f0 (cdI c a).f1 a → Ev (fun k => spec_l04Heights.j4 k f c h (w.set a false) (nextH p c a (rd h a)) x p (cdI c a).f0 (cdI c a).f1 f (a : Int) 5) R := by
     intro x hxl hx
     refine Ev.succ ?_
     simp only [spec_l04Heights.j4]
     refine Ev.cases (fun h30 => f5 _ _ hxl ?_) (fun h30 => f5 _ _ hxl ?_)
     ·rw [← hx]; simp [h30]
     ·rw [← hx]
      by_cases h31 : (cdI c a).f0 = 31
      ·simp [h31]
      ·simp [h30, h31]
    have f3 : ∀ b : Bool, (b = true ↔ (cdI c a).f0 ≠ 30 ∧ (cdI c a).f0 ≠ 33) → Ev (fun k => spec_l04Heights.j3 k f c h (w.set a false) (a : Int) (nextH p c a (rd h a)) [] b p (cdI c a).f0 (cdI c a).f1 f (a : Int) 5) R := by
     intro b hb3
     refine Ev.succ ?_
     simp only [spec_l04Heights.j3]
     have hw1 : wrap64 ((a : Int) + 1) = (a : Int) + 1 := wrap_in om om
     cases b with
     | true =>
      have hb4 := hb3.1 rfl
      refine Ev.yes rfl (Ev.yes (by simp) (f4 _ (by simp) ?_))
      unfold nxV
      rw [hw1, if_neg hb4.2, if_neg hb4.1]
      by_cases h31 : (cdI c a).f0 = 31
      ·simp [h31]
      ·simp [h31, hb4.1]
     | false =>
      refine Ev.no (by simp) (f4 _ (by simp) ?_)
      unfold nxV
      by_cases h33 : (cdI c a).f0 = 33
      ·simp [h33]
      ·by_cases h30 : (cdI c a).f0 = 30
       ·simp [h30]
       ·exact absurd (hb3.2 ⟨h30, h33⟩) (by simp)
    refine Ev.cases (fun h30 => f3 _ ?_) (fun h30 => f3 _ ?_)
    ·simp [h30]
    ·simp [h30]
  by_cases ht : tkV p c a > rd h a
  ·refine Ev.yes ht (key true ?_)
   simp [machS, ht]
  ·refine Ev.no ht (key _ ?_)
   simp only [machS, show decide (tkV p c a > rd h a) = false from by simpa using ht, Bool.false_or]
   rfl
 induction hr with
 | @stop h w hn =>
  intro h0 h1
  refine Ev.succ ?_
  simp only [spec_l04Heights.l1]
  exact Ev.bind (specLeast_no w om hn) (Ev.yes om (Ev.now _))
 | @bad h w a h' e ha hs =>
  intro h0 h1
  have h5 := step_bad (M := machS p c) h0 hs
  refine step _ ha h0 h1 (fun h'' e' q => ?_) (fun h'' w'' q => ?_)
  ·rw [hs] at q
   simp only [Except.error.injEq, Prod.mk.injEq] at q
   obtain ⟨rfl, rfl⟩ := q
   have : ¬ e = 0 := by omega
   simp [this]
  ·rw [hs] at q; cases q
 | @go h w a h' w' r ha hs hr ih =>
  intro h0 h1
  have hl := step_len (M := machS p c) h0 h1 hs
  refine step _ ha h0 h1 (fun h'' e' q => ?_) (fun h'' w'' q => ?_)
  ·rw [hs] at q; cases q
  ·rw [hs] at q
   simp only [Except.ok.injEq, Prod.mk.injEq] at q
   obtain ⟨rfl, rfl⟩ := q
   exact ih hl.1 hl.2
theorem impl_next_some (op a : Int) (n : Nat) (hn : n ≤ 1048576) : impl_next.f op a (n : Int) = some (nxV op a n) := by
 unfold impl_next.f nxV
 rw [wrap_in (show -9223372036854775808 ≤ (n : Int) + 1 by omega) om]
 simp only [ite_some']
theorem mn_eq (a b : Int) : mn a b = if b < a then b else a := rfl
theorem impl_skip (p : List S35) (c : List S38) (hc : c.length ≤ 1048576) (h : List Int) (w : List Bool) (h1 : w.length = c.length) (R : List Int × Int × Int) (m : Nat) (hm : m ≤ c.length) (hz : ∀ b, b < m → w.getD b false = false) (hR : Ev (fun k => impl_heightsOf.l1 k c h w (m : Int) p) R) :
  ∀ (d i : Nat), i + d = m → Ev (fun k => impl_heightsOf.l1 k c h w (i : Int) p) R := by
 intro d
 induction d with
 | zero =>
  intro i hi
  have e : i = m := by omega
  subst e; exact hR
 | succ d ih =>
  intro i hi
  refine Ev.succ ?_
  simp only [impl_heightsOf.l1]
  refine Ev.yes om (Ev.yes om (Ev.yes om (Ev.no (by rw [rdOf_nat, hz i om]; simp) ?_)))
  rw [idx_next (show i < c.length by omega) hc]
  exact ih (i + 1) om
theorem impl_l2_ev (p : List S35) (c : List S38) (hc : c.length ≤ 1048576) (a : Nat) (lft op arg v : Int) (hv : v = wrap64 (lft + putsV op)) (R : List Int × Int × Int) : ∀ (r x : List Int) (i : Nat) (h : List Int) (w : List Bool) (m : Nat), x.drop i = r → x.length ≤ 1048576 → h.length = c.length → w.length = c.length → (∀ n ∈ r, 0 ≤ n ∧ n ≤ c.length) →
  m ≤ c.length → (∀ b, b < m → w.getD b false = false) → (∀ h' e, nexts c.length v r h w = .error (h', e) → R = (h', (a : Int), e)) →
  (∀ h' w', nexts c.length v r h w = .ok (h', w') → ∀ m', m' ≤ c.length → (∀ b, b < m' → w'.getD b false = false) → Ev (fun k => impl_heightsOf.l1 k c h' w' (m' : Nat) p) R) →
  Ev (fun k => impl_heightsOf.l2 k c h w (a : Int) lft (m : Int) x (x.length : Int) (i : Int) p op arg) R
 | [], x, i, h, w, m, hx, hl, h0, h1, hp, hm, hz, he, ho => by
  refine Ev.succ ?_
  simp only [impl_heightsOf.l2]
  have : x.length ≤ i := List.drop_eq_nil_iff.1 hx
  exact Ev.no om (ho h w rfl m hm hz)
 | n :: r, x, i, h, w, m, hx, hl, h0, h1, hp, hm, hz, he, ho => by
  obtain ⟨hi, hn, hd⟩ := rd_cons_at hx
  have hn0 := hp n (by simp)
  refine Ev.succ ?_
  simp only [impl_heightsOf.l2, hn]
  simp only [nexts] at he ho
  refine Ev.yes om (Ev.yes om (Ev.yes om ?_))
  by_cases hL : (c.length : Int) ≤ n
  ·rw [if_pos hL] at he
   rw [he _ _ rfl]
   exact Ev.yes om (Ev.now _)
  rw [if_neg hL] at he ho
  refine Ev.no om (Ev.yes om (Ev.yes om ?_))
  have key : ∀ b : Bool, (b = true ↔ 0 ≤ rd h n ∧ rd h n ≠ v) → Ev (fun k => impl_heightsOf.j4 k c h w (a : Int) lft (m : Int) n x (x.length : Int) (i : Int) b p op arg) R := by
   intro b hb
   refine Ev.succ ?_
   simp only [impl_heightsOf.j4]
   by_cases hB : 0 ≤ rd h n ∧ rd h n ≠ v
   ·rw [if_pos hB] at he
    rw [he _ _ rfl]
    exact Ev.yes (hb.2 hB) (Ev.now _)
   rw [if_neg hB] at he ho
   refine Ev.no (fun hc => hB (hb.1 hc)) (Ev.yes om (Ev.yes om ?_))
   rw [idx_next hi hl]
   by_cases hN : rd h n < 0
   ·rw [if_pos hN] at he ho
    refine Ev.yes hN (Ev.bind (implPuts_ev op arg) (Ev.yes om ?_))
    rw [← hv, mn_eq]
    have e : (if n < (m : Int) then n else (m : Int)) = ((if n.toNat < m then n.toNat else m : Nat) : Int) := by
     by_cases hnm : n < (m : Int)
     ·rw [if_pos hnm, if_pos om]; omega
     ·rw [if_neg hnm, if_neg om]
    rw [e]
    refine impl_l2_ev p c hc a lft op arg v hv R r x (i + 1) _ _ _ hd hl (by simpa using h0) (by simpa using h1) (fun q hq => hp q (by simp [hq])) (by split <;> omega) (fun b hb => ?_) he ho
    rw [gb_set om]
    have hb2 : b < n.toNat ∧ b < m := by split at hb <;> omega
    rw [if_neg om]
    exact hz b hb2.2
   ·rw [if_neg hN] at he ho
    refine Ev.no hN ?_
    exact impl_l2_ev p c hc a lft op arg v hv R r x (i + 1) _ _ m hd hl h0 h1 (fun q hq => hp q (by simp [hq])) hm hz he ho
  by_cases hge : rd h n ≥ 0
  ·refine Ev.yes hge (Ev.bind (implPuts_ev op arg) (key _ ?_))
   rw [← hv]
   simp only [bne_iff_ne, ne_eq]
   exact ⟨fun hv => ⟨hge, hv⟩, fun hv => hv.2⟩
  ·refine Ev.no hge (key _ ?_)
   simp only [Bool.false_eq_true, false_iff]
   exact fun hv => hge hv.1
theorem impl_run {p : List S35} {c : List S38} (hc : c.length ≤ 1048576) (hj : okJ c) {h : List Int} {w : List Bool} {r : List Int × Int × Int} (hr : Run (machI p c) h w r) :
  h.length = c.length → w.length = c.length → ∀ m : Nat, m ≤ c.length → (∀ b, b < m → w.getD b false = false) → Ev (fun k => impl_heightsOf.l1 k c h w (m : Int) p) r := by
 have step : ∀ {h : List Int} {w : List Bool} {a : Nat} (R : List Int × Int × Int) (m : Nat), m ≤ c.length → (∀ b, b < m → w.getD b false = false) → isLeast w a → h.length = c.length → w.length = c.length → (∀ h' e, (machI p c).step h w a = .error (h', e) → R = (h', (a : Int), e)) →
   (∀ h' w', (machI p c).step h w a = .ok (h', w') → ∀ m', m' ≤ c.length → (∀ b, b < m' → w'.getD b false = false) → Ev (fun k => impl_heightsOf.l1 k c h' w' (m' : Nat) p) R) → Ev (fun k => impl_heightsOf.l1 k c h w (m : Int) p) R := by
  intro h w a R m hm hz ha h0 h1 he ho
  have hal : a < c.length := by have := ha.1; omega
  have hma : m ≤ a := by
   rcases Nat.lt_or_ge a m with q | q
   ·have := hz a q; rw [ha.2.1] at this; cases this
   ·exact q
  refine impl_skip p c hc h w h1 R a om ha.2.2 ?_ (a - m) m om
  refine Ev.succ ?_
  simp only [impl_heightsOf.l1]
  refine Ev.yes om (Ev.yes om (Ev.yes om (Ev.yes (by rw [rdOf_nat]; exact ha.2.1) ?_)))
  simp only [Option.bind_some]
  refine Ev.yes om (Ev.bind (implTakes_ev p _ _) ?_)
  have key : ∀ b : Bool, b = (machI p c).bad a (rd h a) → Ev (fun k => impl_heightsOf.j2 k c h (w.set a false) (a : Int) (wrap64 (rd h a - tkV p c a)) b p (cdI c a).f0 (cdI c a).f1) R := by
   intro b hb
   unfold Mach.step at he ho
   rw [← hb] at he ho
   refine Ev.succ ?_
   simp only [impl_heightsOf.j2]
   cases b with
   | true =>
    simp only [if_true] at he
    rw [he _ _ rfl]
    exact Ev.yes rfl (Ev.now _)
   | false =>
    simp only [Bool.false_eq_true, if_false] at he ho
    refine Ev.no (by simp) (Ev.flat (impl_next_some _ _ a om) ?_)
    have hx2 := nxV_two (cdI c a).f0 (cdI c a).f1 a
    refine impl_l2_ev p c hc a _ _ _ _ rfl R _ _ 0 h (w.set a false) a rfl om h0 (by simpa using h1) (fun n hn => nxV_mem hal (hj a hal) n hn) om (fun b hb => ?_) he ho
    rw [gb_set om]
    split
    ·rfl
    ·exact ha.2.2 b hb
  refine Ev.cases (fun ht => key true ?_) (fun ht => Ev.bind (implPuts_ev _ _) (key _ ?_))
  ·have ht' : wrap64 (rd h a - tkV p c a) < 0 := ht
   simp [machI, ht']
  ·have ht' : ¬ wrap64 (rd h a - tkV p c a) < 0 := ht
   simp only [machI, show decide (wrap64 (rd h a - tkV p c a) < 0) = false from by simpa using ht', Bool.false_or]
   rfl
 induction hr with
 | @stop h w hn =>
  intro h0 h1 m hm hz
  refine impl_skip p c hc h w h1 _ c.length om (fun b _ => hn b) ?_ (c.length - m) m om
  refine Ev.succ ?_
  simp only [impl_heightsOf.l1]
  exact Ev.no om (Ev.now _)
 | @bad h w a h' e ha hs =>
  intro h0 h1 m hm hz
  refine step _ m hm hz ha h0 h1 (fun h'' e' q => ?_) (fun h'' w'' q => ?_)
  ·rw [hs] at q
   simp only [Except.error.injEq, Prod.mk.injEq] at q
   obtain ⟨rfl, rfl⟩ := q
   rfl
  ·rw [hs] at q; cases q
 | @go h w a h' w' r ha hs hr ih =>
  intro h0 h1 m hm hz
  have hl := step_len (M := machI p c) h0 h1 hs
  refine step _ m hm hz ha h0 h1 (fun h'' e' q => ?_) (fun h'' w'' q => ?_)
  ·rw [hs] at q; cases q
  ·rw [hs] at q
   simp only [Except.ok.injEq, Prod.mk.injEq] at q
   obtain ⟨rfl, rfl⟩ := q
   exact ih hl.1 hl.2
def h0V (L : Nat) : List Int := (List.replicate L (-1)).set 0 0
def w0V (L : Nat) : List Bool := (List.replicate L false).set 0 true
theorem fill_take {h : List Int} {L i : Nat} (hl : h.length = L) (hi : i < L) (ht : h.take i = List.replicate i (-1)) : (h.set i (-1)).take (i + 1) = List.replicate (i + 1) (-1) := by
 rw [List.take_succ_eq_append_getElem (by simp; omega), List.take_set_of_le (Nat.le_refl _), ht, List.getElem_set_self]
 simp [List.replicate_succ']
theorem rd_rep (L : Nat) (x : Int) (a : Nat) : rd (List.replicate L x) (a : Int) = if a < L then x else 0 := by
 rw [rd_nat, List.getD_eq_getElem?_getD, List.getElem?_replicate]
 split <;> rfl
theorem gb_rep (L : Nat) (a : Nat) : (List.replicate L false).getD a false = false := by
 rw [List.getD_eq_getElem?_getD, List.getElem?_replicate]
 split <;> rfl
theorem h0V_rd {L : Nat} (hL : 1 ≤ L) (a : Nat) : rd (h0V L) (a : Int) = if a = 0 then 0 else if a < L then -1 else 0 := by
 unfold h0V
 rw [rd_set (by simp; omega), rd_rep]
theorem w0V_gb {L : Nat} (hL : 1 ≤ L) (a : Nat) : (w0V L).getD a false = decide (a = 0) := by
 unfold w0V
 rw [gb_set (by simp; omega), gb_rep]
 by_cases h : a = 0 <;> simp [h]
def insAll (p : List S35) (f : Int) (c : List S38) : Prop := ∀ a, a < c.length → insRightV p f (cdI c a).f0 (cdI c a).f1 = true
def formF (p : List S35) (f : Int) (x : S35) : Prop := 0 ≤ x.f0 ∧ x.f0 ≤ 4 ∧ x.f0 ≤ x.f1 ∧ x.f1 ≤ 8 ∧ 1 ≤ x.f2.length ∧ x.f2.length ≤ 60 ∧ insAll p f x.f2
def fnI (p : List S35) (f : Nat) : S35 := rd_T35 p (f : Int)
theorem insAll_okJ {p : List S35} {f : Nat} (h : insAll p f (fnI p f).f2) : okJ (fnI p f).f2 := by
 intro a ha hj
 have := h a ha
 unfold insRightV at this
 split at this
 ·rw [if_neg om, if_neg om] at this
  try rw [if_pos hj] at this
  rw [Bool.and_eq_true, decide_eq_true_eq, decide_eq_true_eq] at this
  exact this
 ·cases this
theorem start_ends {M : Mach} (G : M.Good) (hL : 1 ≤ M.len) : ∃ r, Run M (h0V M.len) (w0V M.len) r := by
 refine run_ends G _ _ _ (by simp [h0V]) (by simp [w0V]) (fun b => ?_) (Nat.le_refl _)
 rw [h0V_rd hL]; split
 ·omega
 ·split <;> omega
theorem specHeights_ev {p : List S35} {f : Nat} (hf : f < p.length) (h1 : 1 ≤ (fnI p f).f2.length) (h2 : (fnI p f).f2.length ≤ 1048576) (hj : okJ (fnI p f).f2) {r : List Int × Int × Int}
  (hr : Run (machS p (fnI p f).f2) (h0V (fnI p f).f2.length) (w0V (fnI p f).f2.length) r) : Ev (fun k => spec_l04Heights.f k p (f : Int)) (r.1, (if r.2.2 = 0 then 0 else (f : Int)), r.2.1, r.2.2) := by
 unfold spec_l04Heights.f
 have e : (rd_T35 p (f : Int)).f2 = (fnI p f).f2 := rfl
 simp only [e]
 refine Ev.yes om (Ev.yes om (Ev.yes om (Ev.yes om ?_)))
 simp only [Int.toNat_natCast]
 have key : ∀ (d i : Nat) (h : List Int), i + d = (fnI p f).f2.length → h.length = (fnI p f).f2.length → h.take i = List.replicate i (-1) → Ev (fun k => spec_l04Heights.l0 k (f : Int) (fnI p f).f2 h (i : Int) p) (r.1, (if r.2.2 = 0 then 0 else (f : Int)), r.2.1, r.2.2) := by
  intro d
  induction d with
  | zero =>
   intro i h hi hl ht
   refine Ev.succ ?_
   simp only [spec_l04Heights.l0]
   refine Ev.no om (Ev.yes om (Ev.yes om (Ev.yes om ?_)))
   simp only [Option.bind_some, Int.toNat_natCast]
   refine Ev.yes (by simp; omega) ?_
   rw [List.take_of_length_le om] at ht
   have := spec_run (f : Int) h2 hj hr (by simp [h0V]) (by simp [w0V])
   rw [ht, show i = (fnI p f).f2.length by omega]
   exact this
  | succ d ih =>
   intro i h hi hl ht
   refine Ev.succ ?_
   simp only [spec_l04Heights.l0]
   refine Ev.yes om (Ev.yes om ?_)
   rw [idx_next (show i < (fnI p f).f2.length by omega) h2]
   simp only [Int.toNat_natCast]
   exact ih (i + 1) _ om (by simpa using hl) (fill_take hl om ht)
 exact key (fnI p f).f2.length 0 _ om (by simp) (by simp)
theorem implHeights_ev {p : List S35} {f : Nat} (hf : f < p.length) (h1 : 1 ≤ (fnI p f).f2.length) (h2 : (fnI p f).f2.length ≤ 1048576) (hj : okJ (fnI p f).f2) {r : List Int × Int × Int}
  (hr : Run (machI p (fnI p f).f2) (h0V (fnI p f).f2.length) (w0V (fnI p f).f2.length) r) : Ev (fun k => impl_heightsOf.f k p (f : Int)) r := by
 unfold impl_heightsOf.f
 have e : (rd_T35 p (f : Int)).f2 = (fnI p f).f2 := rfl
 simp only [e]
 refine Ev.yes om (Ev.yes om (Ev.yes om (Ev.yes om ?_)))
 simp only [Int.toNat_natCast, Option.bind_some, List.length_replicate]
 refine Ev.yes om ?_
 have key : ∀ (d i : Nat) (h : List Int), i + d = (fnI p f).f2.length → h.length = (fnI p f).f2.length → h.take i = List.replicate i (-1) → Ev (fun k => impl_heightsOf.l0 k (fnI p f).f2 h (List.replicate (fnI p f).f2.length false) ((fnI p f).f2.length : Int) (i : Int) p) r := by
  intro d
  induction d with
  | zero =>
   intro i h hi hl ht
   refine Ev.succ ?_
   simp only [impl_heightsOf.l0]
   refine Ev.no om (Ev.yes om (Ev.yes (by simp; omega) ?_))
   rw [List.take_of_length_le om] at ht
   have := impl_run h2 hj hr (by simp [h0V]) (by simp [w0V]) 0 om (fun b hb => by omega)
   rw [ht, show i = (fnI p f).f2.length by omega]
   exact this
  | succ d ih =>
   intro i h hi hl ht
   refine Ev.succ ?_
   simp only [impl_heightsOf.l0]
   refine Ev.yes om (Ev.yes om (Ev.yes om ?_))
   rw [idx_next (show i < (fnI p f).f2.length by omega) h2]
   simp only [Int.toNat_natCast]
   exact ih (i + 1) _ om (by simpa using hl) (fill_take hl om ht)
 exact key (fnI p f).f2.length 0 _ om (by simp) (by simp)
def rightS (p : List S35) (f : Nat) (h : List Int) : Prop := formF p f (fnI p f) ∧ Run (machS p (fnI p f).f2) (h0V (fnI p f).f2.length) (w0V (fnI p f).f2.length) (h, 0, 0)
def rightI (p : List S35) (f : Nat) (h : List Int) : Prop := formF p f (fnI p f) ∧ Run (machI p (fnI p f).f2) (h0V (fnI p f).f2.length) (w0V (fnI p f).f2.length) (h, 0, 0)
theorem form_okJ {p : List S35} {f : Nat} (h : formF p f (fnI p f)) : okJ (fnI p f).f2 := insAll_okJ h.2.2.2.2.2.2
theorem specFunc_ins {p : List S35} {f : Nat} (c : List S38) (hc : c.length ≤ 1048576) (b0 b1 : Int) {R : Int × Int × Int} (bad : ∀ a, a < c.length → insRightV p f (cdI c a).f0 (cdI c a).f1 = false → (∀ b, b < a → insRightV p f (cdI c b).f0 (cdI c b).f1 = true) → R = ((f : Int), (a : Int), 1))
  (good : insAll p f c → Ev (fun k => (spec_l04Heights.f k p (f : Int)).bind fun t => (some (t.2.1, t.2.2.1, t.2.2.2) : Option (Int × Int × Int))) R) : Ev (fun k => spec_l04Func.l0 k (f : Int) 0 p b0 b1 c) R := by
 have key : ∀ (d i : Nat), i + d = c.length → (∀ b, b < i → insRightV p f (cdI c b).f0 (cdI c b).f1 = true) → Ev (fun k => spec_l04Func.l0 k (f : Int) (i : Int) p b0 b1 c) R := by
  intro d
  induction d with
  | zero =>
   intro i hi hb
   refine Ev.succ ?_
   simp only [spec_l04Func.l0]
   exact Ev.no om (good (fun a ha => hb a om))
  | succ d ih =>
   intro i hi hb
   refine Ev.succ ?_
   simp only [spec_l04Func.l0]
   refine Ev.yes om (Ev.yes om (Ev.bind (specInsRight_ev p f _ _) ?_))
   show Ev (fun k => if insRightV p f (cdI c i).f0 (cdI c i).f1 = true then _ else _) R
   refine Ev.cases (fun ht => ?_) (fun ht => ?_)
   ·rw [idx_next (show i < c.length by omega) hc]
    refine ih (i + 1) om (fun b hb' => ?_)
    rcases Nat.lt_succ_iff_lt_or_eq.1 hb' with q | q
    ·exact hb b q
    ·rw [q]; exact ht
   ·rw [bad i om (by simpa using ht) hb]; exact Ev.now _
 exact key c.length 0 om (fun b hb => by omega)
theorem specFunc_ev (p : List S35) {f : Nat} (hf : f < p.length) : (∃ h, rightS p f h ∧ Ev (fun k => spec_l04Func.f k p (f : Int)) (0, 0, 0)) ∨ ((¬ ∃ h, rightS p f h ∧ Ev (fun k => spec_l04Func.f k p (f : Int)) (0, 0, 0)) ∧ ∃ r : Int × Int × Int, r.2.2 ≠ 0 ∧ Ev (fun k => spec_l04Func.f k p (f : Int)) r) := by
 by_cases hc : ∃ h, rightS p f h ∧ Ev (fun k => spec_l04Func.f k p (f : Int)) (0, 0, 0)
 ·exact Or.inl hc
 refine Or.inr ⟨hc, ?_⟩
 by_cases hs : 0 ≤ (fnI p f).f0 ∧ (fnI p f).f0 ≤ 4 ∧ (fnI p f).f0 ≤ (fnI p f).f1 ∧ (fnI p f).f1 ≤ 8 ∧ 1 ≤ (fnI p f).f2.length ∧ (fnI p f).f2.length ≤ 60
 case neg =>
  refine ⟨((f : Int), 0, 1), by simp, ?_⟩
  unfold spec_l04Func.f
  have e : rd_T35 p (f : Int) = fnI p f := rfl
  simp only [e]
  have bad : Ev (fun k => spec_l04Func.j0 k (f : Int) true p (fnI p f).f0 (fnI p f).f1 (fnI p f).f2) ((f : Int), 0, 1) := by
   refine Ev.succ ?_
   simp only [spec_l04Func.j0]
   exact Ev.yes (by simp) (Ev.now _)
  refine Ev.yes om (Ev.yes om (Ev.cases (fun _ => bad) (fun q0 => Ev.cases (fun _ => bad) (fun q1 => Ev.cases (fun _ => bad) (fun q2 => Ev.cases (fun _ => bad) (fun q3 => Ev.cases (fun _ => bad) (fun q4 => ?_)))))))
  rw [show decide (((fnI p f).f2.length : Int) > 60) = true from by simp; omega]
  exact bad
 obtain ⟨s0, s1, s2, s3, s4, s5⟩ := hs
 have go : ∀ R : Int × Int × Int, Ev (fun k => spec_l04Func.l0 k (f : Int) 0 p (fnI p f).f0 (fnI p f).f1 (fnI p f).f2) R → Ev (fun k => spec_l04Func.f k p (f : Int)) R := by
  intro R hR
  unfold spec_l04Func.f
  have e : rd_T35 p (f : Int) = fnI p f := rfl
  simp only [e]
  refine Ev.yes om (Ev.yes om (Ev.no om (Ev.no om (Ev.no om (Ev.no om (Ev.no om (Ev.succ ?_)))))))
  simp only [spec_l04Func.j0]
  exact Ev.no (by simp; omega) hR
 by_cases hi : insAll p f (fnI p f).f2
 case neg =>
  have : ∃ a, a < (fnI p f).f2.length ∧ insRightV p f (cdI (fnI p f).f2 a).f0 (cdI (fnI p f).f2 a).f1 = false := by
   refine Classical.byContradiction fun hn => hi (fun a ha => ?_)
   cases e : insRightV p f (cdI (fnI p f).f2 a).f0 (cdI (fnI p f).f2 a).f1
   ·exact absurd ⟨a, ha, e⟩ hn
   ·rfl
  have least : ∃ a, a < (fnI p f).f2.length ∧ insRightV p f (cdI (fnI p f).f2 a).f0 (cdI (fnI p f).f2 a).f1 = false ∧ ∀ b, b < a → insRightV p f (cdI (fnI p f).f2 b).f0 (cdI (fnI p f).f2 b).f1 = true := by
   obtain ⟨a, ha, hb⟩ := this
   have : ∀ n a, a ≤ n → a < (fnI p f).f2.length → insRightV p f (cdI (fnI p f).f2 a).f0 (cdI (fnI p f).f2 a).f1 = false → ∃ a, a < (fnI p f).f2.length ∧ insRightV p f (cdI (fnI p f).f2 a).f0 (cdI (fnI p f).f2 a).f1 = false ∧ ∀ b, b < a → insRightV p f (cdI (fnI p f).f2 b).f0 (cdI (fnI p f).f2 b).f1 = true := by
    intro n
    induction n with
    | zero => intro a h0 h1 h2; exact ⟨a, h1, h2, fun b hb => by omega⟩
    | succ n ih =>
     intro a h0 h1 h2
     by_cases hx : ∃ b, b < a ∧ insRightV p f (cdI (fnI p f).f2 b).f0 (cdI (fnI p f).f2 b).f1 = false
     ·obtain ⟨b, hb, hb2⟩ := hx
      exact ih b om om hb2
     ·refine ⟨a, h1, h2, fun b hb => ?_⟩
      cases e : insRightV p f (cdI (fnI p f).f2 b).f0 (cdI (fnI p f).f2 b).f1
      ·exact absurd ⟨b, hb, e⟩ hx
      ·rfl
   exact this a a (Nat.le_refl _) ha hb
  obtain ⟨a, h1, h2, h3⟩ := least
  refine ⟨((f : Int), (a : Int), 1), by simp, go _ (specFunc_ins _ om _ _ (fun b hb1 hb2 hb3 => ?_) (fun hg => absurd hg hi))⟩
  have : a = b := by
   rcases Nat.lt_trichotomy a b with q | q | q
   ·have := hb3 a q; rw [h2] at this; cases this
   ·exact q
   ·have := h3 b q; rw [hb2] at this; cases this
  rw [this]
 obtain ⟨r, hr⟩ := start_ends (goodS p _ (insAll_okJ hi)) s4
 have hh := specHeights_ev hf s4 om (insAll_okJ hi) hr
 have hfn := go _ (specFunc_ins _ om _ _ (fun a h1 h2 _ => by have := hi a h1; rw [this] at h2; cases h2) (fun _ => Ev.bind hh (Ev.now _)))
 have hlen := run_len hr (by simp [h0V, machS]) (by simp [w0V, machS])
 by_cases h0 : r.2.2 = 0
 ·exfalso
  have e : r = (r.1, 0, 0) := by
   obtain ⟨a, b, c⟩ := r
   simp only at h0 hlen ⊢
   rw [h0, hlen.2.2 h0]
  refine hc ⟨r.1, ⟨⟨s0, s1, s2, s3, s4, s5, hi⟩, e ▸ hr⟩, ?_⟩
  simpa [h0, hlen.2.2 h0] using hfn
 ·exact ⟨_, h0, hfn⟩
theorem specVerify_ev (p : List S35) : (1 ≤ p.length ∧ p.length ≤ 6 ∧ (∀ f, f < p.length → ∃ h, rightS p f h) ∧ Ev (fun k => spec_Verify.f k p) (0, 0, 0)) ∨ (¬ (1 ≤ p.length ∧ p.length ≤ 6 ∧ ∀ f, f < p.length → ∃ h, rightS p f h)) ∧ ∃ r : Int × Int × Int, r.2.2 ≠ 0 ∧ Ev (fun k => spec_Verify.f k p) r := by
 by_cases hl : 1 ≤ p.length ∧ p.length ≤ 6
 case neg =>
  refine Or.inr ⟨fun h => hl ⟨h.1, h.2.1⟩, (0, 0, 1), by simp, ?_⟩
  unfold spec_Verify.f
  have bad : Ev (fun k => spec_Verify.j0 k true p) (0, 0, 1) := by
   refine Ev.succ ?_
   simp only [spec_Verify.j0]
   exact Ev.yes (by simp) (Ev.now _)
  refine Ev.cases (fun _ => bad) (fun q => ?_)
  rw [show decide ((p.length : Int) > 6) = true from by simp; omega]
  exact bad
 have go : ∀ R : Int × Int × Int, Ev (fun k => spec_Verify.l0 k 0 p) R → Ev (fun k => spec_Verify.f k p) R := by
  intro R hR
  unfold spec_Verify.f
  refine Ev.no om (Ev.succ ?_)
  simp only [spec_Verify.j0]
  exact Ev.no (by simp; omega) hR
 by_cases ha : ∀ f, f < p.length → ∃ h, rightS p f h ∧ Ev (fun k => spec_l04Func.f k p (f : Int)) (0, 0, 0)
 ·refine Or.inl ⟨hl.1, hl.2, fun f hf => ?_, go _ ?_⟩
  ·obtain ⟨h, h1, _⟩ := ha f hf; exact ⟨h, h1⟩
  have key : ∀ (d i : Nat), i + d = p.length → Ev (fun k => spec_Verify.l0 k (i : Int) p) (0, 0, 0) := by
   intro d
   induction d with
   | zero =>
    intro i hi
    refine Ev.succ ?_
    simp only [spec_Verify.l0]
    exact Ev.no om (Ev.now _)
   | succ d ih =>
    intro i hi
    refine Ev.succ ?_
    simp only [spec_Verify.l0]
    obtain ⟨h, _, h2⟩ := ha i om
    refine Ev.yes om (Ev.bind h2 (Ev.yes rfl ?_))
    rw [idx_next (show i < p.length by omega) om]
    exact ih (i + 1) om
  exact key p.length 0 om
 ·have hb : ∃ f, f < p.length ∧ ¬ ∃ h, rightS p f h ∧ Ev (fun k => spec_l04Func.f k p (f : Int)) (0, 0, 0) := by
   refine Classical.byContradiction fun hn => ha (fun f hf => ?_)
   exact Classical.byContradiction fun hq => hn ⟨f, hf, hq⟩
  obtain ⟨f, hf, hbad⟩ := hb
  refine Or.inr ⟨fun hall => ?_, ?_⟩
  ·obtain ⟨h, hh⟩ := hall.2.2 f hf
   have s := hh.1
   have h1 := specHeights_ev hf s.2.2.2.2.1 (by have := s.2.2.2.2.2.1; omega) (form_okJ s) hh.2
   refine hbad ⟨h, hh, ?_⟩
   rcases specFunc_ev p hf with ⟨h', hh', e⟩ | ⟨hn, r, hr, e⟩
   ·exact e
   ·exfalso
    have e2 : Ev (fun k => spec_l04Func.f k p (f : Int)) (0, 0, 0) := by
     unfold spec_l04Func.f
     have e : rd_T35 p (f : Int) = fnI p f := rfl
     simp only [e]
     obtain ⟨s0, s1, s2, s3, s4, s5, s6⟩ := s
     refine Ev.yes om (Ev.yes om (Ev.no om (Ev.no om (Ev.no om (Ev.no om (Ev.no om (Ev.succ ?_)))))))
     simp only [spec_l04Func.j0]
     refine Ev.no (by simp; omega) (specFunc_ins _ om _ _ (fun a q1 q2 _ => by have := s6 a q1; rw [this] at q2; cases q2) (fun _ => Ev.bind h1 (by simpa using Ev.now _)))
    have := Pure.Ev.uniq e e2
    rw [this] at hr; exact hr rfl
  ·have key : ∀ (d i : Nat), i + d = f → ∃ r : Int × Int × Int, r.2.2 ≠ 0 ∧ Ev (fun k => spec_Verify.l0 k (i : Int) p) r := by
    intro d
    induction d with
    | zero =>
     intro i hi
     have e : i = f := by omega
     subst e
     rcases specFunc_ev p hf with q | ⟨_, r, hr, e⟩
     ·exact absurd q hbad
     ·refine ⟨r, hr, Ev.succ ?_⟩
      simp only [spec_Verify.l0]
      exact Ev.yes om (Ev.bind e (Ev.no hr (Ev.now _)))
    | succ d ih =>
     intro i hi
     rcases specFunc_ev p (show i < p.length by omega) with ⟨h, _, e⟩ | ⟨_, r, hr, e⟩
     ·obtain ⟨r, hr, e2⟩ := ih (i + 1) om
      refine ⟨r, hr, Ev.succ ?_⟩
      simp only [spec_Verify.l0]
      refine Ev.yes om (Ev.bind e (Ev.yes rfl ?_))
      rw [idx_next (show i < p.length by omega) om]
      exact e2
     ·refine ⟨r, hr, Ev.succ ?_⟩
      simp only [spec_Verify.l0]
      exact Ev.yes om (Ev.bind e (Ev.no hr (Ev.now _)))
   obtain ⟨r, hr, e⟩ := key f 0 om
   exact ⟨r, hr, go r e⟩
def rdH (hs : List (List Int)) (f : Nat) : List Int := rd_L7 hs (f : Int)
theorem smallTk {p : List S35} (hp : ∀ f, f < p.length → 0 ≤ (fnI p f).f0 ∧ (fnI p f).f0 ≤ 4) (c : List S38) (a : Nat) : 0 ≤ tkV p c a ∧ tkV p c a ≤ 4 := by
 unfold tkV
 by_cases h32 : (cdI c a).f0 = 32
 ·unfold takesV
  rw [h32, if_neg (by decide), if_neg (by decide), if_neg (by decide), if_pos rfl]
  split
  ·rename_i hh
   have := hasB_iff.1 hh
   have h1 := hp (cdI c a).f1.toNat om
   have e : (((cdI c a).f1.toNat : Nat) : Int) = (cdI c a).f1 := by omega
   unfold fnI at h1
   rw [e] at h1
   exact h1
  ·omega
 ·have := takesV_bd p (cdI c a).f0 (cdI c a).f1 h32
  omega
theorem small_bad {p : List S35} (hp : ∀ f, f < p.length → 0 ≤ (fnI p f).f0 ∧ (fnI p f).f0 ≤ 4) (c : List S38) (a : Nat) (x : Int) (hx : 0 ≤ x ∧ x ≤ 8) : (machI p c).bad a x = (machS p c).bad a x ∧ ((machS p c).bad a x = false → 0 ≤ nextH p c a x ∧ nextH p c a x ≤ 8) := by
 have ht := smallTk hp c a
 have hq := putsV_bd (cdI c a).f0
 have e1 : wrap64 (x - tkV p c a) = x - tkV p c a := wrap_in om om
 have e2 : nextH p c a x = x - tkV p c a + putsV (cdI c a).f0 := by unfold nextH; rw [e1]; exact wrap_in om om
 simp only [machI, machS, e1, e2]
 constructor
 ·congr 1
  have : (x - tkV p c a < 0) ↔ (tkV p c a > x) := by omega
  simp only [this]
 ·intro h
  simp only [Bool.or_eq_false_iff, decide_eq_false_iff_not] at h
  omega
theorem right_SI {p : List S35} (hp : ∀ f, f < p.length → 0 ≤ (fnI p f).f0 ∧ (fnI p f).f0 ≤ 4) (f : Nat) (h : List Int) : rightS p f h ↔ rightI p f h := by
 have i1 : ∀ L : Nat, 1 ≤ L → (∀ a : Nat, (w0V L).getD a false = true → 0 ≤ rd (h0V L) (a : Int) ∧ rd (h0V L) (a : Int) ≤ 8) := by
  intro L hL a ha
  rw [w0V_gb hL] at ha
  rw [h0V_rd hL, if_pos (by simpa using ha)]; omega
 have i2 : ∀ L : Nat, 1 ≤ L → (∀ a : Nat, (0 ≤ rd (h0V L) (a : Int) ∧ rd (h0V L) (a : Int) ≤ 8) ∨ rd (h0V L) (a : Int) < 0) := by
  intro L hL a
  rw [h0V_rd hL]
  split
  ·omega
  ·split <;> omega
 constructor
 ·rintro ⟨hf, hr⟩
  refine ⟨hf, run_same (M := machS p (fnI p f).f2) (M' := machI p (fnI p f).f2) (P := fun x => 0 ≤ x ∧ x ≤ 8) rfl rfl rfl (goodS p _ (form_okJ hf)) (fun a _ x hx => (small_bad hp _ a x hx).1) (fun a _ x hx hb => (small_bad hp _ a x hx).2 hb) hr (by simp [h0V, machS]) (by simp [w0V, machS]) (i1 _ hf.2.2.2.2.1) (i2 _ hf.2.2.2.2.1)⟩
 ·rintro ⟨hf, hr⟩
  refine ⟨hf, run_same (M := machI p (fnI p f).f2) (M' := machS p (fnI p f).f2) (P := fun x => 0 ≤ x ∧ x ≤ 8) rfl rfl rfl (goodI p _ (form_okJ hf)) (fun a _ x hx => (small_bad hp _ a x hx).1.symm) (fun a _ x hx hb => (small_bad hp _ a x hx).2 (by rw [← (small_bad hp _ a x hx).1]; exact hb)) hr (by simp [h0V, machI]) (by simp [w0V, machI]) (i1 _ hf.2.2.2.2.1) (i2 _ hf.2.2.2.2.1)⟩
theorem implFunc_ins {p : List S35} {f : Nat} (c : List S38) (hc : c.length ≤ 1048576) (acc : List (List Int)) (L I : Int) {R : Int × Int × Int × List (List Int)} (bad : ∀ a : Nat, a < c.length → insRightV p f (cdI c a).f0 (cdI c a).f1 = false → R = ((f : Int), (a : Int), 1, []) ∨ ∃ b, b < a ∧ insRightV p f (cdI c b).f0 (cdI c b).f1 = false)
  (good : insAll p f c → Ev (fun k => (impl_heightsOf.f k p (f : Int)).bind fun t => if t.2.2 = 0 then (if acc.length < 5864062014805 then impl_verify.l0 k (acc ++ [t.1]) p L (wrap64 (I + 1)) p else none) else some ((f : Int), t.2.1, t.2.2, [])) R) : Ev (fun k => impl_verify.l1 k acc (f : Int) p L I c (c.length : Int) 0 p) R := by
 have key : ∀ (d i : Nat), i + d = c.length → (∀ b, b < i → insRightV p f (cdI c b).f0 (cdI c b).f1 = true) → Ev (fun k => impl_verify.l1 k acc (f : Int) p L I c (c.length : Int) (i : Int) p) R := by
  intro d
  induction d with
  | zero =>
   intro i hi hb
   refine Ev.succ ?_
   simp only [impl_verify.l1]
   exact Ev.no om (good (fun a ha => hb a om))
  | succ d ih =>
   intro i hi hb
   refine Ev.succ ?_
   simp only [impl_verify.l1]
   refine Ev.yes om (Ev.yes om (Ev.yes om (Ev.bind (implInsRight_ev p f _ _) ?_)))
   show Ev (fun k => if insRightV p f (cdI c i).f0 (cdI c i).f1 = true then _ else _) R
   refine Ev.cases (fun ht => ?_) (fun ht => ?_)
   ·rw [idx_next (show i < c.length by omega) hc]
    refine ih (i + 1) om (fun b hb' => ?_)
    rcases Nat.lt_succ_iff_lt_or_eq.1 hb' with q | q
    ·exact hb b q
    ·rw [q]; exact ht
   ·rcases bad i om (by simpa using ht) with q | ⟨b, q1, q2⟩
    ·rw [q]; exact Ev.now _
    ·rw [hb b q1] at q2; cases q2
 exact key c.length 0 om (fun b hb => by omega)
theorem impl_form {p : List S35} {f : Nat} (hf : f < p.length) (acc : List (List Int)) {R : Int × Int × Int × List (List Int)}
  (bad : ¬ (0 ≤ (fnI p f).f0 ∧ (fnI p f).f0 ≤ 4 ∧ (fnI p f).f0 ≤ (fnI p f).f1 ∧ (fnI p f).f1 ≤ 8 ∧ 1 ≤ (fnI p f).f2.length ∧ (fnI p f).f2.length ≤ 60) → R = ((f : Int), 0, 1, []))
  (good : (0 ≤ (fnI p f).f0 ∧ (fnI p f).f0 ≤ 4 ∧ (fnI p f).f0 ≤ (fnI p f).f1 ∧ (fnI p f).f1 ≤ 8 ∧ 1 ≤ (fnI p f).f2.length ∧ (fnI p f).f2.length ≤ 60) → Ev (fun k => impl_verify.l1 k acc (f : Int) p (p.length : Int) (f : Int) (fnI p f).f2 ((fnI p f).f2.length : Int) 0 p) R) :
  Ev (fun k => impl_verify.l0 k acc p (p.length : Int) (f : Int) p) R := by
 refine Ev.succ ?_
 simp only [impl_verify.l0]
 have e : rd_T35 p (f : Int) = fnI p f := rfl
 simp only [e]
 have key : ∀ b : Bool, (b = true ↔ ¬ (0 ≤ (fnI p f).f0 ∧ (fnI p f).f0 ≤ 4 ∧ (fnI p f).f0 ≤ (fnI p f).f1 ∧ (fnI p f).f1 ≤ 8 ∧ 1 ≤ (fnI p f).f2.length ∧ (fnI p f).f2.length ≤ 60)) → Ev (fun k => impl_verify.j2 k acc (f : Int) p (p.length : Int) (f : Int) b p (fnI p f).f0 (fnI p f).f1 (fnI p f).f2) R := by
  intro b hb
  refine Ev.succ ?_
  simp only [impl_verify.j2]
  refine Ev.cases (fun q => ?_) (fun q => ?_)
  ·rw [bad (hb.1 q)]; exact Ev.now _
  ·exact good (Classical.not_not.1 fun hn => q (hb.2 hn))
 refine Ev.yes om (Ev.yes om (Ev.yes om (Ev.flat (in_some _ _ _) ?_)))
 refine Ev.cases (fun q0 => ?_) (fun q0 => ?_)
 ·simp only [Bool.and_eq_true, decide_eq_true_eq] at q0
  refine Ev.flat (in_some _ _ _) (Ev.cases (fun q1 => ?_) (fun q1 => ?_))
  ·simp only [Bool.and_eq_true, decide_eq_true_eq] at q1
   refine Ev.flat (in_some _ _ _) (key _ ?_)
   simp only [Bool.not_eq_true', Bool.and_eq_false_iff, decide_eq_false_iff_not]
   omega
  ·simp only [Bool.and_eq_true, decide_eq_true_eq] at q1
   exact key true (by simp only [true_iff]; omega)
 ·simp only [Bool.and_eq_true, decide_eq_true_eq] at q0
  exact key true (by simp only [true_iff]; omega)
theorem impl_step_good {p : List S35} {f : Nat} (hf : f < p.length) (hl : p.length ≤ 1048576) {h : List Int} (hr : rightI p f h) (acc : List (List Int)) (ha : acc.length ≤ 1048576) {R : Int × Int × Int × List (List Int)}
  (hR : Ev (fun k => impl_verify.l0 k (acc ++ [h]) p (p.length : Int) ((f + 1 : Nat) : Int) p) R) : Ev (fun k => impl_verify.l0 k acc p (p.length : Int) (f : Int) p) R := by
 obtain ⟨⟨s0, s1, s2, s3, s4, s5, s6⟩, hrun⟩ := hr
 refine impl_form hf acc (fun hb => absurd ⟨s0, s1, s2, s3, s4, s5⟩ hb) (fun _ => ?_)
 refine implFunc_ins _ om acc _ _ (fun a q1 q2 => by rw [s6 a q1] at q2; cases q2) (fun _ => ?_)
 refine Ev.bind (implHeights_ev hf s4 om (insAll_okJ s6) hrun) (Ev.yes rfl (Ev.yes om ?_))
 rw [idx_next hf hl]
 exact hR
theorem impl_step_bad {p : List S35} {f : Nat} (hf : f < p.length) (hn : ¬ ∃ h, rightI p f h) : ∃ r : Int × Int × Int × List (List Int), r.2.2.1 ≠ 0 ∧ ∀ acc, Ev (fun k => impl_verify.l0 k acc p (p.length : Int) (f : Int) p) r := by
 by_cases hs : 0 ≤ (fnI p f).f0 ∧ (fnI p f).f0 ≤ 4 ∧ (fnI p f).f0 ≤ (fnI p f).f1 ∧ (fnI p f).f1 ≤ 8 ∧ 1 ≤ (fnI p f).f2.length ∧ (fnI p f).f2.length ≤ 60
 case neg => exact ⟨((f : Int), 0, 1, []), by simp, fun acc => impl_form hf acc (fun _ => rfl) (fun h => absurd h hs)⟩
 obtain ⟨s0, s1, s2, s3, s4, s5⟩ := hs
 by_cases hi : insAll p f (fnI p f).f2
 case neg =>
  have : ∃ a, a < (fnI p f).f2.length ∧ insRightV p f (cdI (fnI p f).f2 a).f0 (cdI (fnI p f).f2 a).f1 = false := by
   refine Classical.byContradiction fun hn => hi (fun a ha => ?_)
   cases e : insRightV p f (cdI (fnI p f).f2 a).f0 (cdI (fnI p f).f2 a).f1
   ·exact absurd ⟨a, ha, e⟩ hn
   ·rfl
  obtain ⟨a, ha, hb⟩ := this
  have least : ∀ n a, a ≤ n → a < (fnI p f).f2.length → insRightV p f (cdI (fnI p f).f2 a).f0 (cdI (fnI p f).f2 a).f1 = false → ∃ a, a < (fnI p f).f2.length ∧ insRightV p f (cdI (fnI p f).f2 a).f0 (cdI (fnI p f).f2 a).f1 = false ∧ ∀ b, b < a → insRightV p f (cdI (fnI p f).f2 b).f0 (cdI (fnI p f).f2 b).f1 = true := by
   intro n
   induction n with
   | zero => intro a h0 h1 h2; exact ⟨a, h1, h2, fun b hb => by omega⟩
   | succ n ih =>
    intro a h0 h1 h2
    by_cases hx : ∃ b, b < a ∧ insRightV p f (cdI (fnI p f).f2 b).f0 (cdI (fnI p f).f2 b).f1 = false
    ·obtain ⟨b, hb, hb2⟩ := hx
     exact ih b om om hb2
    ·refine ⟨a, h1, h2, fun b hb => ?_⟩
     cases e : insRightV p f (cdI (fnI p f).f2 b).f0 (cdI (fnI p f).f2 b).f1
     ·exact absurd ⟨b, hb, e⟩ hx
     ·rfl
  obtain ⟨a, h1, h2, h3⟩ := least a a (Nat.le_refl _) ha hb
  refine ⟨((f : Int), (a : Int), 1, []), by simp, fun acc => impl_form hf acc (fun hb => absurd ⟨s0, s1, s2, s3, s4, s5⟩ hb) (fun _ => implFunc_ins _ om acc _ _ (fun b q1 q2 => ?_) (fun hg => absurd hg hi))⟩
  rcases Nat.lt_trichotomy a b with q | q | q
  ·exact Or.inr ⟨a, q, h2⟩
  ·exact Or.inl (by rw [q])
  ·rw [h3 b q] at q2; cases q2
 obtain ⟨r, hr⟩ := start_ends (goodI p _ (insAll_okJ hi)) s4
 have hlen := run_len hr (by simp [h0V, machI]) (by simp [w0V, machI])
 by_cases h0 : r.2.2 = 0
 ·exfalso
  have e : r = (r.1, 0, 0) := by
   obtain ⟨a, b, c⟩ := r
   simp only at h0 hlen ⊢
   rw [h0, hlen.2.2 h0]
  exact hn ⟨r.1, ⟨s0, s1, s2, s3, s4, s5, hi⟩, e ▸ hr⟩
 ·refine ⟨((f : Int), r.2.1, r.2.2, []), h0, fun acc => impl_form hf acc (fun hb => absurd ⟨s0, s1, s2, s3, s4, s5⟩ hb) (fun _ => implFunc_ins _ om acc _ _ (fun a q1 q2 => by rw [hi a q1] at q2; cases q2) (fun _ => ?_))⟩
  exact Ev.bind (implHeights_ev hf s4 om (insAll_okJ hi) hr) (Ev.no h0 (Ev.now _))
theorem rdH_nat (hs : List (List Int)) (f : Nat) : rdH hs f = hs.getD f [] := by simp [rdH, rd_L7]
theorem implVerify_ev (p : List S35) : (1 ≤ p.length ∧ p.length ≤ 6 ∧ (∃ hs : List (List Int), hs.length = p.length ∧ (∀ f, f < p.length → rightI p f (rdH hs f)) ∧ Ev (fun k => impl_verify.f k p) (0, 0, 0, hs))) ∨ (¬ (1 ≤ p.length ∧ p.length ≤ 6 ∧ ∀ f, f < p.length → ∃ h, rightI p f h)) ∧ ∃ r : Int × Int × Int × List (List Int), r.2.2.1 ≠ 0 ∧ Ev (fun k => impl_verify.f k p) r := by
 by_cases hl : 1 ≤ p.length ∧ p.length ≤ 6
 case neg =>
  refine Or.inr ⟨fun h => hl ⟨h.1, h.2.1⟩, (0, 0, 1, []), by simp, ?_⟩
  unfold impl_verify.f
  have bad : Ev (fun k => impl_verify.j0 k true p) (0, 0, 1, []) := by
   refine Ev.succ ?_
   simp only [impl_verify.j0]
   exact Ev.yes (by simp) (Ev.now _)
  refine Ev.cases (fun _ => bad) (fun q => ?_)
  rw [show decide ((p.length : Int) > 6) = true from by simp; omega]
  exact bad
 have go : ∀ R : Int × Int × Int × List (List Int), Ev (fun k => impl_verify.l0 k [] p (p.length : Int) 0 p) R → Ev (fun k => impl_verify.f k p) R := by
  intro R hR
  unfold impl_verify.f
  refine Ev.no om (Ev.succ ?_)
  simp only [impl_verify.j0]
  exact Ev.no (by simp; omega) hR
 by_cases ha : ∀ f, f < p.length → ∃ h, rightI p f h
 ·refine Or.inl ⟨hl.1, hl.2, ?_⟩
  have key : ∀ (d i : Nat) (acc : List (List Int)), i + d = p.length → acc.length = i → (∀ f, f < i → rightI p f (rdH acc f)) → ∃ hs : List (List Int), hs.length = p.length ∧ (∀ f, f < p.length → rightI p f (rdH hs f)) ∧ Ev (fun k => impl_verify.l0 k acc p (p.length : Int) (i : Int) p) (0, 0, 0, hs) := by
   intro d
   induction d with
   | zero =>
    intro i acc hi hl hr
    refine ⟨acc, by omega, fun f hf => hr f om, Ev.succ ?_⟩
    simp only [impl_verify.l0]
    exact Ev.no om (Ev.now _)
   | succ d ih =>
    intro i acc hi hal hr
    obtain ⟨h, hh⟩ := ha i om
    obtain ⟨hs, h1, h2, h3⟩ := ih (i + 1) (acc ++ [h]) om (by simp; omega) (fun f hf => by
     rw [rdH_nat, List.getD_eq_getElem?_getD]
     rcases Nat.lt_succ_iff_lt_or_eq.1 hf with q | q
     ·have := hr f q
      rw [rdH_nat, List.getD_eq_getElem?_getD] at this
      rw [List.getElem?_append_left om]; exact this
     ·rw [q, List.getElem?_append_right om, hal]; simpa using hh)
    exact ⟨hs, h1, h2, impl_step_good om om hh acc om h3⟩
  obtain ⟨hs, h1, h2, h3⟩ := key p.length 0 [] om rfl (fun f hf => by omega)
  exact ⟨hs, h1, h2, go _ h3⟩
 ·refine Or.inr ⟨fun h => ha h.2.2, ?_⟩
  have hb : ∃ f, f < p.length ∧ ¬ ∃ h, rightI p f h := by
   refine Classical.byContradiction fun hn => ha (fun f hf => ?_)
   exact Classical.byContradiction fun hq => hn ⟨f, hf, hq⟩
  obtain ⟨f, hf, hbad⟩ := hb
  have key : ∀ (d i : Nat) (acc : List (List Int)), i + d = f → acc.length = i → ∃ r : Int × Int × Int × List (List Int), r.2.2.1 ≠ 0 ∧ Ev (fun k => impl_verify.l0 k acc p (p.length : Int) (i : Int) p) r := by
   intro d
   induction d with
   | zero =>
    intro i acc hi hal
    have e : i = f := by omega
    subst e
    obtain ⟨r, h1, h2⟩ := impl_step_bad hf hbad
    exact ⟨r, h1, h2 acc⟩
   | succ d ih =>
    intro i acc hi hal
    by_cases hq : ∃ h, rightI p i h
    ·obtain ⟨h, hh⟩ := hq
     obtain ⟨r, h1, h2⟩ := ih (i + 1) (acc ++ [h]) om (by simp; omega)
     exact ⟨r, h1, impl_step_good om om hh acc om h2⟩
    ·obtain ⟨r, h1, h2⟩ := impl_step_bad (show i < p.length by omega) hq
     exact ⟨r, h1, h2 acc⟩
  obtain ⟨r, h1, h2⟩ := key f 0 [] om rfl
  exact ⟨r, h1, go _ h2⟩
theorem verify_both (p : List S35) : (1 ≤ p.length ∧ p.length ≤ 6 ∧ ∃ hs : List (List Int), hs.length = p.length ∧ (∀ f, f < p.length → rightS p f (rdH hs f)) ∧ Ev (fun k => spec_Verify.f k p) (0, 0, 0) ∧ Ev (fun k => impl_verify.f k p) (0, 0, 0, hs)) ∨
  (∃ r : Int × Int × Int, ∃ r' : Int × Int × Int × List (List Int), r.2.2 ≠ 0 ∧ r'.2.2.1 ≠ 0 ∧ Ev (fun k => spec_Verify.f k p) r ∧ Ev (fun k => impl_verify.f k p) r') := by
 have small : ∀ q : Nat → List Int → Prop, (q = rightS p ∨ q = rightI p) → (∀ f, f < p.length → ∃ h, q f h) → ∀ f, f < p.length → 0 ≤ (fnI p f).f0 ∧ (fnI p f).f0 ≤ 4 := by
  intro q hq ha f hf
  obtain ⟨h, hh⟩ := ha f hf
  rcases hq with e | e <;> subst e <;> exact ⟨hh.1.1, hh.1.2.1⟩
 rcases specVerify_ev p with ⟨h1, h2, h3, h4⟩ | ⟨hn, r, hr, he⟩
 ·rcases implVerify_ev p with ⟨_, _, hs, g1, g2, g3⟩ | ⟨gn, _⟩
  ·exact Or.inl ⟨h1, h2, hs, g1, fun f hf => (right_SI (small _ (Or.inl rfl) h3) f _).2 (g2 f hf), h4, g3⟩
  ·exact absurd ⟨h1, h2, fun f hf => by obtain ⟨h, hh⟩ := h3 f hf; exact ⟨h, (right_SI (small _ (Or.inl rfl) h3) f _).1 hh⟩⟩ gn
 ·rcases implVerify_ev p with ⟨h1, h2, hs, g1, g2, g3⟩ | ⟨_, r', hr', he'⟩
  ·have h3 : ∀ f, f < p.length → ∃ h, rightI p f h := fun f hf => ⟨_, g2 f hf⟩
   exact absurd ⟨h1, h2, fun f hf => ⟨_, (right_SI (small _ (Or.inr rfl) h3) f _).2 (g2 f hf)⟩⟩ hn
  ·exact Or.inr ⟨r, r', hr, hr', he, he'⟩
def enc (n : Int) : List Int := encB (foldV n)
theorem enc_ok {n : Int} (h : in64 n) : (∀ x ∈ enc n, 0 ≤ x ∧ x < 256) ∧ (enc n).length ≤ 11 := encB_ok 10 (foldV n) (Nat.lt_trans (foldV_lt n h.1 h.2) (by decide))
theorem bytes_nums (l : List Int) (h : ∀ x ∈ l, 0 ≤ x ∧ x < 256) : bytesOf (strOfNums l) = l := by
 unfold bytesOf
 rw [strOfNums_data, List.map_map]
 conv => rhs; rw [← List.map_id l]
 refine List.map_congr_left (fun x hx => ?_)
 have := h x hx
 simp only [Function.comp, id, UInt8.toNat_ofNat']
 omega
theorem bytes_enc {n : Int} (h : in64 n) : bytesOf (strOfNums (enc n)) = enc n := bytes_nums _ (enc_ok h).1
theorem nums_append (a b : List Int) : strOfNums (a ++ b) = strOfNums a ++ strOfNums b := by
 apply ByteArray.ext
 simp [strOfNums]
theorem put_ev {n : Int} (h : in64 n) : Ev (fun k => spec_PutNum.f k n) (strOfNums (enc n)) := specPut_ev n h.1 h.2
def insB (i : S38) : List Int := enc i.f0 ++ enc i.f1
def insAllB (c : List S38) : List Int := (c.map insB).flatten
def funcB (f : S35) : List Int := enc f.f0 ++ (enc f.f1 ++ (enc (f.f2.length : Int) ++ insAllB f.f2))
def funcAllB (p : List S35) : List Int := (p.map funcB).flatten
def okI (i : S38) : Prop := in64 i.f0 ∧ in64 i.f1
def okF (f : S35) : Prop := in64 f.f0 ∧ in64 f.f1 ∧ f.f2.length ≤ 60 ∧ ∀ i ∈ f.f2, okI i
theorem insB_len {i : S38} (h : okI i) : (insB i).length ≤ 22 := by
 have h0 := enc_ok h.1
 have h1 := enc_ok h.2
 unfold insB
 rw [List.length_append]; omega
theorem insAllB_len : ∀ (c : List S38), (∀ i ∈ c, okI i) → (insAllB c).length ≤ 22 * c.length
 | [], _ => by simp [insAllB]
 | i :: c, h => by
  have h1 := insB_len (h i (by simp))
  have h2 := insAllB_len c (fun j hj => h j (by simp [hj]))
  have e : insAllB (i :: c) = insB i ++ insAllB c := rfl
  rw [e, List.length_append, List.length_cons]; omega
theorem funcB_len {f : S35} (h : okF f) : (funcB f).length ≤ 1400 := by
 have h0 := enc_ok h.1
 have h1 := enc_ok h.2.1
 have h2 := enc_ok (n := (f.f2.length : Int)) ⟨by omega, by have := h.2.2.1; omega⟩
 have h3 := insAllB_len f.f2 h.2.2.2
 have h4 := h.2.2.1
 unfold funcB
 rw [List.length_append, List.length_append, List.length_append]; omega
theorem funcAllB_len : ∀ (p : List S35), (∀ f ∈ p, okF f) → (funcAllB p).length ≤ 1400 * p.length
 | [], _ => by simp [funcAllB]
 | f :: p, h => by
  have h1 := funcB_len (h f (by simp))
  have h2 := funcAllB_len p (fun j hj => h j (by simp [hj]))
  have e : funcAllB (f :: p) = funcB f ++ funcAllB p := rfl
  rw [e, List.length_append, List.length_cons]; omega
theorem rdI_at (c : List S38) (i : Nat) (h : i < c.length) : c.drop i = rd_T38 c (i : Int) :: c.drop (i + 1) ∧ rd_T38 c (i : Int) ∈ c := by
 refine ⟨drop_at c z38 i h, ?_⟩
 have e : rd_T38 c (i : Int) = c[i] := by
  show c.getD i _ = _
  rw [List.getD_eq_getElem?_getD, List.getElem?_eq_getElem h]; rfl
 rw [e]; exact List.getElem_mem h
theorem rdF_at (c : List S35) (i : Nat) (h : i < c.length) : c.drop i = rd_T35 c (i : Int) :: c.drop (i + 1) ∧ rd_T35 c (i : Int) ∈ c := by
 refine ⟨drop_at c z35 i h, ?_⟩
 have e : rd_T35 c (i : Int) = c[i] := by
  show c.getD i _ = _
  rw [List.getD_eq_getElem?_getD, List.getElem?_eq_getElem h]; rfl
 rw [e]; exact List.getElem_mem h
theorem specInsB_l (p : List S35) (i a0 a1 : Int) (c : List S38) (oc : ∀ z ∈ c, okI z) (hc : c.length ≤ 60) {r : ByteArray} (d : Nat) : ∀ (j : Nat) (b : List Int), j + d = c.length → b.length + 22 * d ≤ 100000 →
  Ev (fun k => spec_FileBytes.l0 k (b ++ insAllB (c.drop j)) (wrap64 (i + 1)) p) r → Ev (fun k => spec_FileBytes.l1 k b i (j : Int) p a0 a1 c) r := by
 induction d with
 | zero =>
  intro j b hj hb h
  refine Ev.succ ?_
  simp only [spec_FileBytes.l1]
  refine Ev.no om ?_
  rw [List.drop_of_length_le om, show insAllB [] = [] from rfl, List.append_nil] at h
  exact h
 | succ d ih =>
  intro j b hj hb h
  obtain ⟨hd, hm⟩ := rdI_at c j om
  have ok := oc _ hm
  have l0 := enc_ok ok.1
  have l1 := enc_ok ok.2
  refine Ev.succ ?_
  simp only [spec_FileBytes.l1]
  refine Ev.yes om (Ev.yes om (Ev.bind (put_ev ok.1) (Ev.yes (by rw [strOfNums_size]; omega) (Ev.flat rfl (Ev.bind (put_ev ok.2) (Ev.yes (by rw [strOfNums_size, bytes_enc ok.1, List.length_append]; omega) ?_))))))
  rw [wrap_in (n := (j : Int) + 1) om om, bytes_enc ok.1, bytes_enc ok.2]
  refine ih (j + 1) _ om (by rw [List.length_append, List.length_append]; omega) ?_
  rw [hd] at h
  rw [List.append_assoc, List.append_assoc, ← List.append_assoc (enc _) (enc _)]
  exact h
theorem specFuncs_l (p : List S35) (op : ∀ f ∈ p, okF f) (hp : p.length ≤ 6) {r : ByteArray} (d : Nat) : ∀ (i : Nat) (b : List Int), i + d = p.length → b.length + 1400 * d ≤ 10000 →
  Ev (fun k => (spec_Sum.f k (strOfNums (b ++ funcAllB (p.drop i)))).bind fun t => ((spec_PutNum.f k t).bind fun u => (if (strOfNums (b ++ funcAllB (p.drop i))).size + u.size ≤ 9223372036854775807 then (some ((strOfNums (b ++ funcAllB (p.drop i))) ++ u)) else none))) r →
  Ev (fun k => spec_FileBytes.l0 k b (i : Int) p) r := by
 induction d with
 | zero =>
  intro i b hi hb h
  refine Ev.succ ?_
  simp only [spec_FileBytes.l0]
  refine Ev.no om ?_
  rw [List.drop_of_length_le om, show funcAllB [] = [] from rfl, List.append_nil] at h
  exact h
 | succ d ih =>
  intro i b hi hb h
  obtain ⟨hd, hm⟩ := rdF_at p i om
  have ok := op _ hm
  have hl := funcB_len ok
  have h6 := ok.2.2.1
  have o2 : in64 ((rd_T35 p (i : Int)).f2.length : Int) := ⟨by omega, by omega⟩
  have l0 := enc_ok ok.1
  have l1 := enc_ok ok.2.1
  have l2 := enc_ok o2
  refine Ev.succ ?_
  simp only [spec_FileBytes.l0]
  refine Ev.yes om (Ev.yes om (Ev.bind (put_ev ok.1) (Ev.yes (by rw [strOfNums_size]; omega) (Ev.flat rfl (Ev.bind (put_ev ok.2.1) (Ev.yes (by rw [strOfNums_size, bytes_enc ok.1, List.length_append]; omega) (Ev.flat rfl (Ev.bind (put_ev o2) (Ev.yes (by rw [strOfNums_size, bytes_enc ok.1, bytes_enc ok.2.1]; simp only [List.length_append]; omega) ?_)))))))))
  rw [bytes_enc ok.1, bytes_enc ok.2.1, bytes_enc o2]
  refine specInsB_l p _ _ _ _ ok.2.2.2 h6 (rd_T35 p (i : Int)).f2.length 0 _ om (by simp only [List.length_append]; omega) ?_
  rw [wrap_in (n := (i : Int) + 1) om om, List.drop_zero]
  refine ih (i + 1) _ om (by simp only [List.length_append]; unfold funcB at hl; simp only [List.length_append] at hl; omega) ?_
  rw [hd] at h
  have e : b ++ enc (rd_T35 p (i : Int)).f0 ++ enc (rd_T35 p (i : Int)).f1 ++ enc ((rd_T35 p (i : Int)).f2.length : Int) ++ insAllB (rd_T35 p (i : Int)).f2 ++ funcAllB (p.drop (i + 1)) = b ++ funcAllB (rd_T35 p (i : Int) :: p.drop (i + 1)) := by
   show _ = b ++ (funcB _ ++ funcAllB _)
   unfold funcB
   simp only [List.append_assoc]
  rw [e]
  exact h
theorem sums_l (s : ByteArray) (hn : s.size ≤ 20000) (d : Nat) : ∀ (i : Nat) (n : Int), i + d = s.size → in64 n → ∃ r, Ev (fun k => spec_Sum.l0 k s n (i : Int)) r ∧ Ev (fun k => impl_sum.l0 k s n (s.size : Int) (i : Int)) r ∧ in64 r := by
 induction d with
 | zero =>
  intro i n hi hn
  refine ⟨n, Ev.succ ?_, Ev.succ ?_, hn⟩
  ·simp only [spec_Sum.l0]; exact Ev.no om (Ev.now _)
  ·simp only [impl_sum.l0]; exact Ev.no om (Ev.now _)
 | succ d ih =>
  intro i n hi hn
  have hb : in64 (Int.tmod (wrap64 (wrap64 (257 * n) + wrap64 (bt s i))) 4294967291) := by
   have := Int.natAbs_tmod (wrap64 (wrap64 (257 * n) + wrap64 (bt s i))) 4294967291
   have h2 := Nat.mod_lt (wrap64 (wrap64 (257 * n) + wrap64 (bt s i))).natAbs (show 0 < (4294967291 : Int).natAbs by decide)
   rw [← this] at h2
   have h3 : (4294967291 : Int).natAbs = 4294967291 := rfl
   unfold in64
   omega
  obtain ⟨r, h2, h3, h4⟩ := ih (i + 1) _ om hb
  refine ⟨r, Ev.succ ?_, Ev.succ ?_, h4⟩
  ·simp only [spec_Sum.l0]
   refine Ev.yes om (Ev.yes om ?_)
   rw [wrap_in (n := (i : Int) + 1) om om]
   exact h2
  ·simp only [impl_sum.l0]
   refine Ev.yes om (Ev.yes om (Ev.yes om ?_))
   rw [wrap_in (n := (i : Int) + 1) om om]
   exact h3
theorem enc_ten {n : Int} (h : in64 n) : (enc n).length ≤ 10 := by
 have hl := foldV_lt n h.1 h.2
 unfold enc
 generalize foldV n = u at hl
 have st : ∀ (m v : Nat), v < 128 ^ (m + 1) → (encB v).length ≤ m + 1 := by
  intro m
  induction m with
  | zero => intro v hv; rw [encB_small om]; simp
  | succ m ih =>
   intro v hv
   by_cases q : v < 128
   ·rw [encB_small q]; simp
   ·rw [encB_big q]
    have := ih (v / 128) (by rw [Nat.pow_succ] at hv; omega)
    simp only [List.length_cons]; omega
 exact st 9 u (Nat.lt_trans hl (by decide))
theorem get_cut (m : Nat) : ∀ {T : ByteArray} {a i acc v j : Nat}, T.size ≤ 20000 → v < 128 ^ m → acc < 2 ^ (7 * i) → acc + v * 2 ^ (7 * i) < 18446744073709551616 → (0 < i → 0 < v) → (vw T).drop (a + i) = (encB v).take j → j < (encB v).length → Ev (fun k => impl_getNum.l0 k T (a : Int) (acc : Int) (i : Int)) (0, 0, 4) := by
 induction m with
 | zero =>
  intro T a i acc v j hT hv h1 h2 h3 hb hj
  have : v = 0 := by simpa using hv
  subst this
  rw [encB_small om] at hb hj
  have : j = 0 := by simpa using hj
  subst this
  exact get_end hT (i := i) (v := 0) h2 h3 hb
 | succ m ih =>
  intro T a i acc v j hT hv h1 h2 h3 hb hj
  cases j with
  | zero => exact get_end hT h2 h3 hb
  | succ j =>
   by_cases h : v < 128
   ·rw [encB_small h] at hj
    exact absurd hj (by simp)
   ·rw [encB_big h, List.take_succ_cons] at hb
    rw [encB_big h, List.length_cons] at hj
    have e : acc + v % 128 * 2 ^ (7 * i) + v / 128 * 2 ^ (7 * (i + 1)) = acc + v * 2 ^ (7 * i) := by
     rw [pow7, ← Nat.mul_assoc, Nat.add_assoc, ← Nat.add_mul, show v % 128 + v / 128 * 128 = v by omega]
    have := ih (T := T) (a := a) (i := i + 1) (acc := acc + v % 128 * 2 ^ (7 * i)) (v := v / 128) (j := j) hT (by rw [Nat.pow_succ] at hv; omega) (by
     rw [pow7]
     have : v % 128 * 2 ^ (7 * i) ≤ 127 * 2 ^ (7 * i) := Nat.mul_le_mul_right _ om
     omega) (by rw [e]; exact h2) om (by rw [← Nat.add_assoc]; exact drop_next hb) om
    exact get_step hT om h1 h2 hb this
structure RightP (p : List S35) (hs : List (List Int)) : Prop where
 pos : 1 ≤ p.length
 six : p.length ≤ 6
 len : hs.length = p.length
 fn : ∀ f, f < p.length → rightS p f (rdH hs f)
theorem RightP.hlen {p : List S35} {hs : List (List Int)} (R : RightP p hs) {f : Nat} (hf : f < p.length) : (rdH hs f).length = (fnI p f).f2.length := (run_len (R.fn f hf).2 (by simp [h0V, machS]) (by simp [w0V, machS])).1
theorem RightP.form {p : List S35} {hs : List (List Int)} (R : RightP p hs) {f : Nat} (hf : f < p.length) : formF p f (fnI p f) := (R.fn f hf).1
theorem RightP.heights {p : List S35} {hs : List (List Int)} (R : RightP p hs) {f : Nat} (hf : f < p.length) : Ev (fun k => spec_l04Heights.f k p (f : Int)) (rdH hs f, 0, 0, 0) := by
 have s := R.form hf
 exact specHeights_ev hf s.2.2.2.2.1 (by have := s.2.2.2.2.2.1; omega) (form_okJ s) (R.fn f hf).2
/- FnFileCut, the plain part: what the law asks of a drawn program. No condition. -/
def encL (l : List Int) : List Int := (l.map enc).flatten
theorem encL_cons (x : Int) (l : List Int) : encL (x :: l) = enc x ++ encL l := rfl
theorem encL_append (a b : List Int) : encL (a ++ b) = encL a ++ encL b := by simp [encL]
theorem encL_inums : ∀ c : List S38, encL (inums c) = insAllB c
 | [] => rfl
 | i :: c => by
  have e : inums (i :: c) = [i.f0, i.f1] ++ inums c := rfl
  rw [e, encL_append, encL_inums c]
  show (enc i.f0 ++ (enc i.f1 ++ [])) ++ insAllB c = insB i ++ insAllB c
  rw [List.append_nil]; rfl
theorem encL_pnums : ∀ P : List S35, encL (pnums P) = funcAllB P
 | [] => rfl
 | x :: P => by
  have e : pnums (x :: P) = fnums x ++ pnums P := rfl
  rw [e, encL_append, encL_pnums P]
  have e2 : encL (fnums x) = enc x.f0 ++ (enc x.f1 ++ (enc (x.f2.length : Int) ++ encL (inums x.f2))) := rfl
  rw [e2, encL_inums]; rfl
theorem inums_ok {c : List S38} (h : ∀ i ∈ c, okI i) : ∀ x ∈ inums c, in64 x := by
 intro x hx
 obtain ⟨l, hl, hx⟩ := List.mem_flatten.1 hx
 obtain ⟨i, hi, rfl⟩ := List.mem_map.1 hl
 have := h i hi
 simp only [List.mem_cons, List.not_mem_nil, or_false] at hx
 rcases hx with rfl | rfl
 ·exact this.1
 ·exact this.2
theorem pnums_ok {P : List S35} (h : ∀ f ∈ P, okF f) : ∀ x ∈ pnums P, in64 x := by
 intro x hx
 obtain ⟨l, hl, hx⟩ := List.mem_flatten.1 hx
 obtain ⟨f, hf, rfl⟩ := List.mem_map.1 hl
 have := h f hf
 unfold fnums at hx
 simp only [List.mem_cons] at hx
 rcases hx with rfl | rfl | rfl | hx
 ·exact this.1
 ·exact this.2.1
 ·have := this.2.2.1; exact ⟨by omega, by omega⟩
 ·exact inums_ok this.2.2.2 x hx
def RestC (L : List Int) (n : Nat) (l : List Int) (a : Int) : Prop := ∃ p : Nat, a = (p : Int) ∧ p ≤ n ∧ L.drop p = encL l ∧ ∀ x ∈ l, in64 x
theorem plan_cut {L : List Int} {n : Nat} {u : ByteArray} (hu : vw u = L.take n) (hn : n < L.length) (h20 : n ≤ 20000) : PlanR u (RestC L n) := by
 rintro x l a ⟨p, rfl, hp, hL, hok⟩
 have hsz : u.size = n := by rw [← vw_len, hu, List.length_take]; omega
 have hx := hok x (by simp)
 have ht := enc_ten hx
 have hd : (vw u).drop p = (enc x ++ encL l).take (n - p) := by rw [hu, List.drop_take, hL, encL_cons]
 have hf := foldV_lt x hx.1 hx.2
 have hm : foldV x < 128 ^ 10 := Nat.lt_trans hf (by decide)
 by_cases hle : (enc x).length ≤ n - p
 ·have hd2 : (vw u).drop p = enc x ++ (encL l).take (n - p - (enc x).length) := by rw [hd, List.take_append, List.take_of_length_le hle]
  have g := get_ev 10 (T := u) (a := p) (i := 0) (acc := 0) (v := foldV x) (Y := (encL l).take (n - p - (enc x).length)) om hm (by simp) (by simpa using hf) (by simp) (by rw [Nat.add_zero]; exact hd2)
  have g2 : Ev (fun k => impl_getNum.l0 k u (p : Int) 0 0) (x, ((p + (enc x).length : Nat) : Int), 0) := by simpa [unf_fold, enc] using g
  obtain ⟨K, hK⟩ := g2
  refine ⟨K, .inl ⟨((p + (enc x).length : Nat) : Int), ?_, p + (enc x).length, rfl, by omega, ?_, fun y hy => hok y (by simp [hy])⟩⟩
  ·unfold impl_getNum.f
   rw [if_neg om]
   exact hK K (Nat.le_refl _)
  ·rw [← List.drop_drop, hL, encL_cons, List.drop_left]
 ·have hd2 : (vw u).drop p = (encB (foldV x)).take (n - p) := by
   rw [hd, List.take_append_of_le_length om]; rfl
  have g := get_cut 10 (T := u) (a := p) (i := 0) (acc := 0) (v := foldV x) (j := n - p) om hm (by simp) (by simpa using hf) (by simp) (by rw [Nat.add_zero]; exact hd2) (by show n - p < (enc x).length; omega)
  have g2 : Ev (fun k => impl_getNum.l0 k u (p : Int) 0 0) (0, 0, 4) := g
  obtain ⟨K, hK⟩ := g2
  refine ⟨K, .inr ⟨?_, ?_⟩⟩
  ·unfold impl_getNum.f
   rw [if_neg om]
   exact hK K (Nat.le_refl _)
  ·unfold CutB; omega
theorem mem_fnI' {P : List S35} {f : S35} (hf : f ∈ P) : ∃ g, g < P.length ∧ fnI P g = f := by
 obtain ⟨g, hg, e⟩ := List.getElem_of_mem hf
 refine ⟨g, hg, ?_⟩
 rw [← e]
 show P.getD g _ = _
 rw [List.getD_eq_getElem?_getD, List.getElem?_eq_getElem hg]; rfl
theorem FnFileCut (P : List S35) (hP : GoodP P) : LawC P := by
 unfold LawC
 rcases verify_both P with ⟨p1, h6, hs, h3, h4, h5, _⟩ | ⟨r, r', h1, _, h3, _⟩
 case inr =>
  have e1 : Ev (fun k => spec_l04Right.f k P) false := by
   unfold spec_l04Right.f
   refine Ev.bind h3 ?_
   rw [beq_no h1]; exact Ev.now _
  have : Ev (fun k => spec_FileBytes.f k P) ⟨#[]⟩ := by
   unfold spec_FileBytes.f
   exact Ev.bind e1 (Ev.no (by simp) (Ev.now _))
  obtain ⟨K, hK⟩ := this
  exact ⟨K, _, hK K (Nat.le_refl _), fun h => absurd rfl h⟩
 have e1 : Ev (fun k => spec_l04Right.f k P) true := by
  unfold spec_l04Right.f; exact Ev.bind h5 (Ev.now _)
 have R : RightP P hs := ⟨p1, h6, h3, h4⟩
 have op : ∀ f ∈ P, okF f := by
  intro f hf
  obtain ⟨g, hg, e3⟩ := mem_fnI' hf
  have s := R.form hg
  rw [e3] at s
  have q := hP.2.2 f hf
  exact ⟨⟨by have := q.1; omega, by have := q.1; omega⟩, ⟨by have := q.2.1; omega, by have := q.2.1; omega⟩, s.2.2.2.2.2.1, q.2.2.2⟩
 have o64 : in64 (P.length : Int) := ⟨by omega, by omega⟩
 have l0 := enc_ok o64
 have la := funcAllB_len P op
 have hsz : ([74, 49] ++ enc (P.length : Int) ++ funcAllB P).length ≤ 10000 := by
  simp only [List.length_append, List.length_cons, List.length_nil]; omega
 have hB : [74, 49] ++ enc (P.length : Int) ++ funcAllB P = [74, 49] ++ encL ((P.length : Int) :: pnums P) := by
  rw [encL_cons, encL_pnums, List.append_assoc]
 obtain ⟨r, hr1, _, hr3⟩ := sums_l (strOfNums ([74, 49] ++ enc (P.length : Int) ++ funcAllB P)) (by rw [strOfNums_size]; omega) (strOfNums ([74, 49] ++ enc (P.length : Int) ++ funcAllB P)).size 0 7 om ⟨by omega, by omega⟩
 have lr := enc_ok hr3
 have eF : Ev (fun k => spec_FileBytes.f k P) (strOfNums ([74, 49] ++ enc (P.length : Int) ++ funcAllB P ++ enc r)) := by
  unfold spec_FileBytes.f
  refine Ev.bind e1 (Ev.yes rfl (Ev.flat rfl (Ev.bind (put_ev o64) (Ev.yes (by rw [strOfNums_size]; simp; omega) ?_))))
  rw [bytes_enc o64]
  refine specFuncs_l P op h6 P.length 0 _ om (by simp only [List.length_append, List.length_cons, List.length_nil]; omega) ?_
  rw [List.drop_zero]
  have sm : Ev (fun k => spec_Sum.f k (strOfNums ([74, 49] ++ enc (P.length : Int) ++ funcAllB P))) r := by
   unfold spec_Sum.f
   exact Ev.no (by rw [strOfNums_size]; omega) hr1
  refine Ev.bind sm (Ev.bind (put_ev hr3) (Ev.yes (by rw [strOfNums_size, strOfNums_size]; omega) ?_))
  rw [nums_append ([74, 49] ++ enc (P.length : Int) ++ funcAllB P) (enc r)]
  exact Ev.now _
 have hns : ∀ x ∈ (P.length : Int) :: (pnums P ++ [r]), in64 x := by
  intro x hx
  simp only [List.mem_cons, List.mem_append, List.not_mem_nil, or_false] at hx
  rcases hx with rfl | hx | rfl
  ·exact o64
  ·exact pnums_ok op x hx
  ·exact hr3
 obtain ⟨L, hL⟩ : ∃ L, L = [74, 49] ++ enc (P.length : Int) ++ funcAllB P ++ enc r := ⟨_, rfl⟩
 have hL2 : L = [74, 49] ++ encL ((P.length : Int) :: (pnums P ++ [r])) := by
  rw [hL, hB, encL_cons, encL_cons, encL_append, encL_cons]
  simp [encL]
 rw [← hL] at eF
 have hlen : L.length ≤ 10011 := by rw [hL, List.length_append]; omega
 have hbytes : ∀ x ∈ L, 0 ≤ x ∧ x < 256 := by
  rw [hL2]
  intro x hx
  rcases List.mem_append.1 hx with hx | hx
  ·simp only [List.mem_cons, List.not_mem_nil, or_false] at hx
   rcases hx with rfl | rfl <;> omega
  ·obtain ⟨y, hy, hx⟩ := List.mem_flatten.1 hx
   obtain ⟨z, hz, rfl⟩ := List.mem_map.1 hy
   exact (enc_ok (hns z hz)).1 x hx
 obtain ⟨K, hK⟩ := eF
 refine ⟨K, _, hK K (Nat.le_refl _), fun _ => ⟨by rw [strOfNums_size]; omega, fun n hn => ?_⟩⟩
 rw [strOfNums_size] at hn
 have hv : vw (strOfNums L) = L := vw_nums L hbytes
 have hu : vw ((strOfNums L).extract 0 n) = L.take n := by rw [vw_extract, hv]
 have hus : ((strOfNums L).extract 0 n).size = n := by rw [← vw_len, hu, List.length_take]; omega
 refine ⟨RestC L n, P, r, plan_cut hu hn om, by omega, ⟨p1, h6, fun x hx => ?_⟩, fun h => ?_, fun h => ?_, fun h => ⟨2, rfl, by omega, by rw [hL2]; rfl, hns⟩, ?_⟩
 ·obtain ⟨g, hg, e3⟩ := mem_fnI' hx
  have s := R.form hg
  rw [e3] at s
  exact ⟨s.2.2.2.2.1, s.2.2.2.2.2.1⟩
 ·have q := vw_bt ((strOfNums L).extract 0 n) 0
  rw [hu] at q
  have e : (L.take n).getD 0 0 = 74 := by
   obtain ⟨m, rfl⟩ : ∃ m, n = m + 1 := ⟨n - 1, by omega⟩
   rw [hL2]; rfl
  exact q.trans e
 ·have q := vw_bt ((strOfNums L).extract 0 n) 1
  rw [hu] at q
  have e : (L.take n).getD 1 0 = 49 := by
   obtain ⟨m, rfl⟩ : ∃ m, n = m + 2 := ⟨n - 2, by omega⟩
   rw [hL2]; rfl
  exact q.trans e
 ·rintro a ⟨p, _, hp, hd, _⟩
  have := congrArg List.length hd
  rw [List.length_drop] at this
  have e : (encL []).length = 0 := rfl
  omega
end Go.Proofs.Ytopaefhfjioecaa.Pure
