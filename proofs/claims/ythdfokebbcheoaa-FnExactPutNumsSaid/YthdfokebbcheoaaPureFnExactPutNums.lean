/- FnExactPutNums: the program's PutNums answers what the reference's answers, for every list. No condition. -/
import Derived.Test.YthdfokebbcheoaaQFnExactPutNumsx
namespace Go.Proofs.Ythdfokebbcheoaa.Pure
open Go.RowKit Go.Proofs.Ythdfokebbcheoaa.QFnExactPutNums Go.Proofs.YthdfokebbcheoaaW.PrintWords Go.Proofs.YthdfokebbcheoaaW.PrintLast
set_option linter.unusedVariables false
set_option linter.unusedSimpArgs false
theorem Ev.succ {α : Type} {g : Nat → Option α} {r : α} (h : Ev (fun k => g (k + 1)) r) : Ev g r := Ev.step (fun _ => rfl) h
theorem Ev.yes {α : Type} {c : Prop} [Decidable c] {g f : Nat → Option α} {r : α} (hc : c) (h : Ev g r) : Ev (fun k => if c then g k else f k) r := Ev.congr (fun _ => if_pos hc) h
theorem Ev.no {α : Type} {c : Prop} [Decidable c] {g f : Nat → Option α} {r : α} (hc : ¬ c) (h : Ev f r) : Ev (fun k => if c then g k else f k) r := Ev.congr (fun _ => if_neg hc) h
theorem Ev.cases {α : Type} {c : Prop} [Decidable c] {g f : Nat → Option α} {r : α} (h1 : c → Ev g r) (h2 : ¬ c → Ev f r) : Ev (fun k => if c then g k else f k) r := by
 by_cases hc : c
 ·exact Ev.yes hc (h1 hc)
 ·exact Ev.no hc (h2 hc)
theorem Ev.flat {α β : Type} {g : Option α} {f : Nat → α → Option β} {a : α} {r : β} (h : g = some a) (k : Ev (fun n => f n a) r) : Ev (fun n => g.bind (f n)) r := Ev.bind (g := fun _ => g) ⟨0, fun _ _ => h⟩ k
theorem wrap_in {n : Int} (h0 : -9223372036854775808 ≤ n) (h1 : n ≤ 9223372036854775807) : wrap64 n = n := by unfold wrap64; omega
theorem wf64 {n : Int} (h : (Lit.int .i64 n).wf = true) : -9223372036854775808 ≤ n ∧ n ≤ 9223372036854775807 := by
 simp only [Lit.wf, IntKind.min, IntKind.max, IntKind.signed, IntKind.bits, Bool.and_eq_true, decide_eq_true_eq, if_true] at h
 omega
theorem idx_next {i n : Nat} (h : i < n) (hn : n ≤ 1048576) : wrap64 ((i : Int) + 1) = ((i + 1 : Nat) : Int) := by rw [wrap_in (by omega) (by omega)]; simp
theorem to_loop {α β ρ : Type} {l0 : Nat → List α → List β → Int → Option (List β)} {rdA : List α → Int → α} {E : Nat → α → Option ρ} {mk : ρ → β} {conv : α → β} {zA : α} {zB : β}
  (hl : ∀ k x y i, l0 (k + 1) x y i = if i < (x.length : Int) then (if 0 ≤ i then (E k (rdA x i)).bind fun r => (if i < (y.length : Int) then l0 k x (y.set i.toNat (mk r)) (wrap64 (i + 1)) else none) else none) else some y)
  (hrd : ∀ (x : List α) (i : Nat), rdA x (i : Int) = x.getD i zA) (x : List α) (hx : x.length ≤ 1048576) (hE : ∀ a ∈ x, ∃ r, Ev (fun k => E k a) r ∧ mk r = conv a) :
  Ev (fun k => l0 k x (List.replicate x.length zB) 0) (x.map conv) := by
 have key : ∀ (d i : Nat), i + d = x.length → ∀ y : List β, y.length = x.length → y.take i = (x.take i).map conv → Ev (fun k => l0 k x y (i : Int)) (x.map conv) := by
  intro d
  induction d with
  | zero =>
   intro i hi y hy ht
   refine Ev.succ ?_
   simp only [hl]
   refine Ev.no (by omega) ?_
   rw [List.take_of_length_le (by omega), List.take_of_length_le (by omega)] at ht
   subst ht
   exact Ev.now _
  | succ d ih =>
   intro i hi y hy ht
   have hli : i < x.length := by omega
   refine Ev.succ ?_
   simp only [hl]
   have hr : rdA x (i : Int) = x[i] := by rw [hrd, List.getD_eq_getElem?_getD, List.getElem?_eq_getElem hli]; rfl
   obtain ⟨r, h1, h2⟩ := hE x[i] (List.getElem_mem hli)
   simp only [hr]
   refine Ev.yes (by omega) (Ev.yes (by omega) (Ev.bind h1 (Ev.yes (by omega) ?_)))
   rw [idx_next hli hx]
   refine ih (i + 1) (by omega) _ (by simp [hy]) ?_
   simp only [Int.toNat_natCast]
   rw [List.take_succ_eq_append_getElem (by simp; omega), List.take_succ_eq_append_getElem hli, List.map_append, ← ht, List.take_set_of_le (Nat.le_refl _)]
   simp [h2]
 exact key x.length 0 (by omega) _ (by simp) (by simp)
def left (m a : Int) : Int := if m ≤ a then a - m else -1
theorem eq_loop_int {l0 : Nat → List Int → List Int → Int → Option Bool}
  (hl : ∀ k x y i, l0 (k + 1) x y i = if i < (x.length : Int) then (if 0 ≤ i then (if i < (y.length : Int) then (if rd x i = rd y i then l0 k x y (wrap64 (i + 1)) else some false) else none) else none) else some true)
  (x : List Int) (hx : x.length ≤ 1048576) : Ev (fun k => l0 k x x 0) true := by
 have key : ∀ (d i : Nat), i + d = x.length → Ev (fun k => l0 k x x (i : Int)) true := by
  intro d
  induction d with
  | zero =>
   intro i hi
   refine Ev.succ ?_
   simp only [hl]
   exact Ev.no (by omega) (Ev.now _)
  | succ d ih =>
   intro i hi
   refine Ev.succ ?_
   simp only [hl]
   refine Ev.yes (by omega) (Ev.yes (by omega) (Ev.yes (by omega) (Ev.yes (by simp) ?_)))
   rw [idx_next (show i < x.length by omega) hx]
   exact ih (i + 1) (by omega)
 exact key x.length 0 (by omega)
theorem to_loop_int {l0 : Nat → List Int → List Int → Int → Option (List Int)}
  (hl : ∀ k x y i, l0 (k + 1) x y i = if i < (x.length : Int) then (if 0 ≤ i then (if i < (y.length : Int) then l0 k x (y.set i.toNat (rd x i)) (wrap64 (i + 1)) else none) else none) else some y)
  (x : List Int) (hx : x.length ≤ 1048576) (z : Int) : Ev (fun k => l0 k x (List.replicate x.length z) 0) x := by
 have h := to_loop (l0 := l0) (rdA := rd) (E := fun _ a => some a) (mk := fun a => a) (conv := fun a => a) (zA := 0) (zB := z) (fun k x y i => by rw [hl]; rfl) (fun _ _ => rfl) x hx (fun a _ => ⟨a, Ev.now _, rfl⟩)
 simpa using h
def okInt64S (x : List Int) : Prop := x.length ≤ 1048576
theorem eqInt64S_refl (x : List Int) (h : okInt64S x) : Ev (fun k => laws_eqInt64S.f k x x) true := by
 unfold laws_eqInt64S.f
 refine Ev.yes rfl ?_
 exact eq_loop_int (fun k x y i => by simp only [laws_eqInt64S.l0]) x h
def cInt64S (x : List Int) : List Int := x
theorem toInt64S_ev (x : List Int) (h : (x.length : Int) ≤ 1048576) : Ev (fun k => laws_toInt64S.f k x) (cInt64S x) := by
 unfold laws_toInt64S.f
 refine Ev.yes (by omega) (Ev.yes (by simp; omega) ?_)
 exact to_loop_int (fun k x y i => by simp only [laws_toInt64S.l0]) x (by omega) 0
theorem okInt64S_c (x : List Int) (h : (x.length : Int) ≤ 1048576) : okInt64S (cInt64S x) := by
 unfold okInt64S cInt64S
 omega
theorem u64w (x : Int) : IntKind.u64.wrap x = x % 18446744073709551616 := by simp [IntKind.wrap, IntKind.signed, IntKind.bits]
def foldV (n : Int) : Nat := if n < 0 then (-2 * n - 1).toNat else (2 * n).toNat
def encB (u : Nat) : List Int := if u < 128 then [(u : Int)] else ((u % 128 + 128 : Nat) : Int) :: encB (u / 128)
termination_by u
decreasing_by omega
theorem encB_small {u : Nat} (h : u < 128) : encB u = [(u : Int)] := by rw [encB, if_pos h]
theorem encB_big {u : Nat} (h : ¬ u < 128) : encB u = ((u % 128 + 128 : Nat) : Int) :: encB (u / 128) := by rw [encB, if_neg h]
theorem or128 : ∀ n : Nat, n < 256 → Go.bits .or .u8 (n : Int) 128 = ((n % 128 + 128 : Nat) : Int) := by decide +kernel
theorem xor_ones (x : Int) (h0 : 0 ≤ x) (h1 : x < 18446744073709551616) : Go.bits .xor .u64 18446744073709551615 x = 18446744073709551615 - x := by
 show IntKind.u64.wrap ((BitVec.ofInt 64 18446744073709551615 ^^^ BitVec.ofInt 64 x).toNat : Int) = _
 have e : BitVec.ofInt 64 18446744073709551615 = BitVec.allOnes 64 := by decide +kernel
 have hx : (BitVec.ofInt 64 x).toNat = x.toNat := by
  rw [BitVec.toNat_ofInt, Int.emod_eq_of_lt h0 (by simpa using h1)]
 rw [e, BitVec.allOnes_xor, BitVec.toNat_not, hx, u64w]
 omega
theorem foldV_lt (n : Int) (h0 : -9223372036854775808 ≤ n) (h1 : n ≤ 9223372036854775807) : foldV n < 18446744073709551616 := by unfold foldV; split <;> omega
theorem bytes_l (m : Nat) : ∀ (u : Nat) (y : List Int), u < 128 ^ m → u < 18446744073709551616 → y.length + m ≤ 1048676 → Ev (fun k => impl_numBytes.l0 k (u : Int) y) (y ++ encB u) := by
 induction m with
 | zero =>
  intro u y hu _ hy
  have hu0 : u = 0 := by simpa using hu
  subst hu0
  refine Ev.succ ?_
  simp only [impl_numBytes.l0]
  refine Ev.no (by omega) (Ev.yes (by omega) ?_)
  rw [encB_small (by omega)]
  exact Ev.now _
 | succ m ih =>
  intro u y hu hb hy
  refine Ev.succ ?_
  simp only [impl_numBytes.l0]
  by_cases h : u < 128
  ·refine Ev.no (by omega) (Ev.yes (by omega) ?_)
   rw [encB_small h, show ((u : Int) % 256) = u by omega]
   exact Ev.now _
  ·refine Ev.yes (by omega) (Ev.yes (by omega) ?_)
   have e1 : Go.bits .or .u8 ((u : Int) % 256) 128 = ((u % 128 + 128 : Nat) : Int) := by
    have := or128 (u % 256) (by omega)
    rw [show (((u % 256 : Nat) : Int)) = (u : Int) % 256 by omega] at this
    rw [this]
    omega
   have e2 : (u : Int) / 128 = ((u / 128 : Nat) : Int) := by omega
   rw [encB_big h, e1, e2]
   have := ih (u / 128) (y ++ [((u % 128 + 128 : Nat) : Int)]) (by rw [Nat.pow_succ] at hu; omega) (by omega) (by simp; omega)
   simpa using this
theorem numBytes_ev (n : Int) (h0 : -9223372036854775808 ≤ n) (h1 : n ≤ 9223372036854775807) : Ev (fun k => impl_numBytes.f k n) (encB (foldV n)) := by
 unfold impl_numBytes.f
 have hl := foldV_lt n h0 h1
 have key : Ev (fun k => impl_numBytes.j0 k (foldV n : Int)) (encB (foldV n)) := by
  refine Ev.succ ?_
  simp only [impl_numBytes.j0]
  simpa using bytes_l 10 (foldV n) [] (Nat.lt_trans hl (by decide)) hl (by simp)
 refine Ev.cases (fun h => ?_) (fun h => ?_)
 ·have e : Go.bits .xor .u64 18446744073709551615 (IntKind.u64.wrap (IntKind.u64.wrap n * 2)) = (foldV n : Int) := by
   rw [u64w, u64w, xor_ones _ (by omega) (by omega)]
   unfold foldV
   rw [if_pos h]
   omega
  rw [e]
  exact key
 ·have e : IntKind.u64.wrap (IntKind.u64.wrap n * 2) = (foldV n : Int) := by
   rw [u64w, u64w]
   unfold foldV
   rw [if_neg h]
   omega
  rw [e]
  exact key
theorem specBytes_l (m : Nat) : ∀ (u : Nat) (y : List Int), u < 128 ^ m → u < 18446744073709551616 → y.length + m ≤ 1048676 → Ev (fun k => spec_PutNum.l0 k (u : Int) y) (strOfNums (y ++ encB u)) := by
 induction m with
 | zero =>
  intro u y hu _ hy
  have hu0 : u = 0 := by simpa using hu
  subst hu0
  refine Ev.succ ?_
  simp only [spec_PutNum.l0]
  refine Ev.no (by omega) (Ev.yes (by omega) ?_)
  rw [encB_small (by omega)]
  exact Ev.now _
 | succ m ih =>
  intro u y hu hb hy
  refine Ev.succ ?_
  simp only [spec_PutNum.l0]
  by_cases h : u < 128
  ·refine Ev.no (by omega) (Ev.yes (by omega) ?_)
   rw [encB_small h, show ((u : Int) % 256) = u by omega]
   exact Ev.now _
  ·refine Ev.yes (by omega) (Ev.yes (by omega) ?_)
   have e1 : (IntKind.u64.wrap (Int.tmod (u : Int) 128 + 128)) % 256 = ((u % 128 + 128 : Nat) : Int) := by
    rw [u64w, Int.tmod_eq_emod_of_nonneg (by omega)]
    omega
   have e2 : IntKind.u64.wrap (Int.tdiv (u : Int) 128) = ((u / 128 : Nat) : Int) := by
    rw [u64w, Int.tdiv_eq_ediv_of_nonneg (by omega)]
    omega
   rw [encB_big h, e1, e2]
   have := ih (u / 128) (y ++ [((u % 128 + 128 : Nat) : Int)]) (by rw [Nat.pow_succ] at hu; omega) (by omega) (by simp; omega)
   simpa using this
theorem fold_some (n : Int) (h0 : -9223372036854775808 ≤ n) (h1 : n ≤ 9223372036854775807) : spec_l01Fold.f n = some (foldV n : Int) := by
 unfold spec_l01Fold.f foldV
 by_cases h : n < 0
 ·rw [if_pos h, if_pos h, wrap_in (n := n + 1) (by omega) (by omega), wrap_in (by omega) (by omega)]
  simp only [u64w]
  congr 1
  omega
 ·rw [if_neg h, if_neg h]
  simp only [u64w]
  congr 1
  omega
theorem specPut_ev (n : Int) (h0 : -9223372036854775808 ≤ n) (h1 : n ≤ 9223372036854775807) : Ev (fun k => spec_PutNum.f k n) (strOfNums (encB (foldV n))) := by
 unfold spec_PutNum.f
 have hl := foldV_lt n h0 h1
 refine Ev.flat (fold_some n h0 h1) ?_
 simpa using specBytes_l 10 (foldV n) [] (Nat.lt_trans hl (by decide)) hl (by simp)
def in64 (a : Int) : Prop := -9223372036854775808 ≤ a ∧ a ≤ 9223372036854775807
def enc (n : Int) : List Int := encB (foldV n)
theorem encB_ok (m : Nat) : ∀ u : Nat, u < 128 ^ m → (∀ x ∈ encB u, 0 ≤ x ∧ x < 256) ∧ (encB u).length ≤ m + 1 := by
 induction m with
 | zero =>
  intro u hu
  have : u = 0 := by simpa using hu
  subst this
  rw [encB_small (by omega)]
  simp
 | succ m ih =>
  intro u hu
  by_cases h : u < 128
  ·rw [encB_small h]
   exact ⟨fun x hx => by simp at hx; subst hx; omega, by simp⟩
  ·rw [encB_big h]
   have := ih (u / 128) (by rw [Nat.pow_succ] at hu; omega)
   refine ⟨fun x hx => ?_, by simp; exact this.2⟩
   rcases List.mem_cons.1 hx with rfl | hx
   ·omega
   ·exact this.1 x hx
theorem enc_ok {n : Int} (h : in64 n) : (∀ x ∈ enc n, 0 ≤ x ∧ x < 256) ∧ (enc n).length ≤ 11 := encB_ok 10 (foldV n) (Nat.lt_trans (foldV_lt n h.1 h.2) (by decide))
theorem bytes_nums (l : List Int) (h : ∀ x ∈ l, 0 ≤ x ∧ x < 256) : bytesOf (strOfNums l) = l := by
 unfold bytesOf
 rw [strOfNums_data, List.map_map]
 conv => rhs; rw [← List.map_id l]
 refine List.map_congr_left (fun x hx => ?_)
 have := h x hx
 simp only [Function.comp, id, UInt8.toNat_ofNat']
 omega
theorem bytes_enc {n : Int} (h : in64 n) : bytesOf (strOfNums (enc n)) = enc n := bytes_nums _ (enc_ok h).1
theorem num_ev {n : Int} (h : in64 n) : Ev (fun k => impl_numBytes.f k n) (enc n) := numBytes_ev n h.1 h.2
theorem put_ev {n : Int} (h : in64 n) : Ev (fun k => spec_PutNum.f k n) (strOfNums (enc n)) := specPut_ev n h.1 h.2
def encL (l : List Int) : List Int := (l.map enc).flatten
theorem nums_both (l : List Int) (h : ∀ n ∈ l, in64 n) (hl : l.length ≤ 400) : ∀ (d i : Nat) (b : List Int), i + d = l.length → b.length + 11 * d ≤ 10000 →
  Ev (fun k => spec_PutNums.l0 k l b (i : Int)) (strOfNums (b ++ encL (l.drop i))) ∧ Ev (fun k => impl_PutNums.l0 k b l (l.length : Int) (i : Int)) (strOfNums (b ++ encL (l.drop i))) := by
 intro d
 induction d with
 | zero =>
  intro i b h1 h2
  have e : l.drop i = [] := List.drop_eq_nil_iff.2 (by omega)
  rw [e]
  simp only [encL, List.map_nil, List.flatten_nil, List.append_nil]
  refine ⟨Ev.succ ?_, Ev.succ ?_⟩
  ·simp only [spec_PutNums.l0]; exact Ev.no (by omega) (Ev.now _)
  ·simp only [impl_PutNums.l0]; exact Ev.no (by omega) (Ev.now _)
 | succ d ih =>
  intro i b h1 h2
  have hi : i < l.length := by omega
  have hr : rd l (i : Int) = l[i] := by simp [rd, List.getD_eq_getElem?_getD, List.getElem?_eq_getElem hi]
  have hn := h l[i] (List.getElem_mem hi)
  have nx : wrap64 ((i : Int) + 1) = ((i + 1 : Nat) : Int) := by rw [wrap_in (by omega) (by omega)]; omega
  have hle := (enc_ok hn).2
  have e : encL (l.drop i) = enc l[i] ++ encL (l.drop (i + 1)) := by rw [List.drop_eq_getElem_cons hi]; rfl
  obtain ⟨i1, i2⟩ := ih (i + 1) (b ++ enc l[i]) (by omega) (by rw [List.length_append]; omega)
  rw [e, ← List.append_assoc]
  refine ⟨Ev.succ ?_, Ev.succ ?_⟩
  ·simp only [spec_PutNums.l0]
   rw [hr, nx]
   refine Ev.yes (by omega) (Ev.yes (by omega) (Ev.bind (put_ev hn) (Ev.yes (by rw [strOfNums_size]; omega) ?_)))
   rw [bytes_enc hn]
   exact i1
  ·simp only [impl_PutNums.l0]
   rw [hr, nx]
   exact Ev.yes (by omega) (Ev.yes (by omega) (Ev.yes (by omega) (Ev.bind (num_ev hn) (Ev.yes (by omega) i2))))
theorem FnExactPutNums : laws_FnExactPutNums.Pure := by
 intro l hl1 hl2 hw
 refine Ev.rounds ?_
 unfold laws_FnExactPutNums.f
 refine Ev.cases (fun _ => Ev.now _) (fun hL => ?_)
 have tl := toInt64S_ev l (by omega)
 have ol := okInt64S_c l (by omega)
 refine Ev.bind tl ?_
 have h64 : ∀ n ∈ cInt64S l, in64 n := fun n hn => wf64 (hw n hn)
 have fin : ∃ v, Ev (fun k => spec_PutNums.f k (cInt64S l)) v ∧ Ev (fun k => impl_PutNums.f k (cInt64S l)) v := by
  generalize cInt64S l = x at h64
  unfold spec_PutNums.f impl_PutNums.f
  by_cases h4 : (x.length : Int) > 400
  ·exact ⟨_, Ev.yes h4 (Ev.now _), Ev.yes h4 (Ev.now _)⟩
  ·have hn : in64 (x.length : Int) := ⟨by omega, by omega⟩
   have hle := (enc_ok hn).2
   obtain ⟨a, b⟩ := nums_both x h64 (by omega) x.length 0 (enc (x.length : Int)) (by omega) (by omega)
   refine ⟨_, Ev.no h4 (Ev.bind (put_ev hn) (Ev.yes (by rw [strOfNums_size]; omega) ?_)), Ev.no h4 (Ev.bind (num_ev hn) b)⟩
   rw [bytes_enc hn]
   exact a
 obtain ⟨v, h1, h2⟩ := fin
 exact Ev.bind h1 (Ev.bind tl (Ev.bind h2 (Ev.yes rfl (Ev.bind tl (Ev.bind (eqInt64S_refl _ ol) (Ev.yes rfl (Ev.now _)))))))
end Go.Proofs.Ythdfokebbcheoaa.Pure
