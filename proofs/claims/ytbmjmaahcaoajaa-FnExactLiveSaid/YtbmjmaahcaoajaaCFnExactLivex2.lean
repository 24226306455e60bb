import Derived.Test.YtbmjmaahcaoajaaCFnExactLivex0
import Derived.Test.YtbmjmaahcaoajaaCFnExactLivex1
namespace Go.Proofs.Ytbmjmaahcaoajaa.QFnExactLive
open Go.RowKit Go.Proofs.YtbmjmaahcaoajaaW
open PrintWords PrintLast PrintMore PrintShort PrintIsh
attribute [local go_sem] max2_int min2_int max_two min_two max_three min_three max_four min_four   -- for this text's walks alone
set_option linter.unusedVariables false
set_option maxHeartbeats 8000000
set_option maxRecDepth 100000
set_option linter.unusedSimpArgs false

def laws_eqInsS.l0 : Nat → List (S102) → List (S102) → Int → Option (Bool)
 | 0, _, _, _ => none
 | k + 1, x0, x1, x5 => if x5 < (x0.length : Int) then (if 0 ≤ x5 then (if x5 < (x1.length : Int) then ((laws_eqIns.f ((rd_T102 x0 x5).f0) ((rd_T102 x0 x5).f1) ((rd_T102 x1 x5).f0) ((rd_T102 x1 x5).f1)).bind fun t145 => (if t145 = true then (laws_eqInsS.l0 k x0 x1 (wrap64 (x5 + 1))) else (some false))) else (none)) else (none)) else (some true)
def laws_eqInsS.f (k : Nat) (l0 : List (S102)) (l1 : List (S102)) : Option (Bool) := if (l0.length : Int) = (l1.length : Int) then (laws_eqInsS.l0 k l0 l1 0) else (some false)
theorem laws_eqInsS.mono_l : ∀ k, (∀ y0 y1 y2, LeO (laws_eqInsS.l0 k y0 y1 y2) (laws_eqInsS.l0 (k + 1) y0 y1 y2))
 | 0 => fun _ _ _ r h => by simp [laws_eqInsS.l0] at h
 | k + 1 => by
  have ih0 := laws_eqInsS.mono_l k
  ·intro y0 y1 y2
   unfold laws_eqInsS.l0
   with_reducible repeat' first | exact ih0 .. | exact LeO.refl _ | exact LeO.none _ | refine LeO.ite ?_ ?_ | refine LeO.bind ?_ (fun _ => ?_)
theorem laws_eqInsS.mono : ∀ a0 a1 k, LeO (laws_eqInsS.f k a0 a1) (laws_eqInsS.f (k + 1) a0 a1) := by
 intro a0 a1 k
 have ih0 := laws_eqInsS.mono_l k
 unfold laws_eqInsS.f
 with_reducible repeat' first | exact ih0 .. | exact LeO.refl _ | exact LeO.none _ | refine LeO.ite ?_ ?_ | refine LeO.bind ?_ (fun _ => ?_)
def laws_eqInsS.T6 : Bool × List (List Nat × List Nat) := (true, [([], []), ([], []), ([0, 1], [0, 1]), ([2], [2]), ([], []), ([], []), ([4, 5], [4, 5]), ([6], [6]), ([3, 7], [3, 7]), ([8], [8])])
def laws_eqInsS.B6 : List Nat := [0, 0, 3, 7, 0, 0, 48, 112, 255, 511]
theorem laws_eqInsS.tab6 : rtab .any (opsOf Try.f171 6) = laws_eqInsS.T6 := by kernel_rfl
theorem laws_eqInsS.bits6 : waitsOk laws_eqInsS.T6.2 laws_eqInsS.B6 = true := by kernel_rfl
theorem laws_eqInsS.calls (k : Nat) (A0 : Option Addr) (c0 : Nat) (l0 : List (S102)) (A1 : Option Addr) (c1 : Nat) (l1 : List (S102)) (r : Bool) (w : World) (hr0 : Kd.C k102 w A0 l0.length l0) (hc0 : l0.length ≤ c0) (hr1 : Kd.C k102 w A1 l1.length l1) (hc1 : l1.length ≤ c1) (h : laws_eqInsS.f k l0 l1 = some r) :
  Calls Try.prog 171 #[.slice A0 l0.length c0, .slice A1 l1.length c1] w fun e w' => e = .returned (.bool r) ∧ Below w.heap.size w w' := by
 have hu102 := Try.underlying102
 have HR0 := am hr0
 have HC0 := am hc0
 clear hr0 hc0
 have HR1 := am hr1
 have HC1 := am hc1
 clear hr1 hc1
 have HB := am (Below.refl w.heap.size w)
 have H : (if (l0.length : Int) = (l1.length : Int) then (laws_eqInsS.l0 k l0 l1 0) else (some false)) = some r := h
 clear h
 by_cases c3 : (l0.length : Int) = (l1.length : Int)
 ·rw [if_pos c3] at H
  have c3b0 : ((l0.length : Int) == (l1.length : Int)) = true := beq_iff_eq.mpr c3
  have c3b1 : ((l0.length : Int) != (l1.length : Int)) = false := bne_eq_false_iff_eq.mpr c3
  have c3b2 : (l0.length == l1.length) = true := by first | simpa using c3 | (simp at c3 ⊢; omega)
  clear c3
  have H' := am H
  clear H
  go_enter Try.func171, Try.ntmps171
  go_wp2
  go_loopg [5] k (fun kq v5 w' => ∃ (x5_1 : Int), v5 = .int .i64 x5_1 ∧ Aside0 (laws_eqInsS.l0 kq l0 l1 x5_1 = some r) ∧ Aside0 (kq ≤ k) ∧ Aside0 (Below w.heap.size w w'))
  case atStart => exact ⟨(0), dr, H', ⟨Nat.le_refl _⟩, ⟨bw HB⟩⟩
  clear H'
  (try clear c1); (try clear p2); (try clear c3); (try clear c3b0); (try clear c3b1); (try clear c3b2)
  obtain ⟨x5_1, rfl, HA, HK1, HB⟩ := hrel
  rcases gk with _ | k1
  ·exact absurd HA.out (by simp [laws_eqInsS.l0])
  have H := HA.out
  clear HA
  simp only [laws_eqInsS.l0] at H
  refine qI H ?_ ?_ <;> clear H <;> intro c4b0 H
  ·refine iM H ?_; clear H; intro c5b0 H
   refine iM H ?_; clear H; intro c6b0 H
   refine be H ?_; clear H; intro t145 A7 H
   have HC8 := am H
   clear H
   try go_wp2
   replace HB := am (below_drew1 HB.out)
   have p143 : 0 ≤ (x5_1 : Int) := of_decide_eq_true as1
   have q143 : x5_1 < (l0.length : Int) := of_decide_eq_true as1
   obtain ⟨ad143, e143, hx143_0, hx143_1⟩ := at_T102 HR0.out x5_1 p143 q143
   have hw143_1 := hx143_1
   have hw143_0 := hx143_0
   cases e143
   replace hx143_0 := cl HB hx143_0
   replace hx143_1 := cl HB hx143_1
   replace p143 := eq_true p143
   replace q143 := eq_true q143
   have p144 : 0 ≤ (x5_1 : Int) := of_decide_eq_true as1
   have q144 : x5_1 < (l1.length : Int) := of_decide_eq_true as1
   obtain ⟨ad144, e144, hx144_0, hx144_1⟩ := at_T102 HR1.out x5_1 p144 q144
   have hw144_1 := hx144_1
   have hw144_0 := hx144_0
   cases e144
   replace hx144_0 := cl HB hx144_0
   replace hx144_1 := cl HB hx144_1
   replace p144 := eq_true p144
   replace q144 := eq_true q144
   refine start_ (n := 10) (S := fun w' => w'.cell? (ad143.add ((x5_1).toNat * 2)) = some (.int .i64 ((rd_T102 l0 x5_1).f0)) ∧ w'.cell? ⟨(ad143.add ((x5_1).toNat * 2)).block, (ad143.add ((x5_1).toNat * 2)).off + 1, none⟩ = some (.int .i64 ((rd_T102 l0 x5_1).f1)) ∧ w'.cell? (ad144.add ((x5_1).toNat * 2)) = some (.int .i64 ((rd_T102 l1 x5_1).f0)) ∧ w'.cell? ⟨(ad144.add ((x5_1).toNat * 2)).block, (ad144.add ((x5_1).toNat * 2)).off + 1, none⟩ = some (.int .i64 ((rd_T102 l1 x5_1).f1))) (ds := []) (bv 10 0) (by kernel_rfl) rfl (by kernel_rfl) ⟨(cq HB hw143_0), (cq HB hw143_1), (cq HB hw144_0), (cq HB hw144_1)⟩ (fun hHeld => ?_); refine with_tabW laws_eqInsS.tab6 laws_eqInsS.bits6 (fun HT_ HW_ => ?_)
   generalize wr.drew = w9 at HB hx143_0 hx143_1 hx144_0 hx144_1 hHeld ⊢
   refine pu 0 17 10 1 HT_ ?_
   refine pu 1 18 10 3 HT_ ?_
   refine pu 2 19 10 7 HT_ ?_
   refine pu 4 21 10 23 HT_ ?_
   refine pu 5 22 10 55 HT_ ?_
   refine pu 6 23 10 119 HT_ ?_
   refine tk 3 20 10 127 HT_ HW_ hHeld ?_
   refine tk 7 24 10 255 HT_ HW_ hHeld ?_
   refine on 8 (some 25) 10 511 HT_ fun K hK => ?_
   refine goes_ Try.func190 (by kernel_rfl) rfl #[.agg #[.int .i64 ((rd_T102 l0 x5_1).f0), .int .i64 ((rd_T102 l0 x5_1).f1)], .agg #[.int .i64 ((rd_T102 l1 x5_1).f0), .int .i64 ((rd_T102 l1 x5_1).f1)]] (by rfl) rfl rfl gl ?_
   with_reducible refine (laws_eqIns.calls ((rd_T102 l0 x5_1).f0) ((rd_T102 l0 x5_1).f1) ((rd_T102 l1 x5_1).f0) ((rd_T102 l1 x5_1).f1) t145 _ A7.out).mono ?_
   rintro e w10 ⟨rfl, hb⟩
   refine ⟨_, rfl, ?_⟩
   replace HB := am (below_step (bw HB) hb)
   clear hb
   refine hK.out _ _ ⟨(cq HB hw143_0), (cq HB hw143_1), (cq HB hw144_0), (cq HB hw144_1)⟩ (fun hHeld => ?_)
   clear hK K
   refine nm (some 25) ?_
   refine pu 9 26 10 1023 HT_ ?_
   refine done_ (done_of HT_.out (by kernel_rfl)) ?_
   go_upto_if 26 with (fail)
   (try simp only [Act.put, sa, sz, ss])
   have H := HC8.out
   clear HC8
   refine qT H ?_ ?_ <;> clear H <;> intro c11 H <;> subst c11
   ·have H' := am H
    clear H
    go_wp2
    go_roundg k1
    case measure => have := HK1.out; omega
    case rel => exact ⟨(wrap64 (x5_1 + 1)), dr, H', ⟨by have := HK1.out; omega⟩, ⟨bw HB⟩⟩
   obtain rfl := Option.some.inj H
   go_wp2
   go_ret
   exact ⟨er, bw HB⟩
  obtain rfl := Option.some.inj H
  go_wp2
  go_ret
  exact ⟨er, bw HB⟩
 rw [if_neg c3] at H
 have c3b0 : ((l0.length : Int) == (l1.length : Int)) = false := beq_eq_false_iff_ne.mpr c3
 have c3b1 : ((l0.length : Int) != (l1.length : Int)) = true := bne_iff_ne.mpr c3
 have c3b2 : (l0.length == l1.length) = false := by first | simpa using c3 | (simp at c3 ⊢; omega)
 obtain rfl := Option.some.inj H
 go_enter Try.func171, Try.ntmps171
 go_wp2
 go_ret
 exact ⟨er, bw HB⟩

def laws_eqFunc.f (k : Nat) (a0_0 : Int) (a0_1 : Int) (l0_2 : List (S102)) (a1_0 : Int) (a1_1 : Int) (l1_2 : List (S102)) : Option (Bool) := if a0_0 = a1_0 then (if a0_1 = a1_1 then ((laws_eqInsS.f k l0_2 l1_2).bind fun t148 => (if t148 = true then (some true) else (some false))) else (some false)) else (some false)
theorem laws_eqFunc.mono : ∀ a0 a1 a2 a3 a4 a5 k, LeO (laws_eqFunc.f k a0 a1 a2 a3 a4 a5) (laws_eqFunc.f (k + 1) a0 a1 a2 a3 a4 a5) := by
 intro a0 a1 a2 a3 a4 a5 k
 unfold laws_eqFunc.f
 with_reducible repeat' first | exact laws_eqInsS.mono .. | exact LeO.refl _ | exact LeO.none _ | refine LeO.ite ?_ ?_ | refine LeO.bind ?_ (fun _ => ?_)
theorem laws_eqFunc.calls (k : Nat) (a0_0 : Int) (a0_1 : Int) (A0_2 : Option Addr) (c0_2 : Nat) (l0_2 : List (S102)) (a1_0 : Int) (a1_1 : Int) (A1_2 : Option Addr) (c1_2 : Nat) (l1_2 : List (S102)) (r : Bool) (w : World) (hr0_2 : Kd.C k102 w A0_2 l0_2.length l0_2) (hc0_2 : l0_2.length ≤ c0_2) (hr1_2 : Kd.C k102 w A1_2 l1_2.length l1_2) (hc1_2 : l1_2.length ≤ c1_2) (h : laws_eqFunc.f k a0_0 a0_1 l0_2 a1_0 a1_1 l1_2 = some r) :
  Calls Try.prog 122 #[.agg #[.int .i64 a0_0, .int .i64 a0_1, .slice A0_2 l0_2.length c0_2], .agg #[.int .i64 a1_0, .int .i64 a1_1, .slice A1_2 l1_2.length c1_2]] w fun e w' => e = .returned (.bool r) ∧ Below w.heap.size w w' := by
 have hu100 := Try.underlying100
 have HR0_2 := am hr0_2
 have HC0_2 := am hc0_2
 clear hr0_2 hc0_2
 have HR1_2 := am hr1_2
 have HC1_2 := am hc1_2
 clear hr1_2 hc1_2
 have HB := am (Below.refl w.heap.size w)
 have H : (if a0_0 = a1_0 then (if a0_1 = a1_1 then ((laws_eqInsS.f k l0_2 l1_2).bind fun t148 => (if t148 = true then (some true) else (some false))) else (some false)) else (some false)) = some r := h
 clear h
 have HC3 := am H
 clear H
 go_enter Try.func122, Try.ntmps122
 go_upto_if 9 with (first | ((with_reducible refine gd 2 rfl ?_); refine bX 2 #[.int .i64 a0_0, .int .i64 a0_1, .slice A0_2 l0_2.length c0_2] 100 HB ?_; clear HB; intro gb146 w4 hg hb BK146 GW146 HB; clear hb hg) | ((with_reducible refine gd 3 rfl ?_); refine bX 3 #[.int .i64 a1_0, .int .i64 a1_1, .slice A1_2 l1_2.length c1_2] 100 HB ?_; clear HB; intro gb147 w5 hg hb BK147 GW147 HB; obtain ⟨NB146_147, NB147_146, BK146⟩ := b3 hg BK146 hb; clear hb hg; have hnb6 := NB146_147.out; have hnc6 := NB147_146.out; have hcz7 := bK w5 BK146; have hfz7 := bF BK146; have hcz8 := bK w5 BK147; have hfz8 := bF BK147))
 (try simp only [Act.put, sa, sz, ss])
 have H := HC3.out
 clear HC3
 refine qE H ?_ ?_ <;> clear H
 ·intro c9b0 c9b1 H
  (first | rw [c9b0] | (simp only [i64_w, i32_w]; rw [c9b0]) | skip)
  refine qE H ?_ ?_ <;> clear H
  ·intro c10b0 c10b1 H
   refine be H ?_; clear H; intro t148 A11 H
   have HC12 := am H
   clear H
   have hnb13 := NB146_147.out
   have hnc13 := NB147_146.out
   have hcz14 := bK w5 BK146
   have hfz14 := bF BK146
   have hcz15 := bK w5 BK147
   have hfz15 := bF BK147
   go_upto_if 20 with (first | ((with_reducible refine gk 171 rfl ?_); refine gB 171 (some 19) Try.func171 #[.slice A0_2 l0_2.length c0_2, .slice A1_2 l1_2.length c1_2] (laws_eqInsS.calls k _ _ l0_2 _ _ l1_2 t148 _ (cc (Kd.C_below HR0_2.out HB.out)) HC0_2.out (cc (Kd.C_below HR1_2.out HB.out)) HC1_2.out A11.out) ?_; intro w16 hb; replace BK146 := bb BK146 hb; replace BK147 := bb BK147 hb; replace HB := bs HB hb; clear hb))
   (try simp only [Act.put, sa, sz, ss])
   have H := HC12.out
   clear HC12
   refine qT H ?_ ?_ <;> clear H <;> intro c17 H <;> subst c17
   ·obtain rfl := Option.some.inj H
    go_wp2
    go_ret
    exact ⟨er, bw HB⟩
   obtain rfl := Option.some.inj H
   go_wp2
   go_ret
   exact ⟨er, bw HB⟩
  intro c10 c10b0 c10b1 H
  obtain rfl := Option.some.inj H
  have hnb18 := NB146_147.out
  have hnc18 := NB147_146.out
  have hcz19 := bK w5 BK146
  have hfz19 := bF BK146
  have hcz20 := bK w5 BK147
  have hfz20 := bF BK147
  go_wp2
  go_ret
  exact ⟨er, bw HB⟩
 intro c9 c9b0 c9b1 H
 (first | rw [c9b0] | (simp only [i64_w, i32_w]; rw [c9b0]) | skip)
 obtain rfl := Option.some.inj H
 go_wp2
 go_ret
 exact ⟨er, bw HB⟩

def laws_eqFuncS.l0 : Nat → List (S100) → List (S100) → Int → Option (Bool)
 | 0, _, _, _ => none
 | k + 1, x0, x1, x5 => if x5 < (x0.length : Int) then (if 0 ≤ x5 then (if x5 < (x1.length : Int) then ((laws_eqFunc.f k ((rd_T100 x0 x5).f0) ((rd_T100 x0 x5).f1) ((rd_T100 x0 x5).f2) ((rd_T100 x1 x5).f0) ((rd_T100 x1 x5).f1) ((rd_T100 x1 x5).f2)).bind fun t151 => (if t151 = true then (laws_eqFuncS.l0 k x0 x1 (wrap64 (x5 + 1))) else (some false))) else (none)) else (none)) else (some true)
def laws_eqFuncS.f (k : Nat) (l0 : List (S100)) (l1 : List (S100)) : Option (Bool) := if (l0.length : Int) = (l1.length : Int) then (laws_eqFuncS.l0 k l0 l1 0) else (some false)
theorem laws_eqFuncS.mono_l : ∀ k, (∀ y0 y1 y2, LeO (laws_eqFuncS.l0 k y0 y1 y2) (laws_eqFuncS.l0 (k + 1) y0 y1 y2))
 | 0 => fun _ _ _ r h => by simp [laws_eqFuncS.l0] at h
 | k + 1 => by
  have ih0 := laws_eqFuncS.mono_l k
  ·intro y0 y1 y2
   unfold laws_eqFuncS.l0
   with_reducible repeat' first | exact ih0 .. | exact laws_eqFunc.mono .. | exact LeO.refl _ | exact LeO.none _ | refine LeO.ite ?_ ?_ | refine LeO.bind ?_ (fun _ => ?_)
theorem laws_eqFuncS.mono : ∀ a0 a1 k, LeO (laws_eqFuncS.f k a0 a1) (laws_eqFuncS.f (k + 1) a0 a1) := by
 intro a0 a1 k
 have ih0 := laws_eqFuncS.mono_l k
 unfold laws_eqFuncS.f
 with_reducible repeat' first | exact ih0 .. | exact laws_eqFunc.mono .. | exact LeO.refl _ | exact LeO.none _ | refine LeO.ite ?_ ?_ | refine LeO.bind ?_ (fun _ => ?_)
def laws_eqFuncS.T6 : Bool × List (List Nat × List Nat) := (true, [([], []), ([], []), ([0, 1], [0, 1]), ([2], [2]), ([], []), ([], []), ([4, 5], [4, 5]), ([6], [6]), ([3, 7], [3, 7]), ([8], [8])])
def laws_eqFuncS.B6 : List Nat := [0, 0, 3, 7, 0, 0, 48, 112, 255, 511]
theorem laws_eqFuncS.tab6 : rtab .any (opsOf Try.f61 6) = laws_eqFuncS.T6 := by kernel_rfl
theorem laws_eqFuncS.bits6 : waitsOk laws_eqFuncS.T6.2 laws_eqFuncS.B6 = true := by kernel_rfl
theorem laws_eqFuncS.calls (k : Nat) (A0 : Option Addr) (c0 : Nat) (l0 : List (S100)) (A1 : Option Addr) (c1 : Nat) (l1 : List (S100)) (r : Bool) (w : World) (hr0 : Kd.C k100 w A0 l0.length l0) (hc0 : l0.length ≤ c0) (hr1 : Kd.C k100 w A1 l1.length l1) (hc1 : l1.length ≤ c1) (h : laws_eqFuncS.f k l0 l1 = some r) :
  Calls Try.prog 61 #[.slice A0 l0.length c0, .slice A1 l1.length c1] w fun e w' => e = .returned (.bool r) ∧ Below w.heap.size w w' := by
 have hu100 := Try.underlying100
 have HR0 := am hr0
 have HC0 := am hc0
 clear hr0 hc0
 have HR1 := am hr1
 have HC1 := am hc1
 clear hr1 hc1
 have HB := am (Below.refl w.heap.size w)
 have H : (if (l0.length : Int) = (l1.length : Int) then (laws_eqFuncS.l0 k l0 l1 0) else (some false)) = some r := h
 clear h
 by_cases c3 : (l0.length : Int) = (l1.length : Int)
 ·rw [if_pos c3] at H
  have c3b0 : ((l0.length : Int) == (l1.length : Int)) = true := beq_iff_eq.mpr c3
  have c3b1 : ((l0.length : Int) != (l1.length : Int)) = false := bne_eq_false_iff_eq.mpr c3
  have c3b2 : (l0.length == l1.length) = true := by first | simpa using c3 | (simp at c3 ⊢; omega)
  clear c3
  have H' := am H
  clear H
  go_enter Try.func61, Try.ntmps61
  go_wp2
  go_loopg [5] k (fun kq v5 w' => ∃ (x5_1 : Int), v5 = .int .i64 x5_1 ∧ Aside0 (laws_eqFuncS.l0 kq l0 l1 x5_1 = some r) ∧ Aside0 (kq ≤ k) ∧ Aside0 (Below w.heap.size w w'))
  case atStart => exact ⟨(0), dr, H', ⟨Nat.le_refl _⟩, ⟨bw HB⟩⟩
  clear H'
  (try clear c1); (try clear p2); (try clear c3); (try clear c3b0); (try clear c3b1); (try clear c3b2)
  obtain ⟨x5_1, rfl, HA, HK1, HB⟩ := hrel
  rcases gk with _ | k1
  ·exact absurd HA.out (by simp [laws_eqFuncS.l0])
  have H := HA.out
  clear HA
  simp only [laws_eqFuncS.l0] at H
  refine qI H ?_ ?_ <;> clear H <;> intro c4b0 H
  ·refine iM H ?_; clear H; intro c5b0 H
   refine iM H ?_; clear H; intro c6b0 H
   refine be H ?_; clear H; intro t151 A7 H
   have HC8 := am H
   clear H
   try go_wp2
   replace HB := am (below_drew1 HB.out)
   have p149 : 0 ≤ (x5_1 : Int) := of_decide_eq_true as1
   have q149 : x5_1 < (l0.length : Int) := of_decide_eq_true as1
   obtain ⟨ad149, A149_2, c149_2, e149, hx149_0, hx149_1, hx149_2, hl149_2, hi149_2⟩ := at_T100 HR0.out x5_1 p149 q149
   have hw149_2 := hx149_2
   have hw149_1 := hx149_1
   have hw149_0 := hx149_0
   cases e149
   replace hx149_0 := cl HB hx149_0
   replace hx149_1 := cl HB hx149_1
   replace hx149_2 := cl HB hx149_2
   have HR149_2 := am hi149_2
   have HC149_2 := am hl149_2
   clear hi149_2 hl149_2
   replace p149 := eq_true p149
   replace q149 := eq_true q149
   have p150 : 0 ≤ (x5_1 : Int) := of_decide_eq_true as1
   have q150 : x5_1 < (l1.length : Int) := of_decide_eq_true as1
   obtain ⟨ad150, A150_2, c150_2, e150, hx150_0, hx150_1, hx150_2, hl150_2, hi150_2⟩ := at_T100 HR1.out x5_1 p150 q150
   have hw150_2 := hx150_2
   have hw150_1 := hx150_1
   have hw150_0 := hx150_0
   cases e150
   replace hx150_0 := cl HB hx150_0
   replace hx150_1 := cl HB hx150_1
   replace hx150_2 := cl HB hx150_2
   have HR150_2 := am hi150_2
   have HC150_2 := am hl150_2
   clear hi150_2 hl150_2
   replace p150 := eq_true p150
   replace q150 := eq_true q150
   refine start_ (n := 10) (S := fun w' => w'.cell? (ad149.add ((x5_1).toNat * 3)) = some (.int .i64 ((rd_T100 l0 x5_1).f0)) ∧ w'.cell? ⟨(ad149.add ((x5_1).toNat * 3)).block, (ad149.add ((x5_1).toNat * 3)).off + 1, none⟩ = some (.int .i64 ((rd_T100 l0 x5_1).f1)) ∧ w'.cell? ⟨(ad149.add ((x5_1).toNat * 3)).block, (ad149.add ((x5_1).toNat * 3)).off + 2, none⟩ = some (.slice A149_2 ((rd_T100 l0 x5_1).f2).length c149_2) ∧ w'.cell? (ad150.add ((x5_1).toNat * 3)) = some (.int .i64 ((rd_T100 l1 x5_1).f0)) ∧ w'.cell? ⟨(ad150.add ((x5_1).toNat * 3)).block, (ad150.add ((x5_1).toNat * 3)).off + 1, none⟩ = some (.int .i64 ((rd_T100 l1 x5_1).f1)) ∧ w'.cell? ⟨(ad150.add ((x5_1).toNat * 3)).block, (ad150.add ((x5_1).toNat * 3)).off + 2, none⟩ = some (.slice A150_2 ((rd_T100 l1 x5_1).f2).length c150_2)) (ds := []) (bv 10 0) (by kernel_rfl) rfl (by kernel_rfl) ⟨(cq HB hw149_0), (cq HB hw149_1), (cq HB hw149_2), (cq HB hw150_0), (cq HB hw150_1), (cq HB hw150_2)⟩ (fun hHeld => ?_); refine with_tabW laws_eqFuncS.tab6 laws_eqFuncS.bits6 (fun HT_ HW_ => ?_)
   generalize wr.drew = w9 at HB HR149_2 HR150_2 hx149_0 hx149_1 hx149_2 hx150_0 hx150_1 hx150_2 hHeld ⊢
   refine pu 0 17 10 1 HT_ ?_
   refine pu 1 18 10 3 HT_ ?_
   refine pu 2 19 10 7 HT_ ?_
   refine pu 4 21 10 23 HT_ ?_
   refine pu 5 22 10 55 HT_ ?_
   refine pu 6 23 10 119 HT_ ?_
   refine tk 3 20 10 127 HT_ HW_ hHeld ?_
   refine tk 7 24 10 255 HT_ HW_ hHeld ?_
   refine on 8 (some 25) 10 511 HT_ fun K hK => ?_
   refine goes_ Try.func122 (by kernel_rfl) rfl #[.agg #[.int .i64 ((rd_T100 l0 x5_1).f0), .int .i64 ((rd_T100 l0 x5_1).f1), .slice A149_2 ((rd_T100 l0 x5_1).f2).length c149_2], .agg #[.int .i64 ((rd_T100 l1 x5_1).f0), .int .i64 ((rd_T100 l1 x5_1).f1), .slice A150_2 ((rd_T100 l1 x5_1).f2).length c150_2]] (by rfl) rfl rfl gl ?_
   with_reducible refine (laws_eqFunc.calls k1 ((rd_T100 l0 x5_1).f0) ((rd_T100 l0 x5_1).f1) _ _ ((rd_T100 l0 x5_1).f2) ((rd_T100 l1 x5_1).f0) ((rd_T100 l1 x5_1).f1) _ _ ((rd_T100 l1 x5_1).f2) t151 _ ?side1 ?side2 ?side3 ?side4 A7.out).mono ?_
   (case side1 => exact cc (Kd.C_below HR149_2.out HB.out))
   (case side2 => exact HC149_2.out)
   (case side3 => exact cc (Kd.C_below HR150_2.out HB.out))
   (case side4 => exact HC150_2.out)
   rintro e w10 ⟨rfl, hb⟩
   refine ⟨_, rfl, ?_⟩
   replace HB := am (below_step (bw HB) hb)
   clear hb
   refine hK.out _ _ ⟨(cq HB hw149_0), (cq HB hw149_1), (cq HB hw149_2), (cq HB hw150_0), (cq HB hw150_1), (cq HB hw150_2)⟩ (fun hHeld => ?_)
   clear hK K
   refine nm (some 25) ?_
   refine pu 9 26 10 1023 HT_ ?_
   refine done_ (done_of HT_.out (by kernel_rfl)) ?_
   go_upto_if 26 with (fail)
   (try simp only [Act.put, sa, sz, ss])
   have H := HC8.out
   clear HC8
   refine qT H ?_ ?_ <;> clear H <;> intro c11 H <;> subst c11
   ·have H' := am H
    clear H
    go_wp2
    go_roundg k1
    case measure => have := HK1.out; omega
    case rel => exact ⟨(wrap64 (x5_1 + 1)), dr, H', ⟨by have := HK1.out; omega⟩, ⟨bw HB⟩⟩
   obtain rfl := Option.some.inj H
   go_wp2
   go_ret
   exact ⟨er, bw HB⟩
  obtain rfl := Option.some.inj H
  go_wp2
  go_ret
  exact ⟨er, bw HB⟩
 rw [if_neg c3] at H
 have c3b0 : ((l0.length : Int) == (l1.length : Int)) = false := beq_eq_false_iff_ne.mpr c3
 have c3b1 : ((l0.length : Int) != (l1.length : Int)) = true := bne_iff_ne.mpr c3
 have c3b2 : (l0.length == l1.length) = false := by first | simpa using c3 | (simp at c3 ⊢; omega)
 obtain rfl := Option.some.inj H
 go_enter Try.func61, Try.ntmps61
 go_wp2
 go_ret
 exact ⟨er, bw HB⟩

def laws_eqProgram.f (k : Nat) (l0_0 : List (S100)) (l1_0 : List (S100)) : Option (Bool) := (laws_eqFuncS.f k l0_0 l1_0).bind fun t154 => (if t154 = true then (some true) else (some false))
theorem laws_eqProgram.mono : ∀ a0 a1 k, LeO (laws_eqProgram.f k a0 a1) (laws_eqProgram.f (k + 1) a0 a1) := by
 intro a0 a1 k
 unfold laws_eqProgram.f
 with_reducible repeat' first | exact laws_eqFuncS.mono .. | exact LeO.refl _ | exact LeO.none _ | refine LeO.ite ?_ ?_ | refine LeO.bind ?_ (fun _ => ?_)
theorem laws_eqProgram.calls (k : Nat) (A0_0 : Option Addr) (c0_0 : Nat) (l0_0 : List (S100)) (A1_0 : Option Addr) (c1_0 : Nat) (l1_0 : List (S100)) (r : Bool) (w : World) (hr0_0 : Kd.C k100 w A0_0 l0_0.length l0_0) (hc0_0 : l0_0.length ≤ c0_0) (hr1_0 : Kd.C k100 w A1_0 l1_0.length l1_0) (hc1_0 : l1_0.length ≤ c1_0) (h : laws_eqProgram.f k l0_0 l1_0 = some r) :
  Calls Try.prog 19 #[.agg #[.slice A0_0 l0_0.length c0_0], .agg #[.slice A1_0 l1_0.length c1_0]] w fun e w' => e = .returned (.bool r) ∧ Below w.heap.size w w' := by
 have hu30 := Try.underlying30
 have HR0_0 := am hr0_0
 have HC0_0 := am hc0_0
 clear hr0_0 hc0_0
 have HR1_0 := am hr1_0
 have HC1_0 := am hc1_0
 clear hr1_0 hc1_0
 have HB := am (Below.refl w.heap.size w)
 have H : ((laws_eqFuncS.f k l0_0 l1_0).bind fun t154 => (if t154 = true then (some true) else (some false))) = some r := h
 clear h
 refine be H ?_; clear H; intro t154 A3 H
 have HC4 := am H
 clear H
 go_enter Try.func19, Try.ntmps19
 go_upto_if 10 with (first | ((with_reducible refine gd 2 rfl ?_); refine bX 2 #[.slice A0_0 l0_0.length c0_0] 30 HB ?_; clear HB; intro gb152 w5 hg hb BK152 GW152 HB; clear hb hg) | ((with_reducible refine gd 3 rfl ?_); refine bX 3 #[.slice A1_0 l1_0.length c1_0] 30 HB ?_; clear HB; intro gb153 w6 hg hb BK153 GW153 HB; obtain ⟨NB152_153, NB153_152, BK152⟩ := b3 hg BK152 hb; clear hb hg; have hnb7 := NB152_153.out; have hnc7 := NB153_152.out; have hcz8 := bK w6 BK152; have hfz8 := bF BK152; have hcz9 := bK w6 BK153; have hfz9 := bF BK153) | ((with_reducible refine gk 61 rfl ?_); refine gB 61 (some 9) Try.func61 #[.slice A0_0 l0_0.length c0_0, .slice A1_0 l1_0.length c1_0] (laws_eqFuncS.calls k _ _ l0_0 _ _ l1_0 t154 _ (cc (Kd.C_below HR0_0.out HB.out)) HC0_0.out (cc (Kd.C_below HR1_0.out HB.out)) HC1_0.out A3.out) ?_; intro w10 hb; replace BK152 := bb BK152 hb; replace BK153 := bb BK153 hb; replace HB := bs HB hb; clear hb))
 (try simp only [Act.put, sa, sz, ss])
 have H := HC4.out
 clear HC4
 refine qT H ?_ ?_ <;> clear H <;> intro c11 H <;> subst c11
 ·obtain rfl := Option.some.inj H
  go_wp2
  go_ret
  exact ⟨er, bw HB⟩
 obtain rfl := Option.some.inj H
 go_wp2
 go_ret
 exact ⟨er, bw HB⟩

def sh102 (x y : S102) : Prop := (fun _ _ => True) x.f0 y.f0 ∧ (fun _ _ => True) x.f1 y.f1
theorem twn102 : Twn k102 sh102 := twn_iso (twn_pair (twn_int .i64) (twn_int .i64)) (fun x : S102 => (x.f0, x.f1)) (fun a => (⟨a.1, a.2⟩ : S102)) (fun _ => rfl)
def laws_markInsS.g (k : Int) (x : S102) : Int := (wrap64 ((wrap64 (k + 1)) + 1))
theorem laws_markInsS.g_sh {k : Int} {x y : S102} (h : sh102 x y) : laws_markInsS.g k x = laws_markInsS.g k y := by
 unfold laws_markInsS.g
 rfl
def laws_markInsS.mk (k : Int) (l : List (S102)) : Int := l.foldl laws_markInsS.g k
theorem laws_markInsS.mk_sh {k : Int} {xs ys : List (S102)} (h : All2 sh102 xs ys) : laws_markInsS.mk k xs = laws_markInsS.mk k ys := fold_sh (g := laws_markInsS.g) (sh := sh102) (fun _ _ _ h => laws_markInsS.g_sh h) k h
theorem laws_markInsS.ish (P0_ : Nat → Prop) (u : Value) (l0 : List (S102)) (a1 : Int) (w0 w : World) (hB : Below w0.heap.size w0 w) (ho0 : Kd.R k102 102 w w0.heap.size P0_ u l0) :
  Calls Try.prog 123 #[u, .int .i64 a1] w fun e w' => e = .returned (.int .i64 (laws_markInsS.mk a1 l0)) ∧ Below w0.heap.size w0 w' ∧ Ish w w' P0_ := by
 have HB := am hB
 have HI := am (Ish.refl w P0_)
 have HO := am ho0
 have hln : l0.length ≤ 9223372036854775807 := by obtain ⟨_, _, rfl⟩ := Kd.R_slice ho0; exact (Kd.R_reads' ho0).2.2.2.1
 clear hB
 obtain ⟨Aa, ca, rfl⟩ := Kd.R_slice ho0
 clear ho0
 go_enter Try.func123, Try.ntmps123
 go_wp2
 go_loopg [1, 5] (l0.length + 1) (fun kq v1 v5 w' => ∃ (x1_1 : Int) (x5_1 : Int), v1 = .int .i64 x1_1 ∧ v5 = .int .i64 x5_1 ∧ Aside0 (kq + x5_1.toNat = l0.length + 1 ∧ 0 ≤ x5_1 ∧ x5_1 ≤ l0.length) ∧ Aside0 (laws_markInsS.mk x1_1 (l0.drop x5_1.toNat) = laws_markInsS.mk a1 l0) ∧ Aside0 (Ish w w' P0_) ∧ Aside0 (Below w0.heap.size w0 w'))
 case atStart => exact ⟨a1, 0, dr, dr, ⟨by simp, by omega, by omega⟩, ⟨rfl⟩, ⟨iw HI⟩, ⟨bw HB⟩⟩
 obtain ⟨x1_1, x5_1, rfl, rfl, HA, HV, HI, HB⟩ := hrel
 by_cases c3 : x5_1 < (l0.length : Int)
 ·have c3b0 := decide_eq_true c3
  obtain ⟨k1, rfl⟩ : ∃ k1, gk = k1 + 1 := ⟨gk - 1, by have := HA.out; omega⟩
  obtain ⟨la, hsa, hRa⟩ := R_twn twn102 HI.out HO.out
  have hla := hsa.1
  obtain ⟨go5, co5, eo5, gb5, gl5, cl5, HG5⟩ := Kd.R_form hRa (by have h00 := HA.out.2.1; omega)
  (first | cases eo5 | (injection eo5 with ea_ en_ ec_; (first | subst ea_ | (injection ea_ with ea_; subst ea_)); subst ec_; clear en_))
  have GB5 := am gb5
  have GP5 := am (show P0_ go5 from HO.out.1 _ rfl)
  clear gb5 gl5 HG5 hRa hsa
  have p5 : 0 ≤ x5_1 := HA.out.2.1
  have q5 := c3
  replace p5 := eq_true p5
  replace q5 := eq_true q5
  clear c3
  obtain ⟨l1, hs0, hR0⟩ := R_twn twn102 HI.out HO.out
  obtain ⟨ce0, hcl0, hM0, hcc0, hfr0⟩ := Kd.R_elem hR0 z102 x5_1 (of_eq_true p5) (of_eq_true q5)
  obtain rfl := k102_openM hM0
  have hx0 : wr.cell? ⟨go5, x5_1.toNat * 2, none⟩ = some _ := hcc0 0 _ rfl
  have hf0 : wr.frozen? ⟨go5, x5_1.toNat * 2, none⟩ = false := hfr0 0
  (try clear hM0)
  (try clear hfr0)
  (try clear hcc0)
  (try clear hcl0)
  (try clear hs0)
  (try clear hR0)
  go_wp2_with (first | ((with_reducible refine gt 2 16 rfl ?_); refine sE 2 16 (wr.setCell ⟨go5, x5_1.toNat * 2, none⟩ (.int .i64 x1_1)) ?_; intro wq0 hw; replace HI := am (show Ish w wq0 P0_ by rw [hw]; exact HI.out.set hx0 (twin.ofInt _ _ _) (fun _ => GP5.out)); replace HB := am ((by rw [hw]; exact below_set (HB.out) GB5.out : Below w0.heap.size w0 wq0)); clear hw; clear hx0; clear hf0; obtain ⟨l2, hs1, hR1⟩ := R_twn twn102 HI.out HO.out; obtain ⟨ce1, hcl1, hM1, hcc1, hfr1⟩ := Kd.R_elem hR1 z102 x5_1 (of_eq_true p5) (of_eq_true q5); obtain rfl := k102_openM hM1; have hx1 : wq0.cell? ⟨go5, x5_1.toNat * 2 + 1, none⟩ = some _ := hcc1 1 _ rfl; have hf1 : wq0.frozen? ⟨go5, x5_1.toNat * 2 + 1, none⟩ = false := hfr1 1; (try clear hM1); (try clear hfr1); (try clear hcc1); (try clear hcl1); (try clear hs1); (try clear hR1)) | ((with_reducible refine gt 2 23 rfl ?_); refine sE 2 23 (wq0.setCell ⟨go5, x5_1.toNat * 2 + 1, none⟩ (.int .i64 (wrap64 (x1_1 + 1)))) ?_; intro wq1 hw; replace HI := am (show Ish w wq1 P0_ by rw [hw]; exact HI.out.set hx1 (twin.ofInt _ _ _) (fun _ => GP5.out)); replace HB := am ((by rw [hw]; exact below_set (HB.out) GB5.out : Below w0.heap.size w0 wq1)); clear hw; clear hx1; clear hf1))
  go_roundg k1
  case measure => omega
  case rel =>
   have h1 := HA.out
   have hq : x5_1 < (l0.length : Int) := of_eq_true q5
   have hw1 : wrap64 (x5_1 + 1) = x5_1 + 1 := by unfold wrap64; omega
   have hlt : x5_1.toNat < l0.length := by omega
   refine ⟨(wrap64 ((wrap64 (x1_1 + 1)) + 1)), wrap64 (x5_1 + 1), dr, dr, ⟨by omega, by omega, by omega⟩, ⟨?_⟩, ⟨iw HI⟩, ⟨bw HB⟩⟩
   have h2 := HV.out
   rw [List.drop_eq_getElem_cons hlt] at h2
   rw [hw1, show (x5_1 + 1).toNat = x5_1.toNat + 1 by omega]
   exact h2
 have c3b0 := decide_eq_false c3
 have hv := HV.out
 have h1 := HA.out
 rw [List.drop_of_length_le (by omega)] at hv
 have hv : x1_1 = laws_markInsS.mk a1 l0 := hv
 clear c3
 go_wp2
 go_ret
 exact ⟨by first | rfl | (simp; done) | (simp [*]; done), bw HB, iw HI⟩
def laws_markInsS.f (l0 : List (S102)) (a1 : Int) : Option Int := some (laws_markInsS.mk a1 l0)
theorem laws_markInsS.calls (P0_ : Nat → Prop) (u9000_ : Value) (l0 : List (S102)) (a1 : Int) (r1 : Int) (w0 w : World) (hB : Below w0.heap.size w0 w) (ho0 : Kd.R k102 102 w w0.heap.size P0_ u9000_ l0) (h : laws_markInsS.f l0 a1 = some r1) :
  Calls Try.prog 123 #[u9000_, .int .i64 a1] w fun e w' => e = .returned (.int .i64 r1) ∧ Below w0.heap.size w0 w' ∧ Kept w w' (fun k_ => P0_ k_) := by
 have e : laws_markInsS.mk a1 l0 = r1 := Option.some.inj h
 subst e
 exact (laws_markInsS.ish P0_ u9000_ l0 a1 w0 w hB ho0).mono fun e w' hq => ⟨hq.1, hq.2.1, hq.2.2.kept⟩

def sh100 (x y : S100) : Prop := (fun _ _ => True) x.f0 y.f0 ∧ (fun _ _ => True) x.f1 y.f1 ∧ (All2 sh102) x.f2 y.f2
theorem twn100 : Twn k100 sh100 := twn_iso (twn_pair (twn_int .i64) (twn_pair (twn_int .i64) (twn_slice twn102 102))) (fun x : S100 => (x.f0, x.f1, x.f2)) (fun a => (⟨a.1, a.2.1, a.2.2⟩ : S100)) (fun _ => rfl)
def laws_markFuncS.g (k : Int) (x : S100) : Int := (laws_markInsS.mk (wrap64 ((wrap64 (k + 1)) + 1)) x.f2)
theorem laws_markFuncS.g_sh {k : Int} {x y : S100} (h : sh100 x y) : laws_markFuncS.g k x = laws_markFuncS.g k y := by
 unfold laws_markFuncS.g
 rw [laws_markInsS.mk_sh (show All2 _ _ _ from h.2.2)]
def laws_markFuncS.mk (k : Int) (l : List (S100)) : Int := l.foldl laws_markFuncS.g k
theorem laws_markFuncS.mk_sh {k : Int} {xs ys : List (S100)} (h : All2 sh100 xs ys) : laws_markFuncS.mk k xs = laws_markFuncS.mk k ys := fold_sh (g := laws_markFuncS.g) (sh := sh100) (fun _ _ _ h => laws_markFuncS.g_sh h) k h
theorem laws_markFuncS.ish (P0_ : Nat → Prop) (u : Value) (l0 : List (S100)) (a1 : Int) (w0 w : World) (hB : Below w0.heap.size w0 w) (ho0 : Kd.R k100 100 w w0.heap.size P0_ u l0) :
  Calls Try.prog 62 #[u, .int .i64 a1] w fun e w' => e = .returned (.int .i64 (laws_markFuncS.mk a1 l0)) ∧ Below w0.heap.size w0 w' ∧ Ish w w' P0_ := by
 have HB := am hB
 have HI := am (Ish.refl w P0_)
 have HO := am ho0
 have hln : l0.length ≤ 9223372036854775807 := by obtain ⟨_, _, rfl⟩ := Kd.R_slice ho0; exact (Kd.R_reads' ho0).2.2.2.1
 clear hB
 obtain ⟨Aa, ca, rfl⟩ := Kd.R_slice ho0
 clear ho0
 go_enter Try.func62, Try.ntmps62
 go_wp2
 go_loopg [1, 5] (l0.length + 1) (fun kq v1 v5 w' => ∃ (x1_1 : Int) (x5_1 : Int), v1 = .int .i64 x1_1 ∧ v5 = .int .i64 x5_1 ∧ Aside0 (kq + x5_1.toNat = l0.length + 1 ∧ 0 ≤ x5_1 ∧ x5_1 ≤ l0.length) ∧ Aside0 (laws_markFuncS.mk x1_1 (l0.drop x5_1.toNat) = laws_markFuncS.mk a1 l0) ∧ Aside0 (Ish w w' P0_) ∧ Aside0 (Below w0.heap.size w0 w'))
 case atStart => exact ⟨a1, 0, dr, dr, ⟨by simp, by omega, by omega⟩, ⟨rfl⟩, ⟨iw HI⟩, ⟨bw HB⟩⟩
 obtain ⟨x1_1, x5_1, rfl, rfl, HA, HV, HI, HB⟩ := hrel
 by_cases c3 : x5_1 < (l0.length : Int)
 ·have c3b0 := decide_eq_true c3
  obtain ⟨k1, rfl⟩ : ∃ k1, gk = k1 + 1 := ⟨gk - 1, by have := HA.out; omega⟩
  obtain ⟨la, hsa, hRa⟩ := R_twn twn100 HI.out HO.out
  have hla := hsa.1
  obtain ⟨go5, co5, eo5, gb5, gl5, cl5, HG5⟩ := Kd.R_form hRa (by have h00 := HA.out.2.1; omega)
  (first | cases eo5 | (injection eo5 with ea_ en_ ec_; (first | subst ea_ | (injection ea_ with ea_; subst ea_)); subst ec_; clear en_))
  have GB5 := am gb5
  have GP5 := am (show P0_ go5 from HO.out.1 _ rfl)
  clear gb5 gl5 HG5 hRa hsa
  have p5 : 0 ≤ x5_1 := HA.out.2.1
  have q5 := c3
  replace p5 := eq_true p5
  replace q5 := eq_true q5
  clear c3
  obtain ⟨l1, hs0, hR0⟩ := R_twn twn100 HI.out HO.out
  obtain ⟨ce0, hcl0, hM0, hcc0, hfr0⟩ := Kd.R_elem hR0 z100 x5_1 (of_eq_true p5) (of_eq_true q5)
  obtain ⟨v0_2, rfl, hr0_2⟩ := k100_openM hM0
  have hx0 : wr.cell? ⟨go5, x5_1.toNat * 3, none⟩ = some _ := hcc0 0 _ rfl
  have hf0 : wr.frozen? ⟨go5, x5_1.toNat * 3, none⟩ = false := hfr0 0
  (try clear hM0)
  (try clear hfr0)
  (try clear hcc0)
  (try clear hcl0)
  (try clear hs0)
  (try clear hR0)
  (try clear hr0_2)
  go_wp2_with (first | ((with_reducible refine gt 2 16 rfl ?_); refine sE 2 16 (wr.setCell ⟨go5, x5_1.toNat * 3, none⟩ (.int .i64 x1_1)) ?_; intro wq0 hw; replace HI := am (show Ish w wq0 P0_ by rw [hw]; exact HI.out.set hx0 (twin.ofInt _ _ _) (fun _ => GP5.out)); replace HB := am ((by rw [hw]; exact below_set (HB.out) GB5.out : Below w0.heap.size w0 wq0)); clear hw; clear hx0; clear hf0; obtain ⟨l2, hs1, hR1⟩ := R_twn twn100 HI.out HO.out; obtain ⟨ce1, hcl1, hM1, hcc1, hfr1⟩ := Kd.R_elem hR1 z100 x5_1 (of_eq_true p5) (of_eq_true q5); obtain ⟨v1_2, rfl, hr1_2⟩ := k100_openM hM1; have hx1 : wq0.cell? ⟨go5, x5_1.toNat * 3 + 1, none⟩ = some _ := hcc1 1 _ rfl; have hf1 : wq0.frozen? ⟨go5, x5_1.toNat * 3 + 1, none⟩ = false := hfr1 1; (try clear hM1); (try clear hfr1); (try clear hcc1); (try clear hcl1); (try clear hs1); (try clear hR1); (try clear hr1_2)) | ((with_reducible refine gt 2 23 rfl ?_); refine sE 2 23 (wq0.setCell ⟨go5, x5_1.toNat * 3 + 1, none⟩ (.int .i64 (wrap64 (x1_1 + 1)))) ?_; intro wq1 hw; replace HI := am (show Ish w wq1 P0_ by rw [hw]; exact HI.out.set hx1 (twin.ofInt _ _ _) (fun _ => GP5.out)); replace HB := am ((by rw [hw]; exact below_set (HB.out) GB5.out : Below w0.heap.size w0 wq1)); clear hw; clear hx1; clear hf1; obtain ⟨l3, hs2, hR2⟩ := R_twn twn100 HI.out HO.out; obtain ⟨ce2, hcl2, hM2, hcc2, hfr2⟩ := Kd.R_elem hR2 z100 x5_1 (of_eq_true p5) (of_eq_true q5); obtain ⟨v2_2, rfl, hr2_2⟩ := k100_openM hM2; obtain ⟨A2, c2, rfl⟩ := Kd.R_slice hr2_2; have hx2 : wq1.cell? ⟨go5, x5_1.toNat * 3 + 2, none⟩ = some _ := hcc2 2 _ rfl; have HR2 := am hr2_2; have HS2 := am hs2; (try clear hM2); (try clear hfr2); (try clear hcc2); (try clear hcl2); (try clear hs2); (try clear hR2); (try clear hr2_2)) | (go_at_call 123; (refine (laws_markInsS.ish _ _ _ _ _ _ (bw HB) HR2.out).mono ?_); rintro e wq2 ⟨rfl, hb, hi⟩; replace HB := am hb; replace HI := am (HI.out.trans hi (fun b _ h_ => h_.1)); clear hb hi; clear hx2))
  go_roundg k1
  case measure => omega
  case rel =>
   have h1 := HA.out
   have hq : x5_1 < (l0.length : Int) := of_eq_true q5
   have hw1 : wrap64 (x5_1 + 1) = x5_1 + 1 := by unfold wrap64; omega
   have hlt : x5_1.toNat < l0.length := by omega
   have hsh2 := HS2.out.2 x5_1.toNat l0[x5_1.toNat] (l3.getD x5_1.toNat z100) (List.getElem?_eq_getElem hlt) (by rw [List.getD_eq_getElem?_getD, List.getElem?_eq_getElem (by have := HS2.out.1; omega)]; rfl)
   refine ⟨(laws_markInsS.mk (wrap64 ((wrap64 (x1_1 + 1)) + 1)) (l3.getD x5_1.toNat z100).f2), wrap64 (x5_1 + 1), dr, dr, ⟨by omega, by omega, by omega⟩, ⟨?_⟩, ⟨iw HI⟩, ⟨bw HB⟩⟩
   have h2 := HV.out
   rw [List.drop_eq_getElem_cons hlt] at h2
   rw [hw1, show (x5_1 + 1).toNat = x5_1.toNat + 1 by omega]
   rw [← laws_markInsS.mk_sh (show All2 _ _ _ from hsh2.2.2)]
   exact h2
 have c3b0 := decide_eq_false c3
 have hv := HV.out
 have h1 := HA.out
 rw [List.drop_of_length_le (by omega)] at hv
 have hv : x1_1 = laws_markFuncS.mk a1 l0 := hv
 clear c3
 go_wp2
 go_ret
 exact ⟨by first | rfl | (simp; done) | (simp [*]; done), bw HB, iw HI⟩
def laws_markFuncS.f (l0 : List (S100)) (a1 : Int) : Option Int := some (laws_markFuncS.mk a1 l0)
theorem laws_markFuncS.calls (P0_ : Nat → Prop) (u9000_ : Value) (l0 : List (S100)) (a1 : Int) (r1 : Int) (w0 w : World) (hB : Below w0.heap.size w0 w) (ho0 : Kd.R k100 100 w w0.heap.size P0_ u9000_ l0) (h : laws_markFuncS.f l0 a1 = some r1) :
  Calls Try.prog 62 #[u9000_, .int .i64 a1] w fun e w' => e = .returned (.int .i64 r1) ∧ Below w0.heap.size w0 w' ∧ Kept w w' (fun k_ => P0_ k_) := by
 have e : laws_markFuncS.mk a1 l0 = r1 := Option.some.inj h
 subst e
 exact (laws_markFuncS.ish P0_ u9000_ l0 a1 w0 w hB ho0).mono fun e w' hq => ⟨hq.1, hq.2.1, hq.2.2.kept⟩

end Go.Proofs.Ytbmjmaahcaoajaa.QFnExactLive
