import Derived.Test.YticdldoijkdffaaCFnExactMixToldx0
import Derived.Test.YticdldoijkdffaaCFnExactMixToldx7
import Derived.Test.YticdldoijkdffaaCFnExactMixToldx8
namespace Go.Proofs.Yticdldoijkdffaa.QFnExactMixTold
open Go.RowKit Go.Proofs.YticdldoijkdffaaW
open PrintWords PrintLast PrintMore PrintShort PrintIsh
attribute [local go_sem] max2_int min2_int max_two min_two max_three min_three max_four min_four   -- for this text's walks alone
set_option linter.unusedVariables false
set_option maxHeartbeats 8000000
set_option maxRecDepth 100000
set_option linter.unusedSimpArgs false

def laws_eqValSS.l0 : Nat → List (List (S107)) → List (List (S107)) → Int → Option (Bool)
 | 0, _, _, _ => none
 | k + 1, x0, x1, x5 => if x5 < (x0.length : Int) then (if 0 ≤ x5 then (if x5 < (x1.length : Int) then ((laws_eqValS.f k (rd_L16 x0 x5) (rd_L16 x1 x5)).bind fun t348 => (if t348 = true then (laws_eqValSS.l0 k x0 x1 (wrap64 (x5 + 1))) else (some false))) else (none)) else (none)) else (some true)
def laws_eqValSS.f (k : Nat) (l0 : List (List (S107))) (l1 : List (List (S107))) : Option (Bool) := if (l0.length : Int) = (l1.length : Int) then (laws_eqValSS.l0 k l0 l1 0) else (some false)
theorem laws_eqValSS.mono_l : ∀ k, (∀ y0 y1 y2, LeO (laws_eqValSS.l0 k y0 y1 y2) (laws_eqValSS.l0 (k + 1) y0 y1 y2))
 | 0 => fun _ _ _ r h => by simp [laws_eqValSS.l0] at h
 | k + 1 => by
  have ih0 := laws_eqValSS.mono_l k
  ·intro y0 y1 y2
   unfold laws_eqValSS.l0
   with_reducible repeat' first | exact ih0 .. | exact laws_eqValS.mono .. | exact LeO.refl _ | exact LeO.none _ | refine LeO.ite ?_ ?_ | refine LeO.bind ?_ (fun _ => ?_)
theorem laws_eqValSS.mono : ∀ a0 a1 k, LeO (laws_eqValSS.f k a0 a1) (laws_eqValSS.f (k + 1) a0 a1) := by
 intro a0 a1 k
 have ih0 := laws_eqValSS.mono_l k
 unfold laws_eqValSS.f
 with_reducible repeat' first | exact ih0 .. | exact laws_eqValS.mono .. | exact LeO.refl _ | exact LeO.none _ | refine LeO.ite ?_ ?_ | refine LeO.bind ?_ (fun _ => ?_)
def laws_eqValSS.T6 : Bool × List (List Nat × List Nat) := (true, [([], []), ([], []), ([0, 1], [0, 1]), ([2], [2]), ([], []), ([], []), ([4, 5], [4, 5]), ([6], [6]), ([3, 7], [3, 7]), ([8], [8])])
def laws_eqValSS.B6 : List Nat := [0, 0, 3, 7, 0, 0, 48, 112, 255, 511]
theorem laws_eqValSS.tab6 : rtab .any (opsOf Try.f52 6) = laws_eqValSS.T6 := by kernel_rfl
theorem laws_eqValSS.bits6 : waitsOk laws_eqValSS.T6.2 laws_eqValSS.B6 = true := by kernel_rfl
theorem laws_eqValSS.calls (k : Nat) (A0 : Option Addr) (c0 : Nat) (l0 : List (List (S107))) (A1 : Option Addr) (c1 : Nat) (l1 : List (List (S107))) (r : Bool) (w : World) (hr0 : Kd.C (Kd.slice 107 k107) w A0 l0.length l0) (hc0 : l0.length ≤ c0) (hr1 : Kd.C (Kd.slice 107 k107) w A1 l1.length l1) (hc1 : l1.length ≤ c1) (h : laws_eqValSS.f k l0 l1 = some r) :
  Calls Try.prog 52 #[.slice A0 l0.length c0, .slice A1 l1.length c1] w fun e w' => e = .returned (.bool r) ∧ Below w.heap.size w w' := by
 have HR0 := am hr0
 have HC0 := am hc0
 clear hr0 hc0
 have HR1 := am hr1
 have HC1 := am hc1
 clear hr1 hc1
 have HB := am (Below.refl w.heap.size w)
 have H : (if (l0.length : Int) = (l1.length : Int) then (laws_eqValSS.l0 k l0 l1 0) else (some false)) = some r := h
 clear h
 by_cases c3 : (l0.length : Int) = (l1.length : Int)
 ·rw [if_pos c3] at H
  have c3b0 : ((l0.length : Int) == (l1.length : Int)) = true := beq_iff_eq.mpr c3
  have c3b1 : ((l0.length : Int) != (l1.length : Int)) = false := bne_eq_false_iff_eq.mpr c3
  have c3b2 : (l0.length == l1.length) = true := by first | simpa using c3 | (simp at c3 ⊢; omega)
  clear c3
  have H' := am H
  clear H
  go_enter Try.func52, Try.ntmps52
  go_wp2
  go_loopg [5] k (fun kq v5 w' => ∃ (x5_1 : Int), v5 = .int .i64 x5_1 ∧ Aside0 (laws_eqValSS.l0 kq l0 l1 x5_1 = some r) ∧ Aside0 (kq ≤ k) ∧ Aside0 (Below w.heap.size w w'))
  case atStart => exact ⟨(0), dr, H', ⟨Nat.le_refl _⟩, ⟨bw HB⟩⟩
  clear H'
  (try clear c1); (try clear p2); (try clear c3); (try clear c3b0); (try clear c3b1); (try clear c3b2)
  obtain ⟨x5_1, rfl, HA, HK1, HB⟩ := hrel
  rcases gk with _ | k1
  ·exact absurd HA.out (by simp [laws_eqValSS.l0])
  have H := HA.out
  clear HA
  simp only [laws_eqValSS.l0] at H
  refine qI H ?_ ?_ <;> clear H <;> intro c4b0 H
  ·refine iM H ?_; clear H; intro c5b0 H
   refine iM H ?_; clear H; intro c6b0 H
   refine be H ?_; clear H; intro t348 A7 H
   have HC8 := am H
   clear H
   try go_wp2
   replace HB := am (below_drew1 HB.out)
   have p346 : 0 ≤ (x5_1 : Int) := of_decide_eq_true as1
   have q346 : x5_1 < (l0.length : Int) := of_decide_eq_true as1
   obtain ⟨ad346, A346_0, c346_0, e346, hx346_0, hl346_0, hi346_0⟩ := at_L16 HR0.out x5_1 p346 q346
   have hw346_0 := hx346_0
   cases e346
   replace hx346_0 := cl HB hx346_0
   have HR346_0 := am hi346_0
   have HC346_0 := am hl346_0
   clear hi346_0 hl346_0
   replace p346 := eq_true p346
   replace q346 := eq_true q346
   have p347 : 0 ≤ (x5_1 : Int) := of_decide_eq_true as1
   have q347 : x5_1 < (l1.length : Int) := of_decide_eq_true as1
   obtain ⟨ad347, A347_0, c347_0, e347, hx347_0, hl347_0, hi347_0⟩ := at_L16 HR1.out x5_1 p347 q347
   have hw347_0 := hx347_0
   cases e347
   replace hx347_0 := cl HB hx347_0
   have HR347_0 := am hi347_0
   have HC347_0 := am hl347_0
   clear hi347_0 hl347_0
   replace p347 := eq_true p347
   replace q347 := eq_true q347
   refine start_ (n := 10) (S := fun w' => w'.cell? (ad346.add (x5_1).toNat) = some (.slice A346_0 (rd_L16 l0 x5_1).length c346_0) ∧ w'.cell? (ad347.add (x5_1).toNat) = some (.slice A347_0 (rd_L16 l1 x5_1).length c347_0)) (ds := []) (bv 10 0) (by kernel_rfl) rfl (by kernel_rfl) ⟨(cq HB hw346_0), (cq HB hw347_0)⟩ (fun hHeld => ?_); refine with_tabW laws_eqValSS.tab6 laws_eqValSS.bits6 (fun HT_ HW_ => ?_)
   generalize wr.drew = w9 at HB HR346_0 HR347_0 hx346_0 hx347_0 hHeld ⊢
   refine pu 0 17 10 1 HT_ ?_
   refine pu 1 18 10 3 HT_ ?_
   refine pu 2 19 10 7 HT_ ?_
   refine pu 4 21 10 23 HT_ ?_
   refine pu 5 22 10 55 HT_ ?_
   refine pu 6 23 10 119 HT_ ?_
   refine tk 3 20 10 127 HT_ HW_ hHeld ?_
   refine tk 7 24 10 255 HT_ HW_ hHeld ?_
   refine on 8 (some 25) 10 511 HT_ fun K hK => ?_
   refine goes_ Try.func60 (by kernel_rfl) rfl #[.slice A346_0 (rd_L16 l0 x5_1).length c346_0, .slice A347_0 (rd_L16 l1 x5_1).length c347_0] (by rfl) rfl rfl gl ?_
   with_reducible refine (laws_eqValS.calls k1 _ _ (rd_L16 l0 x5_1) _ _ (rd_L16 l1 x5_1) t348 _ ?side1 ?side2 ?side3 ?side4 A7.out).mono ?_
   (case side1 => exact cc (Kd.C_below HR346_0.out HB.out))
   (case side2 => exact HC346_0.out)
   (case side3 => exact cc (Kd.C_below HR347_0.out HB.out))
   (case side4 => exact HC347_0.out)
   rintro e w10 ⟨rfl, hb⟩
   refine ⟨_, rfl, ?_⟩
   replace HB := am (below_step (bw HB) hb)
   clear hb
   refine hK.out _ _ ⟨(cq HB hw346_0), (cq HB hw347_0)⟩ (fun hHeld => ?_)
   clear hK K
   refine nm (some 25) ?_
   refine pu 9 26 10 1023 HT_ ?_
   refine done_ (done_of HT_.out (by kernel_rfl)) ?_
   go_upto_if 26 with (fail)
   (try simp only [Act.put, sa, sz, ss])
   have H := HC8.out
   clear HC8
   refine qT H ?_ ?_ <;> clear H <;> intro c11 H <;> subst c11
   ·have H' := am H
    clear H
    go_wp2
    go_roundg k1
    case measure => have := HK1.out; omega
    case rel => exact ⟨(wrap64 (x5_1 + 1)), dr, H', ⟨by have := HK1.out; omega⟩, ⟨bw HB⟩⟩
   obtain rfl := Option.some.inj H
   go_wp2
   go_ret
   exact ⟨er, bw HB⟩
  obtain rfl := Option.some.inj H
  go_wp2
  go_ret
  exact ⟨er, bw HB⟩
 rw [if_neg c3] at H
 have c3b0 : ((l0.length : Int) == (l1.length : Int)) = false := beq_eq_false_iff_ne.mpr c3
 have c3b1 : ((l0.length : Int) != (l1.length : Int)) = true := bne_iff_ne.mpr c3
 have c3b2 : (l0.length == l1.length) = false := by first | simpa using c3 | (simp at c3 ⊢; omega)
 obtain rfl := Option.some.inj H
 go_enter Try.func52, Try.ntmps52
 go_wp2
 go_ret
 exact ⟨er, bw HB⟩

def laws_eqAsm.f (k : Nat) (a0_0 : Int) (l0_1 : List (S94)) (l0_2 : List (List (S107))) (a1_0 : Int) (l1_1 : List (S94)) (l1_2 : List (List (S107))) : Option (Bool) := if a0_0 = a1_0 then ((laws_eqAsmInsS.f k l0_1 l1_1).bind fun t351 => (if t351 = true then ((laws_eqValSS.f k l0_2 l1_2).bind fun t352 => (if t352 = true then (some true) else (some false))) else (some false))) else (some false)
theorem laws_eqAsm.mono : ∀ a0 a1 a2 a3 a4 a5 k, LeO (laws_eqAsm.f k a0 a1 a2 a3 a4 a5) (laws_eqAsm.f (k + 1) a0 a1 a2 a3 a4 a5) := by
 intro a0 a1 a2 a3 a4 a5 k
 unfold laws_eqAsm.f
 with_reducible repeat' first | exact laws_eqAsmInsS.mono .. | exact laws_eqValSS.mono .. | exact LeO.refl _ | exact LeO.none _ | refine LeO.ite ?_ ?_ | refine LeO.bind ?_ (fun _ => ?_)
theorem laws_eqAsm.calls (k : Nat) (a0_0 : Int) (A0_1 : Option Addr) (c0_1 : Nat) (l0_1 : List (S94)) (A0_2 : Option Addr) (c0_2 : Nat) (l0_2 : List (List (S107))) (a1_0 : Int) (A1_1 : Option Addr) (c1_1 : Nat) (l1_1 : List (S94)) (A1_2 : Option Addr) (c1_2 : Nat) (l1_2 : List (List (S107))) (r : Bool) (w : World) (hr0_1 : Kd.C k94 w A0_1 l0_1.length l0_1) (hc0_1 : l0_1.length ≤ c0_1) (hr0_2 : Kd.C (Kd.slice 107 k107) w A0_2 l0_2.length l0_2) (hc0_2 : l0_2.length ≤ c0_2) (hr1_1 : Kd.C k94 w A1_1 l1_1.length l1_1) (hc1_1 : l1_1.length ≤ c1_1) (hr1_2 : Kd.C (Kd.slice 107 k107) w A1_2 l1_2.length l1_2) (hc1_2 : l1_2.length ≤ c1_2) (h : laws_eqAsm.f k a0_0 l0_1 l0_2 a1_0 l1_1 l1_2 = some r) :
  Calls Try.prog 43 #[.agg #[.int .i64 a0_0, .slice A0_1 l0_1.length c0_1, .slice A0_2 l0_2.length c0_2], .agg #[.int .i64 a1_0, .slice A1_1 l1_1.length c1_1, .slice A1_2 l1_2.length c1_2]] w fun e w' => e = .returned (.bool r) ∧ Below w.heap.size w w' := by
 have hu73 := Try.underlying73
 have HR0_1 := am hr0_1
 have HC0_1 := am hc0_1
 clear hr0_1 hc0_1
 have HR0_2 := am hr0_2
 have HC0_2 := am hc0_2
 clear hr0_2 hc0_2
 have HR1_1 := am hr1_1
 have HC1_1 := am hc1_1
 clear hr1_1 hc1_1
 have HR1_2 := am hr1_2
 have HC1_2 := am hc1_2
 clear hr1_2 hc1_2
 have HB := am (Below.refl w.heap.size w)
 have H : (if a0_0 = a1_0 then ((laws_eqAsmInsS.f k l0_1 l1_1).bind fun t351 => (if t351 = true then ((laws_eqValSS.f k l0_2 l1_2).bind fun t352 => (if t352 = true then (some true) else (some false))) else (some false))) else (some false)) = some r := h
 clear h
 have HC3 := am H
 clear H
 go_enter Try.func43, Try.ntmps43
 go_upto_if 9 with (first | ((with_reducible refine gd 2 rfl ?_); refine bX 2 #[.int .i64 a0_0, .slice A0_1 l0_1.length c0_1, .slice A0_2 l0_2.length c0_2] 73 HB ?_; clear HB; intro gb349 w4 hg hb BK349 GW349 HB; clear hb hg) | ((with_reducible refine gd 3 rfl ?_); refine bX 3 #[.int .i64 a1_0, .slice A1_1 l1_1.length c1_1, .slice A1_2 l1_2.length c1_2] 73 HB ?_; clear HB; intro gb350 w5 hg hb BK350 GW350 HB; obtain ⟨NB349_350, NB350_349, BK349⟩ := b3 hg BK349 hb; clear hb hg; have hnb6 := NB349_350.out; have hnc6 := NB350_349.out; have hcz7 := bK w5 BK349; have hfz7 := bF BK349; have hcz8 := bK w5 BK350; have hfz8 := bF BK350))
 (try simp only [Act.put, sa, sz, ss])
 have H := HC3.out
 clear HC3
 refine qE H ?_ ?_ <;> clear H
 ·intro c9b0 c9b1 H
  (first | rw [c9b0] | (simp only [i64_w, i32_w]; rw [c9b0]) | skip)
  refine be H ?_; clear H; intro t351 A10 H
  have HC11 := am H
  clear H
  have hnb12 := NB349_350.out
  have hnc12 := NB350_349.out
  have hcz13 := bK w5 BK349
  have hfz13 := bF BK349
  have hcz14 := bK w5 BK350
  have hfz14 := bF BK350
  go_upto_if 15 with (first | ((with_reducible refine gk 51 rfl ?_); refine gB 51 (some 14) Try.func51 #[.slice A0_1 l0_1.length c0_1, .slice A1_1 l1_1.length c1_1] (laws_eqAsmInsS.calls k _ _ l0_1 _ _ l1_1 t351 _ (cc (Kd.C_below HR0_1.out HB.out)) HC0_1.out (cc (Kd.C_below HR1_1.out HB.out)) HC1_1.out A10.out) ?_; intro w15 hb; replace BK349 := bb BK349 hb; replace BK350 := bb BK350 hb; replace HB := bs HB hb; clear hb))
  (try simp only [Act.put, sa, sz, ss])
  have H := HC11.out
  clear HC11
  refine qT H ?_ ?_ <;> clear H <;> intro c16 H <;> subst c16
  ·refine be H ?_; clear H; intro t352 A17 H
   have HC18 := am H
   clear H
   have hnb19 := NB349_350.out
   have hnc19 := NB350_349.out
   have hcz20 := bK w15 BK349
   have hfz20 := bF BK349
   have hcz21 := bK w15 BK350
   have hfz21 := bF BK350
   go_upto_if 21 with (first | ((with_reducible refine gk 52 rfl ?_); refine gB 52 (some 20) Try.func52 #[.slice A0_2 l0_2.length c0_2, .slice A1_2 l1_2.length c1_2] (laws_eqValSS.calls k _ _ l0_2 _ _ l1_2 t352 _ (cc (Kd.C_below HR0_2.out HB.out)) HC0_2.out (cc (Kd.C_below HR1_2.out HB.out)) HC1_2.out A17.out) ?_; intro w22 hb; replace BK349 := bb BK349 hb; replace BK350 := bb BK350 hb; replace HB := bs HB hb; clear hb))
   (try simp only [Act.put, sa, sz, ss])
   have H := HC18.out
   clear HC18
   refine qT H ?_ ?_ <;> clear H <;> intro c23 H <;> subst c23
   ·obtain rfl := Option.some.inj H
    go_wp2
    go_ret
    exact ⟨er, bw HB⟩
   obtain rfl := Option.some.inj H
   go_wp2
   go_ret
   exact ⟨er, bw HB⟩
  obtain rfl := Option.some.inj H
  go_wp2
  go_ret
  exact ⟨er, bw HB⟩
 intro c9 c9b0 c9b1 H
 (first | rw [c9b0] | (simp only [i64_w, i32_w]; rw [c9b0]) | skip)
 obtain rfl := Option.some.inj H
 go_wp2
 go_ret
 exact ⟨er, bw HB⟩

def laws_eqAsmS.l0 : Nat → List (S73) → List (S73) → Int → Option (Bool)
 | 0, _, _, _ => none
 | k + 1, x0, x1, x5 => if x5 < (x0.length : Int) then (if 0 ≤ x5 then (if x5 < (x1.length : Int) then ((laws_eqAsm.f k ((rd_T73 x0 x5).f0) ((rd_T73 x0 x5).f1) ((rd_T73 x0 x5).f2) ((rd_T73 x1 x5).f0) ((rd_T73 x1 x5).f1) ((rd_T73 x1 x5).f2)).bind fun t355 => (if t355 = true then (laws_eqAsmS.l0 k x0 x1 (wrap64 (x5 + 1))) else (some false))) else (none)) else (none)) else (some true)
def laws_eqAsmS.f (k : Nat) (l0 : List (S73)) (l1 : List (S73)) : Option (Bool) := if (l0.length : Int) = (l1.length : Int) then (laws_eqAsmS.l0 k l0 l1 0) else (some false)
theorem laws_eqAsmS.mono_l : ∀ k, (∀ y0 y1 y2, LeO (laws_eqAsmS.l0 k y0 y1 y2) (laws_eqAsmS.l0 (k + 1) y0 y1 y2))
 | 0 => fun _ _ _ r h => by simp [laws_eqAsmS.l0] at h
 | k + 1 => by
  have ih0 := laws_eqAsmS.mono_l k
  ·intro y0 y1 y2
   unfold laws_eqAsmS.l0
   with_reducible repeat' first | exact ih0 .. | exact laws_eqAsm.mono .. | exact LeO.refl _ | exact LeO.none _ | refine LeO.ite ?_ ?_ | refine LeO.bind ?_ (fun _ => ?_)
theorem laws_eqAsmS.mono : ∀ a0 a1 k, LeO (laws_eqAsmS.f k a0 a1) (laws_eqAsmS.f (k + 1) a0 a1) := by
 intro a0 a1 k
 have ih0 := laws_eqAsmS.mono_l k
 unfold laws_eqAsmS.f
 with_reducible repeat' first | exact ih0 .. | exact laws_eqAsm.mono .. | exact LeO.refl _ | exact LeO.none _ | refine LeO.ite ?_ ?_ | refine LeO.bind ?_ (fun _ => ?_)
def laws_eqAsmS.T6 : Bool × List (List Nat × List Nat) := (true, [([], []), ([], []), ([0, 1], [0, 1]), ([2], [2]), ([], []), ([], []), ([4, 5], [4, 5]), ([6], [6]), ([3, 7], [3, 7]), ([8], [8])])
def laws_eqAsmS.B6 : List Nat := [0, 0, 3, 7, 0, 0, 48, 112, 255, 511]
theorem laws_eqAsmS.tab6 : rtab .any (opsOf Try.f26 6) = laws_eqAsmS.T6 := by kernel_rfl
theorem laws_eqAsmS.bits6 : waitsOk laws_eqAsmS.T6.2 laws_eqAsmS.B6 = true := by kernel_rfl
theorem laws_eqAsmS.calls (k : Nat) (A0 : Option Addr) (c0 : Nat) (l0 : List (S73)) (A1 : Option Addr) (c1 : Nat) (l1 : List (S73)) (r : Bool) (w : World) (hr0 : Kd.C k73 w A0 l0.length l0) (hc0 : l0.length ≤ c0) (hr1 : Kd.C k73 w A1 l1.length l1) (hc1 : l1.length ≤ c1) (h : laws_eqAsmS.f k l0 l1 = some r) :
  Calls Try.prog 26 #[.slice A0 l0.length c0, .slice A1 l1.length c1] w fun e w' => e = .returned (.bool r) ∧ Below w.heap.size w w' := by
 have hu73 := Try.underlying73
 have HR0 := am hr0
 have HC0 := am hc0
 clear hr0 hc0
 have HR1 := am hr1
 have HC1 := am hc1
 clear hr1 hc1
 have HB := am (Below.refl w.heap.size w)
 have H : (if (l0.length : Int) = (l1.length : Int) then (laws_eqAsmS.l0 k l0 l1 0) else (some false)) = some r := h
 clear h
 by_cases c3 : (l0.length : Int) = (l1.length : Int)
 ·rw [if_pos c3] at H
  have c3b0 : ((l0.length : Int) == (l1.length : Int)) = true := beq_iff_eq.mpr c3
  have c3b1 : ((l0.length : Int) != (l1.length : Int)) = false := bne_eq_false_iff_eq.mpr c3
  have c3b2 : (l0.length == l1.length) = true := by first | simpa using c3 | (simp at c3 ⊢; omega)
  clear c3
  have H' := am H
  clear H
  go_enter Try.func26, Try.ntmps26
  go_wp2
  go_loopg [5] k (fun kq v5 w' => ∃ (x5_1 : Int), v5 = .int .i64 x5_1 ∧ Aside0 (laws_eqAsmS.l0 kq l0 l1 x5_1 = some r) ∧ Aside0 (kq ≤ k) ∧ Aside0 (Below w.heap.size w w'))
  case atStart => exact ⟨(0), dr, H', ⟨Nat.le_refl _⟩, ⟨bw HB⟩⟩
  clear H'
  (try clear c1); (try clear c2); (try clear p2); (try clear c3); (try clear c3b0); (try clear c3b1); (try clear c3b2)
  obtain ⟨x5_1, rfl, HA, HK1, HB⟩ := hrel
  rcases gk with _ | k1
  ·exact absurd HA.out (by simp [laws_eqAsmS.l0])
  have H := HA.out
  clear HA
  simp only [laws_eqAsmS.l0] at H
  refine qI H ?_ ?_ <;> clear H <;> intro c4b0 H
  ·refine iM H ?_; clear H; intro c5b0 H
   refine iM H ?_; clear H; intro c6b0 H
   refine be H ?_; clear H; intro t355 A7 H
   have HC8 := am H
   clear H
   try go_wp2
   replace HB := am (below_drew1 HB.out)
   have p353 : 0 ≤ (x5_1 : Int) := of_decide_eq_true as1
   have q353 : x5_1 < (l0.length : Int) := of_decide_eq_true as1
   obtain ⟨ad353, A353_1, c353_1, A353_2, c353_2, e353, hx353_0, hx353_1, hx353_2, hl353_1, hi353_1, hl353_2, hi353_2⟩ := at_T73 HR0.out x5_1 p353 q353
   have hw353_2 := hx353_2
   have hw353_1 := hx353_1
   have hw353_0 := hx353_0
   cases e353
   replace hx353_0 := cl HB hx353_0
   replace hx353_1 := cl HB hx353_1
   replace hx353_2 := cl HB hx353_2
   have HR353_1 := am hi353_1
   have HC353_1 := am hl353_1
   clear hi353_1 hl353_1
   have HR353_2 := am hi353_2
   have HC353_2 := am hl353_2
   clear hi353_2 hl353_2
   replace p353 := eq_true p353
   replace q353 := eq_true q353
   have p354 : 0 ≤ (x5_1 : Int) := of_decide_eq_true as1
   have q354 : x5_1 < (l1.length : Int) := of_decide_eq_true as1
   obtain ⟨ad354, A354_1, c354_1, A354_2, c354_2, e354, hx354_0, hx354_1, hx354_2, hl354_1, hi354_1, hl354_2, hi354_2⟩ := at_T73 HR1.out x5_1 p354 q354
   have hw354_2 := hx354_2
   have hw354_1 := hx354_1
   have hw354_0 := hx354_0
   cases e354
   replace hx354_0 := cl HB hx354_0
   replace hx354_1 := cl HB hx354_1
   replace hx354_2 := cl HB hx354_2
   have HR354_1 := am hi354_1
   have HC354_1 := am hl354_1
   clear hi354_1 hl354_1
   have HR354_2 := am hi354_2
   have HC354_2 := am hl354_2
   clear hi354_2 hl354_2
   replace p354 := eq_true p354
   replace q354 := eq_true q354
   refine start_ (n := 10) (S := fun w' => w'.cell? (ad353.add ((x5_1).toNat * 3)) = some (.int .i64 ((rd_T73 l0 x5_1).f0)) ∧ w'.cell? ⟨(ad353.add ((x5_1).toNat * 3)).block, (ad353.add ((x5_1).toNat * 3)).off + 1, none⟩ = some (.slice A353_1 ((rd_T73 l0 x5_1).f1).length c353_1) ∧ w'.cell? ⟨(ad353.add ((x5_1).toNat * 3)).block, (ad353.add ((x5_1).toNat * 3)).off + 2, none⟩ = some (.slice A353_2 ((rd_T73 l0 x5_1).f2).length c353_2) ∧ w'.cell? (ad354.add ((x5_1).toNat * 3)) = some (.int .i64 ((rd_T73 l1 x5_1).f0)) ∧ w'.cell? ⟨(ad354.add ((x5_1).toNat * 3)).block, (ad354.add ((x5_1).toNat * 3)).off + 1, none⟩ = some (.slice A354_1 ((rd_T73 l1 x5_1).f1).length c354_1) ∧ w'.cell? ⟨(ad354.add ((x5_1).toNat * 3)).block, (ad354.add ((x5_1).toNat * 3)).off + 2, none⟩ = some (.slice A354_2 ((rd_T73 l1 x5_1).f2).length c354_2)) (ds := []) (bv 10 0) (by kernel_rfl) rfl (by kernel_rfl) ⟨(cq HB hw353_0), (cq HB hw353_1), (cq HB hw353_2), (cq HB hw354_0), (cq HB hw354_1), (cq HB hw354_2)⟩ (fun hHeld => ?_); refine with_tabW laws_eqAsmS.tab6 laws_eqAsmS.bits6 (fun HT_ HW_ => ?_)
   generalize wr.drew = w9 at HB HR353_1 HR353_2 HR354_1 HR354_2 hx353_0 hx353_1 hx353_2 hx354_0 hx354_1 hx354_2 hHeld ⊢
   refine pu 0 17 10 1 HT_ ?_
   refine pu 1 18 10 3 HT_ ?_
   refine pu 2 19 10 7 HT_ ?_
   refine pu 4 21 10 23 HT_ ?_
   refine pu 5 22 10 55 HT_ ?_
   refine pu 6 23 10 119 HT_ ?_
   refine tk 3 20 10 127 HT_ HW_ hHeld ?_
   refine tk 7 24 10 255 HT_ HW_ hHeld ?_
   refine on 8 (some 25) 10 511 HT_ fun K hK => ?_
   refine goes_ Try.func43 (by kernel_rfl) rfl #[.agg #[.int .i64 ((rd_T73 l0 x5_1).f0), .slice A353_1 ((rd_T73 l0 x5_1).f1).length c353_1, .slice A353_2 ((rd_T73 l0 x5_1).f2).length c353_2], .agg #[.int .i64 ((rd_T73 l1 x5_1).f0), .slice A354_1 ((rd_T73 l1 x5_1).f1).length c354_1, .slice A354_2 ((rd_T73 l1 x5_1).f2).length c354_2]] (by rfl) rfl rfl gl ?_
   with_reducible refine (laws_eqAsm.calls k1 ((rd_T73 l0 x5_1).f0) _ _ ((rd_T73 l0 x5_1).f1) _ _ ((rd_T73 l0 x5_1).f2) ((rd_T73 l1 x5_1).f0) _ _ ((rd_T73 l1 x5_1).f1) _ _ ((rd_T73 l1 x5_1).f2) t355 _ ?side1 ?side2 ?side3 ?side4 ?side5 ?side6 ?side7 ?side8 A7.out).mono ?_
   (case side1 => exact cc (Kd.C_below HR353_1.out HB.out))
   (case side2 => exact HC353_1.out)
   (case side3 => exact cc (Kd.C_below HR353_2.out HB.out))
   (case side4 => exact HC353_2.out)
   (case side5 => exact cc (Kd.C_below HR354_1.out HB.out))
   (case side6 => exact HC354_1.out)
   (case side7 => exact cc (Kd.C_below HR354_2.out HB.out))
   (case side8 => exact HC354_2.out)
   rintro e w10 ⟨rfl, hb⟩
   refine ⟨_, rfl, ?_⟩
   replace HB := am (below_step (bw HB) hb)
   clear hb
   refine hK.out _ _ ⟨(cq HB hw353_0), (cq HB hw353_1), (cq HB hw353_2), (cq HB hw354_0), (cq HB hw354_1), (cq HB hw354_2)⟩ (fun hHeld => ?_)
   clear hK K
   refine nm (some 25) ?_
   refine pu 9 26 10 1023 HT_ ?_
   refine done_ (done_of HT_.out (by kernel_rfl)) ?_
   go_upto_if 26 with (fail)
   (try simp only [Act.put, sa, sz, ss])
   have H := HC8.out
   clear HC8
   refine qT H ?_ ?_ <;> clear H <;> intro c11 H <;> subst c11
   ·have H' := am H
    clear H
    go_wp2
    go_roundg k1
    case measure => have := HK1.out; omega
    case rel => exact ⟨(wrap64 (x5_1 + 1)), dr, H', ⟨by have := HK1.out; omega⟩, ⟨bw HB⟩⟩
   obtain rfl := Option.some.inj H
   go_wp2
   go_ret
   exact ⟨er, bw HB⟩
  obtain rfl := Option.some.inj H
  go_wp2
  go_ret
  exact ⟨er, bw HB⟩
 rw [if_neg c3] at H
 have c3b0 : ((l0.length : Int) == (l1.length : Int)) = false := beq_eq_false_iff_ne.mpr c3
 have c3b1 : ((l0.length : Int) != (l1.length : Int)) = true := bne_iff_ne.mpr c3
 have c3b2 : (l0.length == l1.length) = false := by first | simpa using c3 | (simp at c3 ⊢; omega)
 obtain rfl := Option.some.inj H
 go_enter Try.func26, Try.ntmps26
 go_wp2
 go_ret
 exact ⟨er, bw HB⟩

end Go.Proofs.Yticdldoijkdffaa.QFnExactMixTold
