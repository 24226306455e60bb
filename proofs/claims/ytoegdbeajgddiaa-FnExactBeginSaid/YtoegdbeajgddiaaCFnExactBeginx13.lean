import Derived.Test.YtoegdbeajgddiaaCFnExactBeginx0
import Derived.Test.YtoegdbeajgddiaaCFnExactBeginx12
namespace Go.Proofs.Ytoegdbeajgddiaa.QFnExactBegin
open Go.RowKit Go.Proofs.YtoegdbeajgddiaaW
open PrintWords PrintLast PrintMore PrintShort PrintIsh
attribute [local go_sem] max2_int min2_int max_two min_two max_three min_three max_four min_four   -- for this text's walks alone
set_option linter.unusedVariables false
set_option maxHeartbeats 8000000
set_option maxRecDepth 100000
set_option linter.unusedSimpArgs false

def laws_eqFunc.f (k : Nat) (a0_0 : Int) (a0_1 : Int) (l0_2 : List (S85)) (a1_0 : Int) (a1_1 : Int) (l1_2 : List (S85)) : Option (Bool) := if a0_0 = a1_0 then (if a0_1 = a1_1 then ((laws_eqInsS.f k l0_2 l1_2).bind fun t412 => (if t412 = true then (some true) else (some false))) else (some false)) else (some false)
theorem laws_eqFunc.mono : ∀ a0 a1 a2 a3 a4 a5 k, LeO (laws_eqFunc.f k a0 a1 a2 a3 a4 a5) (laws_eqFunc.f (k + 1) a0 a1 a2 a3 a4 a5) := by
 intro a0 a1 a2 a3 a4 a5 k
 unfold laws_eqFunc.f
 with_reducible repeat' first | exact laws_eqInsS.mono .. | exact LeO.refl _ | exact LeO.none _ | refine LeO.ite ?_ ?_ | refine LeO.bind ?_ (fun _ => ?_)
theorem laws_eqFunc.calls (k : Nat) (a0_0 : Int) (a0_1 : Int) (A0_2 : Option Addr) (c0_2 : Nat) (l0_2 : List (S85)) (a1_0 : Int) (a1_1 : Int) (A1_2 : Option Addr) (c1_2 : Nat) (l1_2 : List (S85)) (r : Bool) (w : World) (hr0_2 : Kd.C k85 w A0_2 l0_2.length l0_2) (hc0_2 : l0_2.length ≤ c0_2) (hr1_2 : Kd.C k85 w A1_2 l1_2.length l1_2) (hc1_2 : l1_2.length ≤ c1_2) (h : laws_eqFunc.f k a0_0 a0_1 l0_2 a1_0 a1_1 l1_2 = some r) :
  Calls Try.prog 38 #[.agg #[.int .i64 a0_0, .int .i64 a0_1, .slice A0_2 l0_2.length c0_2], .agg #[.int .i64 a1_0, .int .i64 a1_1, .slice A1_2 l1_2.length c1_2]] w fun e w' => e = .returned (.bool r) ∧ Below w.heap.size w w' := by
 have hu55 := Try.underlying55
 have HR0_2 := am hr0_2
 have HC0_2 := am hc0_2
 clear hr0_2 hc0_2
 have HR1_2 := am hr1_2
 have HC1_2 := am hc1_2
 clear hr1_2 hc1_2
 have HB := am (Below.refl w.heap.size w)
 have H : (if a0_0 = a1_0 then (if a0_1 = a1_1 then ((laws_eqInsS.f k l0_2 l1_2).bind fun t412 => (if t412 = true then (some true) else (some false))) else (some false)) else (some false)) = some r := h
 clear h
 have HC3 := am H
 clear H
 go_enter Try.func38, Try.ntmps38
 go_upto_if 9 with (first | ((with_reducible refine gd 2 rfl ?_); refine bX 2 #[.int .i64 a0_0, .int .i64 a0_1, .slice A0_2 l0_2.length c0_2] 55 HB ?_; clear HB; intro gb410 w4 hg hb BK410 GW410 HB; clear hb hg) | ((with_reducible refine gd 3 rfl ?_); refine bX 3 #[.int .i64 a1_0, .int .i64 a1_1, .slice A1_2 l1_2.length c1_2] 55 HB ?_; clear HB; intro gb411 w5 hg hb BK411 GW411 HB; obtain ⟨NB410_411, NB411_410, BK410⟩ := b3 hg BK410 hb; clear hb hg; have hnb6 := NB410_411.out; have hnc6 := NB411_410.out; have hcz7 := bK w5 BK410; have hfz7 := bF BK410; have hcz8 := bK w5 BK411; have hfz8 := bF BK411))
 (try simp only [Act.put, sa, sz, ss])
 have H := HC3.out
 clear HC3
 refine qE H ?_ ?_ <;> clear H
 ·intro c9b0 c9b1 H
  (first | rw [c9b0] | (simp only [i64_w, i32_w]; rw [c9b0]) | skip)
  refine qE H ?_ ?_ <;> clear H
  ·intro c10b0 c10b1 H
   refine be H ?_; clear H; intro t412 A11 H
   have HC12 := am H
   clear H
   have hnb13 := NB410_411.out
   have hnc13 := NB411_410.out
   have hcz14 := bK w5 BK410
   have hfz14 := bF BK410
   have hcz15 := bK w5 BK411
   have hfz15 := bF BK411
   go_upto_if 20 with (first | ((with_reducible refine gk 44 rfl ?_); refine gB 44 (some 19) Try.func44 #[.slice A0_2 l0_2.length c0_2, .slice A1_2 l1_2.length c1_2] (laws_eqInsS.calls k _ _ l0_2 _ _ l1_2 t412 _ (cc (Kd.C_below HR0_2.out HB.out)) HC0_2.out (cc (Kd.C_below HR1_2.out HB.out)) HC1_2.out A11.out) ?_; intro w16 hb; replace BK410 := bb BK410 hb; replace BK411 := bb BK411 hb; replace HB := bs HB hb; clear hb))
   (try simp only [Act.put, sa, sz, ss])
   have H := HC12.out
   clear HC12
   refine qT H ?_ ?_ <;> clear H <;> intro c17 H <;> subst c17
   ·obtain rfl := Option.some.inj H
    go_wp2
    go_ret
    exact ⟨er, bw HB⟩
   obtain rfl := Option.some.inj H
   go_wp2
   go_ret
   exact ⟨er, bw HB⟩
  intro c10 c10b0 c10b1 H
  obtain rfl := Option.some.inj H
  have hnb18 := NB410_411.out
  have hnc18 := NB411_410.out
  have hcz19 := bK w5 BK410
  have hfz19 := bF BK410
  have hcz20 := bK w5 BK411
  have hfz20 := bF BK411
  go_wp2
  go_ret
  exact ⟨er, bw HB⟩
 intro c9 c9b0 c9b1 H
 (first | rw [c9b0] | (simp only [i64_w, i32_w]; rw [c9b0]) | skip)
 obtain rfl := Option.some.inj H
 go_wp2
 go_ret
 exact ⟨er, bw HB⟩

def laws_eqFuncS.l0 : Nat → List (S55) → List (S55) → Int → Option (Bool)
 | 0, _, _, _ => none
 | k + 1, x0, x1, x5 => if x5 < (x0.length : Int) then (if 0 ≤ x5 then (if x5 < (x1.length : Int) then ((laws_eqFunc.f k ((rd_T55 x0 x5).f0) ((rd_T55 x0 x5).f1) ((rd_T55 x0 x5).f2) ((rd_T55 x1 x5).f0) ((rd_T55 x1 x5).f1) ((rd_T55 x1 x5).f2)).bind fun t415 => (if t415 = true then (laws_eqFuncS.l0 k x0 x1 (wrap64 (x5 + 1))) else (some false))) else (none)) else (none)) else (some true)
def laws_eqFuncS.f (k : Nat) (l0 : List (S55)) (l1 : List (S55)) : Option (Bool) := if (l0.length : Int) = (l1.length : Int) then (laws_eqFuncS.l0 k l0 l1 0) else (some false)
theorem laws_eqFuncS.mono_l : ∀ k, (∀ y0 y1 y2, LeO (laws_eqFuncS.l0 k y0 y1 y2) (laws_eqFuncS.l0 (k + 1) y0 y1 y2))
 | 0 => fun _ _ _ r h => by simp [laws_eqFuncS.l0] at h
 | k + 1 => by
  have ih0 := laws_eqFuncS.mono_l k
  ·intro y0 y1 y2
   unfold laws_eqFuncS.l0
   with_reducible repeat' first | exact ih0 .. | exact laws_eqFunc.mono .. | exact LeO.refl _ | exact LeO.none _ | refine LeO.ite ?_ ?_ | refine LeO.bind ?_ (fun _ => ?_)
theorem laws_eqFuncS.mono : ∀ a0 a1 k, LeO (laws_eqFuncS.f k a0 a1) (laws_eqFuncS.f (k + 1) a0 a1) := by
 intro a0 a1 k
 have ih0 := laws_eqFuncS.mono_l k
 unfold laws_eqFuncS.f
 with_reducible repeat' first | exact ih0 .. | exact laws_eqFunc.mono .. | exact LeO.refl _ | exact LeO.none _ | refine LeO.ite ?_ ?_ | refine LeO.bind ?_ (fun _ => ?_)
def laws_eqFuncS.T6 : Bool × List (List Nat × List Nat) := (true, [([], []), ([], []), ([0, 1], [0, 1]), ([2], [2]), ([], []), ([], []), ([4, 5], [4, 5]), ([6], [6]), ([3, 7], [3, 7]), ([8], [8])])
def laws_eqFuncS.B6 : List Nat := [0, 0, 3, 7, 0, 0, 48, 112, 255, 511]
theorem laws_eqFuncS.tab6 : rtab .any (opsOf Try.f25 6) = laws_eqFuncS.T6 := by kernel_rfl
theorem laws_eqFuncS.bits6 : waitsOk laws_eqFuncS.T6.2 laws_eqFuncS.B6 = true := by kernel_rfl
theorem laws_eqFuncS.calls (k : Nat) (A0 : Option Addr) (c0 : Nat) (l0 : List (S55)) (A1 : Option Addr) (c1 : Nat) (l1 : List (S55)) (r : Bool) (w : World) (hr0 : Kd.C k55 w A0 l0.length l0) (hc0 : l0.length ≤ c0) (hr1 : Kd.C k55 w A1 l1.length l1) (hc1 : l1.length ≤ c1) (h : laws_eqFuncS.f k l0 l1 = some r) :
  Calls Try.prog 25 #[.slice A0 l0.length c0, .slice A1 l1.length c1] w fun e w' => e = .returned (.bool r) ∧ Below w.heap.size w w' := by
 have hu55 := Try.underlying55
 have HR0 := am hr0
 have HC0 := am hc0
 clear hr0 hc0
 have HR1 := am hr1
 have HC1 := am hc1
 clear hr1 hc1
 have HB := am (Below.refl w.heap.size w)
 have H : (if (l0.length : Int) = (l1.length : Int) then (laws_eqFuncS.l0 k l0 l1 0) else (some false)) = some r := h
 clear h
 by_cases c3 : (l0.length : Int) = (l1.length : Int)
 ·rw [if_pos c3] at H
  have c3b0 : ((l0.length : Int) == (l1.length : Int)) = true := beq_iff_eq.mpr c3
  have c3b1 : ((l0.length : Int) != (l1.length : Int)) = false := bne_eq_false_iff_eq.mpr c3
  have c3b2 : (l0.length == l1.length) = true := by first | simpa using c3 | (simp at c3 ⊢; omega)
  clear c3
  have H' := am H
  clear H
  go_enter Try.func25, Try.ntmps25
  go_wp2
  go_loopg [5] k (fun kq v5 w' => ∃ (x5_1 : Int), v5 = .int .i64 x5_1 ∧ Aside0 (laws_eqFuncS.l0 kq l0 l1 x5_1 = some r) ∧ Aside0 (kq ≤ k) ∧ Aside0 (Below w.heap.size w w'))
  case atStart => exact ⟨(0), dr, H', ⟨Nat.le_refl _⟩, ⟨bw HB⟩⟩
  clear H'
  (try clear c1); (try clear c2); (try clear p2); (try clear c3); (try clear c3b0); (try clear c3b1); (try clear c3b2)
  obtain ⟨x5_1, rfl, HA, HK1, HB⟩ := hrel
  rcases gk with _ | k1
  ·exact absurd HA.out (by simp [laws_eqFuncS.l0])
  have H := HA.out
  clear HA
  simp only [laws_eqFuncS.l0] at H
  refine qI H ?_ ?_ <;> clear H <;> intro c4b0 H
  ·refine iM H ?_; clear H; intro c5b0 H
   refine iM H ?_; clear H; intro c6b0 H
   refine be H ?_; clear H; intro t415 A7 H
   have HC8 := am H
   clear H
   try go_wp2
   replace HB := am (below_drew1 HB.out)
   have p413 : 0 ≤ (x5_1 : Int) := of_decide_eq_true as1
   have q413 : x5_1 < (l0.length : Int) := of_decide_eq_true as1
   obtain ⟨ad413, A413_2, c413_2, e413, hx413_0, hx413_1, hx413_2, hl413_2, hi413_2⟩ := at_T55 HR0.out x5_1 p413 q413
   have hw413_2 := hx413_2
   have hw413_1 := hx413_1
   have hw413_0 := hx413_0
   cases e413
   replace hx413_0 := cl HB hx413_0
   replace hx413_1 := cl HB hx413_1
   replace hx413_2 := cl HB hx413_2
   have HR413_2 := am hi413_2
   have HC413_2 := am hl413_2
   clear hi413_2 hl413_2
   replace p413 := eq_true p413
   replace q413 := eq_true q413
   have p414 : 0 ≤ (x5_1 : Int) := of_decide_eq_true as1
   have q414 : x5_1 < (l1.length : Int) := of_decide_eq_true as1
   obtain ⟨ad414, A414_2, c414_2, e414, hx414_0, hx414_1, hx414_2, hl414_2, hi414_2⟩ := at_T55 HR1.out x5_1 p414 q414
   have hw414_2 := hx414_2
   have hw414_1 := hx414_1
   have hw414_0 := hx414_0
   cases e414
   replace hx414_0 := cl HB hx414_0
   replace hx414_1 := cl HB hx414_1
   replace hx414_2 := cl HB hx414_2
   have HR414_2 := am hi414_2
   have HC414_2 := am hl414_2
   clear hi414_2 hl414_2
   replace p414 := eq_true p414
   replace q414 := eq_true q414
   refine start_ (n := 10) (S := fun w' => w'.cell? (ad413.add ((x5_1).toNat * 3)) = some (.int .i64 ((rd_T55 l0 x5_1).f0)) ∧ w'.cell? ⟨(ad413.add ((x5_1).toNat * 3)).block, (ad413.add ((x5_1).toNat * 3)).off + 1, none⟩ = some (.int .i64 ((rd_T55 l0 x5_1).f1)) ∧ w'.cell? ⟨(ad413.add ((x5_1).toNat * 3)).block, (ad413.add ((x5_1).toNat * 3)).off + 2, none⟩ = some (.slice A413_2 ((rd_T55 l0 x5_1).f2).length c413_2) ∧ w'.cell? (ad414.add ((x5_1).toNat * 3)) = some (.int .i64 ((rd_T55 l1 x5_1).f0)) ∧ w'.cell? ⟨(ad414.add ((x5_1).toNat * 3)).block, (ad414.add ((x5_1).toNat * 3)).off + 1, none⟩ = some (.int .i64 ((rd_T55 l1 x5_1).f1)) ∧ w'.cell? ⟨(ad414.add ((x5_1).toNat * 3)).block, (ad414.add ((x5_1).toNat * 3)).off + 2, none⟩ = some (.slice A414_2 ((rd_T55 l1 x5_1).f2).length c414_2)) (ds := []) (bv 10 0) (by kernel_rfl) rfl (by kernel_rfl) ⟨(cq HB hw413_0), (cq HB hw413_1), (cq HB hw413_2), (cq HB hw414_0), (cq HB hw414_1), (cq HB hw414_2)⟩ (fun hHeld => ?_); refine with_tabW laws_eqFuncS.tab6 laws_eqFuncS.bits6 (fun HT_ HW_ => ?_)
   generalize wr.drew = w9 at HB HR413_2 HR414_2 hx413_0 hx413_1 hx413_2 hx414_0 hx414_1 hx414_2 hHeld ⊢
   refine pu 0 17 10 1 HT_ ?_
   refine pu 1 18 10 3 HT_ ?_
   refine pu 2 19 10 7 HT_ ?_
   refine pu 4 21 10 23 HT_ ?_
   refine pu 5 22 10 55 HT_ ?_
   refine pu 6 23 10 119 HT_ ?_
   refine tk 3 20 10 127 HT_ HW_ hHeld ?_
   refine tk 7 24 10 255 HT_ HW_ hHeld ?_
   refine on 8 (some 25) 10 511 HT_ fun K hK => ?_
   refine goes_ Try.func38 (by kernel_rfl) rfl #[.agg #[.int .i64 ((rd_T55 l0 x5_1).f0), .int .i64 ((rd_T55 l0 x5_1).f1), .slice A413_2 ((rd_T55 l0 x5_1).f2).length c413_2], .agg #[.int .i64 ((rd_T55 l1 x5_1).f0), .int .i64 ((rd_T55 l1 x5_1).f1), .slice A414_2 ((rd_T55 l1 x5_1).f2).length c414_2]] (by rfl) rfl rfl gl ?_
   with_reducible refine (laws_eqFunc.calls k1 ((rd_T55 l0 x5_1).f0) ((rd_T55 l0 x5_1).f1) _ _ ((rd_T55 l0 x5_1).f2) ((rd_T55 l1 x5_1).f0) ((rd_T55 l1 x5_1).f1) _ _ ((rd_T55 l1 x5_1).f2) t415 _ ?side1 ?side2 ?side3 ?side4 A7.out).mono ?_
   (case side1 => exact cc (Kd.C_below HR413_2.out HB.out))
   (case side2 => exact HC413_2.out)
   (case side3 => exact cc (Kd.C_below HR414_2.out HB.out))
   (case side4 => exact HC414_2.out)
   rintro e w10 ⟨rfl, hb⟩
   refine ⟨_, rfl, ?_⟩
   replace HB := am (below_step (bw HB) hb)
   clear hb
   refine hK.out _ _ ⟨(cq HB hw413_0), (cq HB hw413_1), (cq HB hw413_2), (cq HB hw414_0), (cq HB hw414_1), (cq HB hw414_2)⟩ (fun hHeld => ?_)
   clear hK K
   refine nm (some 25) ?_
   refine pu 9 26 10 1023 HT_ ?_
   refine done_ (done_of HT_.out (by kernel_rfl)) ?_
   go_upto_if 26 with (fail)
   (try simp only [Act.put, sa, sz, ss])
   have H := HC8.out
   clear HC8
   refine qT H ?_ ?_ <;> clear H <;> intro c11 H <;> subst c11
   ·have H' := am H
    clear H
    go_wp2
    go_roundg k1
    case measure => have := HK1.out; omega
    case rel => exact ⟨(wrap64 (x5_1 + 1)), dr, H', ⟨by have := HK1.out; omega⟩, ⟨bw HB⟩⟩
   obtain rfl := Option.some.inj H
   go_wp2
   go_ret
   exact ⟨er, bw HB⟩
  obtain rfl := Option.some.inj H
  go_wp2
  go_ret
  exact ⟨er, bw HB⟩
 rw [if_neg c3] at H
 have c3b0 : ((l0.length : Int) == (l1.length : Int)) = false := beq_eq_false_iff_ne.mpr c3
 have c3b1 : ((l0.length : Int) != (l1.length : Int)) = true := bne_iff_ne.mpr c3
 have c3b2 : (l0.length == l1.length) = false := by first | simpa using c3 | (simp at c3 ⊢; omega)
 obtain rfl := Option.some.inj H
 go_enter Try.func25, Try.ntmps25
 go_wp2
 go_ret
 exact ⟨er, bw HB⟩

def laws_eqProgram.f (k : Nat) (l0_0 : List (S55)) (l1_0 : List (S55)) : Option (Bool) := (laws_eqFuncS.f k l0_0 l1_0).bind fun t418 => (if t418 = true then (some true) else (some false))
theorem laws_eqProgram.mono : ∀ a0 a1 k, LeO (laws_eqProgram.f k a0 a1) (laws_eqProgram.f (k + 1) a0 a1) := by
 intro a0 a1 k
 unfold laws_eqProgram.f
 with_reducible repeat' first | exact laws_eqFuncS.mono .. | exact LeO.refl _ | exact LeO.none _ | refine LeO.ite ?_ ?_ | refine LeO.bind ?_ (fun _ => ?_)
theorem laws_eqProgram.calls (k : Nat) (A0_0 : Option Addr) (c0_0 : Nat) (l0_0 : List (S55)) (A1_0 : Option Addr) (c1_0 : Nat) (l1_0 : List (S55)) (r : Bool) (w : World) (hr0_0 : Kd.C k55 w A0_0 l0_0.length l0_0) (hc0_0 : l0_0.length ≤ c0_0) (hr1_0 : Kd.C k55 w A1_0 l1_0.length l1_0) (hc1_0 : l1_0.length ≤ c1_0) (h : laws_eqProgram.f k l0_0 l1_0 = some r) :
  Calls Try.prog 10 #[.agg #[.slice A0_0 l0_0.length c0_0], .agg #[.slice A1_0 l1_0.length c1_0]] w fun e w' => e = .returned (.bool r) ∧ Below w.heap.size w w' := by
 have hu34 := Try.underlying34
 have HR0_0 := am hr0_0
 have HC0_0 := am hc0_0
 clear hr0_0 hc0_0
 have HR1_0 := am hr1_0
 have HC1_0 := am hc1_0
 clear hr1_0 hc1_0
 have HB := am (Below.refl w.heap.size w)
 have H : ((laws_eqFuncS.f k l0_0 l1_0).bind fun t418 => (if t418 = true then (some true) else (some false))) = some r := h
 clear h
 refine be H ?_; clear H; intro t418 A3 H
 have HC4 := am H
 clear H
 go_enter Try.func10, Try.ntmps10
 go_upto_if 10 with (first | ((with_reducible refine gd 2 rfl ?_); refine bX 2 #[.slice A0_0 l0_0.length c0_0] 34 HB ?_; clear HB; intro gb416 w5 hg hb BK416 GW416 HB; clear hb hg) | ((with_reducible refine gd 3 rfl ?_); refine bX 3 #[.slice A1_0 l1_0.length c1_0] 34 HB ?_; clear HB; intro gb417 w6 hg hb BK417 GW417 HB; obtain ⟨NB416_417, NB417_416, BK416⟩ := b3 hg BK416 hb; clear hb hg; have hnb7 := NB416_417.out; have hnc7 := NB417_416.out; have hcz8 := bK w6 BK416; have hfz8 := bF BK416; have hcz9 := bK w6 BK417; have hfz9 := bF BK417) | ((with_reducible refine gk 25 rfl ?_); refine gB 25 (some 9) Try.func25 #[.slice A0_0 l0_0.length c0_0, .slice A1_0 l1_0.length c1_0] (laws_eqFuncS.calls k _ _ l0_0 _ _ l1_0 t418 _ (cc (Kd.C_below HR0_0.out HB.out)) HC0_0.out (cc (Kd.C_below HR1_0.out HB.out)) HC1_0.out A3.out) ?_; intro w10 hb; replace BK416 := bb BK416 hb; replace BK417 := bb BK417 hb; replace HB := bs HB hb; clear hb))
 (try simp only [Act.put, sa, sz, ss])
 have H := HC4.out
 clear HC4
 refine qT H ?_ ?_ <;> clear H <;> intro c11 H <;> subst c11
 ·obtain rfl := Option.some.inj H
  go_wp2
  go_ret
  exact ⟨er, bw HB⟩
 obtain rfl := Option.some.inj H
 go_wp2
 go_ret
 exact ⟨er, bw HB⟩

def sh85 (x y : S85) : Prop := (fun _ _ => True) x.f0 y.f0 ∧ (fun _ _ => True) x.f1 y.f1
theorem twn85 : Twn k85 sh85 := twn_iso (twn_pair (twn_int .i64) (twn_int .i64)) (fun x : S85 => (x.f0, x.f1)) (fun a => (⟨a.1, a.2⟩ : S85)) (fun _ => rfl)
def laws_markInsS.g (k : Int) (x : S85) : Int := (wrap64 ((wrap64 (k + 1)) + 1))
theorem laws_markInsS.g_sh {k : Int} {x y : S85} (h : sh85 x y) : laws_markInsS.g k x = laws_markInsS.g k y := by
 unfold laws_markInsS.g
 rfl
def laws_markInsS.mk (k : Int) (l : List (S85)) : Int := l.foldl laws_markInsS.g k
theorem laws_markInsS.mk_sh {k : Int} {xs ys : List (S85)} (h : All2 sh85 xs ys) : laws_markInsS.mk k xs = laws_markInsS.mk k ys := fold_sh (g := laws_markInsS.g) (sh := sh85) (fun _ _ _ h => laws_markInsS.g_sh h) k h
theorem laws_markInsS.ish (P0_ : Nat → Prop) (u : Value) (l0 : List (S85)) (a1 : Int) (w0 w : World) (hB : Below w0.heap.size w0 w) (ho0 : Kd.R k85 85 w w0.heap.size P0_ u l0) :
  Calls Try.prog 39 #[u, .int .i64 a1] w fun e w' => e = .returned (.int .i64 (laws_markInsS.mk a1 l0)) ∧ Below w0.heap.size w0 w' ∧ Ish w w' P0_ := by
 have HB := am hB
 have HI := am (Ish.refl w P0_)
 have HO := am ho0
 have hln : l0.length ≤ 9223372036854775807 := by obtain ⟨_, _, rfl⟩ := Kd.R_slice ho0; exact (Kd.R_reads' ho0).2.2.2.1
 clear hB
 obtain ⟨Aa, ca, rfl⟩ := Kd.R_slice ho0
 clear ho0
 go_enter Try.func39, Try.ntmps39
 go_wp2
 go_loopg [1, 5] (l0.length + 1) (fun kq v1 v5 w' => ∃ (x1_1 : Int) (x5_1 : Int), v1 = .int .i64 x1_1 ∧ v5 = .int .i64 x5_1 ∧ Aside0 (kq + x5_1.toNat = l0.length + 1 ∧ 0 ≤ x5_1 ∧ x5_1 ≤ l0.length) ∧ Aside0 (laws_markInsS.mk x1_1 (l0.drop x5_1.toNat) = laws_markInsS.mk a1 l0) ∧ Aside0 (Ish w w' P0_) ∧ Aside0 (Below w0.heap.size w0 w'))
 case atStart => exact ⟨a1, 0, dr, dr, ⟨by simp, by omega, by omega⟩, ⟨rfl⟩, ⟨iw HI⟩, ⟨bw HB⟩⟩
 obtain ⟨x1_1, x5_1, rfl, rfl, HA, HV, HI, HB⟩ := hrel
 by_cases c3 : x5_1 < (l0.length : Int)
 ·have c3b0 := decide_eq_true c3
  obtain ⟨k1, rfl⟩ : ∃ k1, gk = k1 + 1 := ⟨gk - 1, by have := HA.out; omega⟩
  obtain ⟨la, hsa, hRa⟩ := R_twn twn85 HI.out HO.out
  have hla := hsa.1
  obtain ⟨go5, co5, eo5, gb5, gl5, cl5, HG5⟩ := Kd.R_form hRa (by have h00 := HA.out.2.1; omega)
  (first | cases eo5 | (injection eo5 with ea_ en_ ec_; (first | subst ea_ | (injection ea_ with ea_; subst ea_)); subst ec_; clear en_))
  have GB5 := am gb5
  have GP5 := am (show P0_ go5 from HO.out.1 _ rfl)
  clear gb5 gl5 HG5 hRa hsa
  have p5 : 0 ≤ x5_1 := HA.out.2.1
  have q5 := c3
  replace p5 := eq_true p5
  replace q5 := eq_true q5
  clear c3
  obtain ⟨l1, hs0, hR0⟩ := R_twn twn85 HI.out HO.out
  obtain ⟨ce0, hcl0, hM0, hcc0, hfr0⟩ := Kd.R_elem hR0 z85 x5_1 (of_eq_true p5) (of_eq_true q5)
  obtain rfl := k85_openM hM0
  have hx0 : wr.cell? ⟨go5, x5_1.toNat * 2, none⟩ = some _ := hcc0 0 _ rfl
  have hf0 : wr.frozen? ⟨go5, x5_1.toNat * 2, none⟩ = false := hfr0 0
  (try clear hM0)
  (try clear hfr0)
  (try clear hcc0)
  (try clear hcl0)
  (try clear hs0)
  (try clear hR0)
  go_wp2_with (first | ((with_reducible refine gt 2 16 rfl ?_); refine sE 2 16 (wr.setCell ⟨go5, x5_1.toNat * 2, none⟩ (.int .i64 x1_1)) ?_; intro wq0 hw; replace HI := am (show Ish w wq0 P0_ by rw [hw]; exact HI.out.set hx0 (twin.ofInt _ _ _) (fun _ => GP5.out)); replace HB := am ((by rw [hw]; exact below_set (HB.out) GB5.out : Below w0.heap.size w0 wq0)); clear hw; clear hx0; clear hf0; obtain ⟨l2, hs1, hR1⟩ := R_twn twn85 HI.out HO.out; obtain ⟨ce1, hcl1, hM1, hcc1, hfr1⟩ := Kd.R_elem hR1 z85 x5_1 (of_eq_true p5) (of_eq_true q5); obtain rfl := k85_openM hM1; have hx1 : wq0.cell? ⟨go5, x5_1.toNat * 2 + 1, none⟩ = some _ := hcc1 1 _ rfl; have hf1 : wq0.frozen? ⟨go5, x5_1.toNat * 2 + 1, none⟩ = false := hfr1 1; (try clear hM1); (try clear hfr1); (try clear hcc1); (try clear hcl1); (try clear hs1); (try clear hR1)) | ((with_reducible refine gt 2 23 rfl ?_); refine sE 2 23 (wq0.setCell ⟨go5, x5_1.toNat * 2 + 1, none⟩ (.int .i64 (wrap64 (x1_1 + 1)))) ?_; intro wq1 hw; replace HI := am (show Ish w wq1 P0_ by rw [hw]; exact HI.out.set hx1 (twin.ofInt _ _ _) (fun _ => GP5.out)); replace HB := am ((by rw [hw]; exact below_set (HB.out) GB5.out : Below w0.heap.size w0 wq1)); clear hw; clear hx1; clear hf1))
  go_roundg k1
  case measure => omega
  case rel =>
   have h1 := HA.out
   have hq : x5_1 < (l0.length : Int) := of_eq_true q5
   have hw1 : wrap64 (x5_1 + 1) = x5_1 + 1 := by unfold wrap64; omega
   have hlt : x5_1.toNat < l0.length := by omega
   refine ⟨(wrap64 ((wrap64 (x1_1 + 1)) + 1)), wrap64 (x5_1 + 1), dr, dr, ⟨by omega, by omega, by omega⟩, ⟨?_⟩, ⟨iw HI⟩, ⟨bw HB⟩⟩
   have h2 := HV.out
   rw [List.drop_eq_getElem_cons hlt] at h2
   rw [hw1, show (x5_1 + 1).toNat = x5_1.toNat + 1 by omega]
   exact h2
 have c3b0 := decide_eq_false c3
 have hv := HV.out
 have h1 := HA.out
 rw [List.drop_of_length_le (by omega)] at hv
 have hv : x1_1 = laws_markInsS.mk a1 l0 := hv
 clear c3
 go_wp2
 go_ret
 exact ⟨by first | rfl | (simp; done) | (simp [*]; done), bw HB, iw HI⟩
def laws_markInsS.f (l0 : List (S85)) (a1 : Int) : Option Int := some (laws_markInsS.mk a1 l0)
theorem laws_markInsS.calls (P0_ : Nat → Prop) (u9000_ : Value) (l0 : List (S85)) (a1 : Int) (r1 : Int) (w0 w : World) (hB : Below w0.heap.size w0 w) (ho0 : Kd.R k85 85 w w0.heap.size P0_ u9000_ l0) (h : laws_markInsS.f l0 a1 = some r1) :
  Calls Try.prog 39 #[u9000_, .int .i64 a1] w fun e w' => e = .returned (.int .i64 r1) ∧ Below w0.heap.size w0 w' ∧ Kept w w' (fun k_ => P0_ k_) := by
 have e : laws_markInsS.mk a1 l0 = r1 := Option.some.inj h
 subst e
 exact (laws_markInsS.ish P0_ u9000_ l0 a1 w0 w hB ho0).mono fun e w' hq => ⟨hq.1, hq.2.1, hq.2.2.kept⟩

def sh55 (x y : S55) : Prop := (fun _ _ => True) x.f0 y.f0 ∧ (fun _ _ => True) x.f1 y.f1 ∧ (All2 sh85) x.f2 y.f2
theorem twn55 : Twn k55 sh55 := twn_iso (twn_pair (twn_int .i64) (twn_pair (twn_int .i64) (twn_slice twn85 85))) (fun x : S55 => (x.f0, x.f1, x.f2)) (fun a => (⟨a.1, a.2.1, a.2.2⟩ : S55)) (fun _ => rfl)
def laws_markFuncS.g (k : Int) (x : S55) : Int := (laws_markInsS.mk (wrap64 ((wrap64 (k + 1)) + 1)) x.f2)
theorem laws_markFuncS.g_sh {k : Int} {x y : S55} (h : sh55 x y) : laws_markFuncS.g k x = laws_markFuncS.g k y := by
 unfold laws_markFuncS.g
 rw [laws_markInsS.mk_sh (show All2 _ _ _ from h.2.2)]
def laws_markFuncS.mk (k : Int) (l : List (S55)) : Int := l.foldl laws_markFuncS.g k
theorem laws_markFuncS.mk_sh {k : Int} {xs ys : List (S55)} (h : All2 sh55 xs ys) : laws_markFuncS.mk k xs = laws_markFuncS.mk k ys := fold_sh (g := laws_markFuncS.g) (sh := sh55) (fun _ _ _ h => laws_markFuncS.g_sh h) k h
theorem laws_markFuncS.ish (P0_ : Nat → Prop) (u : Value) (l0 : List (S55)) (a1 : Int) (w0 w : World) (hB : Below w0.heap.size w0 w) (ho0 : Kd.R k55 55 w w0.heap.size P0_ u l0) :
  Calls Try.prog 26 #[u, .int .i64 a1] w fun e w' => e = .returned (.int .i64 (laws_markFuncS.mk a1 l0)) ∧ Below w0.heap.size w0 w' ∧ Ish w w' P0_ := by
 have HB := am hB
 have HI := am (Ish.refl w P0_)
 have HO := am ho0
 have hln : l0.length ≤ 9223372036854775807 := by obtain ⟨_, _, rfl⟩ := Kd.R_slice ho0; exact (Kd.R_reads' ho0).2.2.2.1
 clear hB
 obtain ⟨Aa, ca, rfl⟩ := Kd.R_slice ho0
 clear ho0
 go_enter Try.func26, Try.ntmps26
 go_wp2
 go_loopg [1, 5] (l0.length + 1) (fun kq v1 v5 w' => ∃ (x1_1 : Int) (x5_1 : Int), v1 = .int .i64 x1_1 ∧ v5 = .int .i64 x5_1 ∧ Aside0 (kq + x5_1.toNat = l0.length + 1 ∧ 0 ≤ x5_1 ∧ x5_1 ≤ l0.length) ∧ Aside0 (laws_markFuncS.mk x1_1 (l0.drop x5_1.toNat) = laws_markFuncS.mk a1 l0) ∧ Aside0 (Ish w w' P0_) ∧ Aside0 (Below w0.heap.size w0 w'))
 case atStart => exact ⟨a1, 0, dr, dr, ⟨by simp, by omega, by omega⟩, ⟨rfl⟩, ⟨iw HI⟩, ⟨bw HB⟩⟩
 obtain ⟨x1_1, x5_1, rfl, rfl, HA, HV, HI, HB⟩ := hrel
 by_cases c3 : x5_1 < (l0.length : Int)
 ·have c3b0 := decide_eq_true c3
  obtain ⟨k1, rfl⟩ : ∃ k1, gk = k1 + 1 := ⟨gk - 1, by have := HA.out; omega⟩
  obtain ⟨la, hsa, hRa⟩ := R_twn twn55 HI.out HO.out
  have hla := hsa.1
  obtain ⟨go5, co5, eo5, gb5, gl5, cl5, HG5⟩ := Kd.R_form hRa (by have h00 := HA.out.2.1; omega)
  (first | cases eo5 | (injection eo5 with ea_ en_ ec_; (first | subst ea_ | (injection ea_ with ea_; subst ea_)); subst ec_; clear en_))
  have GB5 := am gb5
  have GP5 := am (show P0_ go5 from HO.out.1 _ rfl)
  clear gb5 gl5 HG5 hRa hsa
  have p5 : 0 ≤ x5_1 := HA.out.2.1
  have q5 := c3
  replace p5 := eq_true p5
  replace q5 := eq_true q5
  clear c3
  obtain ⟨l1, hs0, hR0⟩ := R_twn twn55 HI.out HO.out
  obtain ⟨ce0, hcl0, hM0, hcc0, hfr0⟩ := Kd.R_elem hR0 z55 x5_1 (of_eq_true p5) (of_eq_true q5)
  obtain ⟨v0_2, rfl, hr0_2⟩ := k55_openM hM0
  have hx0 : wr.cell? ⟨go5, x5_1.toNat * 3, none⟩ = some _ := hcc0 0 _ rfl
  have hf0 : wr.frozen? ⟨go5, x5_1.toNat * 3, none⟩ = false := hfr0 0
  (try clear hM0)
  (try clear hfr0)
  (try clear hcc0)
  (try clear hcl0)
  (try clear hs0)
  (try clear hR0)
  (try clear hr0_2)
  go_wp2_with (first | ((with_reducible refine gt 2 16 rfl ?_); refine sE 2 16 (wr.setCell ⟨go5, x5_1.toNat * 3, none⟩ (.int .i64 x1_1)) ?_; intro wq0 hw; replace HI := am (show Ish w wq0 P0_ by rw [hw]; exact HI.out.set hx0 (twin.ofInt _ _ _) (fun _ => GP5.out)); replace HB := am ((by rw [hw]; exact below_set (HB.out) GB5.out : Below w0.heap.size w0 wq0)); clear hw; clear hx0; clear hf0; obtain ⟨l2, hs1, hR1⟩ := R_twn twn55 HI.out HO.out; obtain ⟨ce1, hcl1, hM1, hcc1, hfr1⟩ := Kd.R_elem hR1 z55 x5_1 (of_eq_true p5) (of_eq_true q5); obtain ⟨v1_2, rfl, hr1_2⟩ := k55_openM hM1; have hx1 : wq0.cell? ⟨go5, x5_1.toNat * 3 + 1, none⟩ = some _ := hcc1 1 _ rfl; have hf1 : wq0.frozen? ⟨go5, x5_1.toNat * 3 + 1, none⟩ = false := hfr1 1; (try clear hM1); (try clear hfr1); (try clear hcc1); (try clear hcl1); (try clear hs1); (try clear hR1); (try clear hr1_2)) | ((with_reducible refine gt 2 23 rfl ?_); refine sE 2 23 (wq0.setCell ⟨go5, x5_1.toNat * 3 + 1, none⟩ (.int .i64 (wrap64 (x1_1 + 1)))) ?_; intro wq1 hw; replace HI := am (show Ish w wq1 P0_ by rw [hw]; exact HI.out.set hx1 (twin.ofInt _ _ _) (fun _ => GP5.out)); replace HB := am ((by rw [hw]; exact below_set (HB.out) GB5.out : Below w0.heap.size w0 wq1)); clear hw; clear hx1; clear hf1; obtain ⟨l3, hs2, hR2⟩ := R_twn twn55 HI.out HO.out; obtain ⟨ce2, hcl2, hM2, hcc2, hfr2⟩ := Kd.R_elem hR2 z55 x5_1 (of_eq_true p5) (of_eq_true q5); obtain ⟨v2_2, rfl, hr2_2⟩ := k55_openM hM2; obtain ⟨A2, c2, rfl⟩ := Kd.R_slice hr2_2; have hx2 : wq1.cell? ⟨go5, x5_1.toNat * 3 + 2, none⟩ = some _ := hcc2 2 _ rfl; have HR2 := am hr2_2; have HS2 := am hs2; (try clear hM2); (try clear hfr2); (try clear hcc2); (try clear hcl2); (try clear hs2); (try clear hR2); (try clear hr2_2)) | (go_at_call 39; (refine (laws_markInsS.ish _ _ _ _ _ _ (bw HB) HR2.out).mono ?_); rintro e wq2 ⟨rfl, hb, hi⟩; replace HB := am hb; replace HI := am (HI.out.trans hi (fun b _ h_ => h_.1)); clear hb hi; clear hx2))
  go_roundg k1
  case measure => omega
  case rel =>
   have h1 := HA.out
   have hq : x5_1 < (l0.length : Int) := of_eq_true q5
   have hw1 : wrap64 (x5_1 + 1) = x5_1 + 1 := by unfold wrap64; omega
   have hlt : x5_1.toNat < l0.length := by omega
   have hsh2 := HS2.out.2 x5_1.toNat l0[x5_1.toNat] (l3.getD x5_1.toNat z55) (List.getElem?_eq_getElem hlt) (by rw [List.getD_eq_getElem?_getD, List.getElem?_eq_getElem (by have := HS2.out.1; omega)]; rfl)
   refine ⟨(laws_markInsS.mk (wrap64 ((wrap64 (x1_1 + 1)) + 1)) (l3.getD x5_1.toNat z55).f2), wrap64 (x5_1 + 1), dr, dr, ⟨by omega, by omega, by omega⟩, ⟨?_⟩, ⟨iw HI⟩, ⟨bw HB⟩⟩
   have h2 := HV.out
   rw [List.drop_eq_getElem_cons hlt] at h2
   rw [hw1, show (x5_1 + 1).toNat = x5_1.toNat + 1 by omega]
   rw [← laws_markInsS.mk_sh (show All2 _ _ _ from hsh2.2.2)]
   exact h2
 have c3b0 := decide_eq_false c3
 have hv := HV.out
 have h1 := HA.out
 rw [List.drop_of_length_le (by omega)] at hv
 have hv : x1_1 = laws_markFuncS.mk a1 l0 := hv
 clear c3
 go_wp2
 go_ret
 exact ⟨by first | rfl | (simp; done) | (simp [*]; done), bw HB, iw HI⟩
def laws_markFuncS.f (l0 : List (S55)) (a1 : Int) : Option Int := some (laws_markFuncS.mk a1 l0)
theorem laws_markFuncS.calls (P0_ : Nat → Prop) (u9000_ : Value) (l0 : List (S55)) (a1 : Int) (r1 : Int) (w0 w : World) (hB : Below w0.heap.size w0 w) (ho0 : Kd.R k55 55 w w0.heap.size P0_ u9000_ l0) (h : laws_markFuncS.f l0 a1 = some r1) :
  Calls Try.prog 26 #[u9000_, .int .i64 a1] w fun e w' => e = .returned (.int .i64 r1) ∧ Below w0.heap.size w0 w' ∧ Kept w w' (fun k_ => P0_ k_) := by
 have e : laws_markFuncS.mk a1 l0 = r1 := Option.some.inj h
 subst e
 exact (laws_markFuncS.ish P0_ u9000_ l0 a1 w0 w hB ho0).mono fun e w' hq => ⟨hq.1, hq.2.1, hq.2.2.kept⟩

def laws_markProgram.mk (a1 : Int) (l0_0 : List (S55)) : Int := (laws_markFuncS.mk a1 l0_0)
theorem laws_markProgram.mk_sh {a1 : Int} {l0_0 m0_0 : List (S55)} (h0_0 : All2 sh55 l0_0 m0_0) : laws_markProgram.mk a1 l0_0 = laws_markProgram.mk a1 m0_0 := by
 unfold laws_markProgram.mk
 rw [laws_markFuncS.mk_sh h0_0]
theorem laws_markProgram.ish (P0_0_ : Nat → Prop) (u0_0 : Value) (l0_0 : List (S55)) (a1 : Int) (w0 w : World) (hB : Below w0.heap.size w0 w) (ho0_0 : Kd.R k55 55 w w0.heap.size P0_0_ u0_0 l0_0) :
  Calls Try.prog 12 #[.agg #[u0_0], .int .i64 a1] w fun e w' => e = .returned (.int .i64 (laws_markProgram.mk a1 l0_0)) ∧ Below w0.heap.size w0 w' ∧ Ish w w' (fun k_ => P0_0_ k_) := by
 have hu34 := Try.underlying34
 have HB := am hB
 have HI := am (Ish.refl w (fun k_ => P0_0_ k_))
 have HS := am hB.size
 clear hB
 obtain ⟨A0_0, c0_0, rfl⟩ := Kd.R_slice ho0_0
 have HO0_0 := am (R_in ho0_0)
 clear ho0_0
 go_enter Try.func12, Try.ntmps12
 go_wp2_with (first | ((with_reducible refine gd 2 rfl ?_); refine bx 2 #[.slice A0_0 l0_0.length c0_0] 34 ?_; intro gb1 hg wz0 hbox hb; replace HB := bs HB hb; have BK1 := am hbox; have GW1 := am (show w.heap.size ≤ gb1 by rw [hg]; exact (iw HI : Ish w _ _).size); replace HI := am (Ish.below (iw HI) hb); clear hb hbox hg; have hcz0 := bK wz0 BK1; have hfz0 := bF BK1) | (go_at_call 26; obtain ⟨m0_0, hm0_0, hR0_0⟩ := R_twn twn55 (iw HI : Ish w _ _) HO0_0.out; have e0_0 := hm0_0.1; (refine (laws_markFuncS.ish (fun k_ => P0_0_ k_ ∧ k_ < w.heap.size) _ _ _ w0 _ (bw HB) hR0_0).mono ?_); rintro e wz1 ⟨he_, hb, hi⟩; rw [← laws_markFuncS.mk_sh hm0_0] at he_; subst he_; replace HB := am hb; replace HI := am ((iw HI : Ish w _ (fun k_ => P0_0_ k_)).trans hi (fun k_ _ h_ => h_.1)); replace BK1 := am (Ish.box hi (bp BK1) (fun h_ => absurd (Nat.lt_of_lt_of_le h_.2 GW1.out) (Nat.lt_irrefl _))); clear hb hi; (try clear hR0_0); (try clear hm0_0 e0_0); (try clear hcz0); (try clear hfz0)))
 go_ret
 exact ⟨by first | rfl | (simp; done) | (simp [*]; done), bw HB, iw HI⟩
def laws_markProgram.f (l0_0 : List (S55)) (a1 : Int) : Option Int := some (laws_markProgram.mk a1 l0_0)
theorem laws_markProgram.calls (P0_0_ : Nat → Prop) (u9000_ : Value) (l0_0 : List (S55)) (a1 : Int) (r1 : Int) (w0 w : World) (hB : Below w0.heap.size w0 w) (ho0_0 : Kd.R k55 55 w w0.heap.size P0_0_ u9000_ l0_0) (h : laws_markProgram.f l0_0 a1 = some r1) :
  Calls Try.prog 12 #[.agg #[u9000_], .int .i64 a1] w fun e w' => e = .returned (.int .i64 r1) ∧ Below w0.heap.size w0 w' ∧ Kept w w' (fun k_ => P0_0_ k_) := by
 have e : laws_markProgram.mk a1 l0_0 = r1 := Option.some.inj h
 subst e
 exact (laws_markProgram.ish P0_0_ u9000_ l0_0 a1 w0 w hB ho0_0).mono fun e w' hq => ⟨hq.1, hq.2.1, hq.2.2.kept⟩

def laws_markInt64S.l0 : Nat → List Int → Int → Int → Option (Int × List Int)
 | 0, _, _, _ => none
 | k + 1, x0, x1, x5 => if x5 < (x0.length : Int) then (if 0 ≤ x5 then (laws_markInt64S.l0 k (x0.set (x5 : Int).toNat x1) (wrap64 (x1 + 1)) (wrap64 (x5 + 1))) else (none)) else (some (x1, x0))
def laws_markInt64S.f (k : Nat) (l0 : List Int) (a1 : Int) : Option (Int × List Int) := laws_markInt64S.l0 k l0 a1 0
theorem laws_markInt64S.mono_l : ∀ k, (∀ y0 y1 y2, LeO (laws_markInt64S.l0 k y0 y1 y2) (laws_markInt64S.l0 (k + 1) y0 y1 y2))
 | 0 => fun _ _ _ r h => by simp [laws_markInt64S.l0] at h
 | k + 1 => by
  have ih0 := laws_markInt64S.mono_l k
  ·intro y0 y1 y2
   unfold laws_markInt64S.l0
   with_reducible repeat' first | exact ih0 .. | exact LeO.refl _ | exact LeO.none _ | refine LeO.ite ?_ ?_ | refine LeO.bind ?_ (fun _ => ?_)
theorem laws_markInt64S.mono : ∀ a0 a1 k, LeO (laws_markInt64S.f k a0 a1) (laws_markInt64S.f (k + 1) a0 a1) := by
 intro a0 a1 k
 have ih0 := laws_markInt64S.mono_l k
 unfold laws_markInt64S.f
 with_reducible repeat' first | exact ih0 .. | exact LeO.refl _ | exact LeO.none _ | refine LeO.ite ?_ ?_ | refine LeO.bind ?_ (fun _ => ?_)
theorem laws_markInt64S.calls (k : Nat) (P0_ : Nat → Prop) (u9000_ : Value) (l0 : List Int) (a1 : Int) (r1 : Int) (r2 : List Int) (w0 w : World) (hB : Below w0.heap.size w0 w) (ho0 : Kd.R (Kd.int .i64) 2 w w0.heap.size P0_ u9000_ l0) (h : laws_markInt64S.f k l0 a1 = some (r1, r2)) :
  Calls Try.prog 13 #[u9000_, .int .i64 a1] w fun e w' => e = .returned (.int .i64 r1) ∧ Kd.R (Kd.int .i64) 2 w' w0.heap.size (fun k_ => (P0_ k_ ∨ w.heap.size ≤ k_)) u9000_ r2 ∧ Below w0.heap.size w0 w' ∧ Kept w w' (fun k_ => P0_ k_) := by
 have HO0 := am (show Kd.R (Kd.int .i64) 2 w w0.heap.size (fun k_ => (P0_ k_ ∨ w.heap.size ≤ k_)) u9000_ l0 from Kd.R_mono ho0 (fun k_ hk => (.inl hk)))
 have HK := am (Kept.refl w (fun k_ => P0_ k_))
 have HW0 := am hB.size
 have HB := am hB
 clear hB
 have H : (laws_markInt64S.l0 k l0 a1 0) = some (r1, r2) := h
 clear h
 have H' := am H
 clear H
 go_enter Try.func13, Try.ntmps13
 go_wp2
 go_loopg [1, 5] k (fun kq v1 v5 w' => ∃ (x0_1 : List Int) (x1_1 : Int) (x5_1 : Int), v1 = .int .i64 x1_1 ∧ v5 = .int .i64 x5_1 ∧ Aside0 (laws_markInt64S.l0 kq x0_1 x1_1 x5_1 = some (r1, r2)) ∧ Aside0 (kq ≤ k) ∧ Aside0 (Kd.R (Kd.int .i64) 2 w' w0.heap.size (fun k_ => (P0_ k_ ∨ w.heap.size ≤ k_)) u9000_ x0_1) ∧ Aside0 (Kept w w' (fun k_ => P0_ k_)) ∧ Aside0 (Below w0.heap.size w0 w'))
 case atStart => exact ⟨(l0), (a1), (0), dr, dr, H', ⟨Nat.le_refl _⟩, ⟨kR HO0⟩, ⟨by repeat (first | (with_reducible first | exact HK.out | apply Kept.alloc | apply Kept.drewN | apply Kept.drew) | exact HK.out)⟩, ⟨bw HB⟩⟩
 clear H'
 (try clear c1); (try clear p2)
 obtain ⟨x0_1, x1_1, x5_1, rfl, rfl, HA, HK1, HO_0, HK, HB⟩ := hrel
 rcases gk with _ | k1
 ·exact absurd HA.out (by simp [laws_markInt64S.l0])
 have H := HA.out
 clear HA
 simp only [laws_markInt64S.l0] at H
 refine qI H ?_ ?_ <;> clear H <;> intro c3b0 H
 ·refine iM H ?_; clear H; intro c4b0 H
  obtain ⟨y419, hy419⟩ : ∃ y_ : List Int, y_ = (x0_1.set (x5_1 : Int).toNat x1_1) := ⟨_, rfl⟩
  replace H : (laws_markInt64S.l0 k1 y419 (wrap64 (x1_1 + 1)) (wrap64 (x5_1 + 1))) = some (r1, r2) := by first | (rw [hy419]; with_reducible exact H) | (have H2_ := (Option.bind_some _ _).symm.trans H; rw [hy419]; with_reducible exact H2_) | (have H2_ := (Option.bind_some _ _).symm.trans H; with_reducible exact H2_) | with_reducible exact H | (rw [hy419]; exact H) | exact H
  have Ny419 := am hy419
  clear hy419
  have H' := am H
  clear H
  obtain ⟨Ao6, co6, eo6⟩ := Kd.R_slice HO_0.out
  subst eo6
  have p5 : 0 ≤ (x5_1 : Int) := of_decide_eq_true as1
  have q5 : (x5_1 : Int) < ((x0_1.length : Int) : Int) := of_decide_eq_true as1
  obtain ⟨go5, co5, eo5, gb5, gl5, cl5, HG5⟩ := Kd.R_form HO_0.out (by omega)
  (first | cases eo5 | (injection eo5 with ea_ en_ ec_; (first | subst ea_ | (injection ea_ with ea_; subst ea_)); subst ec_; clear en_))
  have GB5 := am gb5
  have GG5 := am HG5
  clear gb5 gl5 HG5
  have HMgo5 := am (show (P0_ go5 ∨ w.heap.size ≤ go5) from (HO_0.out.1 _ rfl))
  obtain ⟨hx5_0, hf5_0⟩ := Kd.R_celln 0 HO_0.out (x5_1 : Int) p5 q5
  replace p5 := eq_true p5
  replace q5 := eq_true q5
  have HP7 := Kd.R_putg HO_0.out (x5_1 : Int) x1_1
  go_wp2_with (first | ((with_reducible refine gt 2 15 rfl ?_); refine sE 2 15 (wr.setCell ⟨go5, (x5_1 : Int).toNat, none⟩ (.int .i64 x1_1)) ?_; intro w8 hw; have hg : wr.grownBy w8 (some go5) := (by rw [hw]; exact HP7.2); have hp_ : Kd.R (Kd.int .i64) 2 w8 w0.heap.size (fun k_ => (P0_ k_ ∨ w.heap.size ≤ k_)) (.slice (some ⟨go5, 0, none⟩) x0_1.length co6) y419 := (by rw [hw, Ny419.out]; exact HP7.1); clear HP7; replace HB := am ((by rw [hw]; exact below_set (HB.out) GB5.out : Below w0.heap.size w0 w8)); replace HK := am (Kept.of_grown (S := (fun k_ => P0_ k_)) hg (by repeat (first | (with_reducible first | exact HK.out | apply Kept.alloc | apply Kept.drewN | apply Kept.drew) | exact HK.out)) (fun k_ e_ => (HO_0.out.1 k_ e_))); replace HO_0 := am (hp_); clear hg hw hp_))
  go_roundg k1
  case measure => have := HK1.out; omega
  case rel => exact ⟨(y419), (wrap64 (x1_1 + 1)), (wrap64 (x5_1 + 1)), dr, dr, H', ⟨by have := HK1.out; omega⟩, ⟨kR HO_0⟩, ⟨by repeat (first | (with_reducible first | exact HK.out | apply Kept.alloc | apply Kept.drewN | apply Kept.drew) | exact HK.out)⟩, ⟨bw HB⟩⟩
 simp only [Option.some.injEq, Prod.mk.injEq] at H
 obtain ⟨rfl, rfl⟩ := H
 obtain ⟨Ao9, co9, eo9⟩ := Kd.R_slice HO_0.out
 subst eo9
 go_wp2
 go_ret
 exact ⟨er, kR HO_0, bw HB, by repeat (first | (with_reducible first | exact HK.out | apply Kept.alloc | apply Kept.drewN | apply Kept.drew) | exact HK.out)⟩

def laws_markInt64S.g (k : Int) (x : Int) : Int := (wrap64 (k + 1))
theorem laws_markInt64S.g_sh {k : Int} {x y : Int} (h : (fun _ _ => True) x y) : laws_markInt64S.g k x = laws_markInt64S.g k y := by
 unfold laws_markInt64S.g
 rfl
def laws_markInt64S.mk (k : Int) (l : List Int) : Int := l.foldl laws_markInt64S.g k
theorem laws_markInt64S.mk_sh {k : Int} {xs ys : List Int} (h : All2 (fun _ _ => True) xs ys) : laws_markInt64S.mk k xs = laws_markInt64S.mk k ys := fold_sh (g := laws_markInt64S.g) (sh := (fun _ _ => True)) (fun _ _ _ h => laws_markInt64S.g_sh h) k h
theorem laws_markInt64S.ish (P0_ : Nat → Prop) (u : Value) (l0 : List Int) (a1 : Int) (w0 w : World) (hB : Below w0.heap.size w0 w) (ho0 : Kd.R (Kd.int .i64) 2 w w0.heap.size P0_ u l0) :
  Calls Try.prog 13 #[u, .int .i64 a1] w fun e w' => e = .returned (.int .i64 (laws_markInt64S.mk a1 l0)) ∧ Below w0.heap.size w0 w' ∧ Ish w w' P0_ := by
 have HB := am hB
 have HI := am (Ish.refl w P0_)
 have HO := am ho0
 have hln : l0.length ≤ 9223372036854775807 := by obtain ⟨_, _, rfl⟩ := Kd.R_slice ho0; exact (Kd.R_reads' ho0).2.2.2.1
 clear hB
 obtain ⟨Aa, ca, rfl⟩ := Kd.R_slice ho0
 clear ho0
 go_enter Try.func13, Try.ntmps13
 go_wp2
 go_loopg [1, 5] (l0.length + 1) (fun kq v1 v5 w' => ∃ (x1_1 : Int) (x5_1 : Int), v1 = .int .i64 x1_1 ∧ v5 = .int .i64 x5_1 ∧ Aside0 (kq + x5_1.toNat = l0.length + 1 ∧ 0 ≤ x5_1 ∧ x5_1 ≤ l0.length) ∧ Aside0 (laws_markInt64S.mk x1_1 (l0.drop x5_1.toNat) = laws_markInt64S.mk a1 l0) ∧ Aside0 (Ish w w' P0_) ∧ Aside0 (Below w0.heap.size w0 w'))
 case atStart => exact ⟨a1, 0, dr, dr, ⟨by simp, by omega, by omega⟩, ⟨rfl⟩, ⟨iw HI⟩, ⟨bw HB⟩⟩
 obtain ⟨x1_1, x5_1, rfl, rfl, HA, HV, HI, HB⟩ := hrel
 by_cases c3 : x5_1 < (l0.length : Int)
 ·have c3b0 := decide_eq_true c3
  obtain ⟨k1, rfl⟩ : ∃ k1, gk = k1 + 1 := ⟨gk - 1, by have := HA.out; omega⟩
  obtain ⟨la, hsa, hRa⟩ := R_twn (twn_int .i64) HI.out HO.out
  have hla := hsa.1
  obtain ⟨go5, co5, eo5, gb5, gl5, cl5, HG5⟩ := Kd.R_form hRa (by have h00 := HA.out.2.1; omega)
  (first | cases eo5 | (injection eo5 with ea_ en_ ec_; (first | subst ea_ | (injection ea_ with ea_; subst ea_)); subst ec_; clear en_))
  have GB5 := am gb5
  have GP5 := am (show P0_ go5 from HO.out.1 _ rfl)
  clear gb5 gl5 HG5 hRa hsa
  have p5 : 0 ≤ x5_1 := HA.out.2.1
  have q5 := c3
  replace p5 := eq_true p5
  replace q5 := eq_true q5
  clear c3
  obtain ⟨l1, hs0, hR0⟩ := R_twn (twn_int .i64) HI.out HO.out
  obtain ⟨ce0, hcl0, hM0, hcc0, hfr0⟩ := Kd.R_elem hR0 0 x5_1 (of_eq_true p5) (of_eq_true q5)
  obtain rfl := hM0
  have hx0 : wr.cell? ⟨go5, x5_1.toNat, none⟩ = some (.int .i64 (l1.getD x5_1.toNat 0)) := by
   have h9_ := hcc0 0 _ rfl
   rw [show (Kd.int .i64).sz = 1 from rfl, Nat.mul_one, Nat.add_zero] at h9_
   exact h9_
  have hf0 : wr.frozen? ⟨go5, x5_1.toNat, none⟩ = false := by
   have h9_ := hfr0 0
   rw [show (Kd.int .i64).sz = 1 from rfl, Nat.mul_one, Nat.add_zero] at h9_
   exact h9_
  (try clear hM0)
  (try clear hfr0)
  (try clear hcc0)
  (try clear hcl0)
  (try clear hs0)
  (try clear hR0)
  go_wp2_with (first | ((with_reducible refine gt 2 15 rfl ?_); refine sE 2 15 (wr.setCell ⟨go5, x5_1.toNat, none⟩ (.int .i64 x1_1)) ?_; intro wq0 hw; replace HI := am (show Ish w wq0 P0_ by rw [hw]; exact HI.out.set hx0 (twin.ofInt _ _ _) (fun _ => GP5.out)); replace HB := am ((by rw [hw]; exact below_set (HB.out) GB5.out : Below w0.heap.size w0 wq0)); clear hw; clear hx0; clear hf0))
  go_roundg k1
  case measure => omega
  case rel =>
   have h1 := HA.out
   have hq : x5_1 < (l0.length : Int) := of_eq_true q5
   have hw1 : wrap64 (x5_1 + 1) = x5_1 + 1 := by unfold wrap64; omega
   have hlt : x5_1.toNat < l0.length := by omega
   refine ⟨(wrap64 (x1_1 + 1)), wrap64 (x5_1 + 1), dr, dr, ⟨by omega, by omega, by omega⟩, ⟨?_⟩, ⟨iw HI⟩, ⟨bw HB⟩⟩
   have h2 := HV.out
   rw [List.drop_eq_getElem_cons hlt] at h2
   rw [hw1, show (x5_1 + 1).toNat = x5_1.toNat + 1 by omega]
   exact h2
 have c3b0 := decide_eq_false c3
 have hv := HV.out
 have h1 := HA.out
 rw [List.drop_of_length_le (by omega)] at hv
 have hv : x1_1 = laws_markInt64S.mk a1 l0 := hv
 clear c3
 go_wp2
 go_ret
 exact ⟨by first | rfl | (simp; done) | (simp [*]; done), bw HB, iw HI⟩

end Go.Proofs.Ytoegdbeajgddiaa.QFnExactBegin
