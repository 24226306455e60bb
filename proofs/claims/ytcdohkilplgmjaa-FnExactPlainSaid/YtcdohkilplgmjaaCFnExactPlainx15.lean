import Derived.Test.YtcdohkilplgmjaaCFnExactPlainx0
import Derived.Test.YtcdohkilplgmjaaCFnExactPlainx14
namespace Go.Proofs.Ytcdohkilplgmjaa.QFnExactPlain
open Go.RowKit Go.Proofs.YtcdohkilplgmjaaW
open PrintWords PrintLast PrintMore PrintShort PrintIsh
attribute [local go_sem] max2_int min2_int max_two min_two max_three min_three max_four min_four   -- for this text's walks alone
set_option linter.unusedVariables false
set_option maxHeartbeats 8000000
set_option maxRecDepth 100000
set_option linter.unusedSimpArgs false

def laws_eqAsmIns.f (k : Nat) (l0_0 : List (S108)) (a0_1 : Int) (a0_2 : Int) (l0_3 : List (S55)) (a0_4 : Int) (l1_0 : List (S108)) (a1_1 : Int) (a1_2 : Int) (l1_3 : List (S55)) (a1_4 : Int) : Option (Bool) := (laws_eqMovS.f k l0_0 l1_0).bind fun t546 => (if t546 = true then (if a0_1 = a1_1 then (if a0_2 = a1_2 then ((laws_eqValS.f k l0_3 l1_3).bind fun t547 => (if t547 = true then (if a0_4 = a1_4 then (some true) else (some false)) else (some false))) else (some false)) else (some false)) else (some false))
theorem laws_eqAsmIns.mono : ∀ a0 a1 a2 a3 a4 a5 a6 a7 a8 a9 k, LeO (laws_eqAsmIns.f k a0 a1 a2 a3 a4 a5 a6 a7 a8 a9) (laws_eqAsmIns.f (k + 1) a0 a1 a2 a3 a4 a5 a6 a7 a8 a9) := by
 intro a0 a1 a2 a3 a4 a5 a6 a7 a8 a9 k
 unfold laws_eqAsmIns.f
 with_reducible repeat' first | exact laws_eqMovS.mono .. | exact laws_eqValS.mono .. | exact LeO.refl _ | exact LeO.none _ | refine LeO.ite ?_ ?_ | refine LeO.bind ?_ (fun _ => ?_)
theorem laws_eqAsmIns.calls (k : Nat) (A0_0 : Option Addr) (c0_0 : Nat) (l0_0 : List (S108)) (a0_1 : Int) (a0_2 : Int) (A0_3 : Option Addr) (c0_3 : Nat) (l0_3 : List (S55)) (a0_4 : Int) (A1_0 : Option Addr) (c1_0 : Nat) (l1_0 : List (S108)) (a1_1 : Int) (a1_2 : Int) (A1_3 : Option Addr) (c1_3 : Nat) (l1_3 : List (S55)) (a1_4 : Int) (r : Bool) (w : World) (hr0_0 : Kd.C k108 w A0_0 l0_0.length l0_0) (hc0_0 : l0_0.length ≤ c0_0) (hr0_3 : Kd.C k55 w A0_3 l0_3.length l0_3) (hc0_3 : l0_3.length ≤ c0_3) (hr1_0 : Kd.C k108 w A1_0 l1_0.length l1_0) (hc1_0 : l1_0.length ≤ c1_0) (hr1_3 : Kd.C k55 w A1_3 l1_3.length l1_3) (hc1_3 : l1_3.length ≤ c1_3) (h : laws_eqAsmIns.f k l0_0 a0_1 a0_2 l0_3 a0_4 l1_0 a1_1 a1_2 l1_3 a1_4 = some r) :
  Calls Try.prog 48 #[.agg #[.slice A0_0 l0_0.length c0_0, .int .i64 a0_1, .int .i64 a0_2, .slice A0_3 l0_3.length c0_3, .int .i64 a0_4], .agg #[.slice A1_0 l1_0.length c1_0, .int .i64 a1_1, .int .i64 a1_2, .slice A1_3 l1_3.length c1_3, .int .i64 a1_4]] w fun e w' => e = .returned (.bool r) ∧ Below w.heap.size w w' := by
 have hu50 := Try.underlying50
 have HR0_0 := am hr0_0
 have HC0_0 := am hc0_0
 clear hr0_0 hc0_0
 have HR0_3 := am hr0_3
 have HC0_3 := am hc0_3
 clear hr0_3 hc0_3
 have HR1_0 := am hr1_0
 have HC1_0 := am hc1_0
 clear hr1_0 hc1_0
 have HR1_3 := am hr1_3
 have HC1_3 := am hc1_3
 clear hr1_3 hc1_3
 have HB := am (Below.refl w.heap.size w)
 have H : ((laws_eqMovS.f k l0_0 l1_0).bind fun t546 => (if t546 = true then (if a0_1 = a1_1 then (if a0_2 = a1_2 then ((laws_eqValS.f k l0_3 l1_3).bind fun t547 => (if t547 = true then (if a0_4 = a1_4 then (some true) else (some false)) else (some false))) else (some false)) else (some false)) else (some false))) = some r := h
 clear h
 refine be H ?_; clear H; intro t546 A3 H
 have HC4 := am H
 clear H
 go_enter Try.func48, Try.ntmps48
 go_upto_if 10 with (first | ((with_reducible refine gd 2 rfl ?_); refine bX 2 #[.slice A0_0 l0_0.length c0_0, .int .i64 a0_1, .int .i64 a0_2, .slice A0_3 l0_3.length c0_3, .int .i64 a0_4] 50 HB ?_; clear HB; intro gb544 w5 hg hb BK544 GW544 HB; clear hb hg) | ((with_reducible refine gd 3 rfl ?_); refine bX 3 #[.slice A1_0 l1_0.length c1_0, .int .i64 a1_1, .int .i64 a1_2, .slice A1_3 l1_3.length c1_3, .int .i64 a1_4] 50 HB ?_; clear HB; intro gb545 w6 hg hb BK545 GW545 HB; obtain ⟨NB544_545, NB545_544, BK544⟩ := b3 hg BK544 hb; clear hb hg; have hnb7 := NB544_545.out; have hnc7 := NB545_544.out; have hcz8_0 := bk w6 BK544 0; have hcz8_1 := bk w6 BK544 1; have hcz8_2 := bk w6 BK544 2; have hcz8_3 := bk w6 BK544 3; have hcz8_4 := bk w6 BK544 4; have hfz8_0 := bf BK544 0; have hfz8_1 := bf BK544 1; have hfz8_2 := bf BK544 2; have hfz8_3 := bf BK544 3; have hfz8_4 := bf BK544 4; have hcz9_0 := bk w6 BK545 0; have hcz9_1 := bk w6 BK545 1; have hcz9_2 := bk w6 BK545 2; have hcz9_3 := bk w6 BK545 3; have hcz9_4 := bk w6 BK545 4; have hfz9_0 := bf BK545 0; have hfz9_1 := bf BK545 1; have hfz9_2 := bf BK545 2; have hfz9_3 := bf BK545 3; have hfz9_4 := bf BK545 4) | ((with_reducible refine gk 65 rfl ?_); refine gB 65 (some 9) Try.func65 #[.slice A0_0 l0_0.length c0_0, .slice A1_0 l1_0.length c1_0] (laws_eqMovS.calls k _ _ l0_0 _ _ l1_0 t546 _ (cc (Kd.C_below HR0_0.out HB.out)) HC0_0.out (cc (Kd.C_below HR1_0.out HB.out)) HC1_0.out A3.out) ?_; intro w10 hb; replace BK544 := bb BK544 hb; replace BK545 := bb BK545 hb; replace HB := bs HB hb; clear hb))
 (try simp only [Act.put, sa, sz, ss])
 have H := HC4.out
 clear HC4
 refine qT H ?_ ?_ <;> clear H <;> intro c11 H <;> subst c11
 ·refine qE H ?_ ?_ <;> clear H
  ·intro c12b0 c12b1 H
   (first | rw [c12b0] | (simp only [i64_w, i32_w]; rw [c12b0]) | skip)
   refine qE H ?_ ?_ <;> clear H
   ·intro c13b0 c13b1 H
    refine be H ?_; clear H; intro t547 A14 H
    have HC15 := am H
    clear H
    have hnb16 := NB544_545.out
    have hnc16 := NB545_544.out
    have hcz17_0 := bk w10 BK544 0
    have hcz17_1 := bk w10 BK544 1
    have hcz17_2 := bk w10 BK544 2
    have hcz17_3 := bk w10 BK544 3
    have hcz17_4 := bk w10 BK544 4
    have hfz17_0 := bf BK544 0
    have hfz17_1 := bf BK544 1
    have hfz17_2 := bf BK544 2
    have hfz17_3 := bf BK544 3
    have hfz17_4 := bf BK544 4
    have hcz18_0 := bk w10 BK545 0
    have hcz18_1 := bk w10 BK545 1
    have hcz18_2 := bk w10 BK545 2
    have hcz18_3 := bk w10 BK545 3
    have hcz18_4 := bk w10 BK545 4
    have hfz18_0 := bf BK545 0
    have hfz18_1 := bf BK545 1
    have hfz18_2 := bf BK545 2
    have hfz18_3 := bf BK545 3
    have hfz18_4 := bf BK545 4
    go_upto_if 26 with (first | ((with_reducible refine gk 49 rfl ?_); refine gB 49 (some 25) Try.func49 #[.slice A0_3 l0_3.length c0_3, .slice A1_3 l1_3.length c1_3] (laws_eqValS.calls k _ _ l0_3 _ _ l1_3 t547 _ (cc (Kd.C_below HR0_3.out HB.out)) HC0_3.out (cc (Kd.C_below HR1_3.out HB.out)) HC1_3.out A14.out) ?_; intro w19 hb; replace BK544 := bb BK544 hb; replace BK545 := bb BK545 hb; replace HB := bs HB hb; clear hb))
    (try simp only [Act.put, sa, sz, ss])
    have H := HC15.out
    clear HC15
    refine qT H ?_ ?_ <;> clear H <;> intro c20 H <;> subst c20
    ·refine qE H ?_ ?_ <;> clear H
     ·intro c21b0 c21b1 H
      (first | rw [c21b0] | (simp only [i64_w, i32_w]; rw [c21b0]) | skip)
      obtain rfl := Option.some.inj H
      have hnb22 := NB544_545.out
      have hnc22 := NB545_544.out
      have hcz23_0 := bk w19 BK544 0
      have hcz23_1 := bk w19 BK544 1
      have hcz23_2 := bk w19 BK544 2
      have hcz23_3 := bk w19 BK544 3
      have hcz23_4 := bk w19 BK544 4
      have hfz23_0 := bf BK544 0
      have hfz23_1 := bf BK544 1
      have hfz23_2 := bf BK544 2
      have hfz23_3 := bf BK544 3
      have hfz23_4 := bf BK544 4
      have hcz24_0 := bk w19 BK545 0
      have hcz24_1 := bk w19 BK545 1
      have hcz24_2 := bk w19 BK545 2
      have hcz24_3 := bk w19 BK545 3
      have hcz24_4 := bk w19 BK545 4
      have hfz24_0 := bf BK545 0
      have hfz24_1 := bf BK545 1
      have hfz24_2 := bf BK545 2
      have hfz24_3 := bf BK545 3
      have hfz24_4 := bf BK545 4
      go_wp2
      go_ret
      exact ⟨er, bw HB⟩
     intro c21 c21b0 c21b1 H
     (first | rw [c21b0] | (simp only [i64_w, i32_w]; rw [c21b0]) | skip)
     obtain rfl := Option.some.inj H
     have hnb25 := NB544_545.out
     have hnc25 := NB545_544.out
     have hcz26_0 := bk w19 BK544 0
     have hcz26_1 := bk w19 BK544 1
     have hcz26_2 := bk w19 BK544 2
     have hcz26_3 := bk w19 BK544 3
     have hcz26_4 := bk w19 BK544 4
     have hfz26_0 := bf BK544 0
     have hfz26_1 := bf BK544 1
     have hfz26_2 := bf BK544 2
     have hfz26_3 := bf BK544 3
     have hfz26_4 := bf BK544 4
     have hcz27_0 := bk w19 BK545 0
     have hcz27_1 := bk w19 BK545 1
     have hcz27_2 := bk w19 BK545 2
     have hcz27_3 := bk w19 BK545 3
     have hcz27_4 := bk w19 BK545 4
     have hfz27_0 := bf BK545 0
     have hfz27_1 := bf BK545 1
     have hfz27_2 := bf BK545 2
     have hfz27_3 := bf BK545 3
     have hfz27_4 := bf BK545 4
     go_wp2
     go_ret
     exact ⟨er, bw HB⟩
    obtain rfl := Option.some.inj H
    go_wp2
    go_ret
    exact ⟨er, bw HB⟩
   intro c13 c13b0 c13b1 H
   obtain rfl := Option.some.inj H
   have hnb28 := NB544_545.out
   have hnc28 := NB545_544.out
   have hcz29_0 := bk w10 BK544 0
   have hcz29_1 := bk w10 BK544 1
   have hcz29_2 := bk w10 BK544 2
   have hcz29_3 := bk w10 BK544 3
   have hcz29_4 := bk w10 BK544 4
   have hfz29_0 := bf BK544 0
   have hfz29_1 := bf BK544 1
   have hfz29_2 := bf BK544 2
   have hfz29_3 := bf BK544 3
   have hfz29_4 := bf BK544 4
   have hcz30_0 := bk w10 BK545 0
   have hcz30_1 := bk w10 BK545 1
   have hcz30_2 := bk w10 BK545 2
   have hcz30_3 := bk w10 BK545 3
   have hcz30_4 := bk w10 BK545 4
   have hfz30_0 := bf BK545 0
   have hfz30_1 := bf BK545 1
   have hfz30_2 := bf BK545 2
   have hfz30_3 := bf BK545 3
   have hfz30_4 := bf BK545 4
   go_wp2
   go_ret
   exact ⟨er, bw HB⟩
  intro c12 c12b0 c12b1 H
  (first | rw [c12b0] | (simp only [i64_w, i32_w]; rw [c12b0]) | skip)
  obtain rfl := Option.some.inj H
  have hnb31 := NB544_545.out
  have hnc31 := NB545_544.out
  have hcz32_0 := bk w10 BK544 0
  have hcz32_1 := bk w10 BK544 1
  have hcz32_2 := bk w10 BK544 2
  have hcz32_3 := bk w10 BK544 3
  have hcz32_4 := bk w10 BK544 4
  have hfz32_0 := bf BK544 0
  have hfz32_1 := bf BK544 1
  have hfz32_2 := bf BK544 2
  have hfz32_3 := bf BK544 3
  have hfz32_4 := bf BK544 4
  have hcz33_0 := bk w10 BK545 0
  have hcz33_1 := bk w10 BK545 1
  have hcz33_2 := bk w10 BK545 2
  have hcz33_3 := bk w10 BK545 3
  have hcz33_4 := bk w10 BK545 4
  have hfz33_0 := bf BK545 0
  have hfz33_1 := bf BK545 1
  have hfz33_2 := bf BK545 2
  have hfz33_3 := bf BK545 3
  have hfz33_4 := bf BK545 4
  go_wp2
  go_ret
  exact ⟨er, bw HB⟩
 obtain rfl := Option.some.inj H
 go_wp2
 go_ret
 exact ⟨er, bw HB⟩

def laws_eqAsmInsS.l0 : Nat → List (S50) → List (S50) → Int → Option (Bool)
 | 0, _, _, _ => none
 | k + 1, x0, x1, x5 => if x5 < (x0.length : Int) then (if 0 ≤ x5 then (if x5 < (x1.length : Int) then ((laws_eqAsmIns.f k ((rd_T50 x0 x5).f0) ((rd_T50 x0 x5).f1) ((rd_T50 x0 x5).f2) ((rd_T50 x0 x5).f3) ((rd_T50 x0 x5).f4) ((rd_T50 x1 x5).f0) ((rd_T50 x1 x5).f1) ((rd_T50 x1 x5).f2) ((rd_T50 x1 x5).f3) ((rd_T50 x1 x5).f4)).bind fun t550 => (if t550 = true then (laws_eqAsmInsS.l0 k x0 x1 (wrap64 (x5 + 1))) else (some false))) else (none)) else (none)) else (some true)
def laws_eqAsmInsS.f (k : Nat) (l0 : List (S50)) (l1 : List (S50)) : Option (Bool) := if (l0.length : Int) = (l1.length : Int) then (laws_eqAsmInsS.l0 k l0 l1 0) else (some false)
theorem laws_eqAsmInsS.mono_l : ∀ k, (∀ y0 y1 y2, LeO (laws_eqAsmInsS.l0 k y0 y1 y2) (laws_eqAsmInsS.l0 (k + 1) y0 y1 y2))
 | 0 => fun _ _ _ r h => by simp [laws_eqAsmInsS.l0] at h
 | k + 1 => by
  have ih0 := laws_eqAsmInsS.mono_l k
  ·intro y0 y1 y2
   unfold laws_eqAsmInsS.l0
   with_reducible repeat' first | exact ih0 .. | exact laws_eqAsmIns.mono .. | exact LeO.refl _ | exact LeO.none _ | refine LeO.ite ?_ ?_ | refine LeO.bind ?_ (fun _ => ?_)
theorem laws_eqAsmInsS.mono : ∀ a0 a1 k, LeO (laws_eqAsmInsS.f k a0 a1) (laws_eqAsmInsS.f (k + 1) a0 a1) := by
 intro a0 a1 k
 have ih0 := laws_eqAsmInsS.mono_l k
 unfold laws_eqAsmInsS.f
 with_reducible repeat' first | exact ih0 .. | exact laws_eqAsmIns.mono .. | exact LeO.refl _ | exact LeO.none _ | refine LeO.ite ?_ ?_ | refine LeO.bind ?_ (fun _ => ?_)
def laws_eqAsmInsS.T6 : Bool × List (List Nat × List Nat) := (true, [([], []), ([], []), ([0, 1], [0, 1]), ([2], [2]), ([], []), ([], []), ([4, 5], [4, 5]), ([6], [6]), ([3, 7], [3, 7]), ([8], [8])])
def laws_eqAsmInsS.B6 : List Nat := [0, 0, 3, 7, 0, 0, 48, 112, 255, 511]
theorem laws_eqAsmInsS.tab6 : rtab .any (opsOf Try.f21 6) = laws_eqAsmInsS.T6 := by kernel_rfl
theorem laws_eqAsmInsS.bits6 : waitsOk laws_eqAsmInsS.T6.2 laws_eqAsmInsS.B6 = true := by kernel_rfl
theorem laws_eqAsmInsS.calls (k : Nat) (A0 : Option Addr) (c0 : Nat) (l0 : List (S50)) (A1 : Option Addr) (c1 : Nat) (l1 : List (S50)) (r : Bool) (w : World) (hr0 : Kd.C k50 w A0 l0.length l0) (hc0 : l0.length ≤ c0) (hr1 : Kd.C k50 w A1 l1.length l1) (hc1 : l1.length ≤ c1) (h : laws_eqAsmInsS.f k l0 l1 = some r) :
  Calls Try.prog 21 #[.slice A0 l0.length c0, .slice A1 l1.length c1] w fun e w' => e = .returned (.bool r) ∧ Below w.heap.size w w' := by
 have hu50 := Try.underlying50
 have HR0 := am hr0
 have HC0 := am hc0
 clear hr0 hc0
 have HR1 := am hr1
 have HC1 := am hc1
 clear hr1 hc1
 have HB := am (Below.refl w.heap.size w)
 have H : (if (l0.length : Int) = (l1.length : Int) then (laws_eqAsmInsS.l0 k l0 l1 0) else (some false)) = some r := h
 clear h
 by_cases c3 : (l0.length : Int) = (l1.length : Int)
 ·rw [if_pos c3] at H
  have c3b0 : ((l0.length : Int) == (l1.length : Int)) = true := beq_iff_eq.mpr c3
  have c3b1 : ((l0.length : Int) != (l1.length : Int)) = false := bne_eq_false_iff_eq.mpr c3
  have c3b2 : (l0.length == l1.length) = true := by first | simpa using c3 | (simp at c3 ⊢; omega)
  clear c3
  have H' := am H
  clear H
  go_enter Try.func21, Try.ntmps21
  go_wp2
  go_loopg [5] k (fun kq v5 w' => ∃ (x5_1 : Int), v5 = .int .i64 x5_1 ∧ Aside0 (laws_eqAsmInsS.l0 kq l0 l1 x5_1 = some r) ∧ Aside0 (kq ≤ k) ∧ Aside0 (Below w.heap.size w w'))
  case atStart => exact ⟨(0), dr, H', ⟨Nat.le_refl _⟩, ⟨bw HB⟩⟩
  clear H'
  (try clear c1); (try clear c2); (try clear p2); (try clear c3); (try clear c3b0); (try clear c3b1); (try clear c3b2)
  obtain ⟨x5_1, rfl, HA, HK1, HB⟩ := hrel
  rcases gk with _ | k1
  ·exact absurd HA.out (by simp [laws_eqAsmInsS.l0])
  have H := HA.out
  clear HA
  simp only [laws_eqAsmInsS.l0] at H
  refine qI H ?_ ?_ <;> clear H <;> intro c4b0 H
  ·refine iM H ?_; clear H; intro c5b0 H
   refine iM H ?_; clear H; intro c6b0 H
   refine be H ?_; clear H; intro t550 A7 H
   have HC8 := am H
   clear H
   try go_wp2
   replace HB := am (below_drew1 HB.out)
   have p548 : 0 ≤ (x5_1 : Int) := of_decide_eq_true as1
   have q548 : x5_1 < (l0.length : Int) := of_decide_eq_true as1
   obtain ⟨ad548, A548_0, c548_0, A548_3, c548_3, e548, hx548_0, hx548_1, hx548_2, hx548_3, hx548_4, hl548_0, hi548_0, hl548_3, hi548_3⟩ := at_T50 HR0.out x5_1 p548 q548
   have hw548_4 := hx548_4
   have hw548_3 := hx548_3
   have hw548_2 := hx548_2
   have hw548_1 := hx548_1
   have hw548_0 := hx548_0
   cases e548
   replace hx548_0 := cl HB hx548_0
   replace hx548_1 := cl HB hx548_1
   replace hx548_2 := cl HB hx548_2
   replace hx548_3 := cl HB hx548_3
   replace hx548_4 := cl HB hx548_4
   have HR548_0 := am hi548_0
   have HC548_0 := am hl548_0
   clear hi548_0 hl548_0
   have HR548_3 := am hi548_3
   have HC548_3 := am hl548_3
   clear hi548_3 hl548_3
   replace p548 := eq_true p548
   replace q548 := eq_true q548
   have p549 : 0 ≤ (x5_1 : Int) := of_decide_eq_true as1
   have q549 : x5_1 < (l1.length : Int) := of_decide_eq_true as1
   obtain ⟨ad549, A549_0, c549_0, A549_3, c549_3, e549, hx549_0, hx549_1, hx549_2, hx549_3, hx549_4, hl549_0, hi549_0, hl549_3, hi549_3⟩ := at_T50 HR1.out x5_1 p549 q549
   have hw549_4 := hx549_4
   have hw549_3 := hx549_3
   have hw549_2 := hx549_2
   have hw549_1 := hx549_1
   have hw549_0 := hx549_0
   cases e549
   replace hx549_0 := cl HB hx549_0
   replace hx549_1 := cl HB hx549_1
   replace hx549_2 := cl HB hx549_2
   replace hx549_3 := cl HB hx549_3
   replace hx549_4 := cl HB hx549_4
   have HR549_0 := am hi549_0
   have HC549_0 := am hl549_0
   clear hi549_0 hl549_0
   have HR549_3 := am hi549_3
   have HC549_3 := am hl549_3
   clear hi549_3 hl549_3
   replace p549 := eq_true p549
   replace q549 := eq_true q549
   refine start_ (n := 10) (S := fun w' => w'.cell? (ad548.add ((x5_1).toNat * 5)) = some (.slice A548_0 ((rd_T50 l0 x5_1).f0).length c548_0) ∧ w'.cell? ⟨(ad548.add ((x5_1).toNat * 5)).block, (ad548.add ((x5_1).toNat * 5)).off + 1, none⟩ = some (.int .i64 ((rd_T50 l0 x5_1).f1)) ∧ w'.cell? ⟨(ad548.add ((x5_1).toNat * 5)).block, (ad548.add ((x5_1).toNat * 5)).off + 2, none⟩ = some (.int .i64 ((rd_T50 l0 x5_1).f2)) ∧ w'.cell? ⟨(ad548.add ((x5_1).toNat * 5)).block, (ad548.add ((x5_1).toNat * 5)).off + 3, none⟩ = some (.slice A548_3 ((rd_T50 l0 x5_1).f3).length c548_3) ∧ w'.cell? ⟨(ad548.add ((x5_1).toNat * 5)).block, (ad548.add ((x5_1).toNat * 5)).off + 4, none⟩ = some (.int .i64 ((rd_T50 l0 x5_1).f4)) ∧ w'.cell? (ad549.add ((x5_1).toNat * 5)) = some (.slice A549_0 ((rd_T50 l1 x5_1).f0).length c549_0) ∧ w'.cell? ⟨(ad549.add ((x5_1).toNat * 5)).block, (ad549.add ((x5_1).toNat * 5)).off + 1, none⟩ = some (.int .i64 ((rd_T50 l1 x5_1).f1)) ∧ w'.cell? ⟨(ad549.add ((x5_1).toNat * 5)).block, (ad549.add ((x5_1).toNat * 5)).off + 2, none⟩ = some (.int .i64 ((rd_T50 l1 x5_1).f2)) ∧ w'.cell? ⟨(ad549.add ((x5_1).toNat * 5)).block, (ad549.add ((x5_1).toNat * 5)).off + 3, none⟩ = some (.slice A549_3 ((rd_T50 l1 x5_1).f3).length c549_3) ∧ w'.cell? ⟨(ad549.add ((x5_1).toNat * 5)).block, (ad549.add ((x5_1).toNat * 5)).off + 4, none⟩ = some (.int .i64 ((rd_T50 l1 x5_1).f4))) (ds := []) (bv 10 0) (by kernel_rfl) rfl (by kernel_rfl) ⟨(cq HB hw548_0), (cq HB hw548_1), (cq HB hw548_2), (cq HB hw548_3), (cq HB hw548_4), (cq HB hw549_0), (cq HB hw549_1), (cq HB hw549_2), (cq HB hw549_3), (cq HB hw549_4)⟩ (fun hHeld => ?_); refine with_tabW laws_eqAsmInsS.tab6 laws_eqAsmInsS.bits6 (fun HT_ HW_ => ?_)
   generalize wr.drew = w9 at HB HR548_0 HR548_3 HR549_0 HR549_3 hx548_0 hx548_1 hx548_2 hx548_3 hx548_4 hx549_0 hx549_1 hx549_2 hx549_3 hx549_4 hHeld ⊢
   refine pu 0 17 10 1 HT_ ?_
   refine pu 1 18 10 3 HT_ ?_
   refine pu 2 19 10 7 HT_ ?_
   refine pu 4 21 10 23 HT_ ?_
   refine pu 5 22 10 55 HT_ ?_
   refine pu 6 23 10 119 HT_ ?_
   refine tk 3 20 10 127 HT_ HW_ hHeld ?_
   refine tk 7 24 10 255 HT_ HW_ hHeld ?_
   refine on 8 (some 25) 10 511 HT_ fun K hK => ?_
   refine goes_ Try.func48 (by kernel_rfl) rfl #[.agg #[.slice A548_0 ((rd_T50 l0 x5_1).f0).length c548_0, .int .i64 ((rd_T50 l0 x5_1).f1), .int .i64 ((rd_T50 l0 x5_1).f2), .slice A548_3 ((rd_T50 l0 x5_1).f3).length c548_3, .int .i64 ((rd_T50 l0 x5_1).f4)], .agg #[.slice A549_0 ((rd_T50 l1 x5_1).f0).length c549_0, .int .i64 ((rd_T50 l1 x5_1).f1), .int .i64 ((rd_T50 l1 x5_1).f2), .slice A549_3 ((rd_T50 l1 x5_1).f3).length c549_3, .int .i64 ((rd_T50 l1 x5_1).f4)]] (by rfl) rfl rfl gl ?_
   with_reducible refine (laws_eqAsmIns.calls k1 _ _ ((rd_T50 l0 x5_1).f0) ((rd_T50 l0 x5_1).f1) ((rd_T50 l0 x5_1).f2) _ _ ((rd_T50 l0 x5_1).f3) ((rd_T50 l0 x5_1).f4) _ _ ((rd_T50 l1 x5_1).f0) ((rd_T50 l1 x5_1).f1) ((rd_T50 l1 x5_1).f2) _ _ ((rd_T50 l1 x5_1).f3) ((rd_T50 l1 x5_1).f4) t550 _ ?side1 ?side2 ?side3 ?side4 ?side5 ?side6 ?side7 ?side8 A7.out).mono ?_
   (case side1 => exact cc (Kd.C_below HR548_0.out HB.out))
   (case side2 => exact HC548_0.out)
   (case side3 => exact cc (Kd.C_below HR548_3.out HB.out))
   (case side4 => exact HC548_3.out)
   (case side5 => exact cc (Kd.C_below HR549_0.out HB.out))
   (case side6 => exact HC549_0.out)
   (case side7 => exact cc (Kd.C_below HR549_3.out HB.out))
   (case side8 => exact HC549_3.out)
   rintro e w10 ⟨rfl, hb⟩
   refine ⟨_, rfl, ?_⟩
   replace HB := am (below_step (bw HB) hb)
   clear hb
   refine hK.out _ _ ⟨(cq HB hw548_0), (cq HB hw548_1), (cq HB hw548_2), (cq HB hw548_3), (cq HB hw548_4), (cq HB hw549_0), (cq HB hw549_1), (cq HB hw549_2), (cq HB hw549_3), (cq HB hw549_4)⟩ (fun hHeld => ?_)
   clear hK K
   refine nm (some 25) ?_
   refine pu 9 26 10 1023 HT_ ?_
   refine done_ (done_of HT_.out (by kernel_rfl)) ?_
   go_upto_if 26 with (fail)
   (try simp only [Act.put, sa, sz, ss])
   have H := HC8.out
   clear HC8
   refine qT H ?_ ?_ <;> clear H <;> intro c11 H <;> subst c11
   ·have H' := am H
    clear H
    go_wp2
    go_roundg k1
    case measure => have := HK1.out; omega
    case rel => exact ⟨(wrap64 (x5_1 + 1)), dr, H', ⟨by have := HK1.out; omega⟩, ⟨bw HB⟩⟩
   obtain rfl := Option.some.inj H
   go_wp2
   go_ret
   exact ⟨er, bw HB⟩
  obtain rfl := Option.some.inj H
  go_wp2
  go_ret
  exact ⟨er, bw HB⟩
 rw [if_neg c3] at H
 have c3b0 : ((l0.length : Int) == (l1.length : Int)) = false := beq_eq_false_iff_ne.mpr c3
 have c3b1 : ((l0.length : Int) != (l1.length : Int)) = true := bne_iff_ne.mpr c3
 have c3b2 : (l0.length == l1.length) = false := by first | simpa using c3 | (simp at c3 ⊢; omega)
 obtain rfl := Option.some.inj H
 go_enter Try.func21, Try.ntmps21
 go_wp2
 go_ret
 exact ⟨er, bw HB⟩

def laws_eqValSS.l0 : Nat → List (List (S55)) → List (List (S55)) → Int → Option (Bool)
 | 0, _, _, _ => none
 | k + 1, x0, x1, x5 => if x5 < (x0.length : Int) then (if 0 ≤ x5 then (if x5 < (x1.length : Int) then ((laws_eqValS.f k (rd_L12 x0 x5) (rd_L12 x1 x5)).bind fun t553 => (if t553 = true then (laws_eqValSS.l0 k x0 x1 (wrap64 (x5 + 1))) else (some false))) else (none)) else (none)) else (some true)
def laws_eqValSS.f (k : Nat) (l0 : List (List (S55))) (l1 : List (List (S55))) : Option (Bool) := if (l0.length : Int) = (l1.length : Int) then (laws_eqValSS.l0 k l0 l1 0) else (some false)
theorem laws_eqValSS.mono_l : ∀ k, (∀ y0 y1 y2, LeO (laws_eqValSS.l0 k y0 y1 y2) (laws_eqValSS.l0 (k + 1) y0 y1 y2))
 | 0 => fun _ _ _ r h => by simp [laws_eqValSS.l0] at h
 | k + 1 => by
  have ih0 := laws_eqValSS.mono_l k
  ·intro y0 y1 y2
   unfold laws_eqValSS.l0
   with_reducible repeat' first | exact ih0 .. | exact laws_eqValS.mono .. | exact LeO.refl _ | exact LeO.none _ | refine LeO.ite ?_ ?_ | refine LeO.bind ?_ (fun _ => ?_)
theorem laws_eqValSS.mono : ∀ a0 a1 k, LeO (laws_eqValSS.f k a0 a1) (laws_eqValSS.f (k + 1) a0 a1) := by
 intro a0 a1 k
 have ih0 := laws_eqValSS.mono_l k
 unfold laws_eqValSS.f
 with_reducible repeat' first | exact ih0 .. | exact laws_eqValS.mono .. | exact LeO.refl _ | exact LeO.none _ | refine LeO.ite ?_ ?_ | refine LeO.bind ?_ (fun _ => ?_)
def laws_eqValSS.T6 : Bool × List (List Nat × List Nat) := (true, [([], []), ([], []), ([0, 1], [0, 1]), ([2], [2]), ([], []), ([], []), ([4, 5], [4, 5]), ([6], [6]), ([3, 7], [3, 7]), ([8], [8])])
def laws_eqValSS.B6 : List Nat := [0, 0, 3, 7, 0, 0, 48, 112, 255, 511]
theorem laws_eqValSS.tab6 : rtab .any (opsOf Try.f22 6) = laws_eqValSS.T6 := by kernel_rfl
theorem laws_eqValSS.bits6 : waitsOk laws_eqValSS.T6.2 laws_eqValSS.B6 = true := by kernel_rfl
theorem laws_eqValSS.calls (k : Nat) (A0 : Option Addr) (c0 : Nat) (l0 : List (List (S55))) (A1 : Option Addr) (c1 : Nat) (l1 : List (List (S55))) (r : Bool) (w : World) (hr0 : Kd.C (Kd.slice 55 k55) w A0 l0.length l0) (hc0 : l0.length ≤ c0) (hr1 : Kd.C (Kd.slice 55 k55) w A1 l1.length l1) (hc1 : l1.length ≤ c1) (h : laws_eqValSS.f k l0 l1 = some r) :
  Calls Try.prog 22 #[.slice A0 l0.length c0, .slice A1 l1.length c1] w fun e w' => e = .returned (.bool r) ∧ Below w.heap.size w w' := by
 have HR0 := am hr0
 have HC0 := am hc0
 clear hr0 hc0
 have HR1 := am hr1
 have HC1 := am hc1
 clear hr1 hc1
 have HB := am (Below.refl w.heap.size w)
 have H : (if (l0.length : Int) = (l1.length : Int) then (laws_eqValSS.l0 k l0 l1 0) else (some false)) = some r := h
 clear h
 by_cases c3 : (l0.length : Int) = (l1.length : Int)
 ·rw [if_pos c3] at H
  have c3b0 : ((l0.length : Int) == (l1.length : Int)) = true := beq_iff_eq.mpr c3
  have c3b1 : ((l0.length : Int) != (l1.length : Int)) = false := bne_eq_false_iff_eq.mpr c3
  have c3b2 : (l0.length == l1.length) = true := by first | simpa using c3 | (simp at c3 ⊢; omega)
  clear c3
  have H' := am H
  clear H
  go_enter Try.func22, Try.ntmps22
  go_wp2
  go_loopg [5] k (fun kq v5 w' => ∃ (x5_1 : Int), v5 = .int .i64 x5_1 ∧ Aside0 (laws_eqValSS.l0 kq l0 l1 x5_1 = some r) ∧ Aside0 (kq ≤ k) ∧ Aside0 (Below w.heap.size w w'))
  case atStart => exact ⟨(0), dr, H', ⟨Nat.le_refl _⟩, ⟨bw HB⟩⟩
  clear H'
  (try clear c1); (try clear c2); (try clear p2); (try clear c3); (try clear c3b0); (try clear c3b1); (try clear c3b2)
  obtain ⟨x5_1, rfl, HA, HK1, HB⟩ := hrel
  rcases gk with _ | k1
  ·exact absurd HA.out (by simp [laws_eqValSS.l0])
  have H := HA.out
  clear HA
  simp only [laws_eqValSS.l0] at H
  refine qI H ?_ ?_ <;> clear H <;> intro c4b0 H
  ·refine iM H ?_; clear H; intro c5b0 H
   refine iM H ?_; clear H; intro c6b0 H
   refine be H ?_; clear H; intro t553 A7 H
   have HC8 := am H
   clear H
   try go_wp2
   replace HB := am (below_drew1 HB.out)
   have p551 : 0 ≤ (x5_1 : Int) := of_decide_eq_true as1
   have q551 : x5_1 < (l0.length : Int) := of_decide_eq_true as1
   obtain ⟨ad551, A551_0, c551_0, e551, hx551_0, hl551_0, hi551_0⟩ := at_L12 HR0.out x5_1 p551 q551
   have hw551_0 := hx551_0
   cases e551
   replace hx551_0 := cl HB hx551_0
   have HR551_0 := am hi551_0
   have HC551_0 := am hl551_0
   clear hi551_0 hl551_0
   replace p551 := eq_true p551
   replace q551 := eq_true q551
   have p552 : 0 ≤ (x5_1 : Int) := of_decide_eq_true as1
   have q552 : x5_1 < (l1.length : Int) := of_decide_eq_true as1
   obtain ⟨ad552, A552_0, c552_0, e552, hx552_0, hl552_0, hi552_0⟩ := at_L12 HR1.out x5_1 p552 q552
   have hw552_0 := hx552_0
   cases e552
   replace hx552_0 := cl HB hx552_0
   have HR552_0 := am hi552_0
   have HC552_0 := am hl552_0
   clear hi552_0 hl552_0
   replace p552 := eq_true p552
   replace q552 := eq_true q552
   refine start_ (n := 10) (S := fun w' => w'.cell? (ad551.add (x5_1).toNat) = some (.slice A551_0 (rd_L12 l0 x5_1).length c551_0) ∧ w'.cell? (ad552.add (x5_1).toNat) = some (.slice A552_0 (rd_L12 l1 x5_1).length c552_0)) (ds := []) (bv 10 0) (by kernel_rfl) rfl (by kernel_rfl) ⟨(cq HB hw551_0), (cq HB hw552_0)⟩ (fun hHeld => ?_); refine with_tabW laws_eqValSS.tab6 laws_eqValSS.bits6 (fun HT_ HW_ => ?_)
   generalize wr.drew = w9 at HB HR551_0 HR552_0 hx551_0 hx552_0 hHeld ⊢
   refine pu 0 17 10 1 HT_ ?_
   refine pu 1 18 10 3 HT_ ?_
   refine pu 2 19 10 7 HT_ ?_
   refine pu 4 21 10 23 HT_ ?_
   refine pu 5 22 10 55 HT_ ?_
   refine pu 6 23 10 119 HT_ ?_
   refine tk 3 20 10 127 HT_ HW_ hHeld ?_
   refine tk 7 24 10 255 HT_ HW_ hHeld ?_
   refine on 8 (some 25) 10 511 HT_ fun K hK => ?_
   refine goes_ Try.func49 (by kernel_rfl) rfl #[.slice A551_0 (rd_L12 l0 x5_1).length c551_0, .slice A552_0 (rd_L12 l1 x5_1).length c552_0] (by rfl) rfl rfl gl ?_
   with_reducible refine (laws_eqValS.calls k1 _ _ (rd_L12 l0 x5_1) _ _ (rd_L12 l1 x5_1) t553 _ ?side1 ?side2 ?side3 ?side4 A7.out).mono ?_
   (case side1 => exact cc (Kd.C_below HR551_0.out HB.out))
   (case side2 => exact HC551_0.out)
   (case side3 => exact cc (Kd.C_below HR552_0.out HB.out))
   (case side4 => exact HC552_0.out)
   rintro e w10 ⟨rfl, hb⟩
   refine ⟨_, rfl, ?_⟩
   replace HB := am (below_step (bw HB) hb)
   clear hb
   refine hK.out _ _ ⟨(cq HB hw551_0), (cq HB hw552_0)⟩ (fun hHeld => ?_)
   clear hK K
   refine nm (some 25) ?_
   refine pu 9 26 10 1023 HT_ ?_
   refine done_ (done_of HT_.out (by kernel_rfl)) ?_
   go_upto_if 26 with (fail)
   (try simp only [Act.put, sa, sz, ss])
   have H := HC8.out
   clear HC8
   refine qT H ?_ ?_ <;> clear H <;> intro c11 H <;> subst c11
   ·have H' := am H
    clear H
    go_wp2
    go_roundg k1
    case measure => have := HK1.out; omega
    case rel => exact ⟨(wrap64 (x5_1 + 1)), dr, H', ⟨by have := HK1.out; omega⟩, ⟨bw HB⟩⟩
   obtain rfl := Option.some.inj H
   go_wp2
   go_ret
   exact ⟨er, bw HB⟩
  obtain rfl := Option.some.inj H
  go_wp2
  go_ret
  exact ⟨er, bw HB⟩
 rw [if_neg c3] at H
 have c3b0 : ((l0.length : Int) == (l1.length : Int)) = false := beq_eq_false_iff_ne.mpr c3
 have c3b1 : ((l0.length : Int) != (l1.length : Int)) = true := bne_iff_ne.mpr c3
 have c3b2 : (l0.length == l1.length) = false := by first | simpa using c3 | (simp at c3 ⊢; omega)
 obtain rfl := Option.some.inj H
 go_enter Try.func22, Try.ntmps22
 go_wp2
 go_ret
 exact ⟨er, bw HB⟩

end Go.Proofs.Ytcdohkilplgmjaa.QFnExactPlain
