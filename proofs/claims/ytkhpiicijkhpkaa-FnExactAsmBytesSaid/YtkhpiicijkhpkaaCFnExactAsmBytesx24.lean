import Derived.Test.YtkhpiicijkhpkaaCFnExactAsmBytesx0
import Derived.Test.YtkhpiicijkhpkaaCFnExactAsmBytesx23
namespace Go.Proofs.Ytkhpiicijkhpkaa.QFnExactAsmBytes
open Go.RowKit Go.Proofs.YtkhpiicijkhpkaaW
open PrintWords PrintLast PrintMore PrintShort PrintIsh
attribute [local go_sem] max2_int min2_int max_two min_two max_three min_three max_four min_four
set_option linter.unusedVariables false
set_option maxHeartbeats 8000000
set_option maxRecDepth 100000
set_option linter.unusedSimpArgs false

def laws_eqAsmIns.f (k : Nat) (l0_0 : List (S84)) (a0_1 : Int) (a0_2 : Int) (l0_3 : List (S82)) (a0_4 : Int) (l1_0 : List (S84)) (a1_1 : Int) (a1_2 : Int) (l1_3 : List (S82)) (a1_4 : Int) : Option (Bool) := (laws_eqMovS.f k l0_0 l1_0).bind fun t694 => (if t694 = true then (if a0_1 = a1_1 then (if a0_2 = a1_2 then ((laws_eqValS.f k l0_3 l1_3).bind fun t695 => (if t695 = true then (if a0_4 = a1_4 then (some true) else (some false)) else (some false))) else (some false)) else (some false)) else (some false))
theorem laws_eqAsmIns.calls (k : Nat) (A0_0 : Option Addr) (c0_0 : Nat) (l0_0 : List (S84)) (a0_1 : Int) (a0_2 : Int) (A0_3 : Option Addr) (c0_3 : Nat) (l0_3 : List (S82)) (a0_4 : Int) (A1_0 : Option Addr) (c1_0 : Nat) (l1_0 : List (S84)) (a1_1 : Int) (a1_2 : Int) (A1_3 : Option Addr) (c1_3 : Nat) (l1_3 : List (S82)) (a1_4 : Int) (r : Bool) (w : World) (hr0_0 : Kd.C k84 w A0_0 l0_0.length l0_0) (hc0_0 : l0_0.length ≤ c0_0) (hr0_3 : Kd.C k82 w A0_3 l0_3.length l0_3) (hc0_3 : l0_3.length ≤ c0_3) (hr1_0 : Kd.C k84 w A1_0 l1_0.length l1_0) (hc1_0 : l1_0.length ≤ c1_0) (hr1_3 : Kd.C k82 w A1_3 l1_3.length l1_3) (hc1_3 : l1_3.length ≤ c1_3) (h : laws_eqAsmIns.f k l0_0 a0_1 a0_2 l0_3 a0_4 l1_0 a1_1 a1_2 l1_3 a1_4 = some r) :
  Calls Try.prog 90 #[.agg #[.slice A0_0 l0_0.length c0_0, .int .i64 a0_1, .int .i64 a0_2, .slice A0_3 l0_3.length c0_3, .int .i64 a0_4], .agg #[.slice A1_0 l1_0.length c1_0, .int .i64 a1_1, .int .i64 a1_2, .slice A1_3 l1_3.length c1_3, .int .i64 a1_4]] w fun e w' => e = .returned (.bool r) ∧ Below w.heap.size w w' := by
 have hu80 := Try.underlying80
 have HR0_0 := am hr0_0
 have HC0_0 := am hc0_0
 clear hr0_0 hc0_0
 have HR0_3 := am hr0_3
 have HC0_3 := am hc0_3
 clear hr0_3 hc0_3
 have HR1_0 := am hr1_0
 have HC1_0 := am hc1_0
 clear hr1_0 hc1_0
 have HR1_3 := am hr1_3
 have HC1_3 := am hc1_3
 clear hr1_3 hc1_3
 have HB := am (Below.refl w.heap.size w)
 have H : ((laws_eqMovS.f k l0_0 l1_0).bind fun t694 => (if t694 = true then (if a0_1 = a1_1 then (if a0_2 = a1_2 then ((laws_eqValS.f k l0_3 l1_3).bind fun t695 => (if t695 = true then (if a0_4 = a1_4 then (some true) else (some false)) else (some false))) else (some false)) else (some false)) else (some false))) = some r := h
 clear h
 refine be H ?_; clear H; intro t694 A3 H
 have HC4 := am H
 clear H
 go_enter Try.func90, Try.ntmps90
 go_upto_if 10 with (first | ((with_reducible refine gd 2 rfl ?_); refine bX 2 #[.slice A0_0 l0_0.length c0_0, .int .i64 a0_1, .int .i64 a0_2, .slice A0_3 l0_3.length c0_3, .int .i64 a0_4] 80 HB ?_; clear HB; intro gb692 w5 hg hb BK692 GW692 HB; clear hb hg) | ((with_reducible refine gd 3 rfl ?_); refine bX 3 #[.slice A1_0 l1_0.length c1_0, .int .i64 a1_1, .int .i64 a1_2, .slice A1_3 l1_3.length c1_3, .int .i64 a1_4] 80 HB ?_; clear HB; intro gb693 w6 hg hb BK693 GW693 HB; obtain ⟨NB692_693, NB693_692, BK692⟩ := b3 hg BK692 hb; clear hb hg; have hnb7 := NB692_693.out; have hnc7 := NB693_692.out; have hcz8_0 := bk w6 BK692 0; have hcz8_1 := bk w6 BK692 1; have hcz8_2 := bk w6 BK692 2; have hcz8_3 := bk w6 BK692 3; have hcz8_4 := bk w6 BK692 4; have hfz8_0 := bf BK692 0; have hfz8_1 := bf BK692 1; have hfz8_2 := bf BK692 2; have hfz8_3 := bf BK692 3; have hfz8_4 := bf BK692 4; have hcz9_0 := bk w6 BK693 0; have hcz9_1 := bk w6 BK693 1; have hcz9_2 := bk w6 BK693 2; have hcz9_3 := bk w6 BK693 3; have hcz9_4 := bk w6 BK693 4; have hfz9_0 := bf BK693 0; have hfz9_1 := bf BK693 1; have hfz9_2 := bf BK693 2; have hfz9_3 := bf BK693 3; have hfz9_4 := bf BK693 4) | ((with_reducible refine gk 135 rfl ?_); refine gB 135 (some 9) Try.func135 #[.slice A0_0 l0_0.length c0_0, .slice A1_0 l1_0.length c1_0] (laws_eqMovS.calls k _ _ l0_0 _ _ l1_0 t694 _ (cc (Kd.C_below HR0_0.out HB.out)) HC0_0.out (cc (Kd.C_below HR1_0.out HB.out)) HC1_0.out A3.out) ?_; intro w10 hb; replace BK692 := bb BK692 hb; replace BK693 := bb BK693 hb; replace HB := bs HB hb; clear hb))
 (try simp only [Act.put, sa, sz, ss])
 have H := HC4.out
 clear HC4
 refine qT H ?_ ?_ <;> clear H <;> intro c11 H <;> subst c11
 ·refine qE H ?_ ?_ <;> clear H
  ·intro c12b0 c12b1 H
   (first | rw [c12b0] | (simp only [i64_w, i32_w]; rw [c12b0]) | skip)
   refine qE H ?_ ?_ <;> clear H
   ·intro c13b0 c13b1 H
    refine be H ?_; clear H; intro t695 A14 H
    have HC15 := am H
    clear H
    have hnb16 := NB692_693.out
    have hnc16 := NB693_692.out
    have hcz17_0 := bk w10 BK692 0
    have hcz17_1 := bk w10 BK692 1
    have hcz17_2 := bk w10 BK692 2
    have hcz17_3 := bk w10 BK692 3
    have hcz17_4 := bk w10 BK692 4
    have hfz17_0 := bf BK692 0
    have hfz17_1 := bf BK692 1
    have hfz17_2 := bf BK692 2
    have hfz17_3 := bf BK692 3
    have hfz17_4 := bf BK692 4
    have hcz18_0 := bk w10 BK693 0
    have hcz18_1 := bk w10 BK693 1
    have hcz18_2 := bk w10 BK693 2
    have hcz18_3 := bk w10 BK693 3
    have hcz18_4 := bk w10 BK693 4
    have hfz18_0 := bf BK693 0
    have hfz18_1 := bf BK693 1
    have hfz18_2 := bf BK693 2
    have hfz18_3 := bf BK693 3
    have hfz18_4 := bf BK693 4
    go_upto_if 26 with (first | ((with_reducible refine gk 91 rfl ?_); refine gB 91 (some 25) Try.func91 #[.slice A0_3 l0_3.length c0_3, .slice A1_3 l1_3.length c1_3] (laws_eqValS.calls k _ _ l0_3 _ _ l1_3 t695 _ (cc (Kd.C_below HR0_3.out HB.out)) HC0_3.out (cc (Kd.C_below HR1_3.out HB.out)) HC1_3.out A14.out) ?_; intro w19 hb; replace BK692 := bb BK692 hb; replace BK693 := bb BK693 hb; replace HB := bs HB hb; clear hb))
    (try simp only [Act.put, sa, sz, ss])
    have H := HC15.out
    clear HC15
    refine qT H ?_ ?_ <;> clear H <;> intro c20 H <;> subst c20
    ·refine qE H ?_ ?_ <;> clear H
     ·intro c21b0 c21b1 H
      (first | rw [c21b0] | (simp only [i64_w, i32_w]; rw [c21b0]) | skip)
      obtain rfl := oi H
      have hnb22 := NB692_693.out
      have hnc22 := NB693_692.out
      have hcz23_0 := bk w19 BK692 0
      have hcz23_1 := bk w19 BK692 1
      have hcz23_2 := bk w19 BK692 2
      have hcz23_3 := bk w19 BK692 3
      have hcz23_4 := bk w19 BK692 4
      have hfz23_0 := bf BK692 0
      have hfz23_1 := bf BK692 1
      have hfz23_2 := bf BK692 2
      have hfz23_3 := bf BK692 3
      have hfz23_4 := bf BK692 4
      have hcz24_0 := bk w19 BK693 0
      have hcz24_1 := bk w19 BK693 1
      have hcz24_2 := bk w19 BK693 2
      have hcz24_3 := bk w19 BK693 3
      have hcz24_4 := bk w19 BK693 4
      have hfz24_0 := bf BK693 0
      have hfz24_1 := bf BK693 1
      have hfz24_2 := bf BK693 2
      have hfz24_3 := bf BK693 3
      have hfz24_4 := bf BK693 4
      go_wp2
      go_ret
      exact ⟨er, bw HB⟩
     intro c21 c21b0 c21b1 H
     (first | rw [c21b0] | (simp only [i64_w, i32_w]; rw [c21b0]) | skip)
     obtain rfl := oi H
     have hnb25 := NB692_693.out
     have hnc25 := NB693_692.out
     have hcz26_0 := bk w19 BK692 0
     have hcz26_1 := bk w19 BK692 1
     have hcz26_2 := bk w19 BK692 2
     have hcz26_3 := bk w19 BK692 3
     have hcz26_4 := bk w19 BK692 4
     have hfz26_0 := bf BK692 0
     have hfz26_1 := bf BK692 1
     have hfz26_2 := bf BK692 2
     have hfz26_3 := bf BK692 3
     have hfz26_4 := bf BK692 4
     have hcz27_0 := bk w19 BK693 0
     have hcz27_1 := bk w19 BK693 1
     have hcz27_2 := bk w19 BK693 2
     have hcz27_3 := bk w19 BK693 3
     have hcz27_4 := bk w19 BK693 4
     have hfz27_0 := bf BK693 0
     have hfz27_1 := bf BK693 1
     have hfz27_2 := bf BK693 2
     have hfz27_3 := bf BK693 3
     have hfz27_4 := bf BK693 4
     go_wp2
     go_ret
     exact ⟨er, bw HB⟩
    obtain rfl := oi H
    go_wp2
    go_ret
    exact ⟨er, bw HB⟩
   intro c13 c13b0 c13b1 H
   obtain rfl := oi H
   have hnb28 := NB692_693.out
   have hnc28 := NB693_692.out
   have hcz29_0 := bk w10 BK692 0
   have hcz29_1 := bk w10 BK692 1
   have hcz29_2 := bk w10 BK692 2
   have hcz29_3 := bk w10 BK692 3
   have hcz29_4 := bk w10 BK692 4
   have hfz29_0 := bf BK692 0
   have hfz29_1 := bf BK692 1
   have hfz29_2 := bf BK692 2
   have hfz29_3 := bf BK692 3
   have hfz29_4 := bf BK692 4
   have hcz30_0 := bk w10 BK693 0
   have hcz30_1 := bk w10 BK693 1
   have hcz30_2 := bk w10 BK693 2
   have hcz30_3 := bk w10 BK693 3
   have hcz30_4 := bk w10 BK693 4
   have hfz30_0 := bf BK693 0
   have hfz30_1 := bf BK693 1
   have hfz30_2 := bf BK693 2
   have hfz30_3 := bf BK693 3
   have hfz30_4 := bf BK693 4
   go_wp2
   go_ret
   exact ⟨er, bw HB⟩
  intro c12 c12b0 c12b1 H
  (first | rw [c12b0] | (simp only [i64_w, i32_w]; rw [c12b0]) | skip)
  obtain rfl := oi H
  have hnb31 := NB692_693.out
  have hnc31 := NB693_692.out
  have hcz32_0 := bk w10 BK692 0
  have hcz32_1 := bk w10 BK692 1
  have hcz32_2 := bk w10 BK692 2
  have hcz32_3 := bk w10 BK692 3
  have hcz32_4 := bk w10 BK692 4
  have hfz32_0 := bf BK692 0
  have hfz32_1 := bf BK692 1
  have hfz32_2 := bf BK692 2
  have hfz32_3 := bf BK692 3
  have hfz32_4 := bf BK692 4
  have hcz33_0 := bk w10 BK693 0
  have hcz33_1 := bk w10 BK693 1
  have hcz33_2 := bk w10 BK693 2
  have hcz33_3 := bk w10 BK693 3
  have hcz33_4 := bk w10 BK693 4
  have hfz33_0 := bf BK693 0
  have hfz33_1 := bf BK693 1
  have hfz33_2 := bf BK693 2
  have hfz33_3 := bf BK693 3
  have hfz33_4 := bf BK693 4
  go_wp2
  go_ret
  exact ⟨er, bw HB⟩
 obtain rfl := oi H
 go_wp2
 go_ret
 exact ⟨er, bw HB⟩

def laws_eqAsmInsS.l0 : Nat → List (S80) → List (S80) → Int → Option (Bool)
 | 0, _, _, _ => none
 | k + 1, x0, x1, x5 => if x5 < (x0.length : Int) then (if 0 ≤ x5 then (if x5 < (x1.length : Int) then ((laws_eqAsmIns.f k ((rd_T80 x0 x5).f0) ((rd_T80 x0 x5).f1) ((rd_T80 x0 x5).f2) ((rd_T80 x0 x5).f3) ((rd_T80 x0 x5).f4) ((rd_T80 x1 x5).f0) ((rd_T80 x1 x5).f1) ((rd_T80 x1 x5).f2) ((rd_T80 x1 x5).f3) ((rd_T80 x1 x5).f4)).bind fun t698 => (if t698 = true then (laws_eqAsmInsS.l0 k x0 x1 (wrap64 (x5 + 1))) else (some false))) else (none)) else (none)) else (some true)
def laws_eqAsmInsS.f (k : Nat) (l0 : List (S80)) (l1 : List (S80)) : Option (Bool) := if (l0.length : Int) = (l1.length : Int) then (laws_eqAsmInsS.l0 k l0 l1 0) else (some false)
def laws_eqAsmInsS.T6 : Bool × List (List Nat × List Nat) := (true, [([], []), ([], []), ([0, 1], [0, 1]), ([2], [2]), ([], []), ([], []), ([4, 5], [4, 5]), ([6], [6]), ([3, 7], [3, 7]), ([8], [8])])
def laws_eqAsmInsS.B6 : List Nat := [0, 0, 3, 7, 0, 0, 48, 112, 255, 511]
theorem laws_eqAsmInsS.tab6 : rtab .any (opsOf Try.f52 6) = laws_eqAsmInsS.T6 := by kernel_rfl
theorem laws_eqAsmInsS.bits6 : waitsOk laws_eqAsmInsS.T6.2 laws_eqAsmInsS.B6 = true := by kernel_rfl
theorem laws_eqAsmInsS.calls (k : Nat) (A0 : Option Addr) (c0 : Nat) (l0 : List (S80)) (A1 : Option Addr) (c1 : Nat) (l1 : List (S80)) (r : Bool) (w : World) (hr0 : Kd.C k80 w A0 l0.length l0) (hc0 : l0.length ≤ c0) (hr1 : Kd.C k80 w A1 l1.length l1) (hc1 : l1.length ≤ c1) (h : laws_eqAsmInsS.f k l0 l1 = some r) :
  Calls Try.prog 52 #[.slice A0 l0.length c0, .slice A1 l1.length c1] w fun e w' => e = .returned (.bool r) ∧ Below w.heap.size w w' := by
 have hu80 := Try.underlying80
 have HR0 := am hr0
 have HC0 := am hc0
 clear hr0 hc0
 have HR1 := am hr1
 have HC1 := am hc1
 clear hr1 hc1
 have HB := am (Below.refl w.heap.size w)
 have H : (if (l0.length : Int) = (l1.length : Int) then (laws_eqAsmInsS.l0 k l0 l1 0) else (some false)) = some r := h
 clear h
 by_cases c3 : (l0.length : Int) = (l1.length : Int)
 ·rw [if_pos c3] at H
  have c3b0 : ((l0.length : Int) == (l1.length : Int)) = true := beq_iff_eq.mpr c3
  have c3b1 : ((l0.length : Int) != (l1.length : Int)) = false := bne_eq_false_iff_eq.mpr c3
  have c3b2 : (l0.length == l1.length) = true := by first | simpa using c3 | (simp at c3 ⊢; omega)
  clear c3
  have H' := am H
  clear H
  go_enter Try.func52, Try.ntmps52
  go_wp2
  go_loopg [5] k (fun kq v5 w' => ∃ (x5_1 : Int), v5 = .int .i64 x5_1 ∧ Aside0 (laws_eqAsmInsS.l0 kq l0 l1 x5_1 = some r) ∧ Aside0 (kq ≤ k) ∧ Aside0 (Below w.heap.size w w'))
  case atStart => exact ⟨(0), dr, H', ⟨Nat.le_refl _⟩, ⟨bw HB⟩⟩
  clear H'
  obtain ⟨x5_1, rfl, HA, HK1, HB⟩ := hrel
  rcases gk with _ | k1
  ·exact absurd HA.out (by simp [laws_eqAsmInsS.l0])
  have H := HA.out
  clear HA
  simp only [laws_eqAsmInsS.l0] at H
  refine qI H ?_ ?_ <;> clear H <;> intro c4b0 H
  ·refine iM H ?_; clear H; intro c5b0 H
   refine iM H ?_; clear H; intro c6b0 H
   refine be H ?_; clear H; intro t698 A7 H
   have HC8 := am H
   clear H
   try go_wp2
   replace HB := am (below_drew1 HB.out)
   have p696 : 0 ≤ (x5_1 : Int) := dt
   have q696 : x5_1 < (l0.length : Int) := dt
   obtain ⟨ad696, A696_0, c696_0, A696_3, c696_3, e696, hx696_0, hx696_1, hx696_2, hx696_3, hx696_4, hl696_0, hi696_0, hl696_3, hi696_3⟩ := at_T80 HR0.out x5_1 p696 q696
   have hw696_4 := hx696_4
   have hw696_3 := hx696_3
   have hw696_2 := hx696_2
   have hw696_1 := hx696_1
   have hw696_0 := hx696_0
   cases e696
   replace hx696_0 := cl HB hx696_0
   replace hx696_1 := cl HB hx696_1
   replace hx696_2 := cl HB hx696_2
   replace hx696_3 := cl HB hx696_3
   replace hx696_4 := cl HB hx696_4
   have HR696_0 := am hi696_0
   have HC696_0 := am hl696_0
   clear hi696_0 hl696_0
   have HR696_3 := am hi696_3
   have HC696_3 := am hl696_3
   clear hi696_3 hl696_3
   replace p696 := eq_true p696
   replace q696 := eq_true q696
   have p697 : 0 ≤ (x5_1 : Int) := dt
   have q697 : x5_1 < (l1.length : Int) := dt
   obtain ⟨ad697, A697_0, c697_0, A697_3, c697_3, e697, hx697_0, hx697_1, hx697_2, hx697_3, hx697_4, hl697_0, hi697_0, hl697_3, hi697_3⟩ := at_T80 HR1.out x5_1 p697 q697
   have hw697_4 := hx697_4
   have hw697_3 := hx697_3
   have hw697_2 := hx697_2
   have hw697_1 := hx697_1
   have hw697_0 := hx697_0
   cases e697
   replace hx697_0 := cl HB hx697_0
   replace hx697_1 := cl HB hx697_1
   replace hx697_2 := cl HB hx697_2
   replace hx697_3 := cl HB hx697_3
   replace hx697_4 := cl HB hx697_4
   have HR697_0 := am hi697_0
   have HC697_0 := am hl697_0
   clear hi697_0 hl697_0
   have HR697_3 := am hi697_3
   have HC697_3 := am hl697_3
   clear hi697_3 hl697_3
   replace p697 := eq_true p697
   replace q697 := eq_true q697
   refine start_ (n := 10) (S := fun w' => w'.cell? (ad696.add ((x5_1).toNat * 5)) = some (.slice A696_0 ((rd_T80 l0 x5_1).f0).length c696_0) ∧ w'.cell? ⟨(ad696.add ((x5_1).toNat * 5)).block, (ad696.add ((x5_1).toNat * 5)).off + 1, none⟩ = some (.int .i64 ((rd_T80 l0 x5_1).f1)) ∧ w'.cell? ⟨(ad696.add ((x5_1).toNat * 5)).block, (ad696.add ((x5_1).toNat * 5)).off + 2, none⟩ = some (.int .i64 ((rd_T80 l0 x5_1).f2)) ∧ w'.cell? ⟨(ad696.add ((x5_1).toNat * 5)).block, (ad696.add ((x5_1).toNat * 5)).off + 3, none⟩ = some (.slice A696_3 ((rd_T80 l0 x5_1).f3).length c696_3) ∧ w'.cell? ⟨(ad696.add ((x5_1).toNat * 5)).block, (ad696.add ((x5_1).toNat * 5)).off + 4, none⟩ = some (.int .i64 ((rd_T80 l0 x5_1).f4)) ∧ w'.cell? (ad697.add ((x5_1).toNat * 5)) = some (.slice A697_0 ((rd_T80 l1 x5_1).f0).length c697_0) ∧ w'.cell? ⟨(ad697.add ((x5_1).toNat * 5)).block, (ad697.add ((x5_1).toNat * 5)).off + 1, none⟩ = some (.int .i64 ((rd_T80 l1 x5_1).f1)) ∧ w'.cell? ⟨(ad697.add ((x5_1).toNat * 5)).block, (ad697.add ((x5_1).toNat * 5)).off + 2, none⟩ = some (.int .i64 ((rd_T80 l1 x5_1).f2)) ∧ w'.cell? ⟨(ad697.add ((x5_1).toNat * 5)).block, (ad697.add ((x5_1).toNat * 5)).off + 3, none⟩ = some (.slice A697_3 ((rd_T80 l1 x5_1).f3).length c697_3) ∧ w'.cell? ⟨(ad697.add ((x5_1).toNat * 5)).block, (ad697.add ((x5_1).toNat * 5)).off + 4, none⟩ = some (.int .i64 ((rd_T80 l1 x5_1).f4))) (ds := []) (bv 10 0) (by kernel_rfl) rfl (by kernel_rfl) ⟨(cq HB hw696_0), (cq HB hw696_1), (cq HB hw696_2), (cq HB hw696_3), (cq HB hw696_4), (cq HB hw697_0), (cq HB hw697_1), (cq HB hw697_2), (cq HB hw697_3), (cq HB hw697_4)⟩ (fun hHeld => ?_); refine with_tabW laws_eqAsmInsS.tab6 laws_eqAsmInsS.bits6 (fun HT_ HW_ => ?_)
   generalize wr.drew = w9 at HB HR696_0 HR696_3 HR697_0 HR697_3 hx696_0 hx696_1 hx696_2 hx696_3 hx696_4 hx697_0 hx697_1 hx697_2 hx697_3 hx697_4 hHeld ⊢
   refine pu 0 17 10 1 HT_ ?_
   refine pu 1 18 10 3 HT_ ?_
   refine pu 2 19 10 7 HT_ ?_
   refine pu 4 21 10 23 HT_ ?_
   refine pu 5 22 10 55 HT_ ?_
   refine pu 6 23 10 119 HT_ ?_
   refine tk 3 20 10 127 HT_ HW_ hHeld ?_
   refine tk 7 24 10 255 HT_ HW_ hHeld ?_
   refine on 8 (some 25) 10 511 HT_ fun K hK => ?_
   refine goes_ Try.func90 (by kernel_rfl) rfl #[.agg #[.slice A696_0 ((rd_T80 l0 x5_1).f0).length c696_0, .int .i64 ((rd_T80 l0 x5_1).f1), .int .i64 ((rd_T80 l0 x5_1).f2), .slice A696_3 ((rd_T80 l0 x5_1).f3).length c696_3, .int .i64 ((rd_T80 l0 x5_1).f4)], .agg #[.slice A697_0 ((rd_T80 l1 x5_1).f0).length c697_0, .int .i64 ((rd_T80 l1 x5_1).f1), .int .i64 ((rd_T80 l1 x5_1).f2), .slice A697_3 ((rd_T80 l1 x5_1).f3).length c697_3, .int .i64 ((rd_T80 l1 x5_1).f4)]] (by rfl) rfl rfl gl ?_
   with_reducible refine (laws_eqAsmIns.calls k1 _ _ ((rd_T80 l0 x5_1).f0) ((rd_T80 l0 x5_1).f1) ((rd_T80 l0 x5_1).f2) _ _ ((rd_T80 l0 x5_1).f3) ((rd_T80 l0 x5_1).f4) _ _ ((rd_T80 l1 x5_1).f0) ((rd_T80 l1 x5_1).f1) ((rd_T80 l1 x5_1).f2) _ _ ((rd_T80 l1 x5_1).f3) ((rd_T80 l1 x5_1).f4) t698 _ ?side1 ?side2 ?side3 ?side4 ?side5 ?side6 ?side7 ?side8 A7.out).mono ?_
   (case side1 => exact cc (Kd.C_below HR696_0.out HB.out))
   (case side2 => exact HC696_0.out)
   (case side3 => exact cc (Kd.C_below HR696_3.out HB.out))
   (case side4 => exact HC696_3.out)
   (case side5 => exact cc (Kd.C_below HR697_0.out HB.out))
   (case side6 => exact HC697_0.out)
   (case side7 => exact cc (Kd.C_below HR697_3.out HB.out))
   (case side8 => exact HC697_3.out)
   rintro e w10 ⟨rfl, hb⟩
   refine ⟨_, rfl, ?_⟩
   replace HB := am (below_step (bw HB) hb)
   clear hb
   refine hK.out _ _ ⟨(cq HB hw696_0), (cq HB hw696_1), (cq HB hw696_2), (cq HB hw696_3), (cq HB hw696_4), (cq HB hw697_0), (cq HB hw697_1), (cq HB hw697_2), (cq HB hw697_3), (cq HB hw697_4)⟩ (fun hHeld => ?_)
   clear hK K
   refine nm (some 25) ?_
   refine pu 9 26 10 1023 HT_ ?_
   refine done_ (done_of HT_.out (by kernel_rfl)) ?_
   go_upto_if 26 with (fail)
   (try simp only [Act.put, sa, sz, ss])
   have H := HC8.out
   clear HC8
   refine qT H ?_ ?_ <;> clear H <;> intro c11 H <;> subst c11
   ·have H' := am H
    clear H
    go_wp2
    go_roundg k1
    case measure => have := HK1.out; omega
    case rel => exact ⟨(wrap64 (x5_1 + 1)), dr, H', ⟨by have := HK1.out; omega⟩, ⟨bw HB⟩⟩
   obtain rfl := oi H
   go_wp2
   go_ret
   exact ⟨er, bw HB⟩
  obtain rfl := oi H
  go_wp2
  go_ret
  exact ⟨er, bw HB⟩
 rw [if_neg c3] at H
 have c3b0 : ((l0.length : Int) == (l1.length : Int)) = false := beq_eq_false_iff_ne.mpr c3
 have c3b1 : ((l0.length : Int) != (l1.length : Int)) = true := bne_iff_ne.mpr c3
 have c3b2 : (l0.length == l1.length) = false := by first | simpa using c3 | (simp at c3 ⊢; omega)
 obtain rfl := oi H
 go_enter Try.func52, Try.ntmps52
 go_wp2
 go_ret
 exact ⟨er, bw HB⟩

def laws_eqValSS.l0 : Nat → List (List (S82)) → List (List (S82)) → Int → Option (Bool)
 | 0, _, _, _ => none
 | k + 1, x0, x1, x5 => if x5 < (x0.length : Int) then (if 0 ≤ x5 then (if x5 < (x1.length : Int) then ((laws_eqValS.f k (rd_L17 x0 x5) (rd_L17 x1 x5)).bind fun t701 => (if t701 = true then (laws_eqValSS.l0 k x0 x1 (wrap64 (x5 + 1))) else (some false))) else (none)) else (none)) else (some true)
def laws_eqValSS.f (k : Nat) (l0 : List (List (S82))) (l1 : List (List (S82))) : Option (Bool) := if (l0.length : Int) = (l1.length : Int) then (laws_eqValSS.l0 k l0 l1 0) else (some false)
def laws_eqValSS.T6 : Bool × List (List Nat × List Nat) := (true, [([], []), ([], []), ([0, 1], [0, 1]), ([2], [2]), ([], []), ([], []), ([4, 5], [4, 5]), ([6], [6]), ([3, 7], [3, 7]), ([8], [8])])
def laws_eqValSS.B6 : List Nat := [0, 0, 3, 7, 0, 0, 48, 112, 255, 511]
theorem laws_eqValSS.tab6 : rtab .any (opsOf Try.f53 6) = laws_eqValSS.T6 := by kernel_rfl
theorem laws_eqValSS.bits6 : waitsOk laws_eqValSS.T6.2 laws_eqValSS.B6 = true := by kernel_rfl
theorem laws_eqValSS.calls (k : Nat) (A0 : Option Addr) (c0 : Nat) (l0 : List (List (S82))) (A1 : Option Addr) (c1 : Nat) (l1 : List (List (S82))) (r : Bool) (w : World) (hr0 : Kd.C (Kd.slice 82 k82) w A0 l0.length l0) (hc0 : l0.length ≤ c0) (hr1 : Kd.C (Kd.slice 82 k82) w A1 l1.length l1) (hc1 : l1.length ≤ c1) (h : laws_eqValSS.f k l0 l1 = some r) :
  Calls Try.prog 53 #[.slice A0 l0.length c0, .slice A1 l1.length c1] w fun e w' => e = .returned (.bool r) ∧ Below w.heap.size w w' := by
 have HR0 := am hr0
 have HC0 := am hc0
 clear hr0 hc0
 have HR1 := am hr1
 have HC1 := am hc1
 clear hr1 hc1
 have HB := am (Below.refl w.heap.size w)
 have H : (if (l0.length : Int) = (l1.length : Int) then (laws_eqValSS.l0 k l0 l1 0) else (some false)) = some r := h
 clear h
 by_cases c3 : (l0.length : Int) = (l1.length : Int)
 ·rw [if_pos c3] at H
  have c3b0 : ((l0.length : Int) == (l1.length : Int)) = true := beq_iff_eq.mpr c3
  have c3b1 : ((l0.length : Int) != (l1.length : Int)) = false := bne_eq_false_iff_eq.mpr c3
  have c3b2 : (l0.length == l1.length) = true := by first | simpa using c3 | (simp at c3 ⊢; omega)
  clear c3
  have H' := am H
  clear H
  go_enter Try.func53, Try.ntmps53
  go_wp2
  go_loopg [5] k (fun kq v5 w' => ∃ (x5_1 : Int), v5 = .int .i64 x5_1 ∧ Aside0 (laws_eqValSS.l0 kq l0 l1 x5_1 = some r) ∧ Aside0 (kq ≤ k) ∧ Aside0 (Below w.heap.size w w'))
  case atStart => exact ⟨(0), dr, H', ⟨Nat.le_refl _⟩, ⟨bw HB⟩⟩
  clear H'
  obtain ⟨x5_1, rfl, HA, HK1, HB⟩ := hrel
  rcases gk with _ | k1
  ·exact absurd HA.out (by simp [laws_eqValSS.l0])
  have H := HA.out
  clear HA
  simp only [laws_eqValSS.l0] at H
  refine qI H ?_ ?_ <;> clear H <;> intro c4b0 H
  ·refine iM H ?_; clear H; intro c5b0 H
   refine iM H ?_; clear H; intro c6b0 H
   refine be H ?_; clear H; intro t701 A7 H
   have HC8 := am H
   clear H
   try go_wp2
   replace HB := am (below_drew1 HB.out)
   have p699 : 0 ≤ (x5_1 : Int) := dt
   have q699 : x5_1 < (l0.length : Int) := dt
   obtain ⟨ad699, A699_0, c699_0, e699, hx699_0, hl699_0, hi699_0⟩ := at_L17 HR0.out x5_1 p699 q699
   have hw699_0 := hx699_0
   cases e699
   replace hx699_0 := cl HB hx699_0
   have HR699_0 := am hi699_0
   have HC699_0 := am hl699_0
   clear hi699_0 hl699_0
   replace p699 := eq_true p699
   replace q699 := eq_true q699
   have p700 : 0 ≤ (x5_1 : Int) := dt
   have q700 : x5_1 < (l1.length : Int) := dt
   obtain ⟨ad700, A700_0, c700_0, e700, hx700_0, hl700_0, hi700_0⟩ := at_L17 HR1.out x5_1 p700 q700
   have hw700_0 := hx700_0
   cases e700
   replace hx700_0 := cl HB hx700_0
   have HR700_0 := am hi700_0
   have HC700_0 := am hl700_0
   clear hi700_0 hl700_0
   replace p700 := eq_true p700
   replace q700 := eq_true q700
   refine start_ (n := 10) (S := fun w' => w'.cell? (ad699.add (x5_1).toNat) = some (.slice A699_0 (rd_L17 l0 x5_1).length c699_0) ∧ w'.cell? (ad700.add (x5_1).toNat) = some (.slice A700_0 (rd_L17 l1 x5_1).length c700_0)) (ds := []) (bv 10 0) (by kernel_rfl) rfl (by kernel_rfl) ⟨(cq HB hw699_0), (cq HB hw700_0)⟩ (fun hHeld => ?_); refine with_tabW laws_eqValSS.tab6 laws_eqValSS.bits6 (fun HT_ HW_ => ?_)
   generalize wr.drew = w9 at HB HR699_0 HR700_0 hx699_0 hx700_0 hHeld ⊢
   refine pu 0 17 10 1 HT_ ?_
   refine pu 1 18 10 3 HT_ ?_
   refine pu 2 19 10 7 HT_ ?_
   refine pu 4 21 10 23 HT_ ?_
   refine pu 5 22 10 55 HT_ ?_
   refine pu 6 23 10 119 HT_ ?_
   refine tk 3 20 10 127 HT_ HW_ hHeld ?_
   refine tk 7 24 10 255 HT_ HW_ hHeld ?_
   refine on 8 (some 25) 10 511 HT_ fun K hK => ?_
   refine goes_ Try.func91 (by kernel_rfl) rfl #[.slice A699_0 (rd_L17 l0 x5_1).length c699_0, .slice A700_0 (rd_L17 l1 x5_1).length c700_0] (by rfl) rfl rfl gl ?_
   with_reducible refine (laws_eqValS.calls k1 _ _ (rd_L17 l0 x5_1) _ _ (rd_L17 l1 x5_1) t701 _ ?side1 ?side2 ?side3 ?side4 A7.out).mono ?_
   (case side1 => exact cc (Kd.C_below HR699_0.out HB.out))
   (case side2 => exact HC699_0.out)
   (case side3 => exact cc (Kd.C_below HR700_0.out HB.out))
   (case side4 => exact HC700_0.out)
   rintro e w10 ⟨rfl, hb⟩
   refine ⟨_, rfl, ?_⟩
   replace HB := am (below_step (bw HB) hb)
   clear hb
   refine hK.out _ _ ⟨(cq HB hw699_0), (cq HB hw700_0)⟩ (fun hHeld => ?_)
   clear hK K
   refine nm (some 25) ?_
   refine pu 9 26 10 1023 HT_ ?_
   refine done_ (done_of HT_.out (by kernel_rfl)) ?_
   go_upto_if 26 with (fail)
   (try simp only [Act.put, sa, sz, ss])
   have H := HC8.out
   clear HC8
   refine qT H ?_ ?_ <;> clear H <;> intro c11 H <;> subst c11
   ·have H' := am H
    clear H
    go_wp2
    go_roundg k1
    case measure => have := HK1.out; omega
    case rel => exact ⟨(wrap64 (x5_1 + 1)), dr, H', ⟨by have := HK1.out; omega⟩, ⟨bw HB⟩⟩
   obtain rfl := oi H
   go_wp2
   go_ret
   exact ⟨er, bw HB⟩
  obtain rfl := oi H
  go_wp2
  go_ret
  exact ⟨er, bw HB⟩
 rw [if_neg c3] at H
 have c3b0 : ((l0.length : Int) == (l1.length : Int)) = false := beq_eq_false_iff_ne.mpr c3
 have c3b1 : ((l0.length : Int) != (l1.length : Int)) = true := bne_iff_ne.mpr c3
 have c3b2 : (l0.length == l1.length) = false := by first | simpa using c3 | (simp at c3 ⊢; omega)
 obtain rfl := oi H
 go_enter Try.func53, Try.ntmps53
 go_wp2
 go_ret
 exact ⟨er, bw HB⟩

end Go.Proofs.Ytkhpiicijkhpkaa.QFnExactAsmBytes
