import Derived.Test.YtmfhmfhkknijeaaCFnExactAsmRightx0
import Derived.Test.YtmfhmfhkknijeaaCFnExactAsmRightx1
import Derived.Test.YtmfhmfhkknijeaaCFnExactAsmRightx2
import Derived.Test.YtmfhmfhkknijeaaCFnExactAsmRightx12
import Derived.Test.YtmfhmfhkknijeaaCFnExactAsmRightx15
namespace Go.Proofs.Ytmfhmfhkknijeaa.QFnExactAsmRight
open Go.RowKit Go.Proofs.YtmfhmfhkknijeaaW
open PrintWords PrintLast PrintMore PrintShort
attribute [local go_sem] max2_int min2_int max_two min_two max_three min_three max_four min_four   -- for this text's walks alone
set_option linter.unusedVariables false
set_option maxHeartbeats 8000000
set_option maxRecDepth 100000
set_option linter.unusedSimpArgs false

attribute [local go_sem high] eqA63 eqA93
def impl_prog_reached.f (l0_0 : List (S50)) (l0_1 : List (List Int)) (a1 : Int) (a2 : Int) : Option (Bool) := (impl_hasFunc.f l0_0 a1).bind fun t443 => (if t443 = true then (if a2 ≥ 0 then (if 0 ≤ a1 then (if a1 < (l0_1.length : Int) then (if a2 < ((rd_L19 l0_1 a1).length : Int) then (if 0 ≤ a2 then (some (decide ((rd (rd_L19 l0_1 a1) a2) ≥ 0))) else (none)) else (some false)) else (none)) else (none)) else (some false)) else (some false))
theorem impl_prog_reached.calls (g0_ : Nat) (A0_0 : Option Addr) (c0_0 : Nat) (l0_0 : List (S50)) (A0_1 : Option Addr) (c0_1 : Nat) (l0_1 : List (List Int)) (a1 : Int) (a2 : Int) (r : Bool) (w : World) (hp0 : w.heap[g0_]? = some (.cells #[.slice A0_0 l0_0.length c0_0, .slice A0_1 l0_1.length c0_1] 101 (0, 0))) (hr0_0 : Kd.C k50 w A0_0 l0_0.length l0_0) (hc0_0 : l0_0.length ≤ c0_0) (hr0_1 : Kd.C (Kd.slice 2 (Kd.int .i64)) w A0_1 l0_1.length l0_1) (hc0_1 : l0_1.length ≤ c0_1) (h : impl_prog_reached.f l0_0 l0_1 a1 a2 = some r) :
  Calls Try.prog 44 #[.pointer (some ⟨g0_, 0, none⟩), .int .i64 a1, .int .i64 a2] w fun e w' => e = .returned (.bool r) ∧ Below w.heap.size w w' := by
 have hu34 := Try.underlying34
 have HP0_ := am hp0
 clear hp0
 have HR0_0 := am hr0_0
 have HC0_0 := am hc0_0
 clear hr0_0 hc0_0
 have HR0_1 := am hr0_1
 have HC0_1 := am hc0_1
 clear hr0_1 hc0_1
 have HB := am (Below.refl w.heap.size w)
 have H : ((impl_hasFunc.f l0_0 a1).bind fun t443 => (if t443 = true then (if a2 ≥ 0 then (if 0 ≤ a1 then (if a1 < (l0_1.length : Int) then (if a2 < ((rd_L19 l0_1 a1).length : Int) then (if 0 ≤ a2 then (some (decide ((rd (rd_L19 l0_1 a1) a2) ≥ 0))) else (none)) else (some false)) else (none)) else (none)) else (some false)) else (some false))) = some r := h
 clear h
 refine be H ?_; clear H; intro t443 A4 H
 refine qT H ?_ ?_ <;> clear H <;> intro c5 H <;> subst c5
 ·refine qL H ?_ ?_ <;> clear H <;> intro c6b0 H
  ·refine iM H ?_; clear H; intro c7b0 H
   refine iM H ?_; clear H; intro c8b0 H
   refine qI H ?_ ?_ <;> clear H <;> intro c9b0 H
   ·refine iM H ?_; clear H; intro c10b0 H
    obtain rfl := Option.some.inj H
    have hcz11 := bK w HP0_
    have hfz11 := bF HP0_
    go_enter Try.func44, Try.ntmps44
    go_wp2_with (first | ((with_reducible refine gk 42 rfl ?_); refine gB 42 (some 12) Try.func42 #[.agg #[.slice A0_0 l0_0.length c0_0], .int .i64 a1] (impl_hasFunc.calls _ _ l0_0 a1 true _ (by repeat (first | exact HR0_0.out | (with_reducible refine Kd.C_alloc ?_ _) | (with_reducible refine Kd.C_drewN ?_ _) | (with_reducible refine Kd.C_drew ?_))) HC0_0.out A4.out) ?_; intro w12 hb; replace HP0_ := bb HP0_ hb; replace HB := bs HB hb; clear hb; have hcz13 := bK w12 HP0_; have hfz13 := bF HP0_; have p444 : 0 ≤ (a1 : Int) := of_decide_eq_true as1; have q444 : a1 < (l0_1.length : Int) := of_decide_eq_true as1; obtain ⟨ad444, A444_0, c444_0, e444, hx444_0, hl444_0, hi444_0⟩ := at_L19 HR0_1.out a1 p444 q444; cases e444; replace hx444_0 := cl HB hx444_0; have HR444_0 := am hi444_0; have HC444_0 := am hl444_0; clear hi444_0 hl444_0; replace p444 := eq_true p444; replace q444 := eq_true q444; have p445 : 0 ≤ (a1 : Int) := of_decide_eq_true as1; have q445 : a1 < (l0_1.length : Int) := of_decide_eq_true as1; obtain ⟨ad445, A445_0, c445_0, e445, hx445_0, hl445_0, hi445_0⟩ := at_L19 HR0_1.out a1 p445 q445; obtain rfl : ad444 = ad445 := (by injection e445); replace hx445_0 := cl HB hx445_0; have HR445_0 := am hi445_0; have HC445_0 := am hl445_0; clear hi445_0 hl445_0; replace p445 := eq_true p445; replace q445 := eq_true q445; have ea_ := Option.some.inj (hx444_0.symm.trans hx445_0); injection ea_ with ea_ en_ ec_; subst ea_; subst ec_; clear en_; have p446 : 0 ≤ (a2 : Int) := of_decide_eq_true as1; have q446 : a2 < ((rd_L19 l0_1 a1).length : Int) := of_decide_eq_true as1; obtain ⟨ad446, e446, hx446_0⟩ := Kd.at_int HR445_0.out a2 p446 q446; cases e446; replace hx446_0 := cl HB hx446_0; replace p446 := eq_true p446; replace q446 := eq_true q446))
    go_ret
    exact ⟨er, bw HB⟩
   obtain rfl := Option.some.inj H
   have hcz14 := bK w HP0_
   have hfz14 := bF HP0_
   go_enter Try.func44, Try.ntmps44
   go_wp2_with (first | ((with_reducible refine gk 42 rfl ?_); refine gB 42 (some 12) Try.func42 #[.agg #[.slice A0_0 l0_0.length c0_0], .int .i64 a1] (impl_hasFunc.calls _ _ l0_0 a1 true _ (by repeat (first | exact HR0_0.out | (with_reducible refine Kd.C_alloc ?_ _) | (with_reducible refine Kd.C_drewN ?_ _) | (with_reducible refine Kd.C_drew ?_))) HC0_0.out A4.out) ?_; intro w15 hb; replace HP0_ := bb HP0_ hb; replace HB := bs HB hb; clear hb; have hcz16 := bK w15 HP0_; have hfz16 := bF HP0_; have p444 : 0 ≤ (a1 : Int) := of_decide_eq_true as1; have q444 : a1 < (l0_1.length : Int) := of_decide_eq_true as1; obtain ⟨ad444, A444_0, c444_0, e444, hx444_0, hl444_0, hi444_0⟩ := at_L19 HR0_1.out a1 p444 q444; cases e444; replace hx444_0 := cl HB hx444_0; have HR444_0 := am hi444_0; have HC444_0 := am hl444_0; clear hi444_0 hl444_0; replace p444 := eq_true p444; replace q444 := eq_true q444))
   go_ret
   exact ⟨er, bw HB⟩
  obtain rfl := Option.some.inj H
  have hcz17 := bK w HP0_
  have hfz17 := bF HP0_
  go_enter Try.func44, Try.ntmps44
  go_wp2_with (first | ((with_reducible refine gk 42 rfl ?_); refine gB 42 (some 12) Try.func42 #[.agg #[.slice A0_0 l0_0.length c0_0], .int .i64 a1] (impl_hasFunc.calls _ _ l0_0 a1 true _ (by repeat (first | exact HR0_0.out | (with_reducible refine Kd.C_alloc ?_ _) | (with_reducible refine Kd.C_drewN ?_ _) | (with_reducible refine Kd.C_drew ?_))) HC0_0.out A4.out) ?_; intro w18 hb; replace HP0_ := bb HP0_ hb; replace HB := bs HB hb; clear hb))
  go_ret
  exact ⟨er, bw HB⟩
 obtain rfl := Option.some.inj H
 have hcz19 := bK w HP0_
 have hfz19 := bF HP0_
 go_enter Try.func44, Try.ntmps44
 go_wp2_with (first | ((with_reducible refine gk 42 rfl ?_); refine gB 42 (some 12) Try.func42 #[.agg #[.slice A0_0 l0_0.length c0_0], .int .i64 a1] (impl_hasFunc.calls _ _ l0_0 a1 false _ (by repeat (first | exact HR0_0.out | (with_reducible refine Kd.C_alloc ?_ _) | (with_reducible refine Kd.C_drewN ?_ _) | (with_reducible refine Kd.C_drew ?_))) HC0_0.out A4.out) ?_; intro w20 hb; replace HP0_ := bb HP0_ hb; replace HB := bs HB hb; clear hb))
 go_ret
 exact ⟨er, bw HB⟩

def impl_Mov.l0 : Nat → List (S93) → List (S93) → Int → Int → Option (Bool)
 | 0, _, _, _, _ => none
 | k + 1, x0, x1, x12, x13 => if x13 < x12 then (if 0 ≤ x13 then (if x13 < (x0.length : Int) then (if x13 < (x1.length : Int) then (if (!(((rd_T93 x0 x13).f0) == ((rd_T93 x1 x13).f0)) || ((!(((rd_T93 x0 x13).f1.f0) == ((rd_T93 x1 x13).f1.f0)) || (!(((rd_T93 x0 x13).f1.f1) == ((rd_T93 x1 x13).f1.f1)))))) = true then (some false) else (impl_Mov.l0 k x0 x1 x12 (wrap64 (x13 + 1)))) else (none)) else (none)) else (none)) else (some true)
def impl_Mov.f (k : Nat) (l0 : List (S93)) (l1 : List (S93)) : Option (Bool) := if (l0.length : Int) = (l1.length : Int) then (impl_Mov.l0 k l0 l1 (l0.length : Int) 0) else (some false)
theorem impl_Mov.mono_l : ∀ k, (∀ y0 y1 y2 y3, LeO (impl_Mov.l0 k y0 y1 y2 y3) (impl_Mov.l0 (k + 1) y0 y1 y2 y3))
 | 0 => fun _ _ _ _ r h => by simp [impl_Mov.l0] at h
 | k + 1 => by
  have ih0 := impl_Mov.mono_l k
  ·intro y0 y1 y2 y3
   unfold impl_Mov.l0
   with_reducible repeat' first | exact ih0 .. | exact LeO.refl _ | exact LeO.none _ | refine LeO.ite ?_ ?_ | refine LeO.bind ?_ (fun _ => ?_)
theorem impl_Mov.mono : ∀ a0 a1 k, LeO (impl_Mov.f k a0 a1) (impl_Mov.f (k + 1) a0 a1) := by
 intro a0 a1 k
 have ih0 := impl_Mov.mono_l k
 unfold impl_Mov.f
 with_reducible repeat' first | exact ih0 .. | exact LeO.refl _ | exact LeO.none _ | refine LeO.ite ?_ ?_ | refine LeO.bind ?_ (fun _ => ?_)
theorem impl_Mov.calls (k : Nat) (A0 : Option Addr) (c0 : Nat) (l0 : List (S93)) (A1 : Option Addr) (c1 : Nat) (l1 : List (S93)) (r : Bool) (w : World) (hr0 : Kd.C k93 w A0 l0.length l0) (hc0 : l0.length ≤ c0) (hr1 : Kd.C k93 w A1 l1.length l1) (hc1 : l1.length ≤ c1) (h : impl_Mov.f k l0 l1 = some r) :
  Calls Try.prog 62 #[.slice A0 l0.length c0, .slice A1 l1.length c1] w fun e w' => e = .returned (.bool r) ∧ Drawn0 w w' := by
 have hu93 := Try.underlying93
 have HR0 := am hr0
 have HC0 := am hc0
 clear hr0 hc0
 have HR1 := am hr1
 have HC1 := am hc1
 clear hr1 hc1
 have H : (if (l0.length : Int) = (l1.length : Int) then (impl_Mov.l0 k l0 l1 (l0.length : Int) 0) else (some false)) = some r := h
 clear h
 by_cases c3 : (l0.length : Int) = (l1.length : Int)
 ·rw [if_pos c3] at H
  have c3b0 : ((l0.length : Int) == (l1.length : Int)) = true := beq_iff_eq.mpr c3
  have c3b1 : ((l0.length : Int) != (l1.length : Int)) = false := bne_eq_false_iff_eq.mpr c3
  have c3b2 : (l0.length == l1.length) = true := by first | simpa using c3 | (simp at c3 ⊢; omega)
  clear c3
  have H' := am H
  clear H
  go_enter Try.func62, Try.ntmps62
  go_wp2
  repeat (go_quiet (fail); try go_wp2)
  go_loopg [13] k (fun kq v13 w' => ∃ (x13_1 : Int), v13 = .int .i64 x13_1 ∧ Aside0 (impl_Mov.l0 kq l0 l1 (l0.length : Int) x13_1 = some r) ∧ Aside0 (kq ≤ k) ∧ Drawn0 w w')
  case atStart => exact ⟨(0), dr, H', ⟨Nat.le_refl _⟩, by repeat (first | exact Drawn0.refl _ | apply Drawn0.step)⟩
  clear H'
  (try clear c1); (try clear p2); (try clear c3); (try clear c3b0); (try clear c3b1); (try clear c3b2)
  obtain ⟨x13_1, rfl, HA, HK1, ⟨m1, rfl⟩⟩ := hrel
  rcases gk with _ | k1
  ·exact absurd HA.out (by simp [impl_Mov.l0])
  have H := HA.out
  clear HA
  simp only [impl_Mov.l0] at H
  refine qI H ?_ ?_ <;> clear H <;> intro c4b0 H
  ·refine iM H ?_; clear H; intro c5b0 H
   refine iM H ?_; clear H; intro c6b0 H
   refine iM H ?_; clear H; intro c7b0 H
   by_cases c8 : (!(((rd_T93 l0 x13_1).f0) == ((rd_T93 l1 x13_1).f0)) || ((!(((rd_T93 l0 x13_1).f1.f0) == ((rd_T93 l1 x13_1).f1.f0)) || (!(((rd_T93 l0 x13_1).f1.f1) == ((rd_T93 l1 x13_1).f1.f1)))))) = true
   ·rw [if_pos c8] at H
    have c8b0 : (!(((rd_T93 l0 x13_1).f0) == ((rd_T93 l1 x13_1).f0)) || ((!(((rd_T93 l0 x13_1).f1.f0) == ((rd_T93 l1 x13_1).f1.f0)) || (!(((rd_T93 l0 x13_1).f1.f1) == ((rd_T93 l1 x13_1).f1.f1)))))) = true := c8
    clear c8
    obtain rfl := Option.some.inj H
    have p447 : 0 ≤ (x13_1 : Int) := of_decide_eq_true as1
    have q447 : x13_1 < (l0.length : Int) := of_decide_eq_true as1
    obtain ⟨ad447, e447, hx447_0, hx447_1, hx447_2⟩ := at_T93 HR0.out x13_1 p447 q447
    cases e447
    replace p447 := eq_true p447
    replace q447 := eq_true q447
    have p448 : 0 ≤ (x13_1 : Int) := of_decide_eq_true as1
    have q448 : x13_1 < (l1.length : Int) := of_decide_eq_true as1
    obtain ⟨ad448, e448, hx448_0, hx448_1, hx448_2⟩ := at_T93 HR1.out x13_1 p448 q448
    cases e448
    replace p448 := eq_true p448
    replace q448 := eq_true q448
    go_wp2
    repeat (go_quiet (fail); try go_wp2)
    go_ret
    exact ⟨by first | rfl | (simp; done) | (simp [*]; done), by repeat (first | exact Drawn0.refl _ | apply Drawn0.step)⟩
   rw [if_neg c8] at H
   have c8b0 : (!(((rd_T93 l0 x13_1).f0) == ((rd_T93 l1 x13_1).f0)) || ((!(((rd_T93 l0 x13_1).f1.f0) == ((rd_T93 l1 x13_1).f1.f0)) || (!(((rd_T93 l0 x13_1).f1.f1) == ((rd_T93 l1 x13_1).f1.f1)))))) = false := by simpa using c8
   clear c8
   have H' := am H
   clear H
   have p447 : 0 ≤ (x13_1 : Int) := of_decide_eq_true as1
   have q447 : x13_1 < (l0.length : Int) := of_decide_eq_true as1
   obtain ⟨ad447, e447, hx447_0, hx447_1, hx447_2⟩ := at_T93 HR0.out x13_1 p447 q447
   cases e447
   replace p447 := eq_true p447
   replace q447 := eq_true q447
   have p448 : 0 ≤ (x13_1 : Int) := of_decide_eq_true as1
   have q448 : x13_1 < (l1.length : Int) := of_decide_eq_true as1
   obtain ⟨ad448, e448, hx448_0, hx448_1, hx448_2⟩ := at_T93 HR1.out x13_1 p448 q448
   cases e448
   replace p448 := eq_true p448
   replace q448 := eq_true q448
   go_wp2
   repeat (go_quiet (fail); try go_wp2)
   go_roundg k1
   case measure => have := HK1.out; omega
   case rel => exact ⟨(wrap64 (x13_1 + 1)), dr, H', ⟨by have := HK1.out; omega⟩, by repeat (first | exact Drawn0.refl _ | apply Drawn0.step)⟩
  obtain rfl := Option.some.inj H
  go_wp2
  repeat (go_quiet (fail); try go_wp2)
  go_ret
  exact ⟨by first | rfl | (simp; done) | (simp [*]; done), by repeat (first | exact Drawn0.refl _ | apply Drawn0.step)⟩
 rw [if_neg c3] at H
 have c3b0 : ((l0.length : Int) == (l1.length : Int)) = false := beq_eq_false_iff_ne.mpr c3
 have c3b1 : ((l0.length : Int) != (l1.length : Int)) = true := bne_iff_ne.mpr c3
 have c3b2 : (l0.length == l1.length) = false := by first | simpa using c3 | (simp at c3 ⊢; omega)
 obtain rfl := Option.some.inj H
 go_enter Try.func62, Try.ntmps62
 go_wp2
 repeat (go_quiet (fail); try go_wp2)
 go_ret
 exact ⟨by first | rfl | (simp; done) | (simp [*]; done), by repeat (first | exact Drawn0.refl _ | apply Drawn0.step)⟩

def impl_Val.l0 : Nat → List (S63) → List (S63) → Int → Int → Option (Bool)
 | 0, _, _, _, _ => none
 | k + 1, x0, x1, x12, x13 => if x13 < x12 then (if 0 ≤ x13 then (if x13 < (x0.length : Int) then (if x13 < (x1.length : Int) then (if (!(((rd_T63 x0 x13).f0) == ((rd_T63 x1 x13).f0)) || (!(((rd_T63 x0 x13).f1) == ((rd_T63 x1 x13).f1)))) = true then (some false) else (impl_Val.l0 k x0 x1 x12 (wrap64 (x13 + 1)))) else (none)) else (none)) else (none)) else (some true)
def impl_Val.f (k : Nat) (l0 : List (S63)) (l1 : List (S63)) : Option (Bool) := if (l0.length : Int) = (l1.length : Int) then (impl_Val.l0 k l0 l1 (l0.length : Int) 0) else (some false)
theorem impl_Val.mono_l : ∀ k, (∀ y0 y1 y2 y3, LeO (impl_Val.l0 k y0 y1 y2 y3) (impl_Val.l0 (k + 1) y0 y1 y2 y3))
 | 0 => fun _ _ _ _ r h => by simp [impl_Val.l0] at h
 | k + 1 => by
  have ih0 := impl_Val.mono_l k
  ·intro y0 y1 y2 y3
   unfold impl_Val.l0
   with_reducible repeat' first | exact ih0 .. | exact LeO.refl _ | exact LeO.none _ | refine LeO.ite ?_ ?_ | refine LeO.bind ?_ (fun _ => ?_)
theorem impl_Val.mono : ∀ a0 a1 k, LeO (impl_Val.f k a0 a1) (impl_Val.f (k + 1) a0 a1) := by
 intro a0 a1 k
 have ih0 := impl_Val.mono_l k
 unfold impl_Val.f
 with_reducible repeat' first | exact ih0 .. | exact LeO.refl _ | exact LeO.none _ | refine LeO.ite ?_ ?_ | refine LeO.bind ?_ (fun _ => ?_)
theorem impl_Val.calls (k : Nat) (A0 : Option Addr) (c0 : Nat) (l0 : List (S63)) (A1 : Option Addr) (c1 : Nat) (l1 : List (S63)) (r : Bool) (w : World) (hr0 : Kd.C k63 w A0 l0.length l0) (hc0 : l0.length ≤ c0) (hr1 : Kd.C k63 w A1 l1.length l1) (hc1 : l1.length ≤ c1) (h : impl_Val.f k l0 l1 = some r) :
  Calls Try.prog 63 #[.slice A0 l0.length c0, .slice A1 l1.length c1] w fun e w' => e = .returned (.bool r) ∧ Drawn0 w w' := by
 have hu63 := Try.underlying63
 have HR0 := am hr0
 have HC0 := am hc0
 clear hr0 hc0
 have HR1 := am hr1
 have HC1 := am hc1
 clear hr1 hc1
 have H : (if (l0.length : Int) = (l1.length : Int) then (impl_Val.l0 k l0 l1 (l0.length : Int) 0) else (some false)) = some r := h
 clear h
 by_cases c3 : (l0.length : Int) = (l1.length : Int)
 ·rw [if_pos c3] at H
  have c3b0 : ((l0.length : Int) == (l1.length : Int)) = true := beq_iff_eq.mpr c3
  have c3b1 : ((l0.length : Int) != (l1.length : Int)) = false := bne_eq_false_iff_eq.mpr c3
  have c3b2 : (l0.length == l1.length) = true := by first | simpa using c3 | (simp at c3 ⊢; omega)
  clear c3
  have H' := am H
  clear H
  go_enter Try.func63, Try.ntmps63
  go_wp2
  repeat (go_quiet (fail); try go_wp2)
  go_loopg [13] k (fun kq v13 w' => ∃ (x13_1 : Int), v13 = .int .i64 x13_1 ∧ Aside0 (impl_Val.l0 kq l0 l1 (l0.length : Int) x13_1 = some r) ∧ Aside0 (kq ≤ k) ∧ Drawn0 w w')
  case atStart => exact ⟨(0), dr, H', ⟨Nat.le_refl _⟩, by repeat (first | exact Drawn0.refl _ | apply Drawn0.step)⟩
  clear H'
  (try clear c1); (try clear p2); (try clear c3); (try clear c3b0); (try clear c3b1); (try clear c3b2)
  obtain ⟨x13_1, rfl, HA, HK1, ⟨m1, rfl⟩⟩ := hrel
  rcases gk with _ | k1
  ·exact absurd HA.out (by simp [impl_Val.l0])
  have H := HA.out
  clear HA
  simp only [impl_Val.l0] at H
  refine qI H ?_ ?_ <;> clear H <;> intro c4b0 H
  ·refine iM H ?_; clear H; intro c5b0 H
   refine iM H ?_; clear H; intro c6b0 H
   refine iM H ?_; clear H; intro c7b0 H
   by_cases c8 : (!(((rd_T63 l0 x13_1).f0) == ((rd_T63 l1 x13_1).f0)) || (!(((rd_T63 l0 x13_1).f1) == ((rd_T63 l1 x13_1).f1)))) = true
   ·rw [if_pos c8] at H
    have c8b0 : (!(((rd_T63 l0 x13_1).f0) == ((rd_T63 l1 x13_1).f0)) || (!(((rd_T63 l0 x13_1).f1) == ((rd_T63 l1 x13_1).f1)))) = true := c8
    clear c8
    obtain rfl := Option.some.inj H
    have p449 : 0 ≤ (x13_1 : Int) := of_decide_eq_true as1
    have q449 : x13_1 < (l0.length : Int) := of_decide_eq_true as1
    obtain ⟨ad449, e449, hx449_0, hx449_1⟩ := at_T63 HR0.out x13_1 p449 q449
    cases e449
    replace p449 := eq_true p449
    replace q449 := eq_true q449
    have p450 : 0 ≤ (x13_1 : Int) := of_decide_eq_true as1
    have q450 : x13_1 < (l1.length : Int) := of_decide_eq_true as1
    obtain ⟨ad450, e450, hx450_0, hx450_1⟩ := at_T63 HR1.out x13_1 p450 q450
    cases e450
    replace p450 := eq_true p450
    replace q450 := eq_true q450
    go_wp2
    repeat (go_quiet (fail); try go_wp2)
    go_ret
    exact ⟨by first | rfl | (simp; done) | (simp [*]; done), by repeat (first | exact Drawn0.refl _ | apply Drawn0.step)⟩
   rw [if_neg c8] at H
   have c8b0 : (!(((rd_T63 l0 x13_1).f0) == ((rd_T63 l1 x13_1).f0)) || (!(((rd_T63 l0 x13_1).f1) == ((rd_T63 l1 x13_1).f1)))) = false := by simpa using c8
   clear c8
   have H' := am H
   clear H
   have p449 : 0 ≤ (x13_1 : Int) := of_decide_eq_true as1
   have q449 : x13_1 < (l0.length : Int) := of_decide_eq_true as1
   obtain ⟨ad449, e449, hx449_0, hx449_1⟩ := at_T63 HR0.out x13_1 p449 q449
   cases e449
   replace p449 := eq_true p449
   replace q449 := eq_true q449
   have p450 : 0 ≤ (x13_1 : Int) := of_decide_eq_true as1
   have q450 : x13_1 < (l1.length : Int) := of_decide_eq_true as1
   obtain ⟨ad450, e450, hx450_0, hx450_1⟩ := at_T63 HR1.out x13_1 p450 q450
   cases e450
   replace p450 := eq_true p450
   replace q450 := eq_true q450
   go_wp2
   repeat (go_quiet (fail); try go_wp2)
   go_roundg k1
   case measure => have := HK1.out; omega
   case rel => exact ⟨(wrap64 (x13_1 + 1)), dr, H', ⟨by have := HK1.out; omega⟩, by repeat (first | exact Drawn0.refl _ | apply Drawn0.step)⟩
  obtain rfl := Option.some.inj H
  go_wp2
  repeat (go_quiet (fail); try go_wp2)
  go_ret
  exact ⟨by first | rfl | (simp; done) | (simp [*]; done), by repeat (first | exact Drawn0.refl _ | apply Drawn0.step)⟩
 rw [if_neg c3] at H
 have c3b0 : ((l0.length : Int) == (l1.length : Int)) = false := beq_eq_false_iff_ne.mpr c3
 have c3b1 : ((l0.length : Int) != (l1.length : Int)) = true := bne_iff_ne.mpr c3
 have c3b2 : (l0.length == l1.length) = false := by first | simpa using c3 | (simp at c3 ⊢; omega)
 obtain rfl := Option.some.inj H
 go_enter Try.func63, Try.ntmps63
 go_wp2
 repeat (go_quiet (fail); try go_wp2)
 go_ret
 exact ⟨by first | rfl | (simp; done) | (simp [*]; done), by repeat (first | exact Drawn0.refl _ | apply Drawn0.step)⟩

def impl_sameIns.f (k : Nat) (l0_0 : List (S93)) (a0_1 : Int) (a0_2 : Int) (l0_3 : List (S63)) (a0_4 : Int) (l1_0 : List (S93)) (a1_1 : Int) (a1_2 : Int) (l1_3 : List (S63)) (a1_4 : Int) : Option (Bool) := (impl_Mov.f k l0_0 l1_0).bind fun t453 => (if t453 = true then (if a0_1 = a1_1 then (if a0_2 = a1_2 then ((impl_Val.f k l0_3 l1_3).bind fun t454 => (if t454 = true then (some (a0_4 == a1_4)) else (some false))) else (some false)) else (some false)) else (some false))
theorem impl_sameIns.mono : ∀ a0 a1 a2 a3 a4 a5 a6 a7 a8 a9 k, LeO (impl_sameIns.f k a0 a1 a2 a3 a4 a5 a6 a7 a8 a9) (impl_sameIns.f (k + 1) a0 a1 a2 a3 a4 a5 a6 a7 a8 a9) := by
 intro a0 a1 a2 a3 a4 a5 a6 a7 a8 a9 k
 unfold impl_sameIns.f
 with_reducible repeat' first | exact impl_Mov.mono .. | exact impl_Val.mono .. | exact LeO.refl _ | exact LeO.none _ | refine LeO.ite ?_ ?_ | refine LeO.bind ?_ (fun _ => ?_)
theorem impl_sameIns.calls (k : Nat) (A0_0 : Option Addr) (c0_0 : Nat) (l0_0 : List (S93)) (a0_1 : Int) (a0_2 : Int) (A0_3 : Option Addr) (c0_3 : Nat) (l0_3 : List (S63)) (a0_4 : Int) (A1_0 : Option Addr) (c1_0 : Nat) (l1_0 : List (S93)) (a1_1 : Int) (a1_2 : Int) (A1_3 : Option Addr) (c1_3 : Nat) (l1_3 : List (S63)) (a1_4 : Int) (r : Bool) (w : World) (hr0_0 : Kd.C k93 w A0_0 l0_0.length l0_0) (hc0_0 : l0_0.length ≤ c0_0) (hr0_3 : Kd.C k63 w A0_3 l0_3.length l0_3) (hc0_3 : l0_3.length ≤ c0_3) (hr1_0 : Kd.C k93 w A1_0 l1_0.length l1_0) (hc1_0 : l1_0.length ≤ c1_0) (hr1_3 : Kd.C k63 w A1_3 l1_3.length l1_3) (hc1_3 : l1_3.length ≤ c1_3) (h : impl_sameIns.f k l0_0 a0_1 a0_2 l0_3 a0_4 l1_0 a1_1 a1_2 l1_3 a1_4 = some r) :
  Calls Try.prog 45 #[.agg #[.slice A0_0 l0_0.length c0_0, .int .i64 a0_1, .int .i64 a0_2, .slice A0_3 l0_3.length c0_3, .int .i64 a0_4], .agg #[.slice A1_0 l1_0.length c1_0, .int .i64 a1_1, .int .i64 a1_2, .slice A1_3 l1_3.length c1_3, .int .i64 a1_4]] w fun e w' => e = .returned (.bool r) ∧ Below w.heap.size w w' := by
 have hu59 := Try.underlying59
 have HR0_0 := am hr0_0
 have HC0_0 := am hc0_0
 clear hr0_0 hc0_0
 have HR0_3 := am hr0_3
 have HC0_3 := am hc0_3
 clear hr0_3 hc0_3
 have HR1_0 := am hr1_0
 have HC1_0 := am hc1_0
 clear hr1_0 hc1_0
 have HR1_3 := am hr1_3
 have HC1_3 := am hc1_3
 clear hr1_3 hc1_3
 have HB := am (Below.refl w.heap.size w)
 have H : ((impl_Mov.f k l0_0 l1_0).bind fun t453 => (if t453 = true then (if a0_1 = a1_1 then (if a0_2 = a1_2 then ((impl_Val.f k l0_3 l1_3).bind fun t454 => (if t454 = true then (some (a0_4 == a1_4)) else (some false))) else (some false)) else (some false)) else (some false))) = some r := h
 clear h
 refine be H ?_; clear H; intro t453 A3 H
 refine qT H ?_ ?_ <;> clear H <;> intro c4 H <;> subst c4
 ·refine qE H ?_ ?_ <;> clear H
  ·intro c5b0 c5b1 H
   refine qE H ?_ ?_ <;> clear H
   ·intro c6b0 c6b1 H
    refine be H ?_; clear H; intro t454 A7 H
    refine qT H ?_ ?_ <;> clear H <;> intro c8 H <;> subst c8
    ·obtain rfl := Option.some.inj H
     go_enter Try.func45, Try.ntmps45
     go_wp2_with (first | ((with_reducible refine gd 2 rfl ?_); refine bX 2 #[.slice A0_0 l0_0.length c0_0, .int .i64 a0_1, .int .i64 a0_2, .slice A0_3 l0_3.length c0_3, .int .i64 a0_4] 59 HB ?_; clear HB; intro gb451 w9 hg hb BK451 GW451 HB; clear hb hg) | ((with_reducible refine gd 3 rfl ?_); refine bX 3 #[.slice A1_0 l1_0.length c1_0, .int .i64 a1_1, .int .i64 a1_2, .slice A1_3 l1_3.length c1_3, .int .i64 a1_4] 59 HB ?_; clear HB; intro gb452 w10 hg hb BK452 GW452 HB; obtain ⟨NB451_452, NB452_451, BK451⟩ := b3 hg BK451 hb; clear hb hg; have hnb11 := NB451_452.out; have hnc11 := NB452_451.out; have hcz12_0 := bk w10 BK451 0; have hcz12_1 := bk w10 BK451 1; have hcz12_2 := bk w10 BK451 2; have hcz12_3 := bk w10 BK451 3; have hcz12_4 := bk w10 BK451 4; have hfz12_0 := bf BK451 0; have hfz12_1 := bf BK451 1; have hfz12_2 := bf BK451 2; have hfz12_3 := bf BK451 3; have hfz12_4 := bf BK451 4; have hcz13_0 := bk w10 BK452 0; have hcz13_1 := bk w10 BK452 1; have hcz13_2 := bk w10 BK452 2; have hcz13_3 := bk w10 BK452 3; have hcz13_4 := bk w10 BK452 4; have hfz13_0 := bf BK452 0; have hfz13_1 := bf BK452 1; have hfz13_2 := bf BK452 2; have hfz13_3 := bf BK452 3; have hfz13_4 := bf BK452 4) | ((with_reducible refine gk 62 rfl ?_); refine gD 62 (some 9) Try.func62 #[.slice A0_0 l0_0.length c0_0, .slice A1_0 l1_0.length c1_0] (impl_Mov.calls k _ _ l0_0 _ _ l1_0 true _ (cc (Kd.C_below HR0_0.out HB.out)) HC0_0.out (cc (Kd.C_below HR1_0.out HB.out)) HC1_0.out A3.out) ?_; intro nd) | (go_at_call 63; refine (impl_Val.calls k _ _ l0_3 _ _ l1_3 true _ (cc (Kd.C_below HR0_3.out (bw HB))) HC0_3.out (cc (Kd.C_below HR1_3.out (bw HB))) HC1_3.out A7.out).mono ?_; rintro e w' ⟨rfl, ⟨nd, rfl⟩⟩))
     go_ret
     exact ⟨er, bw HB⟩
    obtain rfl := Option.some.inj H
    go_enter Try.func45, Try.ntmps45
    go_wp2_with (first | ((with_reducible refine gd 2 rfl ?_); refine bX 2 #[.slice A0_0 l0_0.length c0_0, .int .i64 a0_1, .int .i64 a0_2, .slice A0_3 l0_3.length c0_3, .int .i64 a0_4] 59 HB ?_; clear HB; intro gb451 w14 hg hb BK451 GW451 HB; clear hb hg) | ((with_reducible refine gd 3 rfl ?_); refine bX 3 #[.slice A1_0 l1_0.length c1_0, .int .i64 a1_1, .int .i64 a1_2, .slice A1_3 l1_3.length c1_3, .int .i64 a1_4] 59 HB ?_; clear HB; intro gb452 w15 hg hb BK452 GW452 HB; obtain ⟨NB451_452, NB452_451, BK451⟩ := b3 hg BK451 hb; clear hb hg; have hnb16 := NB451_452.out; have hnc16 := NB452_451.out; have hcz17_0 := bk w15 BK451 0; have hcz17_1 := bk w15 BK451 1; have hcz17_2 := bk w15 BK451 2; have hcz17_3 := bk w15 BK451 3; have hcz17_4 := bk w15 BK451 4; have hfz17_0 := bf BK451 0; have hfz17_1 := bf BK451 1; have hfz17_2 := bf BK451 2; have hfz17_3 := bf BK451 3; have hfz17_4 := bf BK451 4; have hcz18_0 := bk w15 BK452 0; have hcz18_1 := bk w15 BK452 1; have hcz18_2 := bk w15 BK452 2; have hcz18_3 := bk w15 BK452 3; have hcz18_4 := bk w15 BK452 4; have hfz18_0 := bf BK452 0; have hfz18_1 := bf BK452 1; have hfz18_2 := bf BK452 2; have hfz18_3 := bf BK452 3; have hfz18_4 := bf BK452 4) | ((with_reducible refine gk 62 rfl ?_); refine gD 62 (some 9) Try.func62 #[.slice A0_0 l0_0.length c0_0, .slice A1_0 l1_0.length c1_0] (impl_Mov.calls k _ _ l0_0 _ _ l1_0 true _ (cc (Kd.C_below HR0_0.out HB.out)) HC0_0.out (cc (Kd.C_below HR1_0.out HB.out)) HC1_0.out A3.out) ?_; intro nd) | (go_at_call 63; refine (impl_Val.calls k _ _ l0_3 _ _ l1_3 false _ (cc (Kd.C_below HR0_3.out (bw HB))) HC0_3.out (cc (Kd.C_below HR1_3.out (bw HB))) HC1_3.out A7.out).mono ?_; rintro e w' ⟨rfl, ⟨nd, rfl⟩⟩))
    go_ret
    exact ⟨er, bw HB⟩
   intro c6 c6b0 c6b1 H
   obtain rfl := Option.some.inj H
   go_enter Try.func45, Try.ntmps45
   go_wp2_with (first | ((with_reducible refine gd 2 rfl ?_); refine bX 2 #[.slice A0_0 l0_0.length c0_0, .int .i64 a0_1, .int .i64 a0_2, .slice A0_3 l0_3.length c0_3, .int .i64 a0_4] 59 HB ?_; clear HB; intro gb451 w19 hg hb BK451 GW451 HB; clear hb hg) | ((with_reducible refine gd 3 rfl ?_); refine bX 3 #[.slice A1_0 l1_0.length c1_0, .int .i64 a1_1, .int .i64 a1_2, .slice A1_3 l1_3.length c1_3, .int .i64 a1_4] 59 HB ?_; clear HB; intro gb452 w20 hg hb BK452 GW452 HB; obtain ⟨NB451_452, NB452_451, BK451⟩ := b3 hg BK451 hb; clear hb hg; have hnb21 := NB451_452.out; have hnc21 := NB452_451.out; have hcz22_0 := bk w20 BK451 0; have hcz22_1 := bk w20 BK451 1; have hcz22_2 := bk w20 BK451 2; have hcz22_3 := bk w20 BK451 3; have hcz22_4 := bk w20 BK451 4; have hfz22_0 := bf BK451 0; have hfz22_1 := bf BK451 1; have hfz22_2 := bf BK451 2; have hfz22_3 := bf BK451 3; have hfz22_4 := bf BK451 4; have hcz23_0 := bk w20 BK452 0; have hcz23_1 := bk w20 BK452 1; have hcz23_2 := bk w20 BK452 2; have hcz23_3 := bk w20 BK452 3; have hcz23_4 := bk w20 BK452 4; have hfz23_0 := bf BK452 0; have hfz23_1 := bf BK452 1; have hfz23_2 := bf BK452 2; have hfz23_3 := bf BK452 3; have hfz23_4 := bf BK452 4) | ((with_reducible refine gk 62 rfl ?_); refine gD 62 (some 9) Try.func62 #[.slice A0_0 l0_0.length c0_0, .slice A1_0 l1_0.length c1_0] (impl_Mov.calls k _ _ l0_0 _ _ l1_0 true _ (cc (Kd.C_below HR0_0.out HB.out)) HC0_0.out (cc (Kd.C_below HR1_0.out HB.out)) HC1_0.out A3.out) ?_; intro nd))
   go_ret
   exact ⟨er, bw HB⟩
  intro c5 c5b0 c5b1 H
  obtain rfl := Option.some.inj H
  go_enter Try.func45, Try.ntmps45
  go_wp2_with (first | ((with_reducible refine gd 2 rfl ?_); refine bX 2 #[.slice A0_0 l0_0.length c0_0, .int .i64 a0_1, .int .i64 a0_2, .slice A0_3 l0_3.length c0_3, .int .i64 a0_4] 59 HB ?_; clear HB; intro gb451 w24 hg hb BK451 GW451 HB; clear hb hg) | ((with_reducible refine gd 3 rfl ?_); refine bX 3 #[.slice A1_0 l1_0.length c1_0, .int .i64 a1_1, .int .i64 a1_2, .slice A1_3 l1_3.length c1_3, .int .i64 a1_4] 59 HB ?_; clear HB; intro gb452 w25 hg hb BK452 GW452 HB; obtain ⟨NB451_452, NB452_451, BK451⟩ := b3 hg BK451 hb; clear hb hg; have hnb26 := NB451_452.out; have hnc26 := NB452_451.out; have hcz27_0 := bk w25 BK451 0; have hcz27_1 := bk w25 BK451 1; have hcz27_2 := bk w25 BK451 2; have hcz27_3 := bk w25 BK451 3; have hcz27_4 := bk w25 BK451 4; have hfz27_0 := bf BK451 0; have hfz27_1 := bf BK451 1; have hfz27_2 := bf BK451 2; have hfz27_3 := bf BK451 3; have hfz27_4 := bf BK451 4; have hcz28_0 := bk w25 BK452 0; have hcz28_1 := bk w25 BK452 1; have hcz28_2 := bk w25 BK452 2; have hcz28_3 := bk w25 BK452 3; have hcz28_4 := bk w25 BK452 4; have hfz28_0 := bf BK452 0; have hfz28_1 := bf BK452 1; have hfz28_2 := bf BK452 2; have hfz28_3 := bf BK452 3; have hfz28_4 := bf BK452 4) | ((with_reducible refine gk 62 rfl ?_); refine gD 62 (some 9) Try.func62 #[.slice A0_0 l0_0.length c0_0, .slice A1_0 l1_0.length c1_0] (impl_Mov.calls k _ _ l0_0 _ _ l1_0 true _ (cc (Kd.C_below HR0_0.out HB.out)) HC0_0.out (cc (Kd.C_below HR1_0.out HB.out)) HC1_0.out A3.out) ?_; intro nd))
  go_ret
  exact ⟨er, bw HB⟩
 obtain rfl := Option.some.inj H
 go_enter Try.func45, Try.ntmps45
 go_wp2_with (first | ((with_reducible refine gd 2 rfl ?_); refine bX 2 #[.slice A0_0 l0_0.length c0_0, .int .i64 a0_1, .int .i64 a0_2, .slice A0_3 l0_3.length c0_3, .int .i64 a0_4] 59 HB ?_; clear HB; intro gb451 w29 hg hb BK451 GW451 HB; clear hb hg) | ((with_reducible refine gd 3 rfl ?_); refine bX 3 #[.slice A1_0 l1_0.length c1_0, .int .i64 a1_1, .int .i64 a1_2, .slice A1_3 l1_3.length c1_3, .int .i64 a1_4] 59 HB ?_; clear HB; intro gb452 w30 hg hb BK452 GW452 HB; obtain ⟨NB451_452, NB452_451, BK451⟩ := b3 hg BK451 hb; clear hb hg; have hnb31 := NB451_452.out; have hnc31 := NB452_451.out; have hcz32_0 := bk w30 BK451 0; have hcz32_1 := bk w30 BK451 1; have hcz32_2 := bk w30 BK451 2; have hcz32_3 := bk w30 BK451 3; have hcz32_4 := bk w30 BK451 4; have hfz32_0 := bf BK451 0; have hfz32_1 := bf BK451 1; have hfz32_2 := bf BK451 2; have hfz32_3 := bf BK451 3; have hfz32_4 := bf BK451 4; have hcz33_0 := bk w30 BK452 0; have hcz33_1 := bk w30 BK452 1; have hcz33_2 := bk w30 BK452 2; have hcz33_3 := bk w30 BK452 3; have hcz33_4 := bk w30 BK452 4; have hfz33_0 := bf BK452 0; have hfz33_1 := bf BK452 1; have hfz33_2 := bf BK452 2; have hfz33_3 := bf BK452 3; have hfz33_4 := bf BK452 4) | ((with_reducible refine gk 62 rfl ?_); refine gD 62 (some 9) Try.func62 #[.slice A0_0 l0_0.length c0_0, .slice A1_0 l1_0.length c1_0] (impl_Mov.calls k _ _ l0_0 _ _ l1_0 false _ (cc (Kd.C_below HR0_0.out HB.out)) HC0_0.out (cc (Kd.C_below HR1_0.out HB.out)) HC1_0.out A3.out) ?_; intro nd))
 go_ret
 exact ⟨er, bw HB⟩

def impl_bareNop.f  : Option ((List (S93)) × Int × Int × (List (S63)) × Int) := some (([] : List (S93)), 0, (-1), ([] : List (S63)), 0)
theorem impl_bareNop.calls  (r1 : List (S93)) (r2 : Int) (r3 : Int) (r4 : List (S63)) (r5 : Int) (w : World) (h : impl_bareNop.f  = some (r1, r2, r3, r4, r5)) :
  Calls Try.prog 46 #[] w fun e w' => ∃ v0_ v3_ : Value, e = .returned (.agg #[v0_, .int .i64 r2, .int .i64 r3, v3_, .int .i64 r5]) ∧ Kd.R k93 93 w' w.heap.size (fun _ => True) v0_ r1 ∧ Kd.R k63 63 w' w.heap.size (fun _ => True) v3_ r4 ∧ Below w.heap.size w w' := by
 have hu59 := Try.underlying59
 have HB := am (Below.refl w.heap.size w)
 have H : (some (([] : List (S93)), 0, (-1), ([] : List (S63)), 0)) = some (r1, r2, r3, r4, r5) := h
 clear h
 simp only [Option.some.injEq, Prod.mk.injEq] at H
 obtain ⟨rfl, rfl, rfl, rfl, rfl⟩ := H
 go_enter Try.func46, Try.ntmps46
 go_wp2_with (first | ((with_reducible refine gd 0 rfl ?_); refine bX 0 #[.slice none 0 0, .int .i64 0, .int .i64 0, .slice none 0 0, .int .i64 0] 59 HB ?_; clear HB; intro gb455 w1 hg hb BK455 GW455 HB; clear hb hg; have hcz2_0 := bk w1 BK455 0; have hcz2_1 := bk w1 BK455 1; have hcz2_2 := bk w1 BK455 2; have hcz2_3 := bk w1 BK455 3; have hcz2_4 := bk w1 BK455 4; have hfz2_0 := bf BK455 0; have hfz2_1 := bf BK455 1; have hfz2_2 := bf BK455 2; have hfz2_3 := bf BK455 3; have hfz2_4 := bf BK455 4))
 refine bodyPost_ret (results_cell_row rfl _ _ gb455 59 #[.slice none 0 0, .int .i64 0, .int .i64 (-1), .slice none 0 0, .int .i64 0] (0, 0) _ rfl (bt BK455) Try.underlying59 rfl (by kernel_rfl)) rfl ?_
 exact ⟨_, _, er, by first | exact Kd.R_nil _ _ _ _ _ | exact Kd.N_nil _ _ _ _ _ | exact Kd.V_nil _ _ _ _ _ | exact Kd.Q_nil _ _ _ _ _ | exact Kd.S_nil _ _ _ _ _, by first | exact Kd.R_nil _ _ _ _ _ | exact Kd.N_nil _ _ _ _ _ | exact Kd.V_nil _ _ _ _ _ | exact Kd.Q_nil _ _ _ _ _ | exact Kd.S_nil _ _ _ _ _, bw HB⟩

def impl_prog_slots.f (l0_0 : List (S50)) (l0_1 : List (List Int)) (a1 : Int) (a2 : Int) : Option (Int) := if 0 ≤ a1 then (if a1 < (l0_0.length : Int) then (if a1 < (l0_1.length : Int) then (if 0 ≤ a2 then (if a2 < ((rd_L19 l0_1 a1).length : Int) then (some (wrap64 (((rd_T50 l0_0 a1).f1) + (rd (rd_L19 l0_1 a1) a2)))) else (none)) else (none)) else (none)) else (none)) else (none)
theorem impl_prog_slots.calls (g0_ : Nat) (A0_0 : Option Addr) (c0_0 : Nat) (l0_0 : List (S50)) (A0_1 : Option Addr) (c0_1 : Nat) (l0_1 : List (List Int)) (a1 : Int) (a2 : Int) (r : Int) (w : World) (hp0 : w.heap[g0_]? = some (.cells #[.slice A0_0 l0_0.length c0_0, .slice A0_1 l0_1.length c0_1] 101 (0, 0))) (hr0_0 : Kd.C k50 w A0_0 l0_0.length l0_0) (hc0_0 : l0_0.length ≤ c0_0) (hr0_1 : Kd.C (Kd.slice 2 (Kd.int .i64)) w A0_1 l0_1.length l0_1) (hc0_1 : l0_1.length ≤ c0_1) (h : impl_prog_slots.f l0_0 l0_1 a1 a2 = some r) :
  Calls Try.prog 47 #[.pointer (some ⟨g0_, 0, none⟩), .int .i64 a1, .int .i64 a2] w fun e w' => e = .returned (.int .i64 r) ∧ Below w.heap.size w w' := by
 have HP0_ := am hp0
 clear hp0
 have HR0_0 := am hr0_0
 have HC0_0 := am hc0_0
 clear hr0_0 hc0_0
 have HR0_1 := am hr0_1
 have HC0_1 := am hc0_1
 clear hr0_1 hc0_1
 have HB := am (Below.refl w.heap.size w)
 have H : (if 0 ≤ a1 then (if a1 < (l0_0.length : Int) then (if a1 < (l0_1.length : Int) then (if 0 ≤ a2 then (if a2 < ((rd_L19 l0_1 a1).length : Int) then (some (wrap64 (((rd_T50 l0_0 a1).f1) + (rd (rd_L19 l0_1 a1) a2)))) else (none)) else (none)) else (none)) else (none)) else (none)) = some r := h
 clear h
 refine iM H ?_; clear H; intro c4b0 H
 refine iM H ?_; clear H; intro c5b0 H
 refine iM H ?_; clear H; intro c6b0 H
 refine iM H ?_; clear H; intro c7b0 H
 refine iM H ?_; clear H; intro c8b0 H
 obtain rfl := Option.some.inj H
 have hcz9 := bK w HP0_
 have hfz9 := bF HP0_
 have p456 : 0 ≤ (a1 : Int) := of_decide_eq_true as1
 have q456 : a1 < (l0_0.length : Int) := of_decide_eq_true as1
 obtain ⟨ad456, A456_2, c456_2, e456, hx456_0, hx456_1, hx456_2, hl456_2, hi456_2⟩ := at_T50 HR0_0.out a1 p456 q456
 cases e456
 have HR456_2 := am hi456_2
 have HC456_2 := am hl456_2
 clear hi456_2 hl456_2
 replace p456 := eq_true p456
 replace q456 := eq_true q456
 have p457 : 0 ≤ (a1 : Int) := of_decide_eq_true as1
 have q457 : a1 < (l0_1.length : Int) := of_decide_eq_true as1
 obtain ⟨ad457, A457_0, c457_0, e457, hx457_0, hl457_0, hi457_0⟩ := at_L19 HR0_1.out a1 p457 q457
 cases e457
 have HR457_0 := am hi457_0
 have HC457_0 := am hl457_0
 clear hi457_0 hl457_0
 replace p457 := eq_true p457
 replace q457 := eq_true q457
 have p458 : 0 ≤ (a2 : Int) := of_decide_eq_true as1
 have q458 : a2 < ((rd_L19 l0_1 a1).length : Int) := of_decide_eq_true as1
 obtain ⟨ad458, e458, hx458_0⟩ := Kd.at_int HR457_0.out a2 p458 q458
 cases e458
 replace p458 := eq_true p458
 replace q458 := eq_true q458
 go_enter Try.func47, Try.ntmps47
 go_wp2
 repeat (go_quiet (fail); try go_wp2)
 go_ret
 exact ⟨er, bw HB⟩

def impl_isLoc.f (a0 : Int) : Option (Bool) := (impl_in.f a0 0 21).bind fun t459 => (some t459)
theorem impl_isLoc.calls (a0 : Int) (r : Bool) (w : World) (h : impl_isLoc.f a0 = some r) :
  Calls Try.prog 65 #[.int .i64 a0] w fun e w' => e = .returned (.bool r) ∧ Drawn0 w w' := by
 have H : ((impl_in.f a0 0 21).bind fun t459 => (some t459)) = some r := h
 clear h
 refine be H ?_; clear H; intro t459 A2 H
 obtain rfl := Option.some.inj H
 go_enter Try.func65, Try.ntmps65
 go_wp2_with (first | ((with_reducible refine gate_callee (f := 59) rfl ?_); refine goesL_ (some 4) rfl rfl Try.func59 (by kernel_rfl) rfl #[.int .i64 a0, .int .i64 0, .int .i64 21] rfl gl ?_; (with_reducible refine (impl_in.calls a0 0 21 t459 _ A2.out).mono ?_); rintro e w' ⟨rfl, ⟨nd, rfl⟩⟩; refine ⟨_, rfl, ?_⟩))
 go_ret
 exact ⟨by first | rfl | (simp; done) | (simp [*]; done), by repeat (first | exact Drawn0.refl _ | apply Drawn0.step)⟩

def impl_Val_right.f (a0_0 : Int) (a0_1 : Int) : Option (Bool) := if a0_0 = 0 then (some (a0_1 == 0)) else (if a0_0 = 1 then ((impl_isLoc.f a0_1).bind fun t461 => (some t461)) else (some (a0_0 == 2)))
theorem impl_Val_right.calls (a0_0 : Int) (a0_1 : Int) (r : Bool) (w : World) (h : impl_Val_right.f a0_0 a0_1 = some r) :
  Calls Try.prog 49 #[.agg #[.int .i64 a0_0, .int .i64 a0_1]] w fun e w' => e = .returned (.bool r) ∧ Below w.heap.size w w' := by
 have hu63 := Try.underlying63
 have HB := am (Below.refl w.heap.size w)
 have H : (if a0_0 = 0 then (some (a0_1 == 0)) else (if a0_0 = 1 then ((impl_isLoc.f a0_1).bind fun t461 => (some t461)) else (some (a0_0 == 2)))) = some r := h
 clear h
 have HC2 := am H
 clear H
 go_enter Try.func49, Try.ntmps49
 go_upto_if 5 with (first | ((with_reducible refine gd 1 rfl ?_); refine bX 1 #[.int .i64 a0_0, .int .i64 a0_1] 63 HB ?_; clear HB; intro gb460 w3 hg hb BK460 GW460 HB; clear hb hg; have hcz4 := bK w3 BK460; have hfz4 := bF BK460))
 (try simp only [Act.put, sa, sz, ss])
 have H := HC2.out
 clear HC2
 refine qE H ?_ ?_ <;> clear H
 ·intro c5b0 c5b1 H
  (first | rw [c5b0] | (simp only [i64_w, i32_w]; rw [c5b0]) | skip)
  obtain rfl := Option.some.inj H
  have hcz6 := bK w3 BK460
  have hfz6 := bF BK460
  go_wp2
  go_ret
  exact ⟨er, bw HB⟩
 intro c5 c5b0 c5b1 H
 (first | rw [c5b0] | (simp only [i64_w, i32_w]; rw [c5b0]) | skip)
 refine qE H ?_ ?_ <;> clear H
 ·intro c7b0 c7b1 H
  refine be H ?_; clear H; intro t461 A8 H
  obtain rfl := Option.some.inj H
  have hcz9 := bK w3 BK460
  have hfz9 := bF BK460
  go_wp2_with (first | ((with_reducible refine gate_callee (f := 65) rfl ?_); refine goesL_ (some 14) rfl rfl Try.func65 (by kernel_rfl) rfl #[.int .i64 a0_1] rfl gl ?_; (with_reducible refine (impl_isLoc.calls a0_1 t461 _ A8.out).mono ?_); rintro e w' ⟨rfl, ⟨nd, rfl⟩⟩; refine ⟨_, rfl, ?_⟩))
  go_ret
  exact ⟨er, bw HB⟩
 intro c7 c7b0 c7b1 H
 obtain rfl := Option.some.inj H
 have hcz10 := bK w3 BK460
 have hfz10 := bF BK460
 go_wp2
 go_ret
 exact ⟨er, bw HB⟩

def impl_Val_some.f (a0_0 : Int) (a0_1 : Int) : Option (Bool) := if a0_0 = 0 then (some false) else ((impl_Val_right.f a0_0 a0_1).bind fun t463 => (some t463))
theorem impl_Val_some.calls (a0_0 : Int) (a0_1 : Int) (r : Bool) (w : World) (h : impl_Val_some.f a0_0 a0_1 = some r) :
  Calls Try.prog 66 #[.agg #[.int .i64 a0_0, .int .i64 a0_1]] w fun e w' => e = .returned (.bool r) ∧ Below w.heap.size w w' := by
 have hu63 := Try.underlying63
 have HB := am (Below.refl w.heap.size w)
 have H : (if a0_0 = 0 then (some false) else ((impl_Val_right.f a0_0 a0_1).bind fun t463 => (some t463))) = some r := h
 clear h
 refine qE H ?_ ?_ <;> clear H
 ·intro c2b0 c2b1 H
  obtain rfl := Option.some.inj H
  go_enter Try.func66, Try.ntmps66
  go_wp2_with (first | ((with_reducible refine gd 1 rfl ?_); refine bX 1 #[.int .i64 a0_0, .int .i64 a0_1] 63 HB ?_; clear HB; intro gb462 w3 hg hb BK462 GW462 HB; clear hb hg; have hcz4 := bK w3 BK462; have hfz4 := bF BK462))
  go_ret
  exact ⟨er, bw HB⟩
 intro c2 c2b0 c2b1 H
 refine be H ?_; clear H; intro t463 A5 H
 obtain rfl := Option.some.inj H
 go_enter Try.func66, Try.ntmps66
 go_wp2_with (first | ((with_reducible refine gd 1 rfl ?_); refine bX 1 #[.int .i64 a0_0, .int .i64 a0_1] 63 HB ?_; clear HB; intro gb462 w6 hg hb BK462 GW462 HB; clear hb hg; have hcz7 := bK w6 BK462; have hfz7 := bF BK462) | (go_at_call 49; (with_reducible refine (impl_Val_right.calls a0_0 a0_1 t463 _ A5.out).mono ?_); rintro e w8 ⟨rfl, hb⟩; replace BK462 := bb BK462 hb; replace HB := bs HB hb; clear hb))
 go_ret
 exact ⟨er, bw HB⟩

def impl_someAll.l0 : Nat → List (S63) → Int → Int → Option (Bool)
 | 0, _, _, _ => none
 | k + 1, x5, x6, x7 => if x7 < x6 then (if 0 ≤ x7 then (if x7 < (x5.length : Int) then ((impl_Val_some.f ((rd_T63 x5 x7).f0) ((rd_T63 x5 x7).f1)).bind fun t466 => (if t466 = true then (impl_someAll.l0 k x5 x6 (wrap64 (x7 + 1))) else (some false))) else (none)) else (none)) else (some true)
def impl_someAll.f (k : Nat) (l0 : List (S63)) : Option (Bool) := impl_someAll.l0 k l0 (l0.length : Int) 0
theorem impl_someAll.mono_l : ∀ k, (∀ y0 y1 y2, LeO (impl_someAll.l0 k y0 y1 y2) (impl_someAll.l0 (k + 1) y0 y1 y2))
 | 0 => fun _ _ _ r h => by simp [impl_someAll.l0] at h
 | k + 1 => by
  have ih0 := impl_someAll.mono_l k
  ·intro y0 y1 y2
   unfold impl_someAll.l0
   with_reducible repeat' first | exact ih0 .. | exact LeO.refl _ | exact LeO.none _ | refine LeO.ite ?_ ?_ | refine LeO.bind ?_ (fun _ => ?_)
theorem impl_someAll.mono : ∀ a0 k, LeO (impl_someAll.f k a0) (impl_someAll.f (k + 1) a0) := by
 intro a0 k
 have ih0 := impl_someAll.mono_l k
 unfold impl_someAll.f
 with_reducible repeat' first | exact ih0 .. | exact LeO.refl _ | exact LeO.none _ | refine LeO.ite ?_ ?_ | refine LeO.bind ?_ (fun _ => ?_)
theorem impl_someAll.calls (k : Nat) (A0 : Option Addr) (c0 : Nat) (l0 : List (S63)) (r : Bool) (w : World) (hr0 : Kd.C k63 w A0 l0.length l0) (hc0 : l0.length ≤ c0) (h : impl_someAll.f k l0 = some r) :
  Calls Try.prog 64 #[.slice A0 l0.length c0] w fun e w' => e = .returned (.bool r) ∧ Below w.heap.size w w' := by
 have hu63 := Try.underlying63
 have HR0 := am hr0
 have HC0 := am hc0
 clear hr0 hc0
 have HB := am (Below.refl w.heap.size w)
 have H : (impl_someAll.l0 k l0 (l0.length : Int) 0) = some r := h
 clear h
 have H' := am H
 clear H
 go_enter Try.func64, Try.ntmps64
 go_wp2
 go_loopg [7] k (fun kq v7 w' => ∃ (x7_1 : Int), v7 = .int .i64 x7_1 ∧ Aside0 (impl_someAll.l0 kq l0 (l0.length : Int) x7_1 = some r) ∧ Aside0 (kq ≤ k) ∧ Aside0 (Below w.heap.size w w'))
 case atStart => exact ⟨(0), dr, H', ⟨Nat.le_refl _⟩, ⟨bw HB⟩⟩
 clear H'
 obtain ⟨x7_1, rfl, HA, HK1, HB⟩ := hrel
 rcases gk with _ | k1
 ·exact absurd HA.out (by simp [impl_someAll.l0])
 have H := HA.out
 clear HA
 simp only [impl_someAll.l0] at H
 refine qI H ?_ ?_ <;> clear H <;> intro c2b0 H
 ·refine iM H ?_; clear H; intro c3b0 H
  refine iM H ?_; clear H; intro c4b0 H
  refine be H ?_; clear H; intro t466 A5 H
  have HC6 := am H
  clear H
  have p464 : 0 ≤ (x7_1 : Int) := of_decide_eq_true as1
  have q464 : x7_1 < (l0.length : Int) := of_decide_eq_true as1
  obtain ⟨ad464, e464, hx464_0, hx464_1⟩ := at_T63 HR0.out x7_1 p464 q464
  cases e464
  replace hx464_0 := cl HB hx464_0
  replace hx464_1 := cl HB hx464_1
  replace p464 := eq_true p464
  replace q464 := eq_true q464
  go_upto_if 13 with (first | ((with_reducible refine gd 4 rfl ?_); refine bX 4 #[.int .i64 0, .int .i64 0] 63 HB ?_; clear HB; intro gb465 w7 hg hb BK465 GW465 HB; clear hb hg; have hcz8 := bK w7 BK465; have hfz8 := bF BK465) | ((with_reducible refine gate_callee (f := 66) rfl ?_); refine goesL_ (some 12) rfl rfl Try.func66 (by kernel_rfl) rfl #[.agg #[.int .i64 ((rd_T63 l0 x7_1).f0), .int .i64 ((rd_T63 l0 x7_1).f1)]] rfl gl ?_; (with_reducible refine (impl_Val_some.calls ((rd_T63 l0 x7_1).f0) ((rd_T63 l0 x7_1).f1) t466 _ A5.out).mono ?_); rintro e w9 ⟨rfl, hb⟩; refine ⟨_, rfl, ?_⟩; replace BK465 := bo #[.int .i64 ((rd_T63 l0 x7_1).f0), .int .i64 ((rd_T63 l0 x7_1).f1)] BK465 hb; replace HB := bs HB hb; clear hb))
  (try simp only [Act.put, sa, sz, ss])
  have H := HC6.out
  clear HC6
  refine qT H ?_ ?_ <;> clear H <;> intro c10 H <;> subst c10
  ·have H' := am H
   clear H
   go_wp2
   go_roundg k1
   case measure => have := HK1.out; omega
   case rel => exact ⟨(wrap64 (x7_1 + 1)), dr, H', ⟨by have := HK1.out; omega⟩, ⟨bw HB⟩⟩
  obtain rfl := Option.some.inj H
  go_wp2
  go_ret
  exact ⟨er, bw HB⟩
 obtain rfl := Option.some.inj H
 go_wp2
 go_ret
 exact ⟨er, bw HB⟩

def impl_prog_place.f (l0_0 : List (S50)) (l0_1 : List (List Int)) (a1 : Int) (a2 : Int) : Option (Bool) := (impl_prog_code.f l0_0 l0_1 a1).bind fun t467 => ((impl_in.f a2 0 (wrap64 ((t467.length : Int) - 1))).bind fun t470 => (some t470))
theorem impl_prog_place.calls (g0_ : Nat) (A0_0 : Option Addr) (c0_0 : Nat) (l0_0 : List (S50)) (A0_1 : Option Addr) (c0_1 : Nat) (l0_1 : List (List Int)) (a1 : Int) (a2 : Int) (r : Bool) (w : World) (hp0 : w.heap[g0_]? = some (.cells #[.slice A0_0 l0_0.length c0_0, .slice A0_1 l0_1.length c0_1] 101 (0, 0))) (hr0_0 : Kd.C k50 w A0_0 l0_0.length l0_0) (hc0_0 : l0_0.length ≤ c0_0) (hr0_1 : Kd.C (Kd.slice 2 (Kd.int .i64)) w A0_1 l0_1.length l0_1) (hc0_1 : l0_1.length ≤ c0_1) (h : impl_prog_place.f l0_0 l0_1 a1 a2 = some r) :
  Calls Try.prog 67 #[.pointer (some ⟨g0_, 0, none⟩), .int .i64 a1, .int .i64 a2] w fun e w' => e = .returned (.bool r) ∧ Below w.heap.size w w' := by
 have HP0_ := am hp0
 clear hp0
 have HR0_0 := am hr0_0
 have HC0_0 := am hc0_0
 clear hr0_0 hc0_0
 have HR0_1 := am hr0_1
 have HC0_1 := am hc0_1
 clear hr0_1 hc0_1
 have HB := am (Below.refl w.heap.size w)
 have H : ((impl_prog_code.f l0_0 l0_1 a1).bind fun t467 => ((impl_in.f a2 0 (wrap64 ((t467.length : Int) - 1))).bind fun t470 => (some t470))) = some r := h
 clear h
 refine be H ?_; clear H; intro t467 A4 H
 refine be H ?_; clear H; intro t470 A5 H
 obtain rfl := Option.some.inj H
 go_enter Try.func67, Try.ntmps67
 go_wp2_with (first | ((with_reducible refine gk 43 rfl ?_); refine gC 43 (some 10) Try.func43 #[.pointer (some ⟨g0_, 0, none⟩), .int .i64 a1] ((impl_prog_code.calls g0_ (fun k_ => k_ < w.heap.size) A0_0 c0_0 l0_0 A0_1 c0_1 l0_1 a1 t467 _ (bp HP0_) (Kd.V_mk HC0_0.out (Kd.F_below (Kd.C_F k50_heap HR0_0.out) (bw HB))) (by repeat (first | exact HR0_1.out | (with_reducible refine Kd.C_alloc ?_ _) | (with_reducible refine Kd.C_drewN ?_ _) | (with_reducible refine Kd.C_drew ?_))) HC0_1.out A4.out).mono ?_); rintro e w6 ⟨v468, rfl, ho0, hb⟩; refine ⟨_, rfl, ?_⟩; have HO469 := am (Kd.V_lower (Kd.V_mono (ok' := fun k_ => True) ho0 (fun k_ hk_ => trivial)) (below_size (bw HB))); replace HP0_ := bb HP0_ hb; replace HB := bs HB hb; clear hb; (try clear ho0); obtain ⟨Ao7, co7, eo7⟩ := Kd.V_slice HO469.out; subst eo7) | ((with_reducible refine gate_callee (f := 59) rfl ?_); refine goesL_ (some 13) rfl rfl Try.func59 (by kernel_rfl) rfl #[.int .i64 a2, .int .i64 0, .int .i64 (wrap64 ((t467.length : Int) - 1))] rfl gl ?_; (with_reducible refine (impl_in.calls a2 0 (wrap64 ((t467.length : Int) - 1)) t470 _ A5.out).mono ?_); rintro e w' ⟨rfl, ⟨nd, rfl⟩⟩; refine ⟨_, rfl, ?_⟩))
 go_ret
 exact ⟨er, bw HB⟩

end Go.Proofs.Ytmfhmfhkknijeaa.QFnExactAsmRight
