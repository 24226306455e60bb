import Derived.Test.YtkhpiicijkhpkaaCFnExactAsmBytesx0
import Derived.Test.YtkhpiicijkhpkaaCFnExactAsmBytesx1
import Derived.Test.YtkhpiicijkhpkaaCFnExactAsmBytesx2
import Derived.Test.YtkhpiicijkhpkaaCFnExactAsmBytesx14
import Derived.Test.YtkhpiicijkhpkaaCFnExactAsmBytesx18
namespace Go.Proofs.Ytkhpiicijkhpkaa.QFnExactAsmBytes
open Go.RowKit Go.Proofs.YtkhpiicijkhpkaaW
open PrintWords PrintLast PrintMore PrintShort PrintIsh
attribute [local go_sem] max2_int min2_int max_two min_two max_three min_three max_four min_four
set_option linter.unusedVariables false
set_option maxHeartbeats 8000000
set_option maxRecDepth 100000
set_option linter.unusedSimpArgs false

attribute [local go_sem high] eqA82 eqA84
def impl_prog_reached.f (l0_0 : List (S121)) (l0_1 : List (List Int)) (a1 : Int) (a2 : Int) : Option (Bool) := (impl_hasFunc.f l0_0 a1).bind fun t535 => (if t535 = true then (if a2 ≥ 0 then (if 0 ≤ a1 then (if a1 < (l0_1.length : Int) then (if a2 < ((rd_L20 l0_1 a1).length : Int) then (if 0 ≤ a2 then (some (decide ((rd (rd_L20 l0_1 a1) a2) ≥ 0))) else (none)) else (some false)) else (none)) else (none)) else (some false)) else (some false))
theorem impl_prog_reached.calls (g0_ : Nat) (A0_0 : Option Addr) (c0_0 : Nat) (l0_0 : List (S121)) (A0_1 : Option Addr) (c0_1 : Nat) (l0_1 : List (List Int)) (a1 : Int) (a2 : Int) (r : Bool) (w : World) (hp0 : w.heap[g0_]? = some (.cells #[.slice A0_0 l0_0.length c0_0, .slice A0_1 l0_1.length c0_1] 158 (0, 0))) (hr0_0 : Kd.C k121 w A0_0 l0_0.length l0_0) (hc0_0 : l0_0.length ≤ c0_0) (hr0_1 : Kd.C (Kd.slice 2 (Kd.int .i64)) w A0_1 l0_1.length l0_1) (hc0_1 : l0_1.length ≤ c0_1) (h : impl_prog_reached.f l0_0 l0_1 a1 a2 = some r) :
  Calls Try.prog 97 #[.pointer (some ⟨g0_, 0, none⟩), .int .i64 a1, .int .i64 a2] w fun e w' => e = .returned (.bool r) ∧ Below w.heap.size w w' := by
 have hu32 := Try.underlying32
 have HP0_ := am hp0
 clear hp0
 have HR0_0 := am hr0_0
 have HC0_0 := am hc0_0
 clear hr0_0 hc0_0
 have HR0_1 := am hr0_1
 have HC0_1 := am hc0_1
 clear hr0_1 hc0_1
 have HB := am (Below.refl w.heap.size w)
 have H : ((impl_hasFunc.f l0_0 a1).bind fun t535 => (if t535 = true then (if a2 ≥ 0 then (if 0 ≤ a1 then (if a1 < (l0_1.length : Int) then (if a2 < ((rd_L20 l0_1 a1).length : Int) then (if 0 ≤ a2 then (some (decide ((rd (rd_L20 l0_1 a1) a2) ≥ 0))) else (none)) else (some false)) else (none)) else (none)) else (some false)) else (some false))) = some r := h
 clear h
 refine be H ?_; clear H; intro t535 A4 H
 refine qT H ?_ ?_ <;> clear H <;> intro c5 H <;> subst c5
 ·refine qL H ?_ ?_ <;> clear H <;> intro c6b0 H
  ·refine iM H ?_; clear H; intro c7b0 H
   refine iM H ?_; clear H; intro c8b0 H
   refine qI H ?_ ?_ <;> clear H <;> intro c9b0 H
   ·refine iM H ?_; clear H; intro c10b0 H
    obtain rfl := oi H
    have hcz11 := bK w HP0_
    have hfz11 := bF HP0_
    go_enter Try.func97, Try.ntmps97
    go_wp2_with (first | ((with_reducible refine gk 95 rfl ?_); refine gB 95 (some 12) Try.func95 #[.agg #[.slice A0_0 l0_0.length c0_0], .int .i64 a1] (impl_hasFunc.calls _ _ l0_0 a1 true _ (by repeat (first | exact HR0_0.out | (with_reducible refine Kd.C_alloc ?_ _) | (with_reducible refine Kd.C_drewN ?_ _) | (with_reducible refine Kd.C_drew ?_))) HC0_0.out A4.out) ?_; intro w12 hb; replace HP0_ := bb HP0_ hb; replace HB := bs HB hb; clear hb; have hcz13 := bK w12 HP0_; have hfz13 := bF HP0_; have p536 : 0 ≤ (a1 : Int) := dt; have q536 : a1 < (l0_1.length : Int) := dt; obtain ⟨ad536, A536_0, c536_0, e536, hx536_0, hl536_0, hi536_0⟩ := at_L20 HR0_1.out a1 p536 q536; cases e536; replace hx536_0 := cl HB hx536_0; have HR536_0 := am hi536_0; have HC536_0 := am hl536_0; clear hi536_0 hl536_0; replace p536 := eq_true p536; replace q536 := eq_true q536; have p537 : 0 ≤ (a1 : Int) := dt; have q537 : a1 < (l0_1.length : Int) := dt; obtain ⟨ad537, A537_0, c537_0, e537, hx537_0, hl537_0, hi537_0⟩ := at_L20 HR0_1.out a1 p537 q537; obtain rfl : ad536 = ad537 := (by injection e537); replace hx537_0 := cl HB hx537_0; have HR537_0 := am hi537_0; have HC537_0 := am hl537_0; clear hi537_0 hl537_0; replace p537 := eq_true p537; replace q537 := eq_true q537; have ea_ := Option.some.inj (hx536_0.symm.trans hx537_0); injection ea_ with ea_ en_ ec_; subst ea_; subst ec_; clear en_; have p538 : 0 ≤ (a2 : Int) := dt; have q538 : a2 < ((rd_L20 l0_1 a1).length : Int) := dt; obtain ⟨ad538, e538, hx538_0⟩ := Kd.at_int HR537_0.out a2 p538 q538; cases e538; replace hx538_0 := cl HB hx538_0; replace p538 := eq_true p538; replace q538 := eq_true q538))
    go_ret
    exact ⟨er, bw HB⟩
   obtain rfl := oi H
   have hcz14 := bK w HP0_
   have hfz14 := bF HP0_
   go_enter Try.func97, Try.ntmps97
   go_wp2_with (first | ((with_reducible refine gk 95 rfl ?_); refine gB 95 (some 12) Try.func95 #[.agg #[.slice A0_0 l0_0.length c0_0], .int .i64 a1] (impl_hasFunc.calls _ _ l0_0 a1 true _ (by repeat (first | exact HR0_0.out | (with_reducible refine Kd.C_alloc ?_ _) | (with_reducible refine Kd.C_drewN ?_ _) | (with_reducible refine Kd.C_drew ?_))) HC0_0.out A4.out) ?_; intro w15 hb; replace HP0_ := bb HP0_ hb; replace HB := bs HB hb; clear hb; have hcz16 := bK w15 HP0_; have hfz16 := bF HP0_; have p536 : 0 ≤ (a1 : Int) := dt; have q536 : a1 < (l0_1.length : Int) := dt; obtain ⟨ad536, A536_0, c536_0, e536, hx536_0, hl536_0, hi536_0⟩ := at_L20 HR0_1.out a1 p536 q536; cases e536; replace hx536_0 := cl HB hx536_0; have HR536_0 := am hi536_0; have HC536_0 := am hl536_0; clear hi536_0 hl536_0; replace p536 := eq_true p536; replace q536 := eq_true q536))
   go_ret
   exact ⟨er, bw HB⟩
  obtain rfl := oi H
  have hcz17 := bK w HP0_
  have hfz17 := bF HP0_
  go_enter Try.func97, Try.ntmps97
  go_wp2_with (first | ((with_reducible refine gk 95 rfl ?_); refine gB 95 (some 12) Try.func95 #[.agg #[.slice A0_0 l0_0.length c0_0], .int .i64 a1] (impl_hasFunc.calls _ _ l0_0 a1 true _ (by repeat (first | exact HR0_0.out | (with_reducible refine Kd.C_alloc ?_ _) | (with_reducible refine Kd.C_drewN ?_ _) | (with_reducible refine Kd.C_drew ?_))) HC0_0.out A4.out) ?_; intro w18 hb; replace HP0_ := bb HP0_ hb; replace HB := bs HB hb; clear hb))
  go_ret
  exact ⟨er, bw HB⟩
 obtain rfl := oi H
 have hcz19 := bK w HP0_
 have hfz19 := bF HP0_
 go_enter Try.func97, Try.ntmps97
 go_wp2_with (first | ((with_reducible refine gk 95 rfl ?_); refine gB 95 (some 12) Try.func95 #[.agg #[.slice A0_0 l0_0.length c0_0], .int .i64 a1] (impl_hasFunc.calls _ _ l0_0 a1 false _ (by repeat (first | exact HR0_0.out | (with_reducible refine Kd.C_alloc ?_ _) | (with_reducible refine Kd.C_drewN ?_ _) | (with_reducible refine Kd.C_drew ?_))) HC0_0.out A4.out) ?_; intro w20 hb; replace HP0_ := bb HP0_ hb; replace HB := bs HB hb; clear hb))
 go_ret
 exact ⟨er, bw HB⟩

def impl_Mov.l0 : Nat → List (S84) → List (S84) → Int → Int → Option (Bool)
 | 0, _, _, _, _ => none
 | k + 1, x0, x1, x12, x13 => if x13 < x12 then (if 0 ≤ x13 then (if x13 < (x0.length : Int) then (if x13 < (x1.length : Int) then (if (!(((rd_T84 x0 x13).f0) == ((rd_T84 x1 x13).f0)) || ((!(((rd_T84 x0 x13).f1.f0) == ((rd_T84 x1 x13).f1.f0)) || (!(((rd_T84 x0 x13).f1.f1) == ((rd_T84 x1 x13).f1.f1)))))) = true then (some false) else (impl_Mov.l0 k x0 x1 x12 (wrap64 (x13 + 1)))) else (none)) else (none)) else (none)) else (some true)
def impl_Mov.f (k : Nat) (l0 : List (S84)) (l1 : List (S84)) : Option (Bool) := if (l0.length : Int) = (l1.length : Int) then (impl_Mov.l0 k l0 l1 (l0.length : Int) 0) else (some false)
theorem impl_Mov.calls (k : Nat) (A0 : Option Addr) (c0 : Nat) (l0 : List (S84)) (A1 : Option Addr) (c1 : Nat) (l1 : List (S84)) (r : Bool) (w : World) (hr0 : Kd.C k84 w A0 l0.length l0) (hc0 : l0.length ≤ c0) (hr1 : Kd.C k84 w A1 l1.length l1) (hc1 : l1.length ≤ c1) (h : impl_Mov.f k l0 l1 = some r) :
  Calls Try.prog 139 #[.slice A0 l0.length c0, .slice A1 l1.length c1] w fun e w' => e = .returned (.bool r) ∧ Drawn0 w w' := by
 have hu84 := Try.underlying84
 have HR0 := am hr0
 have HC0 := am hc0
 clear hr0 hc0
 have HR1 := am hr1
 have HC1 := am hc1
 clear hr1 hc1
 have H : (if (l0.length : Int) = (l1.length : Int) then (impl_Mov.l0 k l0 l1 (l0.length : Int) 0) else (some false)) = some r := h
 clear h
 by_cases c3 : (l0.length : Int) = (l1.length : Int)
 ·rw [if_pos c3] at H
  have c3b0 : ((l0.length : Int) == (l1.length : Int)) = true := beq_iff_eq.mpr c3
  have c3b1 : ((l0.length : Int) != (l1.length : Int)) = false := bne_eq_false_iff_eq.mpr c3
  have c3b2 : (l0.length == l1.length) = true := by first | simpa using c3 | (simp at c3 ⊢; omega)
  clear c3
  have H' := am H
  clear H
  go_enter Try.func139, Try.ntmps139
  go_wp2
  repeat (go_quiet (fail); try go_wp2)
  go_loopg [13] k (fun kq v13 w' => ∃ (x13_1 : Int), v13 = .int .i64 x13_1 ∧ Aside0 (impl_Mov.l0 kq l0 l1 (l0.length : Int) x13_1 = some r) ∧ Aside0 (kq ≤ k) ∧ Drawn0 w w')
  case atStart => exact ⟨(0), dr, H', ⟨Nat.le_refl _⟩, by repeat (first | exact Drawn0.refl _ | apply Drawn0.step)⟩
  clear H'
  obtain ⟨x13_1, rfl, HA, HK1, ⟨m1, rfl⟩⟩ := hrel
  rcases gk with _ | k1
  ·exact absurd HA.out (by simp [impl_Mov.l0])
  have H := HA.out
  clear HA
  simp only [impl_Mov.l0] at H
  refine qI H ?_ ?_ <;> clear H <;> intro c4b0 H
  ·refine iM H ?_; clear H; intro c5b0 H
   refine iM H ?_; clear H; intro c6b0 H
   refine iM H ?_; clear H; intro c7b0 H
   by_cases c8 : (!(((rd_T84 l0 x13_1).f0) == ((rd_T84 l1 x13_1).f0)) || ((!(((rd_T84 l0 x13_1).f1.f0) == ((rd_T84 l1 x13_1).f1.f0)) || (!(((rd_T84 l0 x13_1).f1.f1) == ((rd_T84 l1 x13_1).f1.f1)))))) = true
   ·rw [if_pos c8] at H
    have c8b0 : (!(((rd_T84 l0 x13_1).f0) == ((rd_T84 l1 x13_1).f0)) || ((!(((rd_T84 l0 x13_1).f1.f0) == ((rd_T84 l1 x13_1).f1.f0)) || (!(((rd_T84 l0 x13_1).f1.f1) == ((rd_T84 l1 x13_1).f1.f1)))))) = true := c8
    clear c8
    obtain rfl := oi H
    have p539 : 0 ≤ (x13_1 : Int) := dt
    have q539 : x13_1 < (l0.length : Int) := dt
    obtain ⟨ad539, e539, hx539_0, hx539_1, hx539_2⟩ := at_T84 HR0.out x13_1 p539 q539
    cases e539
    replace p539 := eq_true p539
    replace q539 := eq_true q539
    have p540 : 0 ≤ (x13_1 : Int) := dt
    have q540 : x13_1 < (l1.length : Int) := dt
    obtain ⟨ad540, e540, hx540_0, hx540_1, hx540_2⟩ := at_T84 HR1.out x13_1 p540 q540
    cases e540
    replace p540 := eq_true p540
    replace q540 := eq_true q540
    go_wp2
    repeat (go_quiet (fail); try go_wp2)
    go_ret
    exact ⟨by first | rfl | (simp; done) | (simp [*]; done), by repeat (first | exact Drawn0.refl _ | apply Drawn0.step)⟩
   rw [if_neg c8] at H
   have c8b0 : (!(((rd_T84 l0 x13_1).f0) == ((rd_T84 l1 x13_1).f0)) || ((!(((rd_T84 l0 x13_1).f1.f0) == ((rd_T84 l1 x13_1).f1.f0)) || (!(((rd_T84 l0 x13_1).f1.f1) == ((rd_T84 l1 x13_1).f1.f1)))))) = false := by simpa using c8
   clear c8
   have H' := am H
   clear H
   have p539 : 0 ≤ (x13_1 : Int) := dt
   have q539 : x13_1 < (l0.length : Int) := dt
   obtain ⟨ad539, e539, hx539_0, hx539_1, hx539_2⟩ := at_T84 HR0.out x13_1 p539 q539
   cases e539
   replace p539 := eq_true p539
   replace q539 := eq_true q539
   have p540 : 0 ≤ (x13_1 : Int) := dt
   have q540 : x13_1 < (l1.length : Int) := dt
   obtain ⟨ad540, e540, hx540_0, hx540_1, hx540_2⟩ := at_T84 HR1.out x13_1 p540 q540
   cases e540
   replace p540 := eq_true p540
   replace q540 := eq_true q540
   go_wp2
   repeat (go_quiet (fail); try go_wp2)
   go_roundg k1
   case measure => have := HK1.out; omega
   case rel => exact ⟨(wrap64 (x13_1 + 1)), dr, H', ⟨by have := HK1.out; omega⟩, by repeat (first | exact Drawn0.refl _ | apply Drawn0.step)⟩
  obtain rfl := oi H
  go_wp2
  repeat (go_quiet (fail); try go_wp2)
  go_ret
  exact ⟨by first | rfl | (simp; done) | (simp [*]; done), by repeat (first | exact Drawn0.refl _ | apply Drawn0.step)⟩
 rw [if_neg c3] at H
 have c3b0 : ((l0.length : Int) == (l1.length : Int)) = false := beq_eq_false_iff_ne.mpr c3
 have c3b1 : ((l0.length : Int) != (l1.length : Int)) = true := bne_iff_ne.mpr c3
 have c3b2 : (l0.length == l1.length) = false := by first | simpa using c3 | (simp at c3 ⊢; omega)
 obtain rfl := oi H
 go_enter Try.func139, Try.ntmps139
 go_wp2
 repeat (go_quiet (fail); try go_wp2)
 go_ret
 exact ⟨by first | rfl | (simp; done) | (simp [*]; done), by repeat (first | exact Drawn0.refl _ | apply Drawn0.step)⟩

def impl_Val.l0 : Nat → List (S82) → List (S82) → Int → Int → Option (Bool)
 | 0, _, _, _, _ => none
 | k + 1, x0, x1, x12, x13 => if x13 < x12 then (if 0 ≤ x13 then (if x13 < (x0.length : Int) then (if x13 < (x1.length : Int) then (if (!(((rd_T82 x0 x13).f0) == ((rd_T82 x1 x13).f0)) || (!(((rd_T82 x0 x13).f1) == ((rd_T82 x1 x13).f1)))) = true then (some false) else (impl_Val.l0 k x0 x1 x12 (wrap64 (x13 + 1)))) else (none)) else (none)) else (none)) else (some true)
def impl_Val.f (k : Nat) (l0 : List (S82)) (l1 : List (S82)) : Option (Bool) := if (l0.length : Int) = (l1.length : Int) then (impl_Val.l0 k l0 l1 (l0.length : Int) 0) else (some false)
theorem impl_Val.calls (k : Nat) (A0 : Option Addr) (c0 : Nat) (l0 : List (S82)) (A1 : Option Addr) (c1 : Nat) (l1 : List (S82)) (r : Bool) (w : World) (hr0 : Kd.C k82 w A0 l0.length l0) (hc0 : l0.length ≤ c0) (hr1 : Kd.C k82 w A1 l1.length l1) (hc1 : l1.length ≤ c1) (h : impl_Val.f k l0 l1 = some r) :
  Calls Try.prog 140 #[.slice A0 l0.length c0, .slice A1 l1.length c1] w fun e w' => e = .returned (.bool r) ∧ Drawn0 w w' := by
 have hu82 := Try.underlying82
 have HR0 := am hr0
 have HC0 := am hc0
 clear hr0 hc0
 have HR1 := am hr1
 have HC1 := am hc1
 clear hr1 hc1
 have H : (if (l0.length : Int) = (l1.length : Int) then (impl_Val.l0 k l0 l1 (l0.length : Int) 0) else (some false)) = some r := h
 clear h
 by_cases c3 : (l0.length : Int) = (l1.length : Int)
 ·rw [if_pos c3] at H
  have c3b0 : ((l0.length : Int) == (l1.length : Int)) = true := beq_iff_eq.mpr c3
  have c3b1 : ((l0.length : Int) != (l1.length : Int)) = false := bne_eq_false_iff_eq.mpr c3
  have c3b2 : (l0.length == l1.length) = true := by first | simpa using c3 | (simp at c3 ⊢; omega)
  clear c3
  have H' := am H
  clear H
  go_enter Try.func140, Try.ntmps140
  go_wp2
  repeat (go_quiet (fail); try go_wp2)
  go_loopg [13] k (fun kq v13 w' => ∃ (x13_1 : Int), v13 = .int .i64 x13_1 ∧ Aside0 (impl_Val.l0 kq l0 l1 (l0.length : Int) x13_1 = some r) ∧ Aside0 (kq ≤ k) ∧ Drawn0 w w')
  case atStart => exact ⟨(0), dr, H', ⟨Nat.le_refl _⟩, by repeat (first | exact Drawn0.refl _ | apply Drawn0.step)⟩
  clear H'
  obtain ⟨x13_1, rfl, HA, HK1, ⟨m1, rfl⟩⟩ := hrel
  rcases gk with _ | k1
  ·exact absurd HA.out (by simp [impl_Val.l0])
  have H := HA.out
  clear HA
  simp only [impl_Val.l0] at H
  refine qI H ?_ ?_ <;> clear H <;> intro c4b0 H
  ·refine iM H ?_; clear H; intro c5b0 H
   refine iM H ?_; clear H; intro c6b0 H
   refine iM H ?_; clear H; intro c7b0 H
   by_cases c8 : (!(((rd_T82 l0 x13_1).f0) == ((rd_T82 l1 x13_1).f0)) || (!(((rd_T82 l0 x13_1).f1) == ((rd_T82 l1 x13_1).f1)))) = true
   ·rw [if_pos c8] at H
    have c8b0 : (!(((rd_T82 l0 x13_1).f0) == ((rd_T82 l1 x13_1).f0)) || (!(((rd_T82 l0 x13_1).f1) == ((rd_T82 l1 x13_1).f1)))) = true := c8
    clear c8
    obtain rfl := oi H
    have p541 : 0 ≤ (x13_1 : Int) := dt
    have q541 : x13_1 < (l0.length : Int) := dt
    obtain ⟨ad541, e541, hx541_0, hx541_1⟩ := at_T82 HR0.out x13_1 p541 q541
    cases e541
    replace p541 := eq_true p541
    replace q541 := eq_true q541
    have p542 : 0 ≤ (x13_1 : Int) := dt
    have q542 : x13_1 < (l1.length : Int) := dt
    obtain ⟨ad542, e542, hx542_0, hx542_1⟩ := at_T82 HR1.out x13_1 p542 q542
    cases e542
    replace p542 := eq_true p542
    replace q542 := eq_true q542
    go_wp2
    repeat (go_quiet (fail); try go_wp2)
    go_ret
    exact ⟨by first | rfl | (simp; done) | (simp [*]; done), by repeat (first | exact Drawn0.refl _ | apply Drawn0.step)⟩
   rw [if_neg c8] at H
   have c8b0 : (!(((rd_T82 l0 x13_1).f0) == ((rd_T82 l1 x13_1).f0)) || (!(((rd_T82 l0 x13_1).f1) == ((rd_T82 l1 x13_1).f1)))) = false := by simpa using c8
   clear c8
   have H' := am H
   clear H
   have p541 : 0 ≤ (x13_1 : Int) := dt
   have q541 : x13_1 < (l0.length : Int) := dt
   obtain ⟨ad541, e541, hx541_0, hx541_1⟩ := at_T82 HR0.out x13_1 p541 q541
   cases e541
   replace p541 := eq_true p541
   replace q541 := eq_true q541
   have p542 : 0 ≤ (x13_1 : Int) := dt
   have q542 : x13_1 < (l1.length : Int) := dt
   obtain ⟨ad542, e542, hx542_0, hx542_1⟩ := at_T82 HR1.out x13_1 p542 q542
   cases e542
   replace p542 := eq_true p542
   replace q542 := eq_true q542
   go_wp2
   repeat (go_quiet (fail); try go_wp2)
   go_roundg k1
   case measure => have := HK1.out; omega
   case rel => exact ⟨(wrap64 (x13_1 + 1)), dr, H', ⟨by have := HK1.out; omega⟩, by repeat (first | exact Drawn0.refl _ | apply Drawn0.step)⟩
  obtain rfl := oi H
  go_wp2
  repeat (go_quiet (fail); try go_wp2)
  go_ret
  exact ⟨by first | rfl | (simp; done) | (simp [*]; done), by repeat (first | exact Drawn0.refl _ | apply Drawn0.step)⟩
 rw [if_neg c3] at H
 have c3b0 : ((l0.length : Int) == (l1.length : Int)) = false := beq_eq_false_iff_ne.mpr c3
 have c3b1 : ((l0.length : Int) != (l1.length : Int)) = true := bne_iff_ne.mpr c3
 have c3b2 : (l0.length == l1.length) = false := by first | simpa using c3 | (simp at c3 ⊢; omega)
 obtain rfl := oi H
 go_enter Try.func140, Try.ntmps140
 go_wp2
 repeat (go_quiet (fail); try go_wp2)
 go_ret
 exact ⟨by first | rfl | (simp; done) | (simp [*]; done), by repeat (first | exact Drawn0.refl _ | apply Drawn0.step)⟩

def impl_sameIns.f (k : Nat) (l0_0 : List (S84)) (a0_1 : Int) (a0_2 : Int) (l0_3 : List (S82)) (a0_4 : Int) (l1_0 : List (S84)) (a1_1 : Int) (a1_2 : Int) (l1_3 : List (S82)) (a1_4 : Int) : Option (Bool) := (impl_Mov.f k l0_0 l1_0).bind fun t545 => (if t545 = true then (if a0_1 = a1_1 then (if a0_2 = a1_2 then ((impl_Val.f k l0_3 l1_3).bind fun t546 => (if t546 = true then (some (a0_4 == a1_4)) else (some false))) else (some false)) else (some false)) else (some false))
theorem impl_sameIns.calls (k : Nat) (A0_0 : Option Addr) (c0_0 : Nat) (l0_0 : List (S84)) (a0_1 : Int) (a0_2 : Int) (A0_3 : Option Addr) (c0_3 : Nat) (l0_3 : List (S82)) (a0_4 : Int) (A1_0 : Option Addr) (c1_0 : Nat) (l1_0 : List (S84)) (a1_1 : Int) (a1_2 : Int) (A1_3 : Option Addr) (c1_3 : Nat) (l1_3 : List (S82)) (a1_4 : Int) (r : Bool) (w : World) (hr0_0 : Kd.C k84 w A0_0 l0_0.length l0_0) (hc0_0 : l0_0.length ≤ c0_0) (hr0_3 : Kd.C k82 w A0_3 l0_3.length l0_3) (hc0_3 : l0_3.length ≤ c0_3) (hr1_0 : Kd.C k84 w A1_0 l1_0.length l1_0) (hc1_0 : l1_0.length ≤ c1_0) (hr1_3 : Kd.C k82 w A1_3 l1_3.length l1_3) (hc1_3 : l1_3.length ≤ c1_3) (h : impl_sameIns.f k l0_0 a0_1 a0_2 l0_3 a0_4 l1_0 a1_1 a1_2 l1_3 a1_4 = some r) :
  Calls Try.prog 98 #[.agg #[.slice A0_0 l0_0.length c0_0, .int .i64 a0_1, .int .i64 a0_2, .slice A0_3 l0_3.length c0_3, .int .i64 a0_4], .agg #[.slice A1_0 l1_0.length c1_0, .int .i64 a1_1, .int .i64 a1_2, .slice A1_3 l1_3.length c1_3, .int .i64 a1_4]] w fun e w' => e = .returned (.bool r) ∧ Below w.heap.size w w' := by
 have hu80 := Try.underlying80
 have HR0_0 := am hr0_0
 have HC0_0 := am hc0_0
 clear hr0_0 hc0_0
 have HR0_3 := am hr0_3
 have HC0_3 := am hc0_3
 clear hr0_3 hc0_3
 have HR1_0 := am hr1_0
 have HC1_0 := am hc1_0
 clear hr1_0 hc1_0
 have HR1_3 := am hr1_3
 have HC1_3 := am hc1_3
 clear hr1_3 hc1_3
 have HB := am (Below.refl w.heap.size w)
 have H : ((impl_Mov.f k l0_0 l1_0).bind fun t545 => (if t545 = true then (if a0_1 = a1_1 then (if a0_2 = a1_2 then ((impl_Val.f k l0_3 l1_3).bind fun t546 => (if t546 = true then (some (a0_4 == a1_4)) else (some false))) else (some false)) else (some false)) else (some false))) = some r := h
 clear h
 refine be H ?_; clear H; intro t545 A3 H
 refine qT H ?_ ?_ <;> clear H <;> intro c4 H <;> subst c4
 ·refine qE H ?_ ?_ <;> clear H
  ·intro c5b0 c5b1 H
   refine qE H ?_ ?_ <;> clear H
   ·intro c6b0 c6b1 H
    refine be H ?_; clear H; intro t546 A7 H
    refine qT H ?_ ?_ <;> clear H <;> intro c8 H <;> subst c8
    ·obtain rfl := oi H
     go_enter Try.func98, Try.ntmps98
     go_wp2_with (first | ((with_reducible refine gd 2 rfl ?_); refine bX 2 #[.slice A0_0 l0_0.length c0_0, .int .i64 a0_1, .int .i64 a0_2, .slice A0_3 l0_3.length c0_3, .int .i64 a0_4] 80 HB ?_; clear HB; intro gb543 w9 hg hb BK543 GW543 HB; clear hb hg) | ((with_reducible refine gd 3 rfl ?_); refine bX 3 #[.slice A1_0 l1_0.length c1_0, .int .i64 a1_1, .int .i64 a1_2, .slice A1_3 l1_3.length c1_3, .int .i64 a1_4] 80 HB ?_; clear HB; intro gb544 w10 hg hb BK544 GW544 HB; obtain ⟨NB543_544, NB544_543, BK543⟩ := b3 hg BK543 hb; clear hb hg; have hnb11 := NB543_544.out; have hnc11 := NB544_543.out; have hcz12_0 := bk w10 BK543 0; have hcz12_1 := bk w10 BK543 1; have hcz12_2 := bk w10 BK543 2; have hcz12_3 := bk w10 BK543 3; have hcz12_4 := bk w10 BK543 4; have hfz12_0 := bf BK543 0; have hfz12_1 := bf BK543 1; have hfz12_2 := bf BK543 2; have hfz12_3 := bf BK543 3; have hfz12_4 := bf BK543 4; have hcz13_0 := bk w10 BK544 0; have hcz13_1 := bk w10 BK544 1; have hcz13_2 := bk w10 BK544 2; have hcz13_3 := bk w10 BK544 3; have hcz13_4 := bk w10 BK544 4; have hfz13_0 := bf BK544 0; have hfz13_1 := bf BK544 1; have hfz13_2 := bf BK544 2; have hfz13_3 := bf BK544 3; have hfz13_4 := bf BK544 4) | ((with_reducible refine gk 139 rfl ?_); refine gD 139 (some 9) Try.func139 #[.slice A0_0 l0_0.length c0_0, .slice A1_0 l1_0.length c1_0] (impl_Mov.calls k _ _ l0_0 _ _ l1_0 true _ (cc (Kd.C_below HR0_0.out HB.out)) HC0_0.out (cc (Kd.C_below HR1_0.out HB.out)) HC1_0.out A3.out) ?_; intro nd) | (go_at_call 140; refine (impl_Val.calls k _ _ l0_3 _ _ l1_3 true _ (cc (Kd.C_below HR0_3.out (bw HB))) HC0_3.out (cc (Kd.C_below HR1_3.out (bw HB))) HC1_3.out A7.out).mono ?_; rintro e w' ⟨rfl, ⟨nd, rfl⟩⟩))
     go_ret
     exact ⟨er, bw HB⟩
    obtain rfl := oi H
    go_enter Try.func98, Try.ntmps98
    go_wp2_with (first | ((with_reducible refine gd 2 rfl ?_); refine bX 2 #[.slice A0_0 l0_0.length c0_0, .int .i64 a0_1, .int .i64 a0_2, .slice A0_3 l0_3.length c0_3, .int .i64 a0_4] 80 HB ?_; clear HB; intro gb543 w14 hg hb BK543 GW543 HB; clear hb hg) | ((with_reducible refine gd 3 rfl ?_); refine bX 3 #[.slice A1_0 l1_0.length c1_0, .int .i64 a1_1, .int .i64 a1_2, .slice A1_3 l1_3.length c1_3, .int .i64 a1_4] 80 HB ?_; clear HB; intro gb544 w15 hg hb BK544 GW544 HB; obtain ⟨NB543_544, NB544_543, BK543⟩ := b3 hg BK543 hb; clear hb hg; have hnb16 := NB543_544.out; have hnc16 := NB544_543.out; have hcz17_0 := bk w15 BK543 0; have hcz17_1 := bk w15 BK543 1; have hcz17_2 := bk w15 BK543 2; have hcz17_3 := bk w15 BK543 3; have hcz17_4 := bk w15 BK543 4; have hfz17_0 := bf BK543 0; have hfz17_1 := bf BK543 1; have hfz17_2 := bf BK543 2; have hfz17_3 := bf BK543 3; have hfz17_4 := bf BK543 4; have hcz18_0 := bk w15 BK544 0; have hcz18_1 := bk w15 BK544 1; have hcz18_2 := bk w15 BK544 2; have hcz18_3 := bk w15 BK544 3; have hcz18_4 := bk w15 BK544 4; have hfz18_0 := bf BK544 0; have hfz18_1 := bf BK544 1; have hfz18_2 := bf BK544 2; have hfz18_3 := bf BK544 3; have hfz18_4 := bf BK544 4) | ((with_reducible refine gk 139 rfl ?_); refine gD 139 (some 9) Try.func139 #[.slice A0_0 l0_0.length c0_0, .slice A1_0 l1_0.length c1_0] (impl_Mov.calls k _ _ l0_0 _ _ l1_0 true _ (cc (Kd.C_below HR0_0.out HB.out)) HC0_0.out (cc (Kd.C_below HR1_0.out HB.out)) HC1_0.out A3.out) ?_; intro nd) | (go_at_call 140; refine (impl_Val.calls k _ _ l0_3 _ _ l1_3 false _ (cc (Kd.C_below HR0_3.out (bw HB))) HC0_3.out (cc (Kd.C_below HR1_3.out (bw HB))) HC1_3.out A7.out).mono ?_; rintro e w' ⟨rfl, ⟨nd, rfl⟩⟩))
    go_ret
    exact ⟨er, bw HB⟩
   intro c6 c6b0 c6b1 H
   obtain rfl := oi H
   go_enter Try.func98, Try.ntmps98
   go_wp2_with (first | ((with_reducible refine gd 2 rfl ?_); refine bX 2 #[.slice A0_0 l0_0.length c0_0, .int .i64 a0_1, .int .i64 a0_2, .slice A0_3 l0_3.length c0_3, .int .i64 a0_4] 80 HB ?_; clear HB; intro gb543 w19 hg hb BK543 GW543 HB; clear hb hg) | ((with_reducible refine gd 3 rfl ?_); refine bX 3 #[.slice A1_0 l1_0.length c1_0, .int .i64 a1_1, .int .i64 a1_2, .slice A1_3 l1_3.length c1_3, .int .i64 a1_4] 80 HB ?_; clear HB; intro gb544 w20 hg hb BK544 GW544 HB; obtain ⟨NB543_544, NB544_543, BK543⟩ := b3 hg BK543 hb; clear hb hg; have hnb21 := NB543_544.out; have hnc21 := NB544_543.out; have hcz22_0 := bk w20 BK543 0; have hcz22_1 := bk w20 BK543 1; have hcz22_2 := bk w20 BK543 2; have hcz22_3 := bk w20 BK543 3; have hcz22_4 := bk w20 BK543 4; have hfz22_0 := bf BK543 0; have hfz22_1 := bf BK543 1; have hfz22_2 := bf BK543 2; have hfz22_3 := bf BK543 3; have hfz22_4 := bf BK543 4; have hcz23_0 := bk w20 BK544 0; have hcz23_1 := bk w20 BK544 1; have hcz23_2 := bk w20 BK544 2; have hcz23_3 := bk w20 BK544 3; have hcz23_4 := bk w20 BK544 4; have hfz23_0 := bf BK544 0; have hfz23_1 := bf BK544 1; have hfz23_2 := bf BK544 2; have hfz23_3 := bf BK544 3; have hfz23_4 := bf BK544 4) | ((with_reducible refine gk 139 rfl ?_); refine gD 139 (some 9) Try.func139 #[.slice A0_0 l0_0.length c0_0, .slice A1_0 l1_0.length c1_0] (impl_Mov.calls k _ _ l0_0 _ _ l1_0 true _ (cc (Kd.C_below HR0_0.out HB.out)) HC0_0.out (cc (Kd.C_below HR1_0.out HB.out)) HC1_0.out A3.out) ?_; intro nd))
   go_ret
   exact ⟨er, bw HB⟩
  intro c5 c5b0 c5b1 H
  obtain rfl := oi H
  go_enter Try.func98, Try.ntmps98
  go_wp2_with (first | ((with_reducible refine gd 2 rfl ?_); refine bX 2 #[.slice A0_0 l0_0.length c0_0, .int .i64 a0_1, .int .i64 a0_2, .slice A0_3 l0_3.length c0_3, .int .i64 a0_4] 80 HB ?_; clear HB; intro gb543 w24 hg hb BK543 GW543 HB; clear hb hg) | ((with_reducible refine gd 3 rfl ?_); refine bX 3 #[.slice A1_0 l1_0.length c1_0, .int .i64 a1_1, .int .i64 a1_2, .slice A1_3 l1_3.length c1_3, .int .i64 a1_4] 80 HB ?_; clear HB; intro gb544 w25 hg hb BK544 GW544 HB; obtain ⟨NB543_544, NB544_543, BK543⟩ := b3 hg BK543 hb; clear hb hg; have hnb26 := NB543_544.out; have hnc26 := NB544_543.out; have hcz27_0 := bk w25 BK543 0; have hcz27_1 := bk w25 BK543 1; have hcz27_2 := bk w25 BK543 2; have hcz27_3 := bk w25 BK543 3; have hcz27_4 := bk w25 BK543 4; have hfz27_0 := bf BK543 0; have hfz27_1 := bf BK543 1; have hfz27_2 := bf BK543 2; have hfz27_3 := bf BK543 3; have hfz27_4 := bf BK543 4; have hcz28_0 := bk w25 BK544 0; have hcz28_1 := bk w25 BK544 1; have hcz28_2 := bk w25 BK544 2; have hcz28_3 := bk w25 BK544 3; have hcz28_4 := bk w25 BK544 4; have hfz28_0 := bf BK544 0; have hfz28_1 := bf BK544 1; have hfz28_2 := bf BK544 2; have hfz28_3 := bf BK544 3; have hfz28_4 := bf BK544 4) | ((with_reducible refine gk 139 rfl ?_); refine gD 139 (some 9) Try.func139 #[.slice A0_0 l0_0.length c0_0, .slice A1_0 l1_0.length c1_0] (impl_Mov.calls k _ _ l0_0 _ _ l1_0 true _ (cc (Kd.C_below HR0_0.out HB.out)) HC0_0.out (cc (Kd.C_below HR1_0.out HB.out)) HC1_0.out A3.out) ?_; intro nd))
  go_ret
  exact ⟨er, bw HB⟩
 obtain rfl := oi H
 go_enter Try.func98, Try.ntmps98
 go_wp2_with (first | ((with_reducible refine gd 2 rfl ?_); refine bX 2 #[.slice A0_0 l0_0.length c0_0, .int .i64 a0_1, .int .i64 a0_2, .slice A0_3 l0_3.length c0_3, .int .i64 a0_4] 80 HB ?_; clear HB; intro gb543 w29 hg hb BK543 GW543 HB; clear hb hg) | ((with_reducible refine gd 3 rfl ?_); refine bX 3 #[.slice A1_0 l1_0.length c1_0, .int .i64 a1_1, .int .i64 a1_2, .slice A1_3 l1_3.length c1_3, .int .i64 a1_4] 80 HB ?_; clear HB; intro gb544 w30 hg hb BK544 GW544 HB; obtain ⟨NB543_544, NB544_543, BK543⟩ := b3 hg BK543 hb; clear hb hg; have hnb31 := NB543_544.out; have hnc31 := NB544_543.out; have hcz32_0 := bk w30 BK543 0; have hcz32_1 := bk w30 BK543 1; have hcz32_2 := bk w30 BK543 2; have hcz32_3 := bk w30 BK543 3; have hcz32_4 := bk w30 BK543 4; have hfz32_0 := bf BK543 0; have hfz32_1 := bf BK543 1; have hfz32_2 := bf BK543 2; have hfz32_3 := bf BK543 3; have hfz32_4 := bf BK543 4; have hcz33_0 := bk w30 BK544 0; have hcz33_1 := bk w30 BK544 1; have hcz33_2 := bk w30 BK544 2; have hcz33_3 := bk w30 BK544 3; have hcz33_4 := bk w30 BK544 4; have hfz33_0 := bf BK544 0; have hfz33_1 := bf BK544 1; have hfz33_2 := bf BK544 2; have hfz33_3 := bf BK544 3; have hfz33_4 := bf BK544 4) | ((with_reducible refine gk 139 rfl ?_); refine gD 139 (some 9) Try.func139 #[.slice A0_0 l0_0.length c0_0, .slice A1_0 l1_0.length c1_0] (impl_Mov.calls k _ _ l0_0 _ _ l1_0 false _ (cc (Kd.C_below HR0_0.out HB.out)) HC0_0.out (cc (Kd.C_below HR1_0.out HB.out)) HC1_0.out A3.out) ?_; intro nd))
 go_ret
 exact ⟨er, bw HB⟩

def impl_bareNop.f  : Option ((List (S84)) × Int × Int × (List (S82)) × Int) := some (([] : List (S84)), 0, (-1), ([] : List (S82)), 0)
theorem impl_bareNop.calls  (r1 : List (S84)) (r2 : Int) (r3 : Int) (r4 : List (S82)) (r5 : Int) (w : World) (h : impl_bareNop.f  = some (r1, r2, r3, r4, r5)) :
  Calls Try.prog 99 #[] w fun e w' => ∃ v0_ v3_ : Value, e = .returned (.agg #[v0_, .int .i64 r2, .int .i64 r3, v3_, .int .i64 r5]) ∧ Kd.R k84 84 w' w.heap.size (fun _ => True) v0_ r1 ∧ Kd.R k82 82 w' w.heap.size (fun _ => True) v3_ r4 ∧ Below w.heap.size w w' := by
 have hu80 := Try.underlying80
 have HB := am (Below.refl w.heap.size w)
 have H : (some (([] : List (S84)), 0, (-1), ([] : List (S82)), 0)) = some (r1, r2, r3, r4, r5) := h
 clear h
 simp only [Option.some.injEq, Prod.mk.injEq] at H
 obtain ⟨rfl, rfl, rfl, rfl, rfl⟩ := H
 go_enter Try.func99, Try.ntmps99
 go_wp2_with (first | ((with_reducible refine gd 0 rfl ?_); refine bX 0 #[.slice none 0 0, .int .i64 0, .int .i64 0, .slice none 0 0, .int .i64 0] 80 HB ?_; clear HB; intro gb547 w1 hg hb BK547 GW547 HB; clear hb hg; have hcz2_0 := bk w1 BK547 0; have hcz2_1 := bk w1 BK547 1; have hcz2_2 := bk w1 BK547 2; have hcz2_3 := bk w1 BK547 3; have hcz2_4 := bk w1 BK547 4; have hfz2_0 := bf BK547 0; have hfz2_1 := bf BK547 1; have hfz2_2 := bf BK547 2; have hfz2_3 := bf BK547 3; have hfz2_4 := bf BK547 4))
 refine bodyPost_ret (results_cell_row rfl _ _ gb547 80 #[.slice none 0 0, .int .i64 0, .int .i64 (-1), .slice none 0 0, .int .i64 0] (0, 0) _ rfl (bt BK547) Try.underlying80 rfl (by kernel_rfl)) rfl ?_
 exact ⟨_, _, er, by first | exact Kd.R_nil _ _ _ _ _ | exact Kd.N_nil _ _ _ _ _ | exact Kd.V_nil _ _ _ _ _ | exact Kd.Q_nil _ _ _ _ _ | exact Kd.S_nil _ _ _ _ _, by first | exact Kd.R_nil _ _ _ _ _ | exact Kd.N_nil _ _ _ _ _ | exact Kd.V_nil _ _ _ _ _ | exact Kd.Q_nil _ _ _ _ _ | exact Kd.S_nil _ _ _ _ _, bw HB⟩

def impl_prog_slots.f (l0_0 : List (S121)) (l0_1 : List (List Int)) (a1 : Int) (a2 : Int) : Option (Int) := if 0 ≤ a1 then (if a1 < (l0_0.length : Int) then (if a1 < (l0_1.length : Int) then (if 0 ≤ a2 then (if a2 < ((rd_L20 l0_1 a1).length : Int) then (some (wrap64 (((rd_T121 l0_0 a1).f1) + (rd (rd_L20 l0_1 a1) a2)))) else (none)) else (none)) else (none)) else (none)) else (none)
theorem impl_prog_slots.calls (g0_ : Nat) (A0_0 : Option Addr) (c0_0 : Nat) (l0_0 : List (S121)) (A0_1 : Option Addr) (c0_1 : Nat) (l0_1 : List (List Int)) (a1 : Int) (a2 : Int) (r : Int) (w : World) (hp0 : w.heap[g0_]? = some (.cells #[.slice A0_0 l0_0.length c0_0, .slice A0_1 l0_1.length c0_1] 158 (0, 0))) (hr0_0 : Kd.C k121 w A0_0 l0_0.length l0_0) (hc0_0 : l0_0.length ≤ c0_0) (hr0_1 : Kd.C (Kd.slice 2 (Kd.int .i64)) w A0_1 l0_1.length l0_1) (hc0_1 : l0_1.length ≤ c0_1) (h : impl_prog_slots.f l0_0 l0_1 a1 a2 = some r) :
  Calls Try.prog 100 #[.pointer (some ⟨g0_, 0, none⟩), .int .i64 a1, .int .i64 a2] w fun e w' => e = .returned (.int .i64 r) ∧ Below w.heap.size w w' := by
 have HP0_ := am hp0
 clear hp0
 have HR0_0 := am hr0_0
 have HC0_0 := am hc0_0
 clear hr0_0 hc0_0
 have HR0_1 := am hr0_1
 have HC0_1 := am hc0_1
 clear hr0_1 hc0_1
 have HB := am (Below.refl w.heap.size w)
 have H : (if 0 ≤ a1 then (if a1 < (l0_0.length : Int) then (if a1 < (l0_1.length : Int) then (if 0 ≤ a2 then (if a2 < ((rd_L20 l0_1 a1).length : Int) then (some (wrap64 (((rd_T121 l0_0 a1).f1) + (rd (rd_L20 l0_1 a1) a2)))) else (none)) else (none)) else (none)) else (none)) else (none)) = some r := h
 clear h
 refine iM H ?_; clear H; intro c4b0 H
 refine iM H ?_; clear H; intro c5b0 H
 refine iM H ?_; clear H; intro c6b0 H
 refine iM H ?_; clear H; intro c7b0 H
 refine iM H ?_; clear H; intro c8b0 H
 obtain rfl := oi H
 have hcz9 := bK w HP0_
 have hfz9 := bF HP0_
 have p548 : 0 ≤ (a1 : Int) := dt
 have q548 : a1 < (l0_0.length : Int) := dt
 obtain ⟨ad548, A548_2, c548_2, e548, hx548_0, hx548_1, hx548_2, hl548_2, hi548_2⟩ := at_T121 HR0_0.out a1 p548 q548
 cases e548
 have HR548_2 := am hi548_2
 have HC548_2 := am hl548_2
 clear hi548_2 hl548_2
 replace p548 := eq_true p548
 replace q548 := eq_true q548
 have p549 : 0 ≤ (a1 : Int) := dt
 have q549 : a1 < (l0_1.length : Int) := dt
 obtain ⟨ad549, A549_0, c549_0, e549, hx549_0, hl549_0, hi549_0⟩ := at_L20 HR0_1.out a1 p549 q549
 cases e549
 have HR549_0 := am hi549_0
 have HC549_0 := am hl549_0
 clear hi549_0 hl549_0
 replace p549 := eq_true p549
 replace q549 := eq_true q549
 have p550 : 0 ≤ (a2 : Int) := dt
 have q550 : a2 < ((rd_L20 l0_1 a1).length : Int) := dt
 obtain ⟨ad550, e550, hx550_0⟩ := Kd.at_int HR549_0.out a2 p550 q550
 cases e550
 replace p550 := eq_true p550
 replace q550 := eq_true q550
 go_enter Try.func100, Try.ntmps100
 go_wp2
 repeat (go_quiet (fail); try go_wp2)
 go_ret
 exact ⟨er, bw HB⟩

def impl_isLoc.f (a0 : Int) : Option (Bool) := (impl_in.f a0 0 21).bind fun t551 => (some t551)
theorem impl_isLoc.calls (a0 : Int) (r : Bool) (w : World) (h : impl_isLoc.f a0 = some r) :
  Calls Try.prog 142 #[.int .i64 a0] w fun e w' => e = .returned (.bool r) ∧ Drawn0 w w' := by
 have H : ((impl_in.f a0 0 21).bind fun t551 => (some t551)) = some r := h
 clear h
 refine be H ?_; clear H; intro t551 A2 H
 obtain rfl := oi H
 go_enter Try.func142, Try.ntmps142
 go_wp2_with (first | ((with_reducible refine gate_callee (f := 113) rfl ?_); refine goesL_ (some 4) rfl rfl Try.func113 (by kernel_rfl) rfl #[.int .i64 a0, .int .i64 0, .int .i64 21] rfl gl ?_; (with_reducible refine (impl_in.calls a0 0 21 t551 _ A2.out).mono ?_); rintro e w' ⟨rfl, ⟨nd, rfl⟩⟩; refine ⟨_, rfl, ?_⟩))
 go_ret
 exact ⟨by first | rfl | (simp; done) | (simp [*]; done), by repeat (first | exact Drawn0.refl _ | apply Drawn0.step)⟩

def impl_Val_right.f (a0_0 : Int) (a0_1 : Int) : Option (Bool) := if a0_0 = 0 then (some (a0_1 == 0)) else (if a0_0 = 1 then ((impl_isLoc.f a0_1).bind fun t553 => (some t553)) else (some (a0_0 == 2)))
theorem impl_Val_right.calls (a0_0 : Int) (a0_1 : Int) (r : Bool) (w : World) (h : impl_Val_right.f a0_0 a0_1 = some r) :
  Calls Try.prog 102 #[.agg #[.int .i64 a0_0, .int .i64 a0_1]] w fun e w' => e = .returned (.bool r) ∧ Below w.heap.size w w' := by
 have hu82 := Try.underlying82
 have HB := am (Below.refl w.heap.size w)
 have H : (if a0_0 = 0 then (some (a0_1 == 0)) else (if a0_0 = 1 then ((impl_isLoc.f a0_1).bind fun t553 => (some t553)) else (some (a0_0 == 2)))) = some r := h
 clear h
 have HC2 := am H
 clear H
 go_enter Try.func102, Try.ntmps102
 go_upto_if 5 with (first | ((with_reducible refine gd 1 rfl ?_); refine bX 1 #[.int .i64 a0_0, .int .i64 a0_1] 82 HB ?_; clear HB; intro gb552 w3 hg hb BK552 GW552 HB; clear hb hg; have hcz4 := bK w3 BK552; have hfz4 := bF BK552))
 (try simp only [Act.put, sa, sz, ss])
 have H := HC2.out
 clear HC2
 refine qE H ?_ ?_ <;> clear H
 ·intro c5b0 c5b1 H
  (first | rw [c5b0] | (simp only [i64_w, i32_w]; rw [c5b0]) | skip)
  obtain rfl := oi H
  have hcz6 := bK w3 BK552
  have hfz6 := bF BK552
  go_wp2
  go_ret
  exact ⟨er, bw HB⟩
 intro c5 c5b0 c5b1 H
 (first | rw [c5b0] | (simp only [i64_w, i32_w]; rw [c5b0]) | skip)
 refine qE H ?_ ?_ <;> clear H
 ·intro c7b0 c7b1 H
  refine be H ?_; clear H; intro t553 A8 H
  obtain rfl := oi H
  have hcz9 := bK w3 BK552
  have hfz9 := bF BK552
  go_wp2_with (first | ((with_reducible refine gate_callee (f := 142) rfl ?_); refine goesL_ (some 14) rfl rfl Try.func142 (by kernel_rfl) rfl #[.int .i64 a0_1] rfl gl ?_; (with_reducible refine (impl_isLoc.calls a0_1 t553 _ A8.out).mono ?_); rintro e w' ⟨rfl, ⟨nd, rfl⟩⟩; refine ⟨_, rfl, ?_⟩))
  go_ret
  exact ⟨er, bw HB⟩
 intro c7 c7b0 c7b1 H
 obtain rfl := oi H
 have hcz10 := bK w3 BK552
 have hfz10 := bF BK552
 go_wp2
 go_ret
 exact ⟨er, bw HB⟩

def impl_Val_some.f (a0_0 : Int) (a0_1 : Int) : Option (Bool) := if a0_0 = 0 then (some false) else ((impl_Val_right.f a0_0 a0_1).bind fun t555 => (some t555))
theorem impl_Val_some.calls (a0_0 : Int) (a0_1 : Int) (r : Bool) (w : World) (h : impl_Val_some.f a0_0 a0_1 = some r) :
  Calls Try.prog 143 #[.agg #[.int .i64 a0_0, .int .i64 a0_1]] w fun e w' => e = .returned (.bool r) ∧ Below w.heap.size w w' := by
 have hu82 := Try.underlying82
 have HB := am (Below.refl w.heap.size w)
 have H : (if a0_0 = 0 then (some false) else ((impl_Val_right.f a0_0 a0_1).bind fun t555 => (some t555))) = some r := h
 clear h
 refine qE H ?_ ?_ <;> clear H
 ·intro c2b0 c2b1 H
  obtain rfl := oi H
  go_enter Try.func143, Try.ntmps143
  go_wp2_with (first | ((with_reducible refine gd 1 rfl ?_); refine bX 1 #[.int .i64 a0_0, .int .i64 a0_1] 82 HB ?_; clear HB; intro gb554 w3 hg hb BK554 GW554 HB; clear hb hg; have hcz4 := bK w3 BK554; have hfz4 := bF BK554))
  go_ret
  exact ⟨er, bw HB⟩
 intro c2 c2b0 c2b1 H
 refine be H ?_; clear H; intro t555 A5 H
 obtain rfl := oi H
 go_enter Try.func143, Try.ntmps143
 go_wp2_with (first | ((with_reducible refine gd 1 rfl ?_); refine bX 1 #[.int .i64 a0_0, .int .i64 a0_1] 82 HB ?_; clear HB; intro gb554 w6 hg hb BK554 GW554 HB; clear hb hg; have hcz7 := bK w6 BK554; have hfz7 := bF BK554) | (go_at_call 102; (with_reducible refine (impl_Val_right.calls a0_0 a0_1 t555 _ A5.out).mono ?_); rintro e w8 ⟨rfl, hb⟩; replace BK554 := bb BK554 hb; replace HB := bs HB hb; clear hb))
 go_ret
 exact ⟨er, bw HB⟩

def impl_someAll.l0 : Nat → List (S82) → Int → Int → Option (Bool)
 | 0, _, _, _ => none
 | k + 1, x5, x6, x7 => if x7 < x6 then (if 0 ≤ x7 then (if x7 < (x5.length : Int) then ((impl_Val_some.f ((rd_T82 x5 x7).f0) ((rd_T82 x5 x7).f1)).bind fun t558 => (if t558 = true then (impl_someAll.l0 k x5 x6 (wrap64 (x7 + 1))) else (some false))) else (none)) else (none)) else (some true)
def impl_someAll.f (k : Nat) (l0 : List (S82)) : Option (Bool) := impl_someAll.l0 k l0 (l0.length : Int) 0
theorem impl_someAll.calls (k : Nat) (A0 : Option Addr) (c0 : Nat) (l0 : List (S82)) (r : Bool) (w : World) (hr0 : Kd.C k82 w A0 l0.length l0) (hc0 : l0.length ≤ c0) (h : impl_someAll.f k l0 = some r) :
  Calls Try.prog 141 #[.slice A0 l0.length c0] w fun e w' => e = .returned (.bool r) ∧ Below w.heap.size w w' := by
 have hu82 := Try.underlying82
 have HR0 := am hr0
 have HC0 := am hc0
 clear hr0 hc0
 have HB := am (Below.refl w.heap.size w)
 have H : (impl_someAll.l0 k l0 (l0.length : Int) 0) = some r := h
 clear h
 have H' := am H
 clear H
 go_enter Try.func141, Try.ntmps141
 go_wp2
 go_loopg [7] k (fun kq v7 w' => ∃ (x7_1 : Int), v7 = .int .i64 x7_1 ∧ Aside0 (impl_someAll.l0 kq l0 (l0.length : Int) x7_1 = some r) ∧ Aside0 (kq ≤ k) ∧ Aside0 (Below w.heap.size w w'))
 case atStart => exact ⟨(0), dr, H', ⟨Nat.le_refl _⟩, ⟨bw HB⟩⟩
 clear H'
 obtain ⟨x7_1, rfl, HA, HK1, HB⟩ := hrel
 rcases gk with _ | k1
 ·exact absurd HA.out (by simp [impl_someAll.l0])
 have H := HA.out
 clear HA
 simp only [impl_someAll.l0] at H
 refine qI H ?_ ?_ <;> clear H <;> intro c2b0 H
 ·refine iM H ?_; clear H; intro c3b0 H
  refine iM H ?_; clear H; intro c4b0 H
  refine be H ?_; clear H; intro t558 A5 H
  have HC6 := am H
  clear H
  have p556 : 0 ≤ (x7_1 : Int) := dt
  have q556 : x7_1 < (l0.length : Int) := dt
  obtain ⟨ad556, e556, hx556_0, hx556_1⟩ := at_T82 HR0.out x7_1 p556 q556
  cases e556
  replace hx556_0 := cl HB hx556_0
  replace hx556_1 := cl HB hx556_1
  replace p556 := eq_true p556
  replace q556 := eq_true q556
  go_upto_if 13 with (first | ((with_reducible refine gd 4 rfl ?_); refine bX 4 #[.int .i64 0, .int .i64 0] 82 HB ?_; clear HB; intro gb557 w7 hg hb BK557 GW557 HB; clear hb hg; have hcz8 := bK w7 BK557; have hfz8 := bF BK557) | ((with_reducible refine gate_callee (f := 143) rfl ?_); refine goesL_ (some 12) rfl rfl Try.func143 (by kernel_rfl) rfl #[.agg #[.int .i64 ((rd_T82 l0 x7_1).f0), .int .i64 ((rd_T82 l0 x7_1).f1)]] rfl gl ?_; (with_reducible refine (impl_Val_some.calls ((rd_T82 l0 x7_1).f0) ((rd_T82 l0 x7_1).f1) t558 _ A5.out).mono ?_); rintro e w9 ⟨rfl, hb⟩; refine ⟨_, rfl, ?_⟩; replace BK557 := bo #[.int .i64 ((rd_T82 l0 x7_1).f0), .int .i64 ((rd_T82 l0 x7_1).f1)] BK557 hb; replace HB := bs HB hb; clear hb))
  (try simp only [Act.put, sa, sz, ss])
  have H := HC6.out
  clear HC6
  refine qT H ?_ ?_ <;> clear H <;> intro c10 H <;> subst c10
  ·have H' := am H
   clear H
   go_wp2
   go_roundg k1
   case measure => have := HK1.out; omega
   case rel => exact ⟨(wrap64 (x7_1 + 1)), dr, H', ⟨by have := HK1.out; omega⟩, ⟨bw HB⟩⟩
  obtain rfl := oi H
  go_wp2
  go_ret
  exact ⟨er, bw HB⟩
 obtain rfl := oi H
 go_wp2
 go_ret
 exact ⟨er, bw HB⟩

def impl_prog_place.f (l0_0 : List (S121)) (l0_1 : List (List Int)) (a1 : Int) (a2 : Int) : Option (Bool) := (impl_prog_code.f l0_0 l0_1 a1).bind fun t559 => ((impl_in.f a2 0 (wrap64 ((t559.length : Int) - 1))).bind fun t562 => (some t562))
theorem impl_prog_place.calls (g0_ : Nat) (A0_0 : Option Addr) (c0_0 : Nat) (l0_0 : List (S121)) (A0_1 : Option Addr) (c0_1 : Nat) (l0_1 : List (List Int)) (a1 : Int) (a2 : Int) (r : Bool) (w : World) (hp0 : w.heap[g0_]? = some (.cells #[.slice A0_0 l0_0.length c0_0, .slice A0_1 l0_1.length c0_1] 158 (0, 0))) (hr0_0 : Kd.C k121 w A0_0 l0_0.length l0_0) (hc0_0 : l0_0.length ≤ c0_0) (hr0_1 : Kd.C (Kd.slice 2 (Kd.int .i64)) w A0_1 l0_1.length l0_1) (hc0_1 : l0_1.length ≤ c0_1) (h : impl_prog_place.f l0_0 l0_1 a1 a2 = some r) :
  Calls Try.prog 144 #[.pointer (some ⟨g0_, 0, none⟩), .int .i64 a1, .int .i64 a2] w fun e w' => e = .returned (.bool r) ∧ Below w.heap.size w w' := by
 have HP0_ := am hp0
 clear hp0
 have HR0_0 := am hr0_0
 have HC0_0 := am hc0_0
 clear hr0_0 hc0_0
 have HR0_1 := am hr0_1
 have HC0_1 := am hc0_1
 clear hr0_1 hc0_1
 have HB := am (Below.refl w.heap.size w)
 have H : ((impl_prog_code.f l0_0 l0_1 a1).bind fun t559 => ((impl_in.f a2 0 (wrap64 ((t559.length : Int) - 1))).bind fun t562 => (some t562))) = some r := h
 clear h
 refine be H ?_; clear H; intro t559 A4 H
 refine be H ?_; clear H; intro t562 A5 H
 obtain rfl := oi H
 go_enter Try.func144, Try.ntmps144
 go_wp2_with (first | ((with_reducible refine gk 96 rfl ?_); refine gC 96 (some 10) Try.func96 #[.pointer (some ⟨g0_, 0, none⟩), .int .i64 a1] ((impl_prog_code.calls g0_ (fun k_ => k_ < w.heap.size) A0_0 c0_0 l0_0 A0_1 c0_1 l0_1 a1 t559 _ (bp HP0_) (Kd.V_mk HC0_0.out (Kd.F_below (Kd.C_F k121_heap HR0_0.out) (bw HB))) (by repeat (first | exact HR0_1.out | (with_reducible refine Kd.C_alloc ?_ _) | (with_reducible refine Kd.C_drewN ?_ _) | (with_reducible refine Kd.C_drew ?_))) HC0_1.out A4.out).mono ?_); rintro e w6 ⟨v560, rfl, ho0, hb⟩; refine ⟨_, rfl, ?_⟩; have HO561 := am (Kd.V_lower (Kd.V_mono (ok' := fun k_ => True) ho0 (fun k_ hk_ => trivial)) (below_size (bw HB))); replace HP0_ := bb HP0_ hb; replace HB := bs HB hb; clear hb; obtain ⟨Ao7, co7, eo7⟩ := Kd.V_slice HO561.out; subst eo7) | ((with_reducible refine gate_callee (f := 113) rfl ?_); refine goesL_ (some 13) rfl rfl Try.func113 (by kernel_rfl) rfl #[.int .i64 a2, .int .i64 0, .int .i64 (wrap64 ((t559.length : Int) - 1))] rfl gl ?_; (with_reducible refine (impl_in.calls a2 0 (wrap64 ((t559.length : Int) - 1)) t562 _ A5.out).mono ?_); rintro e w' ⟨rfl, ⟨nd, rfl⟩⟩; refine ⟨_, rfl, ?_⟩))
 go_ret
 exact ⟨er, bw HB⟩

end Go.Proofs.Ytkhpiicijkhpkaa.QFnExactAsmBytes
