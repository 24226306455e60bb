import Derived.Test.YtoegdbeajgddiaaCFnExactBeginx0
import Derived.Test.YtoegdbeajgddiaaCFnExactBeginx13
namespace Go.Proofs.Ytoegdbeajgddiaa.QFnExactBegin
open Go.RowKit Go.Proofs.YtoegdbeajgddiaaW
open PrintWords PrintLast PrintMore PrintShort PrintIsh
attribute [local go_sem] max2_int min2_int max_two min_two max_three min_three max_four min_four   -- for this text's walks alone
set_option linter.unusedVariables false
set_option maxHeartbeats 8000000
set_option maxRecDepth 100000
set_option linter.unusedSimpArgs false

def laws_heldInt64S.l0 : Nat → List Int → Int → Int → Option (Int)
 | 0, _, _, _ => none
 | k + 1, x0, x1, x5 => if x5 < (x0.length : Int) then (if 0 ≤ x5 then (if (rd x0 x5) = x1 then (laws_heldInt64S.l0 k x0 (wrap64 (x1 + 1)) (wrap64 (x5 + 1))) else (some (-1))) else (none)) else (some x1)
def laws_heldInt64S.f (k : Nat) (l0 : List Int) (a1 : Int) : Option (Int) := laws_heldInt64S.l0 k l0 a1 0
theorem laws_heldInt64S.mono_l : ∀ k, (∀ y0 y1 y2, LeO (laws_heldInt64S.l0 k y0 y1 y2) (laws_heldInt64S.l0 (k + 1) y0 y1 y2))
 | 0 => fun _ _ _ r h => by simp [laws_heldInt64S.l0] at h
 | k + 1 => by
  have ih0 := laws_heldInt64S.mono_l k
  ·intro y0 y1 y2
   unfold laws_heldInt64S.l0
   with_reducible repeat' first | exact ih0 .. | exact LeO.refl _ | exact LeO.none _ | refine LeO.ite ?_ ?_ | refine LeO.bind ?_ (fun _ => ?_)
theorem laws_heldInt64S.mono : ∀ a0 a1 k, LeO (laws_heldInt64S.f k a0 a1) (laws_heldInt64S.f (k + 1) a0 a1) := by
 intro a0 a1 k
 have ih0 := laws_heldInt64S.mono_l k
 unfold laws_heldInt64S.f
 with_reducible repeat' first | exact ih0 .. | exact LeO.refl _ | exact LeO.none _ | refine LeO.ite ?_ ?_ | refine LeO.bind ?_ (fun _ => ?_)
theorem laws_heldInt64S.calls (k : Nat) (A0 : Option Addr) (c0 : Nat) (l0 : List Int) (a1 : Int) (r : Int) (w : World) (hr0 : Kd.C (Kd.int .i64) w A0 l0.length l0) (hc0 : l0.length ≤ c0) (h : laws_heldInt64S.f k l0 a1 = some r) :
  Calls Try.prog 31 #[.slice A0 l0.length c0, .int .i64 a1] w fun e w' => e = .returned (.int .i64 r) ∧ Drawn0 w w' := by
 have HR0 := am hr0
 have HC0 := am hc0
 clear hr0 hc0
 have H : (laws_heldInt64S.l0 k l0 a1 0) = some r := h
 clear h
 have H' := am H
 clear H
 go_enter Try.func31, Try.ntmps31
 go_wp2
 go_loopg [1, 5] k (fun kq v1 v5 w' => ∃ (x1_1 : Int) (x5_1 : Int), v1 = .int .i64 x1_1 ∧ v5 = .int .i64 x5_1 ∧ Aside0 (laws_heldInt64S.l0 kq l0 x1_1 x5_1 = some r) ∧ Aside0 (kq ≤ k) ∧ Drawn0 w w')
 case atStart => exact ⟨(a1), (0), dr, dr, H', ⟨Nat.le_refl _⟩, by repeat (first | exact Drawn0.refl _ | apply Drawn0.step)⟩
 clear H'
 try clear p2
 obtain ⟨x1_1, x5_1, rfl, rfl, HA, HK1, ⟨m1, rfl⟩⟩ := hrel
 rcases gk with _ | k1
 ·exact absurd HA.out (by simp [laws_heldInt64S.l0])
 have H := HA.out
 clear HA
 simp only [laws_heldInt64S.l0] at H
 refine qI H ?_ ?_ <;> clear H <;> intro c3b0 H
 ·refine iM H ?_; clear H; intro c4b0 H
  refine qE H ?_ ?_ <;> clear H
  ·intro c5b0 c5b1 H
   have H' := am H
   clear H
   have p420 : 0 ≤ (x5_1 : Int) := of_decide_eq_true as1
   have q420 : x5_1 < (l0.length : Int) := of_decide_eq_true as1
   obtain ⟨ad420, e420, hx420_0⟩ := Kd.at_int HR0.out x5_1 p420 q420
   cases e420
   replace p420 := eq_true p420
   replace q420 := eq_true q420
   go_wp2
   go_roundg k1
   case measure => have := HK1.out; omega
   case rel => exact ⟨(wrap64 (x1_1 + 1)), (wrap64 (x5_1 + 1)), dr, dr, H', ⟨by have := HK1.out; omega⟩, by repeat (first | exact Drawn0.refl _ | apply Drawn0.step)⟩
  intro c5 c5b0 c5b1 H
  obtain rfl := Option.some.inj H
  have p420 : 0 ≤ (x5_1 : Int) := of_decide_eq_true as1
  have q420 : x5_1 < (l0.length : Int) := of_decide_eq_true as1
  obtain ⟨ad420, e420, hx420_0⟩ := Kd.at_int HR0.out x5_1 p420 q420
  cases e420
  replace p420 := eq_true p420
  replace q420 := eq_true q420
  go_wp2
  go_ret
  exact ⟨by first | rfl | (simp; done) | (simp [*]; done), by repeat (first | exact Drawn0.refl _ | apply Drawn0.step)⟩
 obtain rfl := Option.some.inj H
 go_wp2
 go_ret
 exact ⟨by first | rfl | (simp; done) | (simp [*]; done), by repeat (first | exact Drawn0.refl _ | apply Drawn0.step)⟩

def laws_heldFrameS.l0 : Nat → List (S47) → Int → Int → Option (Int)
 | 0, _, _, _ => none
 | k + 1, x0, x1, x5 => if x5 < (x0.length : Int) then (if 0 ≤ x5 then (if ((rd_T47 x0 x5).f0) = x1 then (if ((rd_T47 x0 x5).f1) = (wrap64 (x1 + 1)) then ((laws_heldInt64S.f k ((rd_T47 x0 x5).f2) (wrap64 ((wrap64 (x1 + 1)) + 1))).bind fun t424 => (if t424 < 0 then (some (-1)) else ((laws_heldInt64S.f k ((rd_T47 x0 x5).f3) t424).bind fun t426 => (if t426 < 0 then (some (-1)) else (laws_heldFrameS.l0 k x0 t426 (wrap64 (x5 + 1))))))) else (some (-1))) else (some (-1))) else (none)) else (some x1)
def laws_heldFrameS.f (k : Nat) (l0 : List (S47)) (a1 : Int) : Option (Int) := laws_heldFrameS.l0 k l0 a1 0
theorem laws_heldFrameS.mono_l : ∀ k, (∀ y0 y1 y2, LeO (laws_heldFrameS.l0 k y0 y1 y2) (laws_heldFrameS.l0 (k + 1) y0 y1 y2))
 | 0 => fun _ _ _ r h => by simp [laws_heldFrameS.l0] at h
 | k + 1 => by
  have ih0 := laws_heldFrameS.mono_l k
  ·intro y0 y1 y2
   unfold laws_heldFrameS.l0
   with_reducible repeat' first | exact ih0 .. | exact laws_heldInt64S.mono .. | exact LeO.refl _ | exact LeO.none _ | refine LeO.ite ?_ ?_ | refine LeO.bind ?_ (fun _ => ?_)
theorem laws_heldFrameS.mono : ∀ a0 a1 k, LeO (laws_heldFrameS.f k a0 a1) (laws_heldFrameS.f (k + 1) a0 a1) := by
 intro a0 a1 k
 have ih0 := laws_heldFrameS.mono_l k
 unfold laws_heldFrameS.f
 with_reducible repeat' first | exact ih0 .. | exact laws_heldInt64S.mono .. | exact LeO.refl _ | exact LeO.none _ | refine LeO.ite ?_ ?_ | refine LeO.bind ?_ (fun _ => ?_)
theorem laws_heldFrameS.calls (k : Nat) (A0 : Option Addr) (c0 : Nat) (l0 : List (S47)) (a1 : Int) (r : Int) (w : World) (hr0 : Kd.C k47 w A0 l0.length l0) (hc0 : l0.length ≤ c0) (h : laws_heldFrameS.f k l0 a1 = some r) :
  Calls Try.prog 29 #[.slice A0 l0.length c0, .int .i64 a1] w fun e w' => e = .returned (.int .i64 r) ∧ Drawn0 w w' := by
 have HR0 := am hr0
 have HC0 := am hc0
 clear hr0 hc0
 have H : (laws_heldFrameS.l0 k l0 a1 0) = some r := h
 clear h
 have H' := am H
 clear H
 go_enter Try.func29, Try.ntmps29
 go_wp2
 go_loopg [1, 5] k (fun kq v1 v5 w' => ∃ (x1_1 : Int) (x5_1 : Int), v1 = .int .i64 x1_1 ∧ v5 = .int .i64 x5_1 ∧ Aside0 (laws_heldFrameS.l0 kq l0 x1_1 x5_1 = some r) ∧ Aside0 (kq ≤ k) ∧ Drawn0 w w')
 case atStart => exact ⟨(a1), (0), dr, dr, H', ⟨Nat.le_refl _⟩, by repeat (first | exact Drawn0.refl _ | apply Drawn0.step)⟩
 clear H'
 (try clear c2); (try clear p2)
 obtain ⟨x1_1, x5_1, rfl, rfl, HA, HK1, ⟨m1, rfl⟩⟩ := hrel
 rcases gk with _ | k1
 ·exact absurd HA.out (by simp [laws_heldFrameS.l0])
 have H := HA.out
 clear HA
 simp only [laws_heldFrameS.l0] at H
 refine qI H ?_ ?_ <;> clear H <;> intro c3b0 H
 ·refine iM H ?_; clear H; intro c4b0 H
  refine qE H ?_ ?_ <;> clear H
  ·intro c5b0 c5b1 H
   refine qE H ?_ ?_ <;> clear H
   ·intro c6b0 c6b1 H
    refine be H ?_; clear H; intro t424 A7 H
    have HC8 := am H
    clear H
    have p421 : 0 ≤ (x5_1 : Int) := of_decide_eq_true as1
    have q421 : x5_1 < (l0.length : Int) := of_decide_eq_true as1
    obtain ⟨ad421, A421_2, c421_2, A421_3, c421_3, e421, hx421_0, hx421_1, hx421_2, hx421_3, hl421_2, hi421_2, hl421_3, hi421_3⟩ := at_T47 HR0.out x5_1 p421 q421
    cases e421
    have HR421_2 := am hi421_2
    have HC421_2 := am hl421_2
    clear hi421_2 hl421_2
    have HR421_3 := am hi421_3
    have HC421_3 := am hl421_3
    clear hi421_3 hl421_3
    replace p421 := eq_true p421
    replace q421 := eq_true q421
    have p422 : 0 ≤ (x5_1 : Int) := of_decide_eq_true as1
    have q422 : x5_1 < (l0.length : Int) := of_decide_eq_true as1
    obtain ⟨ad422, A422_2, c422_2, A422_3, c422_3, e422, hx422_0, hx422_1, hx422_2, hx422_3, hl422_2, hi422_2, hl422_3, hi422_3⟩ := at_T47 HR0.out x5_1 p422 q422
    obtain rfl : ad421 = ad422 := (by injection e422)
    have HR422_2 := am hi422_2
    have HC422_2 := am hl422_2
    clear hi422_2 hl422_2
    have HR422_3 := am hi422_3
    have HC422_3 := am hl422_3
    clear hi422_3 hl422_3
    replace p422 := eq_true p422
    replace q422 := eq_true q422
    have ea_ := Option.some.inj (hx421_2.symm.trans hx422_2)
    injection ea_ with ea_ en_ ec_
    subst ea_
    subst ec_
    clear en_
    have ea_ := Option.some.inj (hx421_3.symm.trans hx422_3)
    injection ea_ with ea_ en_ ec_
    subst ea_
    subst ec_
    clear en_
    have p423 : 0 ≤ (x5_1 : Int) := of_decide_eq_true as1
    have q423 : x5_1 < (l0.length : Int) := of_decide_eq_true as1
    obtain ⟨ad423, A423_2, c423_2, A423_3, c423_3, e423, hx423_0, hx423_1, hx423_2, hx423_3, hl423_2, hi423_2, hl423_3, hi423_3⟩ := at_T47 HR0.out x5_1 p423 q423
    obtain rfl : ad421 = ad423 := (by injection e423)
    have HR423_2 := am hi423_2
    have HC423_2 := am hl423_2
    clear hi423_2 hl423_2
    have HR423_3 := am hi423_3
    have HC423_3 := am hl423_3
    clear hi423_3 hl423_3
    replace p423 := eq_true p423
    replace q423 := eq_true q423
    have ea_ := Option.some.inj (hx421_2.symm.trans hx423_2)
    injection ea_ with ea_ en_ ec_
    subst ea_
    subst ec_
    clear en_
    have ea_ := Option.some.inj (hx421_3.symm.trans hx423_3)
    injection ea_ with ea_ en_ ec_
    subst ea_
    subst ec_
    clear en_
    go_upto_if 38 with (first | ((with_reducible refine gk 31 rfl ?_); refine gD 31 (some 36) Try.func31 #[.slice A421_2 ((rd_T47 l0 x5_1).f2).length c421_2, .int .i64 (wrap64 ((wrap64 (x1_1 + 1)) + 1))] (laws_heldInt64S.calls k1 _ _ ((rd_T47 l0 x5_1).f2) (wrap64 ((wrap64 (x1_1 + 1)) + 1)) t424 _ (by repeat (first | exact HR423_2.out | (with_reducible refine Kd.C_alloc ?_ _) | (with_reducible refine Kd.C_drewN ?_ _) | (with_reducible refine Kd.C_drew ?_))) HC423_2.out A7.out) ?_; intro nd))
    (try simp only [Act.put, sa, sz, ss])
    have H := HC8.out
    clear HC8
    refine qI H ?_ ?_ <;> clear H <;> intro c9b0 H
    ·(first | rw [c9b0] | (simp only [i64_w, i32_w]; rw [c9b0]) | skip)
     obtain rfl := Option.some.inj H
     go_wp2
     go_ret
     exact ⟨by first | rfl | (simp; done) | (simp [*]; done), by repeat (first | exact Drawn0.refl _ | apply Drawn0.step)⟩
    (first | rw [c9b0] | (simp only [i64_w, i32_w]; rw [c9b0]) | skip)
    refine be H ?_; clear H; intro t426 A10 H
    have HC11 := am H
    clear H
    have p425 : 0 ≤ (x5_1 : Int) := of_decide_eq_true as1
    have q425 : x5_1 < (l0.length : Int) := of_decide_eq_true as1
    obtain ⟨ad425, A425_2, c425_2, A425_3, c425_3, e425, hx425_0, hx425_1, hx425_2, hx425_3, hl425_2, hi425_2, hl425_3, hi425_3⟩ := at_T47 HR0.out x5_1 p425 q425
    obtain rfl : ad421 = ad425 := (by injection e425)
    have HR425_2 := am hi425_2
    have HC425_2 := am hl425_2
    clear hi425_2 hl425_2
    have HR425_3 := am hi425_3
    have HC425_3 := am hl425_3
    clear hi425_3 hl425_3
    replace p425 := eq_true p425
    replace q425 := eq_true q425
    have ea_ := Option.some.inj (hx421_2.symm.trans hx425_2)
    injection ea_ with ea_ en_ ec_
    subst ea_
    subst ec_
    clear en_
    have ea_ := Option.some.inj (hx421_3.symm.trans hx425_3)
    injection ea_ with ea_ en_ ec_
    subst ea_
    subst ec_
    clear en_
    go_upto_if 47 with (first | ((with_reducible refine gk 31 rfl ?_); refine gD 31 (some 45) Try.func31 #[.slice A421_3 ((rd_T47 l0 x5_1).f3).length c421_3, .int .i64 t424] (laws_heldInt64S.calls k1 _ _ ((rd_T47 l0 x5_1).f3) t424 t426 _ (by repeat (first | exact HR425_3.out | (with_reducible refine Kd.C_alloc ?_ _) | (with_reducible refine Kd.C_drewN ?_ _) | (with_reducible refine Kd.C_drew ?_))) HC425_3.out A10.out) ?_; intro nd))
    (try simp only [Act.put, sa, sz, ss])
    have H := HC11.out
    clear HC11
    refine qI H ?_ ?_ <;> clear H <;> intro c12b0 H
    ·(first | rw [c12b0] | (simp only [i64_w, i32_w]; rw [c12b0]) | skip)
     obtain rfl := Option.some.inj H
     go_wp2
     go_ret
     exact ⟨by first | rfl | (simp; done) | (simp [*]; done), by repeat (first | exact Drawn0.refl _ | apply Drawn0.step)⟩
    (first | rw [c12b0] | (simp only [i64_w, i32_w]; rw [c12b0]) | skip)
    have H' := am H
    clear H
    go_wp2
    go_roundg k1
    case measure => have := HK1.out; omega
    case rel => exact ⟨(t426), (wrap64 (x5_1 + 1)), dr, dr, H', ⟨by have := HK1.out; omega⟩, by repeat (first | exact Drawn0.refl _ | apply Drawn0.step)⟩
   intro c6 c6b0 c6b1 H
   obtain rfl := Option.some.inj H
   have p421 : 0 ≤ (x5_1 : Int) := of_decide_eq_true as1
   have q421 : x5_1 < (l0.length : Int) := of_decide_eq_true as1
   obtain ⟨ad421, A421_2, c421_2, A421_3, c421_3, e421, hx421_0, hx421_1, hx421_2, hx421_3, hl421_2, hi421_2, hl421_3, hi421_3⟩ := at_T47 HR0.out x5_1 p421 q421
   cases e421
   have HR421_2 := am hi421_2
   have HC421_2 := am hl421_2
   clear hi421_2 hl421_2
   have HR421_3 := am hi421_3
   have HC421_3 := am hl421_3
   clear hi421_3 hl421_3
   replace p421 := eq_true p421
   replace q421 := eq_true q421
   have p422 : 0 ≤ (x5_1 : Int) := of_decide_eq_true as1
   have q422 : x5_1 < (l0.length : Int) := of_decide_eq_true as1
   obtain ⟨ad422, A422_2, c422_2, A422_3, c422_3, e422, hx422_0, hx422_1, hx422_2, hx422_3, hl422_2, hi422_2, hl422_3, hi422_3⟩ := at_T47 HR0.out x5_1 p422 q422
   obtain rfl : ad421 = ad422 := (by injection e422)
   have HR422_2 := am hi422_2
   have HC422_2 := am hl422_2
   clear hi422_2 hl422_2
   have HR422_3 := am hi422_3
   have HC422_3 := am hl422_3
   clear hi422_3 hl422_3
   replace p422 := eq_true p422
   replace q422 := eq_true q422
   have ea_ := Option.some.inj (hx421_2.symm.trans hx422_2)
   injection ea_ with ea_ en_ ec_
   subst ea_
   subst ec_
   clear en_
   have ea_ := Option.some.inj (hx421_3.symm.trans hx422_3)
   injection ea_ with ea_ en_ ec_
   subst ea_
   subst ec_
   clear en_
   go_wp2
   go_ret
   exact ⟨by first | rfl | (simp; done) | (simp [*]; done), by repeat (first | exact Drawn0.refl _ | apply Drawn0.step)⟩
  intro c5 c5b0 c5b1 H
  obtain rfl := Option.some.inj H
  have p421 : 0 ≤ (x5_1 : Int) := of_decide_eq_true as1
  have q421 : x5_1 < (l0.length : Int) := of_decide_eq_true as1
  obtain ⟨ad421, A421_2, c421_2, A421_3, c421_3, e421, hx421_0, hx421_1, hx421_2, hx421_3, hl421_2, hi421_2, hl421_3, hi421_3⟩ := at_T47 HR0.out x5_1 p421 q421
  cases e421
  have HR421_2 := am hi421_2
  have HC421_2 := am hl421_2
  clear hi421_2 hl421_2
  have HR421_3 := am hi421_3
  have HC421_3 := am hl421_3
  clear hi421_3 hl421_3
  replace p421 := eq_true p421
  replace q421 := eq_true q421
  go_wp2
  go_ret
  exact ⟨by first | rfl | (simp; done) | (simp [*]; done), by repeat (first | exact Drawn0.refl _ | apply Drawn0.step)⟩
 obtain rfl := Option.some.inj H
 go_wp2
 go_ret
 exact ⟨by first | rfl | (simp; done) | (simp [*]; done), by repeat (first | exact Drawn0.refl _ | apply Drawn0.step)⟩

def laws_heldInt64SS.l0 : Nat → List (List Int) → Int → Int → Option (Int)
 | 0, _, _, _ => none
 | k + 1, x0, x1, x5 => if x5 < (x0.length : Int) then (if 0 ≤ x5 then ((laws_heldInt64S.f k (rd_L9 x0 x5) x1).bind fun t428 => (if t428 < 0 then (some (-1)) else (laws_heldInt64SS.l0 k x0 t428 (wrap64 (x5 + 1))))) else (none)) else (some x1)
def laws_heldInt64SS.f (k : Nat) (l0 : List (List Int)) (a1 : Int) : Option (Int) := laws_heldInt64SS.l0 k l0 a1 0
theorem laws_heldInt64SS.mono_l : ∀ k, (∀ y0 y1 y2, LeO (laws_heldInt64SS.l0 k y0 y1 y2) (laws_heldInt64SS.l0 (k + 1) y0 y1 y2))
 | 0 => fun _ _ _ r h => by simp [laws_heldInt64SS.l0] at h
 | k + 1 => by
  have ih0 := laws_heldInt64SS.mono_l k
  ·intro y0 y1 y2
   unfold laws_heldInt64SS.l0
   with_reducible repeat' first | exact ih0 .. | exact laws_heldInt64S.mono .. | exact LeO.refl _ | exact LeO.none _ | refine LeO.ite ?_ ?_ | refine LeO.bind ?_ (fun _ => ?_)
theorem laws_heldInt64SS.mono : ∀ a0 a1 k, LeO (laws_heldInt64SS.f k a0 a1) (laws_heldInt64SS.f (k + 1) a0 a1) := by
 intro a0 a1 k
 have ih0 := laws_heldInt64SS.mono_l k
 unfold laws_heldInt64SS.f
 with_reducible repeat' first | exact ih0 .. | exact laws_heldInt64S.mono .. | exact LeO.refl _ | exact LeO.none _ | refine LeO.ite ?_ ?_ | refine LeO.bind ?_ (fun _ => ?_)
theorem laws_heldInt64SS.calls (k : Nat) (A0 : Option Addr) (c0 : Nat) (l0 : List (List Int)) (a1 : Int) (r : Int) (w : World) (hr0 : Kd.C (Kd.slice 2 (Kd.int .i64)) w A0 l0.length l0) (hc0 : l0.length ≤ c0) (h : laws_heldInt64SS.f k l0 a1 = some r) :
  Calls Try.prog 30 #[.slice A0 l0.length c0, .int .i64 a1] w fun e w' => e = .returned (.int .i64 r) ∧ Drawn0 w w' := by
 have HR0 := am hr0
 have HC0 := am hc0
 clear hr0 hc0
 have H : (laws_heldInt64SS.l0 k l0 a1 0) = some r := h
 clear h
 have H' := am H
 clear H
 go_enter Try.func30, Try.ntmps30
 go_wp2
 go_loopg [1, 5] k (fun kq v1 v5 w' => ∃ (x1_1 : Int) (x5_1 : Int), v1 = .int .i64 x1_1 ∧ v5 = .int .i64 x5_1 ∧ Aside0 (laws_heldInt64SS.l0 kq l0 x1_1 x5_1 = some r) ∧ Aside0 (kq ≤ k) ∧ Drawn0 w w')
 case atStart => exact ⟨(a1), (0), dr, dr, H', ⟨Nat.le_refl _⟩, by repeat (first | exact Drawn0.refl _ | apply Drawn0.step)⟩
 clear H'
 try clear p2
 obtain ⟨x1_1, x5_1, rfl, rfl, HA, HK1, ⟨m1, rfl⟩⟩ := hrel
 rcases gk with _ | k1
 ·exact absurd HA.out (by simp [laws_heldInt64SS.l0])
 have H := HA.out
 clear HA
 simp only [laws_heldInt64SS.l0] at H
 refine qI H ?_ ?_ <;> clear H <;> intro c3b0 H
 ·refine iM H ?_; clear H; intro c4b0 H
  refine be H ?_; clear H; intro t428 A5 H
  have HC6 := am H
  clear H
  have p427 : 0 ≤ (x5_1 : Int) := of_decide_eq_true as1
  have q427 : x5_1 < (l0.length : Int) := of_decide_eq_true as1
  obtain ⟨ad427, A427_0, c427_0, e427, hx427_0, hl427_0, hi427_0⟩ := at_L9 HR0.out x5_1 p427 q427
  cases e427
  have HR427_0 := am hi427_0
  have HC427_0 := am hl427_0
  clear hi427_0 hl427_0
  replace p427 := eq_true p427
  replace q427 := eq_true q427
  go_upto_if 19 with (first | ((with_reducible refine gk 31 rfl ?_); refine gD 31 (some 17) Try.func31 #[.slice A427_0 (rd_L9 l0 x5_1).length c427_0, .int .i64 x1_1] (laws_heldInt64S.calls k1 _ _ (rd_L9 l0 x5_1) x1_1 t428 _ (by repeat (first | exact HR427_0.out | (with_reducible refine Kd.C_alloc ?_ _) | (with_reducible refine Kd.C_drewN ?_ _) | (with_reducible refine Kd.C_drew ?_))) HC427_0.out A5.out) ?_; intro nd))
  (try simp only [Act.put, sa, sz, ss])
  have H := HC6.out
  clear HC6
  refine qI H ?_ ?_ <;> clear H <;> intro c7b0 H
  ·(first | rw [c7b0] | (simp only [i64_w, i32_w]; rw [c7b0]) | skip)
   obtain rfl := Option.some.inj H
   go_wp2
   go_ret
   exact ⟨by first | rfl | (simp; done) | (simp [*]; done), by repeat (first | exact Drawn0.refl _ | apply Drawn0.step)⟩
  (first | rw [c7b0] | (simp only [i64_w, i32_w]; rw [c7b0]) | skip)
  have H' := am H
  clear H
  go_wp2
  go_roundg k1
  case measure => have := HK1.out; omega
  case rel => exact ⟨(t428), (wrap64 (x5_1 + 1)), dr, dr, H', ⟨by have := HK1.out; omega⟩, by repeat (first | exact Drawn0.refl _ | apply Drawn0.step)⟩
 obtain rfl := Option.some.inj H
 go_wp2
 go_ret
 exact ⟨by first | rfl | (simp; done) | (simp [*]; done), by repeat (first | exact Drawn0.refl _ | apply Drawn0.step)⟩

def laws_heldState.f (k : Nat) (l0_0 : List (S47)) (l0_1 : List (List Int)) (l0_2 : List Int) (a0_3 : Int) (a0_4 : Bool) (a0_5 : Int) (a0_6 : Int) (a1 : Int) : Option (Int) := (laws_heldFrameS.f k l0_0 a1).bind fun t430 => (if t430 < 0 then (some (-1)) else ((laws_heldInt64SS.f k l0_1 t430).bind fun t431 => (if t431 < 0 then (some (-1)) else ((laws_heldInt64S.f k l0_2 t431).bind fun t432 => (if t432 < 0 then (some (-1)) else (some t432))))))
theorem laws_heldState.mono : ∀ a0 a1 a2 a3 a4 a5 a6 a7 k, LeO (laws_heldState.f k a0 a1 a2 a3 a4 a5 a6 a7) (laws_heldState.f (k + 1) a0 a1 a2 a3 a4 a5 a6 a7) := by
 intro a0 a1 a2 a3 a4 a5 a6 a7 k
 unfold laws_heldState.f
 with_reducible repeat' first | exact laws_heldFrameS.mono .. | exact laws_heldInt64S.mono .. | exact laws_heldInt64SS.mono .. | exact LeO.refl _ | exact LeO.none _ | refine LeO.ite ?_ ?_ | refine LeO.bind ?_ (fun _ => ?_)
theorem laws_heldState.calls (k : Nat) (A0_0 : Option Addr) (c0_0 : Nat) (l0_0 : List (S47)) (A0_1 : Option Addr) (c0_1 : Nat) (l0_1 : List (List Int)) (A0_2 : Option Addr) (c0_2 : Nat) (l0_2 : List Int) (a0_3 : Int) (a0_4 : Bool) (a0_5 : Int) (a0_6 : Int) (a1 : Int) (r : Int) (w : World) (hr0_0 : Kd.C k47 w A0_0 l0_0.length l0_0) (hc0_0 : l0_0.length ≤ c0_0) (hr0_1 : Kd.C (Kd.slice 2 (Kd.int .i64)) w A0_1 l0_1.length l0_1) (hc0_1 : l0_1.length ≤ c0_1) (hr0_2 : Kd.C (Kd.int .i64) w A0_2 l0_2.length l0_2) (hc0_2 : l0_2.length ≤ c0_2) (h : laws_heldState.f k l0_0 l0_1 l0_2 a0_3 a0_4 a0_5 a0_6 a1 = some r) :
  Calls Try.prog 15 #[.agg #[.slice A0_0 l0_0.length c0_0, .slice A0_1 l0_1.length c0_1, .slice A0_2 l0_2.length c0_2, .int .i64 a0_3, .bool a0_4, .int .i64 a0_5, .int .i64 a0_6], .int .i64 a1] w fun e w' => e = .returned (.int .i64 r) ∧ Below w.heap.size w w' := by
 have hu30 := Try.underlying30
 have HR0_0 := am hr0_0
 have HC0_0 := am hc0_0
 clear hr0_0 hc0_0
 have HR0_1 := am hr0_1
 have HC0_1 := am hc0_1
 clear hr0_1 hc0_1
 have HR0_2 := am hr0_2
 have HC0_2 := am hc0_2
 clear hr0_2 hc0_2
 have HB := am (Below.refl w.heap.size w)
 have H : ((laws_heldFrameS.f k l0_0 a1).bind fun t430 => (if t430 < 0 then (some (-1)) else ((laws_heldInt64SS.f k l0_1 t430).bind fun t431 => (if t431 < 0 then (some (-1)) else ((laws_heldInt64S.f k l0_2 t431).bind fun t432 => (if t432 < 0 then (some (-1)) else (some t432))))))) = some r := h
 clear h
 refine be H ?_; clear H; intro t430 A3 H
 have HC4 := am H
 clear H
 go_enter Try.func15, Try.ntmps15
 go_upto_if 10 with (first | ((with_reducible refine gd 2 rfl ?_); refine bX 2 #[.slice A0_0 l0_0.length c0_0, .slice A0_1 l0_1.length c0_1, .slice A0_2 l0_2.length c0_2, .int .i64 a0_3, .bool a0_4, .int .i64 a0_5, .int .i64 a0_6] 30 HB ?_; clear HB; intro gb429 w5 hg hb BK429 GW429 HB; clear hb hg; have hcz6_0 := bk w5 BK429 0; have hcz6_1 := bk w5 BK429 1; have hcz6_2 := bk w5 BK429 2; have hcz6_3 := bk w5 BK429 3; have hcz6_4 := bk w5 BK429 4; have hcz6_5 := bk w5 BK429 5; have hcz6_6 := bk w5 BK429 6; have hfz6_0 := bf BK429 0; have hfz6_1 := bf BK429 1; have hfz6_2 := bf BK429 2; have hfz6_3 := bf BK429 3; have hfz6_4 := bf BK429 4; have hfz6_5 := bf BK429 5; have hfz6_6 := bf BK429 6) | ((with_reducible refine gk 29 rfl ?_); refine gD 29 (some 8) Try.func29 #[.slice A0_0 l0_0.length c0_0, .int .i64 a1] (laws_heldFrameS.calls k _ _ l0_0 a1 t430 _ (cc (Kd.C_below HR0_0.out HB.out)) HC0_0.out A3.out) ?_; intro nd))
 (try simp only [Act.put, sa, sz, ss])
 (try simp only [World.drewN_drewN])
 generalize hq_ : World.drewN w5 _ = w7
 replace BK429 : Aside0 (w7.heap[gb429]? = some (.cells #[.slice A0_0 l0_0.length c0_0, .slice A0_1 l0_1.length c0_1, .slice A0_2 l0_2.length c0_2, .int .i64 a0_3, .bool a0_4, .int .i64 a0_5, .int .i64 a0_6] 30 (0, 0))) := ⟨by rw [← hq_]; exact (bp BK429)⟩
 replace HB : Aside0 (Below w.heap.size w w7) := ⟨by rw [← hq_]; exact (bw HB)⟩
 clear hq_
 have H := HC4.out
 clear HC4
 refine qI H ?_ ?_ <;> clear H <;> intro c8b0 H
 ·(first | rw [c8b0] | (simp only [i64_w, i32_w]; rw [c8b0]) | skip)
  obtain rfl := Option.some.inj H
  go_wp2
  go_ret
  exact ⟨er, bw HB⟩
 (first | rw [c8b0] | (simp only [i64_w, i32_w]; rw [c8b0]) | skip)
 refine be H ?_; clear H; intro t431 A9 H
 have HC10 := am H
 clear H
 have hcz11_0 := bk w7 BK429 0
 have hcz11_1 := bk w7 BK429 1
 have hcz11_2 := bk w7 BK429 2
 have hcz11_3 := bk w7 BK429 3
 have hcz11_4 := bk w7 BK429 4
 have hcz11_5 := bk w7 BK429 5
 have hcz11_6 := bk w7 BK429 6
 have hfz11_0 := bf BK429 0
 have hfz11_1 := bf BK429 1
 have hfz11_2 := bf BK429 2
 have hfz11_3 := bf BK429 3
 have hfz11_4 := bf BK429 4
 have hfz11_5 := bf BK429 5
 have hfz11_6 := bf BK429 6
 go_upto_if 16 with (first | ((with_reducible refine gk 30 rfl ?_); refine gD 30 (some 14) Try.func30 #[.slice A0_1 l0_1.length c0_1, .int .i64 t430] (laws_heldInt64SS.calls k _ _ l0_1 t430 t431 _ (cc (Kd.C_below HR0_1.out HB.out)) HC0_1.out A9.out) ?_; intro nd))
 (try simp only [Act.put, sa, sz, ss])
 (try simp only [World.drewN_drewN])
 generalize hq_ : World.drewN w7 _ = w12
 replace BK429 : Aside0 (w12.heap[gb429]? = some (.cells #[.slice A0_0 l0_0.length c0_0, .slice A0_1 l0_1.length c0_1, .slice A0_2 l0_2.length c0_2, .int .i64 a0_3, .bool a0_4, .int .i64 a0_5, .int .i64 a0_6] 30 (0, 0))) := ⟨by rw [← hq_]; exact (bp BK429)⟩
 replace HB : Aside0 (Below w.heap.size w w12) := ⟨by rw [← hq_]; exact (bw HB)⟩
 clear hq_
 have H := HC10.out
 clear HC10
 refine qI H ?_ ?_ <;> clear H <;> intro c13b0 H
 ·(first | rw [c13b0] | (simp only [i64_w, i32_w]; rw [c13b0]) | skip)
  obtain rfl := Option.some.inj H
  go_wp2
  go_ret
  exact ⟨er, bw HB⟩
 (first | rw [c13b0] | (simp only [i64_w, i32_w]; rw [c13b0]) | skip)
 refine be H ?_; clear H; intro t432 A14 H
 have HC15 := am H
 clear H
 have hcz16_0 := bk w12 BK429 0
 have hcz16_1 := bk w12 BK429 1
 have hcz16_2 := bk w12 BK429 2
 have hcz16_3 := bk w12 BK429 3
 have hcz16_4 := bk w12 BK429 4
 have hcz16_5 := bk w12 BK429 5
 have hcz16_6 := bk w12 BK429 6
 have hfz16_0 := bf BK429 0
 have hfz16_1 := bf BK429 1
 have hfz16_2 := bf BK429 2
 have hfz16_3 := bf BK429 3
 have hfz16_4 := bf BK429 4
 have hfz16_5 := bf BK429 5
 have hfz16_6 := bf BK429 6
 go_upto_if 22 with (first | ((with_reducible refine gk 31 rfl ?_); refine gD 31 (some 20) Try.func31 #[.slice A0_2 l0_2.length c0_2, .int .i64 t431] (laws_heldInt64S.calls k _ _ l0_2 t431 t432 _ (cc (Kd.C_below HR0_2.out HB.out)) HC0_2.out A14.out) ?_; intro nd))
 (try simp only [Act.put, sa, sz, ss])
 (try simp only [World.drewN_drewN])
 generalize hq_ : World.drewN w12 _ = w17
 replace BK429 : Aside0 (w17.heap[gb429]? = some (.cells #[.slice A0_0 l0_0.length c0_0, .slice A0_1 l0_1.length c0_1, .slice A0_2 l0_2.length c0_2, .int .i64 a0_3, .bool a0_4, .int .i64 a0_5, .int .i64 a0_6] 30 (0, 0))) := ⟨by rw [← hq_]; exact (bp BK429)⟩
 replace HB : Aside0 (Below w.heap.size w w17) := ⟨by rw [← hq_]; exact (bw HB)⟩
 clear hq_
 have H := HC15.out
 clear HC15
 refine qI H ?_ ?_ <;> clear H <;> intro c18b0 H
 ·(first | rw [c18b0] | (simp only [i64_w, i32_w]; rw [c18b0]) | skip)
  obtain rfl := Option.some.inj H
  go_wp2
  go_ret
  exact ⟨er, bw HB⟩
 (first | rw [c18b0] | (simp only [i64_w, i32_w]; rw [c18b0]) | skip)
 obtain rfl := Option.some.inj H
 go_wp2
 go_ret
 exact ⟨er, bw HB⟩

-- NOT PRINTED: function 3 (laws_FnExactBegin)

end Go.Proofs.Ytoegdbeajgddiaa.QFnExactBegin
