import Derived.Test.YtcdohkilplgmjaaCFnExactPlainx0
import Derived.Test.YtcdohkilplgmjaaCFnExactPlainx17
namespace Go.Proofs.Ytcdohkilplgmjaa.QFnExactPlain
open Go.RowKit Go.Proofs.YtcdohkilplgmjaaW
open PrintWords PrintLast PrintMore PrintShort PrintIsh
attribute [local go_sem] max2_int min2_int max_two min_two max_three min_three max_four min_four   -- for this text's walks alone
set_option linter.unusedVariables false
set_option maxHeartbeats 8000000
set_option maxRecDepth 100000
set_option linter.unusedSimpArgs false

def laws_heldValS.l0 : Nat → List (S55) → Int → Int → Option (Int)
 | 0, _, _, _ => none
 | k + 1, x0, x1, x5 => if x5 < (x0.length : Int) then (if 0 ≤ x5 then (if ((rd_T55 x0 x5).f0) = x1 then (if ((rd_T55 x0 x5).f1) = (wrap64 (x1 + 1)) then (laws_heldValS.l0 k x0 (wrap64 ((wrap64 (x1 + 1)) + 1)) (wrap64 (x5 + 1))) else (some (-1))) else (some (-1))) else (none)) else (some x1)
def laws_heldValS.f (k : Nat) (l0 : List (S55)) (a1 : Int) : Option (Int) := laws_heldValS.l0 k l0 a1 0
theorem laws_heldValS.mono_l : ∀ k, (∀ y0 y1 y2, LeO (laws_heldValS.l0 k y0 y1 y2) (laws_heldValS.l0 (k + 1) y0 y1 y2))
 | 0 => fun _ _ _ r h => by simp [laws_heldValS.l0] at h
 | k + 1 => by
  have ih0 := laws_heldValS.mono_l k
  ·intro y0 y1 y2
   unfold laws_heldValS.l0
   with_reducible repeat' first | exact ih0 .. | exact LeO.refl _ | exact LeO.none _ | refine LeO.ite ?_ ?_ | refine LeO.bind ?_ (fun _ => ?_)
theorem laws_heldValS.mono : ∀ a0 a1 k, LeO (laws_heldValS.f k a0 a1) (laws_heldValS.f (k + 1) a0 a1) := by
 intro a0 a1 k
 have ih0 := laws_heldValS.mono_l k
 unfold laws_heldValS.f
 with_reducible repeat' first | exact ih0 .. | exact LeO.refl _ | exact LeO.none _ | refine LeO.ite ?_ ?_ | refine LeO.bind ?_ (fun _ => ?_)
theorem laws_heldValS.calls (k : Nat) (A0 : Option Addr) (c0 : Nat) (l0 : List (S55)) (a1 : Int) (r : Int) (w : World) (hr0 : Kd.C k55 w A0 l0.length l0) (hc0 : l0.length ≤ c0) (h : laws_heldValS.f k l0 a1 = some r) :
  Calls Try.prog 55 #[.slice A0 l0.length c0, .int .i64 a1] w fun e w' => e = .returned (.int .i64 r) ∧ Drawn0 w w' := by
 have HR0 := am hr0
 have HC0 := am hc0
 clear hr0 hc0
 have H : (laws_heldValS.l0 k l0 a1 0) = some r := h
 clear h
 have H' := am H
 clear H
 go_enter Try.func55, Try.ntmps55
 go_wp2
 go_loopg [1, 5] k (fun kq v1 v5 w' => ∃ (x1_1 : Int) (x5_1 : Int), v1 = .int .i64 x1_1 ∧ v5 = .int .i64 x5_1 ∧ Aside0 (laws_heldValS.l0 kq l0 x1_1 x5_1 = some r) ∧ Aside0 (kq ≤ k) ∧ Drawn0 w w')
 case atStart => exact ⟨(a1), (0), dr, dr, H', ⟨Nat.le_refl _⟩, by repeat (first | exact Drawn0.refl _ | apply Drawn0.step)⟩
 clear H'
 try clear p2
 obtain ⟨x1_1, x5_1, rfl, rfl, HA, HK1, ⟨m1, rfl⟩⟩ := hrel
 rcases gk with _ | k1
 ·exact absurd HA.out (by simp [laws_heldValS.l0])
 have H := HA.out
 clear HA
 simp only [laws_heldValS.l0] at H
 refine qI H ?_ ?_ <;> clear H <;> intro c3b0 H
 ·refine iM H ?_; clear H; intro c4b0 H
  refine qE H ?_ ?_ <;> clear H
  ·intro c5b0 c5b1 H
   refine qE H ?_ ?_ <;> clear H
   ·intro c6b0 c6b1 H
    have H' := am H
    clear H
    have p575 : 0 ≤ (x5_1 : Int) := of_decide_eq_true as1
    have q575 : x5_1 < (l0.length : Int) := of_decide_eq_true as1
    obtain ⟨ad575, e575, hx575_0, hx575_1⟩ := at_T55 HR0.out x5_1 p575 q575
    cases e575
    replace p575 := eq_true p575
    replace q575 := eq_true q575
    have p576 : 0 ≤ (x5_1 : Int) := of_decide_eq_true as1
    have q576 : x5_1 < (l0.length : Int) := of_decide_eq_true as1
    obtain ⟨ad576, e576, hx576_0, hx576_1⟩ := at_T55 HR0.out x5_1 p576 q576
    obtain rfl : ad575 = ad576 := (by injection e576)
    replace p576 := eq_true p576
    replace q576 := eq_true q576
    go_wp2
    go_roundg k1
    case measure => have := HK1.out; omega
    case rel => exact ⟨(wrap64 ((wrap64 (x1_1 + 1)) + 1)), (wrap64 (x5_1 + 1)), dr, dr, H', ⟨by have := HK1.out; omega⟩, by repeat (first | exact Drawn0.refl _ | apply Drawn0.step)⟩
   intro c6 c6b0 c6b1 H
   obtain rfl := Option.some.inj H
   have p575 : 0 ≤ (x5_1 : Int) := of_decide_eq_true as1
   have q575 : x5_1 < (l0.length : Int) := of_decide_eq_true as1
   obtain ⟨ad575, e575, hx575_0, hx575_1⟩ := at_T55 HR0.out x5_1 p575 q575
   cases e575
   replace p575 := eq_true p575
   replace q575 := eq_true q575
   have p576 : 0 ≤ (x5_1 : Int) := of_decide_eq_true as1
   have q576 : x5_1 < (l0.length : Int) := of_decide_eq_true as1
   obtain ⟨ad576, e576, hx576_0, hx576_1⟩ := at_T55 HR0.out x5_1 p576 q576
   obtain rfl : ad575 = ad576 := (by injection e576)
   replace p576 := eq_true p576
   replace q576 := eq_true q576
   go_wp2
   go_ret
   exact ⟨by first | rfl | (simp; done) | (simp [*]; done), by repeat (first | exact Drawn0.refl _ | apply Drawn0.step)⟩
  intro c5 c5b0 c5b1 H
  obtain rfl := Option.some.inj H
  have p575 : 0 ≤ (x5_1 : Int) := of_decide_eq_true as1
  have q575 : x5_1 < (l0.length : Int) := of_decide_eq_true as1
  obtain ⟨ad575, e575, hx575_0, hx575_1⟩ := at_T55 HR0.out x5_1 p575 q575
  cases e575
  replace p575 := eq_true p575
  replace q575 := eq_true q575
  go_wp2
  go_ret
  exact ⟨by first | rfl | (simp; done) | (simp [*]; done), by repeat (first | exact Drawn0.refl _ | apply Drawn0.step)⟩
 obtain rfl := Option.some.inj H
 go_wp2
 go_ret
 exact ⟨by first | rfl | (simp; done) | (simp [*]; done), by repeat (first | exact Drawn0.refl _ | apply Drawn0.step)⟩

def laws_heldAsmInsS.l0 : Nat → List (S50) → Int → Int → Option (Int)
 | 0, _, _, _ => none
 | k + 1, x0, x1, x5 => if x5 < (x0.length : Int) then (if 0 ≤ x5 then ((laws_heldMovS.f k ((rd_T50 x0 x5).f0) x1).bind fun t578 => (if t578 < 0 then (some (-1)) else (if ((rd_T50 x0 x5).f1) = t578 then (if ((rd_T50 x0 x5).f2) = (wrap64 (t578 + 1)) then ((laws_heldValS.f k ((rd_T50 x0 x5).f3) (wrap64 ((wrap64 (t578 + 1)) + 1))).bind fun t582 => (if t582 < 0 then (some (-1)) else (if ((rd_T50 x0 x5).f4) = t582 then (laws_heldAsmInsS.l0 k x0 (wrap64 (t582 + 1)) (wrap64 (x5 + 1))) else (some (-1))))) else (some (-1))) else (some (-1))))) else (none)) else (some x1)
def laws_heldAsmInsS.f (k : Nat) (l0 : List (S50)) (a1 : Int) : Option (Int) := laws_heldAsmInsS.l0 k l0 a1 0
theorem laws_heldAsmInsS.mono_l : ∀ k, (∀ y0 y1 y2, LeO (laws_heldAsmInsS.l0 k y0 y1 y2) (laws_heldAsmInsS.l0 (k + 1) y0 y1 y2))
 | 0 => fun _ _ _ r h => by simp [laws_heldAsmInsS.l0] at h
 | k + 1 => by
  have ih0 := laws_heldAsmInsS.mono_l k
  ·intro y0 y1 y2
   unfold laws_heldAsmInsS.l0
   with_reducible repeat' first | exact ih0 .. | exact laws_heldMovS.mono .. | exact laws_heldValS.mono .. | exact LeO.refl _ | exact LeO.none _ | refine LeO.ite ?_ ?_ | refine LeO.bind ?_ (fun _ => ?_)
theorem laws_heldAsmInsS.mono : ∀ a0 a1 k, LeO (laws_heldAsmInsS.f k a0 a1) (laws_heldAsmInsS.f (k + 1) a0 a1) := by
 intro a0 a1 k
 have ih0 := laws_heldAsmInsS.mono_l k
 unfold laws_heldAsmInsS.f
 with_reducible repeat' first | exact ih0 .. | exact laws_heldMovS.mono .. | exact laws_heldValS.mono .. | exact LeO.refl _ | exact LeO.none _ | refine LeO.ite ?_ ?_ | refine LeO.bind ?_ (fun _ => ?_)
theorem laws_heldAsmInsS.calls (k : Nat) (A0 : Option Addr) (c0 : Nat) (l0 : List (S50)) (a1 : Int) (r : Int) (w : World) (hr0 : Kd.C k50 w A0 l0.length l0) (hc0 : l0.length ≤ c0) (h : laws_heldAsmInsS.f k l0 a1 = some r) :
  Calls Try.prog 27 #[.slice A0 l0.length c0, .int .i64 a1] w fun e w' => e = .returned (.int .i64 r) ∧ Drawn0 w w' := by
 have HR0 := am hr0
 have HC0 := am hc0
 clear hr0 hc0
 have H : (laws_heldAsmInsS.l0 k l0 a1 0) = some r := h
 clear h
 have H' := am H
 clear H
 go_enter Try.func27, Try.ntmps27
 go_wp2
 go_loopg [1, 5] k (fun kq v1 v5 w' => ∃ (x1_1 : Int) (x5_1 : Int), v1 = .int .i64 x1_1 ∧ v5 = .int .i64 x5_1 ∧ Aside0 (laws_heldAsmInsS.l0 kq l0 x1_1 x5_1 = some r) ∧ Aside0 (kq ≤ k) ∧ Drawn0 w w')
 case atStart => exact ⟨(a1), (0), dr, dr, H', ⟨Nat.le_refl _⟩, by repeat (first | exact Drawn0.refl _ | apply Drawn0.step)⟩
 clear H'
 (try clear c2); (try clear p2)
 obtain ⟨x1_1, x5_1, rfl, rfl, HA, HK1, ⟨m1, rfl⟩⟩ := hrel
 rcases gk with _ | k1
 ·exact absurd HA.out (by simp [laws_heldAsmInsS.l0])
 have H := HA.out
 clear HA
 simp only [laws_heldAsmInsS.l0] at H
 refine qI H ?_ ?_ <;> clear H <;> intro c3b0 H
 ·refine iM H ?_; clear H; intro c4b0 H
  refine be H ?_; clear H; intro t578 A5 H
  have HC6 := am H
  clear H
  have p577 : 0 ≤ (x5_1 : Int) := of_decide_eq_true as1
  have q577 : x5_1 < (l0.length : Int) := of_decide_eq_true as1
  obtain ⟨ad577, A577_0, c577_0, A577_3, c577_3, e577, hx577_0, hx577_1, hx577_2, hx577_3, hx577_4, hl577_0, hi577_0, hl577_3, hi577_3⟩ := at_T50 HR0.out x5_1 p577 q577
  cases e577
  have HR577_0 := am hi577_0
  have HC577_0 := am hl577_0
  clear hi577_0 hl577_0
  have HR577_3 := am hi577_3
  have HC577_3 := am hl577_3
  clear hi577_3 hl577_3
  replace p577 := eq_true p577
  replace q577 := eq_true q577
  go_upto_if 20 with (first | ((with_reducible refine gk 54 rfl ?_); refine gD 54 (some 18) Try.func54 #[.slice A577_0 ((rd_T50 l0 x5_1).f0).length c577_0, .int .i64 x1_1] (laws_heldMovS.calls k1 _ _ ((rd_T50 l0 x5_1).f0) x1_1 t578 _ (by repeat (first | exact HR577_0.out | (with_reducible refine Kd.C_alloc ?_ _) | (with_reducible refine Kd.C_drewN ?_ _) | (with_reducible refine Kd.C_drew ?_))) HC577_0.out A5.out) ?_; intro nd))
  (try simp only [Act.put, sa, sz, ss])
  have H := HC6.out
  clear HC6
  refine qI H ?_ ?_ <;> clear H <;> intro c7b0 H
  ·(first | rw [c7b0] | (simp only [i64_w, i32_w]; rw [c7b0]) | skip)
   obtain rfl := Option.some.inj H
   go_wp2
   go_ret
   exact ⟨by first | rfl | (simp; done) | (simp [*]; done), by repeat (first | exact Drawn0.refl _ | apply Drawn0.step)⟩
  (first | rw [c7b0] | (simp only [i64_w, i32_w]; rw [c7b0]) | skip)
  refine qE H ?_ ?_ <;> clear H
  ·intro c8b0 c8b1 H
   refine qE H ?_ ?_ <;> clear H
   ·intro c9b0 c9b1 H
    refine be H ?_; clear H; intro t582 A10 H
    have HC11 := am H
    clear H
    have p579 : 0 ≤ (x5_1 : Int) := of_decide_eq_true as1
    have q579 : x5_1 < (l0.length : Int) := of_decide_eq_true as1
    obtain ⟨ad579, A579_0, c579_0, A579_3, c579_3, e579, hx579_0, hx579_1, hx579_2, hx579_3, hx579_4, hl579_0, hi579_0, hl579_3, hi579_3⟩ := at_T50 HR0.out x5_1 p579 q579
    obtain rfl : ad577 = ad579 := (by injection e579)
    have HR579_0 := am hi579_0
    have HC579_0 := am hl579_0
    clear hi579_0 hl579_0
    have HR579_3 := am hi579_3
    have HC579_3 := am hl579_3
    clear hi579_3 hl579_3
    replace p579 := eq_true p579
    replace q579 := eq_true q579
    have ea_ := Option.some.inj (hx577_0.symm.trans hx579_0)
    injection ea_ with ea_ en_ ec_
    subst ea_
    subst ec_
    clear en_
    have ea_ := Option.some.inj (hx577_3.symm.trans hx579_3)
    injection ea_ with ea_ en_ ec_
    subst ea_
    subst ec_
    clear en_
    have p580 : 0 ≤ (x5_1 : Int) := of_decide_eq_true as1
    have q580 : x5_1 < (l0.length : Int) := of_decide_eq_true as1
    obtain ⟨ad580, A580_0, c580_0, A580_3, c580_3, e580, hx580_0, hx580_1, hx580_2, hx580_3, hx580_4, hl580_0, hi580_0, hl580_3, hi580_3⟩ := at_T50 HR0.out x5_1 p580 q580
    obtain rfl : ad577 = ad580 := (by injection e580)
    have HR580_0 := am hi580_0
    have HC580_0 := am hl580_0
    clear hi580_0 hl580_0
    have HR580_3 := am hi580_3
    have HC580_3 := am hl580_3
    clear hi580_3 hl580_3
    replace p580 := eq_true p580
    replace q580 := eq_true q580
    have ea_ := Option.some.inj (hx579_0.symm.trans hx580_0)
    injection ea_ with ea_ en_ ec_
    subst ea_
    subst ec_
    clear en_
    have ea_ := Option.some.inj (hx579_3.symm.trans hx580_3)
    injection ea_ with ea_ en_ ec_
    subst ea_
    subst ec_
    clear en_
    have p581 : 0 ≤ (x5_1 : Int) := of_decide_eq_true as1
    have q581 : x5_1 < (l0.length : Int) := of_decide_eq_true as1
    obtain ⟨ad581, A581_0, c581_0, A581_3, c581_3, e581, hx581_0, hx581_1, hx581_2, hx581_3, hx581_4, hl581_0, hi581_0, hl581_3, hi581_3⟩ := at_T50 HR0.out x5_1 p581 q581
    obtain rfl : ad577 = ad581 := (by injection e581)
    have HR581_0 := am hi581_0
    have HC581_0 := am hl581_0
    clear hi581_0 hl581_0
    have HR581_3 := am hi581_3
    have HC581_3 := am hl581_3
    clear hi581_3 hl581_3
    replace p581 := eq_true p581
    replace q581 := eq_true q581
    have ea_ := Option.some.inj (hx579_0.symm.trans hx581_0)
    injection ea_ with ea_ en_ ec_
    subst ea_
    subst ec_
    clear en_
    have ea_ := Option.some.inj (hx579_3.symm.trans hx581_3)
    injection ea_ with ea_ en_ ec_
    subst ea_
    subst ec_
    clear en_
    go_upto_if 47 with (first | ((with_reducible refine gk 55 rfl ?_); refine gD 55 (some 45) Try.func55 #[.slice A577_3 ((rd_T50 l0 x5_1).f3).length c577_3, .int .i64 (wrap64 ((wrap64 (t578 + 1)) + 1))] (laws_heldValS.calls k1 _ _ ((rd_T50 l0 x5_1).f3) (wrap64 ((wrap64 (t578 + 1)) + 1)) t582 _ (by repeat (first | exact HR581_3.out | (with_reducible refine Kd.C_alloc ?_ _) | (with_reducible refine Kd.C_drewN ?_ _) | (with_reducible refine Kd.C_drew ?_))) HC581_3.out A10.out) ?_; intro nd))
    (try simp only [Act.put, sa, sz, ss])
    have H := HC11.out
    clear HC11
    refine qI H ?_ ?_ <;> clear H <;> intro c12b0 H
    ·(first | rw [c12b0] | (simp only [i64_w, i32_w]; rw [c12b0]) | skip)
     obtain rfl := Option.some.inj H
     go_wp2
     go_ret
     exact ⟨by first | rfl | (simp; done) | (simp [*]; done), by repeat (first | exact Drawn0.refl _ | apply Drawn0.step)⟩
    (first | rw [c12b0] | (simp only [i64_w, i32_w]; rw [c12b0]) | skip)
    refine qE H ?_ ?_ <;> clear H
    ·intro c13b0 c13b1 H
     have H' := am H
     clear H
     have p583 : 0 ≤ (x5_1 : Int) := of_decide_eq_true as1
     have q583 : x5_1 < (l0.length : Int) := of_decide_eq_true as1
     obtain ⟨ad583, A583_0, c583_0, A583_3, c583_3, e583, hx583_0, hx583_1, hx583_2, hx583_3, hx583_4, hl583_0, hi583_0, hl583_3, hi583_3⟩ := at_T50 HR0.out x5_1 p583 q583
     obtain rfl : ad577 = ad583 := (by injection e583)
     have HR583_0 := am hi583_0
     have HC583_0 := am hl583_0
     clear hi583_0 hl583_0
     have HR583_3 := am hi583_3
     have HC583_3 := am hl583_3
     clear hi583_3 hl583_3
     replace p583 := eq_true p583
     replace q583 := eq_true q583
     have ea_ := Option.some.inj (hx577_0.symm.trans hx583_0)
     injection ea_ with ea_ en_ ec_
     subst ea_
     subst ec_
     clear en_
     have ea_ := Option.some.inj (hx577_3.symm.trans hx583_3)
     injection ea_ with ea_ en_ ec_
     subst ea_
     subst ec_
     clear en_
     go_wp2
     go_roundg k1
     case measure => have := HK1.out; omega
     case rel => exact ⟨(wrap64 (t582 + 1)), (wrap64 (x5_1 + 1)), dr, dr, H', ⟨by have := HK1.out; omega⟩, by repeat (first | exact Drawn0.refl _ | apply Drawn0.step)⟩
    intro c13 c13b0 c13b1 H
    obtain rfl := Option.some.inj H
    have p583 : 0 ≤ (x5_1 : Int) := of_decide_eq_true as1
    have q583 : x5_1 < (l0.length : Int) := of_decide_eq_true as1
    obtain ⟨ad583, A583_0, c583_0, A583_3, c583_3, e583, hx583_0, hx583_1, hx583_2, hx583_3, hx583_4, hl583_0, hi583_0, hl583_3, hi583_3⟩ := at_T50 HR0.out x5_1 p583 q583
    obtain rfl : ad577 = ad583 := (by injection e583)
    have HR583_0 := am hi583_0
    have HC583_0 := am hl583_0
    clear hi583_0 hl583_0
    have HR583_3 := am hi583_3
    have HC583_3 := am hl583_3
    clear hi583_3 hl583_3
    replace p583 := eq_true p583
    replace q583 := eq_true q583
    have ea_ := Option.some.inj (hx577_0.symm.trans hx583_0)
    injection ea_ with ea_ en_ ec_
    subst ea_
    subst ec_
    clear en_
    have ea_ := Option.some.inj (hx577_3.symm.trans hx583_3)
    injection ea_ with ea_ en_ ec_
    subst ea_
    subst ec_
    clear en_
    go_wp2
    go_ret
    exact ⟨by first | rfl | (simp; done) | (simp [*]; done), by repeat (first | exact Drawn0.refl _ | apply Drawn0.step)⟩
   intro c9 c9b0 c9b1 H
   obtain rfl := Option.some.inj H
   have p579 : 0 ≤ (x5_1 : Int) := of_decide_eq_true as1
   have q579 : x5_1 < (l0.length : Int) := of_decide_eq_true as1
   obtain ⟨ad579, A579_0, c579_0, A579_3, c579_3, e579, hx579_0, hx579_1, hx579_2, hx579_3, hx579_4, hl579_0, hi579_0, hl579_3, hi579_3⟩ := at_T50 HR0.out x5_1 p579 q579
   obtain rfl : ad577 = ad579 := (by injection e579)
   have HR579_0 := am hi579_0
   have HC579_0 := am hl579_0
   clear hi579_0 hl579_0
   have HR579_3 := am hi579_3
   have HC579_3 := am hl579_3
   clear hi579_3 hl579_3
   replace p579 := eq_true p579
   replace q579 := eq_true q579
   have ea_ := Option.some.inj (hx577_0.symm.trans hx579_0)
   injection ea_ with ea_ en_ ec_
   subst ea_
   subst ec_
   clear en_
   have ea_ := Option.some.inj (hx577_3.symm.trans hx579_3)
   injection ea_ with ea_ en_ ec_
   subst ea_
   subst ec_
   clear en_
   have p580 : 0 ≤ (x5_1 : Int) := of_decide_eq_true as1
   have q580 : x5_1 < (l0.length : Int) := of_decide_eq_true as1
   obtain ⟨ad580, A580_0, c580_0, A580_3, c580_3, e580, hx580_0, hx580_1, hx580_2, hx580_3, hx580_4, hl580_0, hi580_0, hl580_3, hi580_3⟩ := at_T50 HR0.out x5_1 p580 q580
   obtain rfl : ad577 = ad580 := (by injection e580)
   have HR580_0 := am hi580_0
   have HC580_0 := am hl580_0
   clear hi580_0 hl580_0
   have HR580_3 := am hi580_3
   have HC580_3 := am hl580_3
   clear hi580_3 hl580_3
   replace p580 := eq_true p580
   replace q580 := eq_true q580
   have ea_ := Option.some.inj (hx579_0.symm.trans hx580_0)
   injection ea_ with ea_ en_ ec_
   subst ea_
   subst ec_
   clear en_
   have ea_ := Option.some.inj (hx579_3.symm.trans hx580_3)
   injection ea_ with ea_ en_ ec_
   subst ea_
   subst ec_
   clear en_
   go_wp2
   go_ret
   exact ⟨by first | rfl | (simp; done) | (simp [*]; done), by repeat (first | exact Drawn0.refl _ | apply Drawn0.step)⟩
  intro c8 c8b0 c8b1 H
  obtain rfl := Option.some.inj H
  have p579 : 0 ≤ (x5_1 : Int) := of_decide_eq_true as1
  have q579 : x5_1 < (l0.length : Int) := of_decide_eq_true as1
  obtain ⟨ad579, A579_0, c579_0, A579_3, c579_3, e579, hx579_0, hx579_1, hx579_2, hx579_3, hx579_4, hl579_0, hi579_0, hl579_3, hi579_3⟩ := at_T50 HR0.out x5_1 p579 q579
  obtain rfl : ad577 = ad579 := (by injection e579)
  have HR579_0 := am hi579_0
  have HC579_0 := am hl579_0
  clear hi579_0 hl579_0
  have HR579_3 := am hi579_3
  have HC579_3 := am hl579_3
  clear hi579_3 hl579_3
  replace p579 := eq_true p579
  replace q579 := eq_true q579
  have ea_ := Option.some.inj (hx577_0.symm.trans hx579_0)
  injection ea_ with ea_ en_ ec_
  subst ea_
  subst ec_
  clear en_
  have ea_ := Option.some.inj (hx577_3.symm.trans hx579_3)
  injection ea_ with ea_ en_ ec_
  subst ea_
  subst ec_
  clear en_
  go_wp2
  go_ret
  exact ⟨by first | rfl | (simp; done) | (simp [*]; done), by repeat (first | exact Drawn0.refl _ | apply Drawn0.step)⟩
 obtain rfl := Option.some.inj H
 go_wp2
 go_ret
 exact ⟨by first | rfl | (simp; done) | (simp [*]; done), by repeat (first | exact Drawn0.refl _ | apply Drawn0.step)⟩

def laws_heldValSS.l0 : Nat → List (List (S55)) → Int → Int → Option (Int)
 | 0, _, _, _ => none
 | k + 1, x0, x1, x5 => if x5 < (x0.length : Int) then (if 0 ≤ x5 then ((laws_heldValS.f k (rd_L12 x0 x5) x1).bind fun t585 => (if t585 < 0 then (some (-1)) else (laws_heldValSS.l0 k x0 t585 (wrap64 (x5 + 1))))) else (none)) else (some x1)
def laws_heldValSS.f (k : Nat) (l0 : List (List (S55))) (a1 : Int) : Option (Int) := laws_heldValSS.l0 k l0 a1 0
theorem laws_heldValSS.mono_l : ∀ k, (∀ y0 y1 y2, LeO (laws_heldValSS.l0 k y0 y1 y2) (laws_heldValSS.l0 (k + 1) y0 y1 y2))
 | 0 => fun _ _ _ r h => by simp [laws_heldValSS.l0] at h
 | k + 1 => by
  have ih0 := laws_heldValSS.mono_l k
  ·intro y0 y1 y2
   unfold laws_heldValSS.l0
   with_reducible repeat' first | exact ih0 .. | exact laws_heldValS.mono .. | exact LeO.refl _ | exact LeO.none _ | refine LeO.ite ?_ ?_ | refine LeO.bind ?_ (fun _ => ?_)
theorem laws_heldValSS.mono : ∀ a0 a1 k, LeO (laws_heldValSS.f k a0 a1) (laws_heldValSS.f (k + 1) a0 a1) := by
 intro a0 a1 k
 have ih0 := laws_heldValSS.mono_l k
 unfold laws_heldValSS.f
 with_reducible repeat' first | exact ih0 .. | exact laws_heldValS.mono .. | exact LeO.refl _ | exact LeO.none _ | refine LeO.ite ?_ ?_ | refine LeO.bind ?_ (fun _ => ?_)
theorem laws_heldValSS.calls (k : Nat) (A0 : Option Addr) (c0 : Nat) (l0 : List (List (S55))) (a1 : Int) (r : Int) (w : World) (hr0 : Kd.C (Kd.slice 55 k55) w A0 l0.length l0) (hc0 : l0.length ≤ c0) (h : laws_heldValSS.f k l0 a1 = some r) :
  Calls Try.prog 28 #[.slice A0 l0.length c0, .int .i64 a1] w fun e w' => e = .returned (.int .i64 r) ∧ Drawn0 w w' := by
 have HR0 := am hr0
 have HC0 := am hc0
 clear hr0 hc0
 have H : (laws_heldValSS.l0 k l0 a1 0) = some r := h
 clear h
 have H' := am H
 clear H
 go_enter Try.func28, Try.ntmps28
 go_wp2
 go_loopg [1, 5] k (fun kq v1 v5 w' => ∃ (x1_1 : Int) (x5_1 : Int), v1 = .int .i64 x1_1 ∧ v5 = .int .i64 x5_1 ∧ Aside0 (laws_heldValSS.l0 kq l0 x1_1 x5_1 = some r) ∧ Aside0 (kq ≤ k) ∧ Drawn0 w w')
 case atStart => exact ⟨(a1), (0), dr, dr, H', ⟨Nat.le_refl _⟩, by repeat (first | exact Drawn0.refl _ | apply Drawn0.step)⟩
 clear H'
 (try clear c2); (try clear p2)
 obtain ⟨x1_1, x5_1, rfl, rfl, HA, HK1, ⟨m1, rfl⟩⟩ := hrel
 rcases gk with _ | k1
 ·exact absurd HA.out (by simp [laws_heldValSS.l0])
 have H := HA.out
 clear HA
 simp only [laws_heldValSS.l0] at H
 refine qI H ?_ ?_ <;> clear H <;> intro c3b0 H
 ·refine iM H ?_; clear H; intro c4b0 H
  refine be H ?_; clear H; intro t585 A5 H
  have HC6 := am H
  clear H
  have p584 : 0 ≤ (x5_1 : Int) := of_decide_eq_true as1
  have q584 : x5_1 < (l0.length : Int) := of_decide_eq_true as1
  obtain ⟨ad584, A584_0, c584_0, e584, hx584_0, hl584_0, hi584_0⟩ := at_L12 HR0.out x5_1 p584 q584
  cases e584
  have HR584_0 := am hi584_0
  have HC584_0 := am hl584_0
  clear hi584_0 hl584_0
  replace p584 := eq_true p584
  replace q584 := eq_true q584
  go_upto_if 19 with (first | ((with_reducible refine gk 55 rfl ?_); refine gD 55 (some 17) Try.func55 #[.slice A584_0 (rd_L12 l0 x5_1).length c584_0, .int .i64 x1_1] (laws_heldValS.calls k1 _ _ (rd_L12 l0 x5_1) x1_1 t585 _ (by repeat (first | exact HR584_0.out | (with_reducible refine Kd.C_alloc ?_ _) | (with_reducible refine Kd.C_drewN ?_ _) | (with_reducible refine Kd.C_drew ?_))) HC584_0.out A5.out) ?_; intro nd))
  (try simp only [Act.put, sa, sz, ss])
  have H := HC6.out
  clear HC6
  refine qI H ?_ ?_ <;> clear H <;> intro c7b0 H
  ·(first | rw [c7b0] | (simp only [i64_w, i32_w]; rw [c7b0]) | skip)
   obtain rfl := Option.some.inj H
   go_wp2
   go_ret
   exact ⟨by first | rfl | (simp; done) | (simp [*]; done), by repeat (first | exact Drawn0.refl _ | apply Drawn0.step)⟩
  (first | rw [c7b0] | (simp only [i64_w, i32_w]; rw [c7b0]) | skip)
  have H' := am H
  clear H
  go_wp2
  go_roundg k1
  case measure => have := HK1.out; omega
  case rel => exact ⟨(t585), (wrap64 (x5_1 + 1)), dr, dr, H', ⟨by have := HK1.out; omega⟩, by repeat (first | exact Drawn0.refl _ | apply Drawn0.step)⟩
 obtain rfl := Option.some.inj H
 go_wp2
 go_ret
 exact ⟨by first | rfl | (simp; done) | (simp [*]; done), by repeat (first | exact Drawn0.refl _ | apply Drawn0.step)⟩

def laws_heldAsm.f (k : Nat) (a0_0 : Int) (l0_1 : List (S50)) (l0_2 : List (List (S55))) (a1 : Int) : Option (Int) := (laws_heldAsmInsS.f k l0_1 a1).bind fun t587 => (if t587 < 0 then (some (-1)) else ((laws_heldValSS.f k l0_2 t587).bind fun t588 => (if t588 < 0 then (some (-1)) else (some t588))))
theorem laws_heldAsm.mono : ∀ a0 a1 a2 a3 k, LeO (laws_heldAsm.f k a0 a1 a2 a3) (laws_heldAsm.f (k + 1) a0 a1 a2 a3) := by
 intro a0 a1 a2 a3 k
 unfold laws_heldAsm.f
 with_reducible repeat' first | exact laws_heldAsmInsS.mono .. | exact laws_heldValSS.mono .. | exact LeO.refl _ | exact LeO.none _ | refine LeO.ite ?_ ?_ | refine LeO.bind ?_ (fun _ => ?_)
theorem laws_heldAsm.calls (k : Nat) (a0_0 : Int) (A0_1 : Option Addr) (c0_1 : Nat) (l0_1 : List (S50)) (A0_2 : Option Addr) (c0_2 : Nat) (l0_2 : List (List (S55))) (a1 : Int) (r : Int) (w : World) (hr0_1 : Kd.C k50 w A0_1 l0_1.length l0_1) (hc0_1 : l0_1.length ≤ c0_1) (hr0_2 : Kd.C (Kd.slice 55 k55) w A0_2 l0_2.length l0_2) (hc0_2 : l0_2.length ≤ c0_2) (h : laws_heldAsm.f k a0_0 l0_1 l0_2 a1 = some r) :
  Calls Try.prog 12 #[.agg #[.int .i64 a0_0, .slice A0_1 l0_1.length c0_1, .slice A0_2 l0_2.length c0_2], .int .i64 a1] w fun e w' => e = .returned (.int .i64 r) ∧ Below w.heap.size w w' := by
 have hu29 := Try.underlying29
 have HR0_1 := am hr0_1
 have HC0_1 := am hc0_1
 clear hr0_1 hc0_1
 have HR0_2 := am hr0_2
 have HC0_2 := am hc0_2
 clear hr0_2 hc0_2
 have HB := am (Below.refl w.heap.size w)
 have H : ((laws_heldAsmInsS.f k l0_1 a1).bind fun t587 => (if t587 < 0 then (some (-1)) else ((laws_heldValSS.f k l0_2 t587).bind fun t588 => (if t588 < 0 then (some (-1)) else (some t588))))) = some r := h
 clear h
 refine be H ?_; clear H; intro t587 A3 H
 have HC4 := am H
 clear H
 go_enter Try.func12, Try.ntmps12
 go_upto_if 10 with (first | ((with_reducible refine gd 2 rfl ?_); refine bX 2 #[.int .i64 a0_0, .slice A0_1 l0_1.length c0_1, .slice A0_2 l0_2.length c0_2] 29 HB ?_; clear HB; intro gb586 w5 hg hb BK586 GW586 HB; clear hb hg; have hcz6 := bK w5 BK586; have hfz6 := bF BK586) | ((with_reducible refine gk 27 rfl ?_); refine gD 27 (some 8) Try.func27 #[.slice A0_1 l0_1.length c0_1, .int .i64 a1] (laws_heldAsmInsS.calls k _ _ l0_1 a1 t587 _ (cc (Kd.C_below HR0_1.out HB.out)) HC0_1.out A3.out) ?_; intro nd))
 (try simp only [Act.put, sa, sz, ss])
 (try simp only [World.drewN_drewN])
 generalize hq_ : World.drewN w5 _ = w7
 replace BK586 : Aside0 (w7.heap[gb586]? = some (.cells #[.int .i64 a0_0, .slice A0_1 l0_1.length c0_1, .slice A0_2 l0_2.length c0_2] 29 (0, 0))) := ⟨by rw [← hq_]; exact (bp BK586)⟩
 replace HB : Aside0 (Below w.heap.size w w7) := ⟨by rw [← hq_]; exact (bw HB)⟩
 clear hq_
 have H := HC4.out
 clear HC4
 refine qI H ?_ ?_ <;> clear H <;> intro c8b0 H
 ·(first | rw [c8b0] | (simp only [i64_w, i32_w]; rw [c8b0]) | skip)
  obtain rfl := Option.some.inj H
  go_wp2
  go_ret
  exact ⟨er, bw HB⟩
 (first | rw [c8b0] | (simp only [i64_w, i32_w]; rw [c8b0]) | skip)
 refine be H ?_; clear H; intro t588 A9 H
 have HC10 := am H
 clear H
 have hcz11 := bK w7 BK586
 have hfz11 := bF BK586
 go_upto_if 16 with (first | ((with_reducible refine gk 28 rfl ?_); refine gD 28 (some 14) Try.func28 #[.slice A0_2 l0_2.length c0_2, .int .i64 t587] (laws_heldValSS.calls k _ _ l0_2 t587 t588 _ (cc (Kd.C_below HR0_2.out HB.out)) HC0_2.out A9.out) ?_; intro nd))
 (try simp only [Act.put, sa, sz, ss])
 (try simp only [World.drewN_drewN])
 generalize hq_ : World.drewN w7 _ = w12
 replace BK586 : Aside0 (w12.heap[gb586]? = some (.cells #[.int .i64 a0_0, .slice A0_1 l0_1.length c0_1, .slice A0_2 l0_2.length c0_2] 29 (0, 0))) := ⟨by rw [← hq_]; exact (bp BK586)⟩
 replace HB : Aside0 (Below w.heap.size w w12) := ⟨by rw [← hq_]; exact (bw HB)⟩
 clear hq_
 have H := HC10.out
 clear HC10
 refine qI H ?_ ?_ <;> clear H <;> intro c13b0 H
 ·(first | rw [c13b0] | (simp only [i64_w, i32_w]; rw [c13b0]) | skip)
  obtain rfl := Option.some.inj H
  go_wp2
  go_ret
  exact ⟨er, bw HB⟩
 (first | rw [c13b0] | (simp only [i64_w, i32_w]; rw [c13b0]) | skip)
 obtain rfl := Option.some.inj H
 go_wp2
 go_ret
 exact ⟨er, bw HB⟩

-- NOT PRINTED: function 3 (laws_FnExactPlain)

end Go.Proofs.Ytcdohkilplgmjaa.QFnExactPlain
