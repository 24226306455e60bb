import Derived.Test.YtbmjmaahcaoajaaCFnExactStateRightx0
import Derived.Test.YtbmjmaahcaoajaaCFnExactStateRightx1
import Derived.Test.YtbmjmaahcaoajaaCFnExactStateRightx8
namespace Go.Proofs.Ytbmjmaahcaoajaa.QFnExactStateRight
open Go.RowKit Go.Proofs.YtbmjmaahcaoajaaW
open PrintWords PrintLast PrintMore PrintShort
attribute [local go_sem] max2_int min2_int max_two min_two max_three min_three max_four min_four   -- for this text's walks alone
set_option linter.unusedVariables false
set_option maxHeartbeats 8000000
set_option maxRecDepth 100000
set_option linter.unusedSimpArgs false

attribute [local go_sem high] eqA102
mutual
def spec_l06Rest.j0 : Nat → List (List Int) → Bool → Option (Bool)
 | 0, _, _ => none
 | k + 1, x1, x25 => if x25 = true then (some false) else (spec_l06Rest.l0 k x1 0)
def spec_l06Rest.l0 : Nat → List (List Int) → Int → Option (Bool)
 | 0, _, _ => none
 | k + 1, x1, x7 => if x7 < (x1.length : Int) then (if 0 ≤ x7 then (if ((rd_L7 x1 x7).length : Int) > 50 then (some false) else (spec_l06Rest.l0 k x1 (wrap64 (x7 + 1)))) else (none)) else (some true)
end
def spec_l06Rest.f (k : Nat) (a0 : Int) (l1 : List (List Int)) (l2 : List Int) : Option (Bool) := if a0 < 0 then (spec_l06Rest.j0 k l1 true) else (if a0 > 3000 then (spec_l06Rest.j0 k l1 true) else (if (l1.length : Int) > 30 then (spec_l06Rest.j0 k l1 true) else (spec_l06Rest.j0 k l1 (decide ((l2.length : Int) > (wrap64 (3000 - a0)))))))
theorem spec_l06Rest.mono_l : ∀ k, (∀ y0 y1, LeO (spec_l06Rest.j0 k y0 y1) (spec_l06Rest.j0 (k + 1) y0 y1)) ∧ (∀ y0 y1, LeO (spec_l06Rest.l0 k y0 y1) (spec_l06Rest.l0 (k + 1) y0 y1))
 | 0 => ⟨fun _ _ r h => by simp [spec_l06Rest.j0] at h, fun _ _ r h => by simp [spec_l06Rest.l0] at h⟩
 | k + 1 => by
  obtain ⟨ih0, ih1⟩ := spec_l06Rest.mono_l k
  refine ⟨?_, ?_⟩
  ·intro y0 y1
   unfold spec_l06Rest.j0
   with_reducible repeat' first | exact ih0 .. | exact ih1 .. | exact LeO.refl _ | exact LeO.none _ | refine LeO.ite ?_ ?_ | refine LeO.bind ?_ (fun _ => ?_)
  ·intro y0 y1
   unfold spec_l06Rest.l0
   with_reducible repeat' first | exact ih0 .. | exact ih1 .. | exact LeO.refl _ | exact LeO.none _ | refine LeO.ite ?_ ?_ | refine LeO.bind ?_ (fun _ => ?_)
theorem spec_l06Rest.mono : ∀ a0 a1 a2 k, LeO (spec_l06Rest.f k a0 a1 a2) (spec_l06Rest.f (k + 1) a0 a1 a2) := by
 intro a0 a1 a2 k
 obtain ⟨ih0, ih1⟩ := spec_l06Rest.mono_l k
 unfold spec_l06Rest.f
 with_reducible repeat' first | exact ih0 .. | exact ih1 .. | exact LeO.refl _ | exact LeO.none _ | refine LeO.ite ?_ ?_ | refine LeO.bind ?_ (fun _ => ?_)
theorem spec_l06Rest.calls (k : Nat) (a0 : Int) (A1 : Option Addr) (c1 : Nat) (l1 : List (List Int)) (A2 : Option Addr) (c2 : Nat) (l2 : List Int) (r : Bool) (w : World) (hr1 : Kd.C (Kd.slice 2 (Kd.int .i64)) w A1 l1.length l1) (hc1 : l1.length ≤ c1) (hr2 : Kd.C (Kd.int .i64) w A2 l2.length l2) (hc2 : l2.length ≤ c2) (h : spec_l06Rest.f k a0 l1 l2 = some r) :
  Calls Try.prog 111 #[.int .i64 a0, .slice A1 l1.length c1, .slice A2 l2.length c2] w fun e w' => e = .returned (.bool r) ∧ Drawn0 w w' := by
 have HR1 := am hr1
 have HC1 := am hc1
 clear hr1 hc1
 have HR2 := am hr2
 have HC2 := am hc2
 clear hr2 hc2
 have H : (if a0 < 0 then (spec_l06Rest.j0 k l1 true) else (if a0 > 3000 then (spec_l06Rest.j0 k l1 true) else (if (l1.length : Int) > 30 then (spec_l06Rest.j0 k l1 true) else (spec_l06Rest.j0 k l1 (decide ((l2.length : Int) > (wrap64 (3000 - a0)))))))) = some r := h
 clear h
 have HC4 := am H
 clear H
 go_enter Try.func111, Try.ntmps111
 go_upto_region 1 with (fail)
 go_cut [25] (fun v25 wc => ∃ (kq : Nat) (x25_3 : Bool), v25 = .bool x25_3 ∧ Aside0 (spec_l06Rest.j0 kq l1 x25_3 = some r) ∧ Aside0 (kq ≤ k) ∧ Drawn0 w wc)
 case first =>
  have H := HC4.out
  clear HC4
  refine qI H ?_ ?_ <;> clear H <;> intro c5b0 H
  ·(first | rw [c5b0] | (simp only [i64_w, i32_w]; rw [c5b0]) | skip)
   have H' := am H
   clear H
   go_wp2
   go_meet
   case rel => exact ⟨_, (true), dr, H', ⟨lk0⟩, by repeat (first | exact Drawn0.refl _ | apply Drawn0.step)⟩
  (first | rw [c5b0] | (simp only [i64_w, i32_w]; rw [c5b0]) | skip)
  refine qG H ?_ ?_ <;> clear H <;> intro c6b0 H
  ·have H' := am H
   clear H
   go_wp2
   go_meet
   case rel => exact ⟨_, (true), dr, H', ⟨lk0⟩, by repeat (first | exact Drawn0.refl _ | apply Drawn0.step)⟩
  refine qG H ?_ ?_ <;> clear H <;> intro c7b0 H
  ·have c7 := of_decide_eq_true c7b0
   have c7b1 : decide (30 < l1.length) = true := decide_eq_true (by omega)
   clear c7
   have H' := am H
   clear H
   go_wp2
   go_meet
   case rel => exact ⟨_, (true), dr, H', ⟨lk0⟩, by repeat (first | exact Drawn0.refl _ | apply Drawn0.step)⟩
  have c7 := of_decide_eq_false c7b0
  have c7b1 : decide (30 < l1.length) = false := decide_eq_false (by omega)
  clear c7
  have H' := am H
  clear H
  go_wp2
  go_meet
  case rel => exact ⟨_, (decide ((l2.length : Int) > (wrap64 (3000 - a0)))), dr, H', ⟨lk0⟩, by repeat (first | exact Drawn0.refl _ | apply Drawn0.step)⟩
 clear HC4
 (try clear c1); (try clear c2); (try clear p2); (try clear c5); (try clear c5b0); (try clear c6); (try clear c6b0); (try clear p6); (try clear c7); (try clear c7b0); (try clear c7b1)
 obtain ⟨kq, x25_3, rfl, HA, HJ3, ⟨mc3, rfl⟩⟩ := hcut
 rcases kq with _ | kj3
 ·exact absurd HA.out (by simp [spec_l06Rest.j0])
 have H := HA.out
 clear HA
 simp only [spec_l06Rest.j0] at H
 refine qT H ?_ ?_ <;> clear H <;> intro c8 H <;> subst c8
 ·obtain rfl := Option.some.inj H
  go_wp2
  go_ret
  exact ⟨by first | rfl | (simp; done) | (simp [*]; done), by repeat (first | exact Drawn0.refl _ | apply Drawn0.step)⟩
 have H' := am H
 clear H
 go_wp2
 go_loopg [7] kj3 (fun kq v7 w' => ∃ (x7_2 : Int), v7 = .int .i64 x7_2 ∧ Aside0 (spec_l06Rest.l0 kq l1 x7_2 = some r) ∧ Aside0 (kq ≤ kj3) ∧ Drawn0 w w')
 case atStart => exact ⟨(0), dr, H', ⟨Nat.le_refl _⟩, by repeat (first | exact Drawn0.refl _ | apply Drawn0.step)⟩
 clear H'
 (try clear c3); (try clear c8)
 obtain ⟨x7_2, rfl, HA, HK2, ⟨m2, rfl⟩⟩ := hrel
 rcases gk with _ | k2
 ·exact absurd HA.out (by simp [spec_l06Rest.l0])
 have H := HA.out
 clear HA
 simp only [spec_l06Rest.l0] at H
 refine qI H ?_ ?_ <;> clear H <;> intro c9b0 H
 ·refine iM H ?_; clear H; intro c10b0 H
  refine qG H ?_ ?_ <;> clear H <;> intro c11b0 H
  ·have c11 := of_decide_eq_true c11b0
   have c11b1 : decide (50 < (rd_L7 l1 x7_2).length) = true := decide_eq_true (by omega)
   clear c11
   obtain rfl := Option.some.inj H
   have p267 : 0 ≤ (x7_2 : Int) := of_decide_eq_true as1
   have q267 : x7_2 < (l1.length : Int) := of_decide_eq_true as1
   obtain ⟨ad267, A267_0, c267_0, e267, hx267_0, hl267_0, hi267_0⟩ := at_L7 HR1.out x7_2 p267 q267
   cases e267
   have HR267_0 := am hi267_0
   have HC267_0 := am hl267_0
   clear hi267_0 hl267_0
   replace p267 := eq_true p267
   replace q267 := eq_true q267
   go_wp2
   go_ret
   exact ⟨by first | rfl | (simp; done) | (simp [*]; done), by repeat (first | exact Drawn0.refl _ | apply Drawn0.step)⟩
  have c11 := of_decide_eq_false c11b0
  have c11b1 : decide (50 < (rd_L7 l1 x7_2).length) = false := decide_eq_false (by omega)
  clear c11
  have H' := am H
  clear H
  have p267 : 0 ≤ (x7_2 : Int) := of_decide_eq_true as1
  have q267 : x7_2 < (l1.length : Int) := of_decide_eq_true as1
  obtain ⟨ad267, A267_0, c267_0, e267, hx267_0, hl267_0, hi267_0⟩ := at_L7 HR1.out x7_2 p267 q267
  cases e267
  have HR267_0 := am hi267_0
  have HC267_0 := am hl267_0
  clear hi267_0 hl267_0
  replace p267 := eq_true p267
  replace q267 := eq_true q267
  go_wp2
  go_roundg k2
  case measure => have := HJ3.out; have := HK2.out; omega
  case rel => exact ⟨(wrap64 (x7_2 + 1)), dr, H', ⟨by have := HJ3.out; have := HK2.out; omega⟩, by repeat (first | exact Drawn0.refl _ | apply Drawn0.step)⟩
 obtain rfl := Option.some.inj H
 go_wp2
 go_ret
 exact ⟨by first | rfl | (simp; done) | (simp [*]; done), by repeat (first | exact Drawn0.refl _ | apply Drawn0.step)⟩

def spec_l06Ends.f (a0 : Bool) (a1 : Int) (a2 : Int) : Option (Bool) := if a0 = true then (if a2 = 0 then (some true) else (if a1 = 0 then (if a2 ≥ 11 then (some (decide (a2 ≤ 15))) else (some false)) else (some false))) else (some false)
theorem spec_l06Ends.calls (a0 : Bool) (a1 : Int) (a2 : Int) (r : Bool) (w : World) (h : spec_l06Ends.f a0 a1 a2 = some r) :
  Calls Try.prog 112 #[.bool a0, .int .i64 a1, .int .i64 a2] w fun e w' => e = .returned (.bool r) ∧ Drawn0 w w' := by
 have H : (if a0 = true then (if a2 = 0 then (some true) else (if a1 = 0 then (if a2 ≥ 11 then (some (decide (a2 ≤ 15))) else (some false)) else (some false))) else (some false)) = some r := h
 clear h
 refine qT H ?_ ?_ <;> clear H <;> intro c4 H <;> subst c4
 ·refine qE H ?_ ?_ <;> clear H
  ·intro c5b0 c5b1 H
   obtain rfl := Option.some.inj H
   go_enter Try.func112, Try.ntmps112
   go_wp2
   go_ret
   exact ⟨by first | rfl | (simp; done) | (simp [*]; done), by repeat (first | exact Drawn0.refl _ | apply Drawn0.step)⟩
  intro c5 c5b0 c5b1 H
  refine qE H ?_ ?_ <;> clear H
  ·intro c6b0 c6b1 H
   refine qL H ?_ ?_ <;> clear H <;> intro c7b0 H
   ·obtain rfl := Option.some.inj H
    go_enter Try.func112, Try.ntmps112
    go_wp2
    go_ret
    exact ⟨by first | rfl | (simp; done) | (simp [*]; done), by repeat (first | exact Drawn0.refl _ | apply Drawn0.step)⟩
   obtain rfl := Option.some.inj H
   go_enter Try.func112, Try.ntmps112
   go_wp2
   go_ret
   exact ⟨by first | rfl | (simp; done) | (simp [*]; done), by repeat (first | exact Drawn0.refl _ | apply Drawn0.step)⟩
  intro c6 c6b0 c6b1 H
  obtain rfl := Option.some.inj H
  go_enter Try.func112, Try.ntmps112
  go_wp2
  go_ret
  exact ⟨by first | rfl | (simp; done) | (simp [*]; done), by repeat (first | exact Drawn0.refl _ | apply Drawn0.step)⟩
 obtain rfl := Option.some.inj H
 go_enter Try.func112, Try.ntmps112
 go_wp2
 go_ret
 exact ⟨by first | rfl | (simp; done) | (simp [*]; done), by repeat (first | exact Drawn0.refl _ | apply Drawn0.step)⟩

def spec_l06Stands.j0 : Nat → Int → Int → Int → Int → Bool → List (S100) → Option (Bool)
 | 0, _, _, _, _, _, _ => none
 | k + 1, x1, x2, x4, x5, x48, x269000 => if x48 = true then (some false) else ((spec_l04Heights.f k x269000 x1).bind fun bt271 => (if x5 < 0 then (if 0 ≤ x2 then (if x2 < (bt271.1.length : Int) then (if (rd bt271.1 x2) ≥ 0 then (some (x4 == (rd bt271.1 x2))) else (some false)) else (none)) else (none)) else (if x2 > 0 then (if 0 ≤ (wrap64 (x2 - 1)) then (if (wrap64 (x2 - 1)) < (bt271.1.length : Int) then (if (rd bt271.1 (wrap64 (x2 - 1))) ≥ 0 then (if 0 ≤ x1 then (if x1 < (x269000.length : Int) then (if (wrap64 (x2 - 1)) < (((rd_T100 x269000 x1).f2).length : Int) then (if (((rd_T102 ((rd_T100 x269000 x1).f2) (wrap64 (x2 - 1))).f0) == 32 && (((rd_T102 ((rd_T100 x269000 x1).f2) (wrap64 (x2 - 1))).f1) == x5)) = true then (if 0 ≤ x2 then (if x2 < (bt271.1.length : Int) then (some (x4 == (wrap64 ((rd bt271.1 x2) - 1)))) else (none)) else (none)) else (some false)) else (none)) else (none)) else (none)) else (some false)) else (none)) else (none)) else (some false))))
def spec_l06Stands.f (k : Nat) (l0_0 : List (S100)) (a1 : Int) (a2 : Int) (a3 : Int) (a4 : Int) (a5 : Int) : Option (Bool) := if a1 < 0 then (spec_l06Stands.j0 k a1 a2 a4 a5 true l0_0) else (if a1 ≥ (l0_0.length : Int) then (spec_l06Stands.j0 k a1 a2 a4 a5 true l0_0) else (if 0 ≤ a1 then (if a1 < (l0_0.length : Int) then (if a3 = ((rd_T100 l0_0 a1).f1) then (if a2 < 0 then (spec_l06Stands.j0 k a1 a2 a4 a5 true l0_0) else (spec_l06Stands.j0 k a1 a2 a4 a5 (decide (a2 ≥ (((rd_T100 l0_0 a1).f2).length : Int))) l0_0)) else (spec_l06Stands.j0 k a1 a2 a4 a5 true l0_0)) else (none)) else (none)))
theorem spec_l06Stands.mono_l : ∀ k, (∀ y0 y1 y2 y3 y4 y5, LeO (spec_l06Stands.j0 k y0 y1 y2 y3 y4 y5) (spec_l06Stands.j0 (k + 1) y0 y1 y2 y3 y4 y5))
 | 0 => fun _ _ _ _ _ _ r h => by simp [spec_l06Stands.j0] at h
 | k + 1 => by
  have ih0 := spec_l06Stands.mono_l k
  ·intro y0 y1 y2 y3 y4 y5
   unfold spec_l06Stands.j0
   with_reducible repeat' first | exact ih0 .. | exact spec_l04Heights.mono .. | exact LeO.refl _ | exact LeO.none _ | refine LeO.ite ?_ ?_ | refine LeO.bind ?_ (fun _ => ?_)
theorem spec_l06Stands.mono : ∀ a0 a1 a2 a3 a4 a5 k, LeO (spec_l06Stands.f k a0 a1 a2 a3 a4 a5) (spec_l06Stands.f (k + 1) a0 a1 a2 a3 a4 a5) := by
 intro a0 a1 a2 a3 a4 a5 k
 have ih0 := spec_l06Stands.mono_l k
 unfold spec_l06Stands.f
 with_reducible repeat' first | exact ih0 .. | exact spec_l04Heights.mono .. | exact LeO.refl _ | exact LeO.none _ | refine LeO.ite ?_ ?_ | refine LeO.bind ?_ (fun _ => ?_)
theorem spec_l06Stands.calls (k : Nat) (A0_0 : Option Addr) (c0_0 : Nat) (l0_0 : List (S100)) (a1 : Int) (a2 : Int) (a3 : Int) (a4 : Int) (a5 : Int) (r : Bool) (w : World) (hr0_0 : Kd.C k100 w A0_0 l0_0.length l0_0) (hc0_0 : l0_0.length ≤ c0_0) (h : spec_l06Stands.f k l0_0 a1 a2 a3 a4 a5 = some r) :
  Calls Try.prog 113 #[.agg #[.slice A0_0 l0_0.length c0_0], .int .i64 a1, .int .i64 a2, .int .i64 a3, .int .i64 a4, .int .i64 a5] w fun e w' => e = .returned (.bool r) ∧ Below w.heap.size w w' := by
 have hu30 := Try.underlying30
 have hu84 := Try.underlying84
 have hu102 := Try.underlying102
 have HR0_0 := am hr0_0
 have HC0_0 := am hc0_0
 clear hr0_0 hc0_0
 have HB := am (Below.refl w.heap.size w)
 have H : (if a1 < 0 then (spec_l06Stands.j0 k a1 a2 a4 a5 true l0_0) else (if a1 ≥ (l0_0.length : Int) then (spec_l06Stands.j0 k a1 a2 a4 a5 true l0_0) else (if 0 ≤ a1 then (if a1 < (l0_0.length : Int) then (if a3 = ((rd_T100 l0_0 a1).f1) then (if a2 < 0 then (spec_l06Stands.j0 k a1 a2 a4 a5 true l0_0) else (spec_l06Stands.j0 k a1 a2 a4 a5 (decide (a2 ≥ (((rd_T100 l0_0 a1).f2).length : Int))) l0_0)) else (spec_l06Stands.j0 k a1 a2 a4 a5 true l0_0)) else (none)) else (none)))) = some r := h
 clear h
 have HC7 := am H
 clear H
 go_enter Try.func113, Try.ntmps113
 go_upto_region 1 with (first | ((with_reducible refine gate_dst (N := 6) rfl ?_); (try (refine gate_guard (by rfl) ?_; dsimp only)); refine box_event ?hg (N := 6) ?hd (cs := #[.slice A0_0 l0_0.length c0_0]) (t := 30) ?hr ?_; (case hd => rfl); (case hg => rfl); (case hr => exact gs); intro gb268 hg w8 hbox hb; have BK268 := am (hbox); have GW268 := gw hg HB; replace HB := bs HB hb; clear hb hbox hg))
 (try simp only [Act.put, sa, sz, ss])
 go_cut [48] (fun v48 wc => ∃ (kq : Nat) (x48_6 : Bool), v48 = .bool x48_6 ∧ Aside0 (spec_l06Stands.j0 kq a1 a2 a4 a5 x48_6 l0_0 = some r) ∧ Aside0 (kq ≤ k) ∧ Aside0 (wc.heap[gb268]? = some (.cells #[(.slice A0_0 l0_0.length c0_0)] 30 (0, 0))) ∧ Aside0 (Below w.heap.size w wc))
 case first =>
  have H := HC7.out
  clear HC7
  refine qI H ?_ ?_ <;> clear H <;> intro c9b0 H
  ·(first | rw [c9b0] | (simp only [i64_w, i32_w]; rw [c9b0]) | skip)
   have H' := am H
   clear H
   go_wp2
   go_meet
   case rel => exact ⟨_, (true), dr, H', ⟨lk0⟩, ⟨bp BK268⟩, ⟨bw HB⟩⟩
  (first | rw [c9b0] | (simp only [i64_w, i32_w]; rw [c9b0]) | skip)
  refine qL H ?_ ?_ <;> clear H <;> intro c10b0 H
  ·have H' := am H
   clear H
   have hcz11 := bK w8 BK268
   have hfz11 := bF BK268
   go_wp2
   go_meet
   case rel => exact ⟨_, (true), dr, H', ⟨lk0⟩, ⟨bp BK268⟩, ⟨bw HB⟩⟩
  refine iM H ?_; clear H; intro c12b0 H
  refine iM H ?_; clear H; intro c13b0 H
  refine qE H ?_ ?_ <;> clear H
  ·intro c14b0 c14b1 H
   refine qI H ?_ ?_ <;> clear H <;> intro c15b0 H
   ·have H' := am H
    clear H
    have hcz16 := bK w8 BK268
    have hfz16 := bF BK268
    have p269 : 0 ≤ (a1 : Int) := of_decide_eq_true as1
    have q269 : a1 < (l0_0.length : Int) := of_decide_eq_true as1
    obtain ⟨ad269, A269_2, c269_2, e269, hx269_0, hx269_1, hx269_2, hl269_2, hi269_2⟩ := at_T100 HR0_0.out a1 p269 q269
    cases e269
    replace hx269_0 := cl HB hx269_0
    replace hx269_1 := cl HB hx269_1
    replace hx269_2 := cl HB hx269_2
    have HR269_2 := am hi269_2
    have HC269_2 := am hl269_2
    clear hi269_2 hl269_2
    replace p269 := eq_true p269
    replace q269 := eq_true q269
    go_wp2
    go_meet
    case rel => exact ⟨_, (true), dr, H', ⟨lk0⟩, ⟨bp BK268⟩, ⟨bw HB⟩⟩
   have H' := am H
   clear H
   have hcz17 := bK w8 BK268
   have hfz17 := bF BK268
   have p269 : 0 ≤ (a1 : Int) := of_decide_eq_true as1
   have q269 : a1 < (l0_0.length : Int) := of_decide_eq_true as1
   obtain ⟨ad269, A269_2, c269_2, e269, hx269_0, hx269_1, hx269_2, hl269_2, hi269_2⟩ := at_T100 HR0_0.out a1 p269 q269
   cases e269
   replace hx269_0 := cl HB hx269_0
   replace hx269_1 := cl HB hx269_1
   replace hx269_2 := cl HB hx269_2
   have HR269_2 := am hi269_2
   have HC269_2 := am hl269_2
   clear hi269_2 hl269_2
   replace p269 := eq_true p269
   replace q269 := eq_true q269
   have p270 : 0 ≤ (a1 : Int) := of_decide_eq_true as1
   have q270 : a1 < (l0_0.length : Int) := of_decide_eq_true as1
   obtain ⟨ad270, A270_2, c270_2, e270, hx270_0, hx270_1, hx270_2, hl270_2, hi270_2⟩ := at_T100 HR0_0.out a1 p270 q270
   obtain rfl : ad269 = ad270 := (by injection e270)
   replace hx270_0 := cl HB hx270_0
   replace hx270_1 := cl HB hx270_1
   replace hx270_2 := cl HB hx270_2
   have HR270_2 := am hi270_2
   have HC270_2 := am hl270_2
   clear hi270_2 hl270_2
   replace p270 := eq_true p270
   replace q270 := eq_true q270
   have ea_ := Option.some.inj (hx269_2.symm.trans hx270_2)
   injection ea_ with ea_ en_ ec_
   subst ea_
   subst ec_
   clear en_
   go_wp2
   go_meet
   case rel => exact ⟨_, (decide (a2 ≥ (((rd_T100 l0_0 a1).f2).length : Int))), dr, H', ⟨lk0⟩, ⟨bp BK268⟩, ⟨bw HB⟩⟩
  intro c14 c14b0 c14b1 H
  have H' := am H
  clear H
  have hcz18 := bK w8 BK268
  have hfz18 := bF BK268
  have p269 : 0 ≤ (a1 : Int) := of_decide_eq_true as1
  have q269 : a1 < (l0_0.length : Int) := of_decide_eq_true as1
  obtain ⟨ad269, A269_2, c269_2, e269, hx269_0, hx269_1, hx269_2, hl269_2, hi269_2⟩ := at_T100 HR0_0.out a1 p269 q269
  cases e269
  replace hx269_0 := cl HB hx269_0
  replace hx269_1 := cl HB hx269_1
  replace hx269_2 := cl HB hx269_2
  have HR269_2 := am hi269_2
  have HC269_2 := am hl269_2
  clear hi269_2 hl269_2
  replace p269 := eq_true p269
  replace q269 := eq_true q269
  go_wp2
  go_meet
  case rel => exact ⟨_, (true), dr, H', ⟨lk0⟩, ⟨bp BK268⟩, ⟨bw HB⟩⟩
 clear HC7
 (try clear c1); (try clear c2); (try clear p2); (try clear q2); (try clear hx2); (try clear c9); (try clear c9b0); (try clear c10); (try clear c10b0); (try clear c11); (try clear c12); (try clear c12b0); (try clear c13); (try clear c13b0); (try clear c14); (try clear c14b0); (try clear c14b1); (try clear c15); (try clear c15b0); (try clear hcz11); (try clear hcz16); (try clear hcz17); (try clear hcz18); (try clear hfz11); (try clear hfz16); (try clear hfz17); (try clear hfz18); (try clear hx269_0); (try clear hx269_1); (try clear hx269_2); (try clear hx270_0); (try clear hx270_1); (try clear hx270_2); (try clear p269); (try clear p270); (try clear q269); (try clear q270)
 obtain ⟨kq, x48_6, rfl, HA, HJ6, BK268, HB⟩ := hcut
 rcases kq with _ | kj6
 ·exact absurd HA.out (by simp [spec_l06Stands.j0])
 have H := HA.out
 clear HA
 simp only [spec_l06Stands.j0] at H
 refine qT H ?_ ?_ <;> clear H <;> intro c19 H <;> subst c19
 ·obtain rfl := Option.some.inj H
  go_wp2
  go_ret
  exact ⟨er, bw HB⟩
 replace H := Option.bind_eq_some_iff.mp H
 obtain ⟨⟨t271, t274, t275, t276⟩, A200, H⟩ := H
 replace H : (if a5 < 0 then (if 0 ≤ a2 then (if a2 < (t271.length : Int) then (if (rd t271 a2) ≥ 0 then (some (a4 == (rd t271 a2))) else (some false)) else (none)) else (none)) else (if a2 > 0 then (if 0 ≤ (wrap64 (a2 - 1)) then (if (wrap64 (a2 - 1)) < (t271.length : Int) then (if (rd t271 (wrap64 (a2 - 1))) ≥ 0 then (if 0 ≤ a1 then (if a1 < (l0_0.length : Int) then (if (wrap64 (a2 - 1)) < (((rd_T100 l0_0 a1).f2).length : Int) then (if (((rd_T102 ((rd_T100 l0_0 a1).f2) (wrap64 (a2 - 1))).f0) == 32 && (((rd_T102 ((rd_T100 l0_0 a1).f2) (wrap64 (a2 - 1))).f1) == a5)) = true then (if 0 ≤ a2 then (if a2 < (t271.length : Int) then (some (a4 == (wrap64 ((rd t271 a2) - 1)))) else (none)) else (none)) else (some false)) else (none)) else (none)) else (none)) else (some false)) else (none)) else (none)) else (some false))) = some r := H
 have A20 := am A200
 clear A200
 have HC21 := am H
 clear H
 have hcz22 := bK wc BK268
 have hfz22 := bF BK268
 go_upto_if 56 with (first | ((with_reducible refine gk 58 rfl ?_); refine gC 58 (some 52) Try.func58 #[.agg #[.slice A0_0 l0_0.length c0_0], .int .i64 a1] ((spec_l04Heights.calls kj6 _ _ l0_0 a1 t271 t274 t275 t276 _ (cc (Kd.C_below HR0_0.out HB.out)) HC0_0.out A20.out).mono ?_); rintro e w23 ⟨v272, rfl, ho0, hb⟩; refine ⟨_, rfl, ?_⟩; have HO273 := am (Kd.R_lower ho0 (below_size (bw HB))); replace BK268 := bb BK268 hb; replace HB := bs HB hb; clear hb; (try clear ho0)) | ((with_reducible refine gate_dst (N := 14) rfl ?_); (try (refine gate_guard (by rfl) ?_; dsimp only)); refine box_event ?hg (N := 14) ?hd (cs := #[.int .i64 0, .int .i64 0, .int .i64 0]) (t := 84) ?hr ?_; (case hd => rfl); (case hg => rfl); (case hr => exact gs); intro gb277 hg w24 hbox hb; replace HO273 := am (Kd.R_below (kR HO273) hb); have BK277 := am (hbox); have GW277 := gw hg HB; replace HB := bs HB hb; obtain ⟨NB268_277, NB277_268, BK268⟩ := b3 hg BK268 hb; clear hb hbox hg; have hnb25 := NB277_268.out; have hnc25 := NB268_277.out; have hcz26 := bK w24 BK277; have hfz26 := bF BK277))
 (try simp only [Act.put, sa, sz, ss])
 have H := HC21.out
 clear HC21
 refine qI H ?_ ?_ <;> clear H <;> intro c27b0 H
 ·(first | rw [c27b0] | (simp only [i64_w, i32_w]; rw [c27b0]) | skip)
  refine iM H ?_; clear H; intro c28b0 H
  refine iM H ?_; clear H; intro c29b0 H
  refine qL H ?_ ?_ <;> clear H <;> intro c30b0 H
  ·obtain rfl := Option.some.inj H
   obtain ⟨Ao31, co31, eo31⟩ := Kd.R_slice HO273.out
   subst eo31
   have p278 : 0 ≤ (a2 : Int) := of_decide_eq_true as1
   have q278 : a2 < (t271.length : Int) := of_decide_eq_true as1
   obtain ⟨ad278, e278, hx278_0⟩ := Kd.at_int (Kd.R_reads' HO273.out).2.2 a2 p278 q278
   cases e278
   have hn278_0 : ad278.block ≠ gb277 := Kd.own_blk (Kd.R_ne HO273.out BK277.out (by decide))
   have hn278_1 : ad278.block ≠ gb277 := Kd.own_blk (Kd.R_ne HO273.out BK277.out (by decide))
   have hn278_2 : ad278.block ≠ gb277 := Kd.own_blk (Kd.R_ne HO273.out BK277.out (by decide))
   replace hx278_0 := (cell_far (p := ⟨gb277, 0, none⟩) (by first | (rw [add_block]; exact hn278_0) | (show (Addr.add _ _).block ≠ _; rw [add_block]; exact hn278_0) | exact hn278_0) (.int .i64 t274)).trans hx278_0
   replace hx278_0 := (cell_far (p := ⟨gb277, 1, none⟩) (by first | (rw [add_block]; exact hn278_1) | (show (Addr.add _ _).block ≠ _; rw [add_block]; exact hn278_1) | exact hn278_1) (.int .i64 t275)).trans hx278_0
   replace hx278_0 := (cell_far (p := ⟨gb277, 2, none⟩) (by first | (rw [add_block]; exact hn278_2) | (show (Addr.add _ _).block ≠ _; rw [add_block]; exact hn278_2) | exact hn278_2) (.int .i64 t276)).trans hx278_0
   clear hn278_0
   clear hn278_1
   clear hn278_2
   replace p278 := eq_true p278
   replace q278 := eq_true q278
   have p279 : 0 ≤ (a2 : Int) := of_decide_eq_true as1
   have q279 : a2 < (t271.length : Int) := of_decide_eq_true as1
   obtain ⟨ad279, e279, hx279_0⟩ := Kd.at_int (Kd.R_reads' HO273.out).2.2 a2 p279 q279
   obtain rfl : ad278 = ad279 := (by injection e279)
   have hn279_0 : ad278.block ≠ gb277 := Kd.own_blk (Kd.R_ne HO273.out BK277.out (by decide))
   have hn279_1 : ad278.block ≠ gb277 := Kd.own_blk (Kd.R_ne HO273.out BK277.out (by decide))
   have hn279_2 : ad278.block ≠ gb277 := Kd.own_blk (Kd.R_ne HO273.out BK277.out (by decide))
   replace hx279_0 := (cell_far (p := ⟨gb277, 0, none⟩) (by first | (rw [add_block]; exact hn279_0) | (show (Addr.add _ _).block ≠ _; rw [add_block]; exact hn279_0) | exact hn279_0) (.int .i64 t274)).trans hx279_0
   replace hx279_0 := (cell_far (p := ⟨gb277, 1, none⟩) (by first | (rw [add_block]; exact hn279_1) | (show (Addr.add _ _).block ≠ _; rw [add_block]; exact hn279_1) | exact hn279_1) (.int .i64 t275)).trans hx279_0
   replace hx279_0 := (cell_far (p := ⟨gb277, 2, none⟩) (by first | (rw [add_block]; exact hn279_2) | (show (Addr.add _ _).block ≠ _; rw [add_block]; exact hn279_2) | exact hn279_2) (.int .i64 t276)).trans hx279_0
   clear hn279_0
   clear hn279_1
   clear hn279_2
   replace p279 := eq_true p279
   replace q279 := eq_true q279
   go_wp2
   go_ret
   exact ⟨er, bw HB⟩
  obtain rfl := Option.some.inj H
  obtain ⟨Ao32, co32, eo32⟩ := Kd.R_slice HO273.out
  subst eo32
  have p278 : 0 ≤ (a2 : Int) := of_decide_eq_true as1
  have q278 : a2 < (t271.length : Int) := of_decide_eq_true as1
  obtain ⟨ad278, e278, hx278_0⟩ := Kd.at_int (Kd.R_reads' HO273.out).2.2 a2 p278 q278
  cases e278
  have hn278_0 : ad278.block ≠ gb277 := Kd.own_blk (Kd.R_ne HO273.out BK277.out (by decide))
  have hn278_1 : ad278.block ≠ gb277 := Kd.own_blk (Kd.R_ne HO273.out BK277.out (by decide))
  have hn278_2 : ad278.block ≠ gb277 := Kd.own_blk (Kd.R_ne HO273.out BK277.out (by decide))
  replace hx278_0 := (cell_far (p := ⟨gb277, 0, none⟩) (by first | (rw [add_block]; exact hn278_0) | (show (Addr.add _ _).block ≠ _; rw [add_block]; exact hn278_0) | exact hn278_0) (.int .i64 t274)).trans hx278_0
  replace hx278_0 := (cell_far (p := ⟨gb277, 1, none⟩) (by first | (rw [add_block]; exact hn278_1) | (show (Addr.add _ _).block ≠ _; rw [add_block]; exact hn278_1) | exact hn278_1) (.int .i64 t275)).trans hx278_0
  replace hx278_0 := (cell_far (p := ⟨gb277, 2, none⟩) (by first | (rw [add_block]; exact hn278_2) | (show (Addr.add _ _).block ≠ _; rw [add_block]; exact hn278_2) | exact hn278_2) (.int .i64 t276)).trans hx278_0
  clear hn278_0
  clear hn278_1
  clear hn278_2
  replace p278 := eq_true p278
  replace q278 := eq_true q278
  go_wp2
  go_ret
  exact ⟨er, bw HB⟩
 (first | rw [c27b0] | (simp only [i64_w, i32_w]; rw [c27b0]) | skip)
 refine qG H ?_ ?_ <;> clear H <;> intro c33b0 H
 ·obtain ⟨ji34, hji34⟩ : ∃ j_ : Int, (wrap64 (a2 - 1)) = j_ := ⟨_, rfl⟩
  replace H : (if 0 ≤ (ji34) then (if (ji34) < (t271.length : Int) then (if (rd t271 (ji34)) ≥ 0 then (if 0 ≤ a1 then (if a1 < (l0_0.length : Int) then (if (ji34) < (((rd_T100 l0_0 a1).f2).length : Int) then (if (((rd_T102 ((rd_T100 l0_0 a1).f2) (ji34)).f0) == 32 && (((rd_T102 ((rd_T100 l0_0 a1).f2) (ji34)).f1) == a5)) = true then (if 0 ≤ a2 then (if a2 < (t271.length : Int) then (some (a4 == (wrap64 ((rd t271 a2) - 1)))) else (none)) else (none)) else (some false)) else (none)) else (none)) else (none)) else (some false)) else (none)) else (none)) = some r := by first | (rw [hji34] at H; exact H) | (simp only [hji34] at H ⊢; exact H)
  have hji34w : (IntKind.i64.wrap (a2 - 1)) = ji34 := (i64_w _).trans hji34
  refine iM H ?_; clear H; intro c35b0 H
  refine iM H ?_; clear H; intro c36b0 H
  refine qL H ?_ ?_ <;> clear H <;> intro c37b0 H
  ·refine iM H ?_; clear H; intro c38b0 H
   refine iM H ?_; clear H; intro c39b0 H
   refine iM H ?_; clear H; intro c40b0 H
   by_cases c41 : (((rd_T102 ((rd_T100 l0_0 a1).f2) (ji34)).f0) == 32 && (((rd_T102 ((rd_T100 l0_0 a1).f2) (ji34)).f1) == a5)) = true
   ·rw [if_pos c41] at H
    have c41b0 : (((rd_T102 ((rd_T100 l0_0 a1).f2) (ji34)).f0) == 32 && (((rd_T102 ((rd_T100 l0_0 a1).f2) (ji34)).f1) == a5)) = true := c41
    (try (have c41b1 : decide (((rd_T102 ((rd_T100 l0_0 a1).f2) (ji34)).f0) = 32 && (((rd_T102 ((rd_T100 l0_0 a1).f2) (ji34)).f1) == a5)) = true := by simpa using c41))
    (try (have c41b2 : (((rd_T102 ((rd_T100 l0_0 a1).f2) (ji34)).f0) == 32 && (((rd_T102 ((rd_T100 l0_0 a1).f2) (ji34)).f1) == a5)) = true := by simpa using c41))
    clear c41
    refine iM H ?_; clear H; intro c42b0 H
    refine iM H ?_; clear H; intro c43b0 H
    obtain rfl := Option.some.inj H
    obtain ⟨Ao44, co44, eo44⟩ := Kd.R_slice HO273.out
    subst eo44
    have p280 : 0 ≤ ((ji34) : Int) := of_decide_eq_true as1
    have q280 : (ji34) < (t271.length : Int) := of_decide_eq_true as1
    obtain ⟨ad280, e280, hx280_0⟩ := Kd.at_int (Kd.R_reads' HO273.out).2.2 (ji34) p280 q280
    cases e280
    have hn280_0 : ad280.block ≠ gb277 := Kd.own_blk (Kd.R_ne HO273.out BK277.out (by decide))
    have hn280_1 : ad280.block ≠ gb277 := Kd.own_blk (Kd.R_ne HO273.out BK277.out (by decide))
    have hn280_2 : ad280.block ≠ gb277 := Kd.own_blk (Kd.R_ne HO273.out BK277.out (by decide))
    replace hx280_0 := (cell_far (p := ⟨gb277, 0, none⟩) (by first | (rw [add_block]; exact hn280_0) | (show (Addr.add _ _).block ≠ _; rw [add_block]; exact hn280_0) | exact hn280_0) (.int .i64 t274)).trans hx280_0
    replace hx280_0 := (cell_far (p := ⟨gb277, 1, none⟩) (by first | (rw [add_block]; exact hn280_1) | (show (Addr.add _ _).block ≠ _; rw [add_block]; exact hn280_1) | exact hn280_1) (.int .i64 t275)).trans hx280_0
    replace hx280_0 := (cell_far (p := ⟨gb277, 2, none⟩) (by first | (rw [add_block]; exact hn280_2) | (show (Addr.add _ _).block ≠ _; rw [add_block]; exact hn280_2) | exact hn280_2) (.int .i64 t276)).trans hx280_0
    clear hn280_0
    clear hn280_1
    clear hn280_2
    replace p280 := eq_true p280
    replace q280 := eq_true q280
    have hnb45 := NB268_277.out
    have hnc45 := NB277_268.out
    have hcz46 := bK w24 BK268
    have hfz46 := bF BK268
    have p281 : 0 ≤ (a1 : Int) := of_decide_eq_true as1
    have q281 : a1 < (l0_0.length : Int) := of_decide_eq_true as1
    obtain ⟨ad281, A281_2, c281_2, e281, hx281_0, hx281_1, hx281_2, hl281_2, hi281_2⟩ := at_T100 HR0_0.out a1 p281 q281
    cases e281
    have hn281_0 : ad281.block ≠ gb277 := Nat.ne_of_lt (Nat.lt_of_lt_of_le (by have := World.block_lt_of_cell? _ _ hx281_0; first | rwa [add_block] at this | exact this) GW277.out)
    have hn281_1 : ad281.block ≠ gb277 := Nat.ne_of_lt (Nat.lt_of_lt_of_le (by have := World.block_lt_of_cell? _ _ hx281_0; first | rwa [add_block] at this | exact this) GW277.out)
    have hn281_2 : ad281.block ≠ gb277 := Nat.ne_of_lt (Nat.lt_of_lt_of_le (by have := World.block_lt_of_cell? _ _ hx281_0; first | rwa [add_block] at this | exact this) GW277.out)
    replace hx281_0 := cl HB hx281_0
    replace hx281_1 := cl HB hx281_1
    replace hx281_2 := cl HB hx281_2
    have HR281_2 := am hi281_2
    have HC281_2 := am hl281_2
    clear hi281_2 hl281_2
    replace hx281_0 := (cell_far (p := ⟨gb277, 0, none⟩) (by first | (rw [add_block]; exact hn281_0) | (show (Addr.add _ _).block ≠ _; rw [add_block]; exact hn281_0) | exact hn281_0) (.int .i64 t274)).trans hx281_0
    replace hx281_1 := (cell_far (p := ⟨gb277, 0, none⟩) (by first | (rw [add_block]; exact hn281_0) | (show (Addr.add _ _).block ≠ _; rw [add_block]; exact hn281_0) | exact hn281_0) (.int .i64 t274)).trans hx281_1
    replace hx281_2 := (cell_far (p := ⟨gb277, 0, none⟩) (by first | (rw [add_block]; exact hn281_0) | (show (Addr.add _ _).block ≠ _; rw [add_block]; exact hn281_0) | exact hn281_0) (.int .i64 t274)).trans hx281_2
    replace hx281_0 := (cell_far (p := ⟨gb277, 1, none⟩) (by first | (rw [add_block]; exact hn281_1) | (show (Addr.add _ _).block ≠ _; rw [add_block]; exact hn281_1) | exact hn281_1) (.int .i64 t275)).trans hx281_0
    replace hx281_1 := (cell_far (p := ⟨gb277, 1, none⟩) (by first | (rw [add_block]; exact hn281_1) | (show (Addr.add _ _).block ≠ _; rw [add_block]; exact hn281_1) | exact hn281_1) (.int .i64 t275)).trans hx281_1
    replace hx281_2 := (cell_far (p := ⟨gb277, 1, none⟩) (by first | (rw [add_block]; exact hn281_1) | (show (Addr.add _ _).block ≠ _; rw [add_block]; exact hn281_1) | exact hn281_1) (.int .i64 t275)).trans hx281_2
    replace hx281_0 := (cell_far (p := ⟨gb277, 2, none⟩) (by first | (rw [add_block]; exact hn281_2) | (show (Addr.add _ _).block ≠ _; rw [add_block]; exact hn281_2) | exact hn281_2) (.int .i64 t276)).trans hx281_0
    replace hx281_1 := (cell_far (p := ⟨gb277, 2, none⟩) (by first | (rw [add_block]; exact hn281_2) | (show (Addr.add _ _).block ≠ _; rw [add_block]; exact hn281_2) | exact hn281_2) (.int .i64 t276)).trans hx281_1
    replace hx281_2 := (cell_far (p := ⟨gb277, 2, none⟩) (by first | (rw [add_block]; exact hn281_2) | (show (Addr.add _ _).block ≠ _; rw [add_block]; exact hn281_2) | exact hn281_2) (.int .i64 t276)).trans hx281_2
    clear hn281_0
    clear hn281_1
    clear hn281_2
    replace p281 := eq_true p281
    replace q281 := eq_true q281
    have p282 : 0 ≤ ((ji34) : Int) := of_decide_eq_true as1
    have q282 : (ji34) < (((rd_T100 l0_0 a1).f2).length : Int) := of_decide_eq_true as1
    obtain ⟨ad282, e282, hx282_0, hx282_1⟩ := at_T102 HR281_2.out (ji34) p282 q282
    cases e282
    have hn282_0 : ad282.block ≠ gb277 := Nat.ne_of_lt (Nat.lt_of_lt_of_le (by have := World.block_lt_of_cell? _ _ hx282_0; first | rwa [add_block] at this | exact this) GW277.out)
    have hn282_1 : ad282.block ≠ gb277 := Nat.ne_of_lt (Nat.lt_of_lt_of_le (by have := World.block_lt_of_cell? _ _ hx282_0; first | rwa [add_block] at this | exact this) GW277.out)
    have hn282_2 : ad282.block ≠ gb277 := Nat.ne_of_lt (Nat.lt_of_lt_of_le (by have := World.block_lt_of_cell? _ _ hx282_0; first | rwa [add_block] at this | exact this) GW277.out)
    replace hx282_0 := cl HB hx282_0
    replace hx282_1 := cl HB hx282_1
    replace hx282_0 := (cell_far (p := ⟨gb277, 0, none⟩) (by first | (rw [add_block]; exact hn282_0) | (show (Addr.add _ _).block ≠ _; rw [add_block]; exact hn282_0) | exact hn282_0) (.int .i64 t274)).trans hx282_0
    replace hx282_1 := (cell_far (p := ⟨gb277, 0, none⟩) (by first | (rw [add_block]; exact hn282_0) | (show (Addr.add _ _).block ≠ _; rw [add_block]; exact hn282_0) | exact hn282_0) (.int .i64 t274)).trans hx282_1
    replace hx282_0 := (cell_far (p := ⟨gb277, 1, none⟩) (by first | (rw [add_block]; exact hn282_1) | (show (Addr.add _ _).block ≠ _; rw [add_block]; exact hn282_1) | exact hn282_1) (.int .i64 t275)).trans hx282_0
    replace hx282_1 := (cell_far (p := ⟨gb277, 1, none⟩) (by first | (rw [add_block]; exact hn282_1) | (show (Addr.add _ _).block ≠ _; rw [add_block]; exact hn282_1) | exact hn282_1) (.int .i64 t275)).trans hx282_1
    replace hx282_0 := (cell_far (p := ⟨gb277, 2, none⟩) (by first | (rw [add_block]; exact hn282_2) | (show (Addr.add _ _).block ≠ _; rw [add_block]; exact hn282_2) | exact hn282_2) (.int .i64 t276)).trans hx282_0
    replace hx282_1 := (cell_far (p := ⟨gb277, 2, none⟩) (by first | (rw [add_block]; exact hn282_2) | (show (Addr.add _ _).block ≠ _; rw [add_block]; exact hn282_2) | exact hn282_2) (.int .i64 t276)).trans hx282_1
    clear hn282_0
    clear hn282_1
    clear hn282_2
    replace p282 := eq_true p282
    replace q282 := eq_true q282
    have p283 : 0 ≤ (a2 : Int) := of_decide_eq_true as1
    have q283 : a2 < (t271.length : Int) := of_decide_eq_true as1
    obtain ⟨ad283, e283, hx283_0⟩ := Kd.at_int (Kd.R_reads' HO273.out).2.2 a2 p283 q283
    obtain rfl : ad280 = ad283 := (by injection e283)
    have hn283_0 : ad280.block ≠ gb277 := Kd.own_blk (Kd.R_ne HO273.out BK277.out (by decide))
    have hn283_1 : ad280.block ≠ gb277 := Kd.own_blk (Kd.R_ne HO273.out BK277.out (by decide))
    have hn283_2 : ad280.block ≠ gb277 := Kd.own_blk (Kd.R_ne HO273.out BK277.out (by decide))
    replace hx283_0 := (cell_far (p := ⟨gb277, 0, none⟩) (by first | (rw [add_block]; exact hn283_0) | (show (Addr.add _ _).block ≠ _; rw [add_block]; exact hn283_0) | exact hn283_0) (.int .i64 t274)).trans hx283_0
    replace hx283_0 := (cell_far (p := ⟨gb277, 1, none⟩) (by first | (rw [add_block]; exact hn283_1) | (show (Addr.add _ _).block ≠ _; rw [add_block]; exact hn283_1) | exact hn283_1) (.int .i64 t275)).trans hx283_0
    replace hx283_0 := (cell_far (p := ⟨gb277, 2, none⟩) (by first | (rw [add_block]; exact hn283_2) | (show (Addr.add _ _).block ≠ _; rw [add_block]; exact hn283_2) | exact hn283_2) (.int .i64 t276)).trans hx283_0
    clear hn283_0
    clear hn283_1
    clear hn283_2
    replace p283 := eq_true p283
    replace q283 := eq_true q283
    go_wp2
    go_ret
    exact ⟨by first | rfl | (simp [errW_none, errW_some] <;> rfl) | (simp only [← hji34]; first | rfl | (simp [errW_none, errW_some] <;> rfl)) | (simp [*, errW_none, errW_some] <;> rfl), bw HB⟩
   rw [if_neg c41] at H
   have c41b0 : (((rd_T102 ((rd_T100 l0_0 a1).f2) (ji34)).f0) == 32 && (((rd_T102 ((rd_T100 l0_0 a1).f2) (ji34)).f1) == a5)) = false := by simpa using c41
   (try (have c41b1 : decide (((rd_T102 ((rd_T100 l0_0 a1).f2) (ji34)).f0) = 32 && (((rd_T102 ((rd_T100 l0_0 a1).f2) (ji34)).f1) == a5)) = false := by simpa using c41))
   (try (have c41b2 : (((rd_T102 ((rd_T100 l0_0 a1).f2) (ji34)).f0) == 32 && (((rd_T102 ((rd_T100 l0_0 a1).f2) (ji34)).f1) == a5)) = false := by simpa using c41))
   (try (have c41b3 : ¬ (((rd_T102 ((rd_T100 l0_0 a1).f2) (ji34)).f0) = 32 && (((rd_T102 ((rd_T100 l0_0 a1).f2) (ji34)).f1) == a5)) := by simpa using c41))
   clear c41
   obtain rfl := Option.some.inj H
   obtain ⟨Ao47, co47, eo47⟩ := Kd.R_slice HO273.out
   subst eo47
   have p280 : 0 ≤ ((ji34) : Int) := of_decide_eq_true as1
   have q280 : (ji34) < (t271.length : Int) := of_decide_eq_true as1
   obtain ⟨ad280, e280, hx280_0⟩ := Kd.at_int (Kd.R_reads' HO273.out).2.2 (ji34) p280 q280
   cases e280
   have hn280_0 : ad280.block ≠ gb277 := Kd.own_blk (Kd.R_ne HO273.out BK277.out (by decide))
   have hn280_1 : ad280.block ≠ gb277 := Kd.own_blk (Kd.R_ne HO273.out BK277.out (by decide))
   have hn280_2 : ad280.block ≠ gb277 := Kd.own_blk (Kd.R_ne HO273.out BK277.out (by decide))
   replace hx280_0 := (cell_far (p := ⟨gb277, 0, none⟩) (by first | (rw [add_block]; exact hn280_0) | (show (Addr.add _ _).block ≠ _; rw [add_block]; exact hn280_0) | exact hn280_0) (.int .i64 t274)).trans hx280_0
   replace hx280_0 := (cell_far (p := ⟨gb277, 1, none⟩) (by first | (rw [add_block]; exact hn280_1) | (show (Addr.add _ _).block ≠ _; rw [add_block]; exact hn280_1) | exact hn280_1) (.int .i64 t275)).trans hx280_0
   replace hx280_0 := (cell_far (p := ⟨gb277, 2, none⟩) (by first | (rw [add_block]; exact hn280_2) | (show (Addr.add _ _).block ≠ _; rw [add_block]; exact hn280_2) | exact hn280_2) (.int .i64 t276)).trans hx280_0
   clear hn280_0
   clear hn280_1
   clear hn280_2
   replace p280 := eq_true p280
   replace q280 := eq_true q280
   have hnb48 := NB268_277.out
   have hnc48 := NB277_268.out
   have hcz49 := bK w24 BK268
   have hfz49 := bF BK268
   have p281 : 0 ≤ (a1 : Int) := of_decide_eq_true as1
   have q281 : a1 < (l0_0.length : Int) := of_decide_eq_true as1
   obtain ⟨ad281, A281_2, c281_2, e281, hx281_0, hx281_1, hx281_2, hl281_2, hi281_2⟩ := at_T100 HR0_0.out a1 p281 q281
   cases e281
   have hn281_0 : ad281.block ≠ gb277 := Nat.ne_of_lt (Nat.lt_of_lt_of_le (by have := World.block_lt_of_cell? _ _ hx281_0; first | rwa [add_block] at this | exact this) GW277.out)
   have hn281_1 : ad281.block ≠ gb277 := Nat.ne_of_lt (Nat.lt_of_lt_of_le (by have := World.block_lt_of_cell? _ _ hx281_0; first | rwa [add_block] at this | exact this) GW277.out)
   have hn281_2 : ad281.block ≠ gb277 := Nat.ne_of_lt (Nat.lt_of_lt_of_le (by have := World.block_lt_of_cell? _ _ hx281_0; first | rwa [add_block] at this | exact this) GW277.out)
   replace hx281_0 := cl HB hx281_0
   replace hx281_1 := cl HB hx281_1
   replace hx281_2 := cl HB hx281_2
   have HR281_2 := am hi281_2
   have HC281_2 := am hl281_2
   clear hi281_2 hl281_2
   replace hx281_0 := (cell_far (p := ⟨gb277, 0, none⟩) (by first | (rw [add_block]; exact hn281_0) | (show (Addr.add _ _).block ≠ _; rw [add_block]; exact hn281_0) | exact hn281_0) (.int .i64 t274)).trans hx281_0
   replace hx281_1 := (cell_far (p := ⟨gb277, 0, none⟩) (by first | (rw [add_block]; exact hn281_0) | (show (Addr.add _ _).block ≠ _; rw [add_block]; exact hn281_0) | exact hn281_0) (.int .i64 t274)).trans hx281_1
   replace hx281_2 := (cell_far (p := ⟨gb277, 0, none⟩) (by first | (rw [add_block]; exact hn281_0) | (show (Addr.add _ _).block ≠ _; rw [add_block]; exact hn281_0) | exact hn281_0) (.int .i64 t274)).trans hx281_2
   replace hx281_0 := (cell_far (p := ⟨gb277, 1, none⟩) (by first | (rw [add_block]; exact hn281_1) | (show (Addr.add _ _).block ≠ _; rw [add_block]; exact hn281_1) | exact hn281_1) (.int .i64 t275)).trans hx281_0
   replace hx281_1 := (cell_far (p := ⟨gb277, 1, none⟩) (by first | (rw [add_block]; exact hn281_1) | (show (Addr.add _ _).block ≠ _; rw [add_block]; exact hn281_1) | exact hn281_1) (.int .i64 t275)).trans hx281_1
   replace hx281_2 := (cell_far (p := ⟨gb277, 1, none⟩) (by first | (rw [add_block]; exact hn281_1) | (show (Addr.add _ _).block ≠ _; rw [add_block]; exact hn281_1) | exact hn281_1) (.int .i64 t275)).trans hx281_2
   replace hx281_0 := (cell_far (p := ⟨gb277, 2, none⟩) (by first | (rw [add_block]; exact hn281_2) | (show (Addr.add _ _).block ≠ _; rw [add_block]; exact hn281_2) | exact hn281_2) (.int .i64 t276)).trans hx281_0
   replace hx281_1 := (cell_far (p := ⟨gb277, 2, none⟩) (by first | (rw [add_block]; exact hn281_2) | (show (Addr.add _ _).block ≠ _; rw [add_block]; exact hn281_2) | exact hn281_2) (.int .i64 t276)).trans hx281_1
   replace hx281_2 := (cell_far (p := ⟨gb277, 2, none⟩) (by first | (rw [add_block]; exact hn281_2) | (show (Addr.add _ _).block ≠ _; rw [add_block]; exact hn281_2) | exact hn281_2) (.int .i64 t276)).trans hx281_2
   clear hn281_0
   clear hn281_1
   clear hn281_2
   replace p281 := eq_true p281
   replace q281 := eq_true q281
   have p282 : 0 ≤ ((ji34) : Int) := of_decide_eq_true as1
   have q282 : (ji34) < (((rd_T100 l0_0 a1).f2).length : Int) := of_decide_eq_true as1
   obtain ⟨ad282, e282, hx282_0, hx282_1⟩ := at_T102 HR281_2.out (ji34) p282 q282
   cases e282
   have hn282_0 : ad282.block ≠ gb277 := Nat.ne_of_lt (Nat.lt_of_lt_of_le (by have := World.block_lt_of_cell? _ _ hx282_0; first | rwa [add_block] at this | exact this) GW277.out)
   have hn282_1 : ad282.block ≠ gb277 := Nat.ne_of_lt (Nat.lt_of_lt_of_le (by have := World.block_lt_of_cell? _ _ hx282_0; first | rwa [add_block] at this | exact this) GW277.out)
   have hn282_2 : ad282.block ≠ gb277 := Nat.ne_of_lt (Nat.lt_of_lt_of_le (by have := World.block_lt_of_cell? _ _ hx282_0; first | rwa [add_block] at this | exact this) GW277.out)
   replace hx282_0 := cl HB hx282_0
   replace hx282_1 := cl HB hx282_1
   replace hx282_0 := (cell_far (p := ⟨gb277, 0, none⟩) (by first | (rw [add_block]; exact hn282_0) | (show (Addr.add _ _).block ≠ _; rw [add_block]; exact hn282_0) | exact hn282_0) (.int .i64 t274)).trans hx282_0
   replace hx282_1 := (cell_far (p := ⟨gb277, 0, none⟩) (by first | (rw [add_block]; exact hn282_0) | (show (Addr.add _ _).block ≠ _; rw [add_block]; exact hn282_0) | exact hn282_0) (.int .i64 t274)).trans hx282_1
   replace hx282_0 := (cell_far (p := ⟨gb277, 1, none⟩) (by first | (rw [add_block]; exact hn282_1) | (show (Addr.add _ _).block ≠ _; rw [add_block]; exact hn282_1) | exact hn282_1) (.int .i64 t275)).trans hx282_0
   replace hx282_1 := (cell_far (p := ⟨gb277, 1, none⟩) (by first | (rw [add_block]; exact hn282_1) | (show (Addr.add _ _).block ≠ _; rw [add_block]; exact hn282_1) | exact hn282_1) (.int .i64 t275)).trans hx282_1
   replace hx282_0 := (cell_far (p := ⟨gb277, 2, none⟩) (by first | (rw [add_block]; exact hn282_2) | (show (Addr.add _ _).block ≠ _; rw [add_block]; exact hn282_2) | exact hn282_2) (.int .i64 t276)).trans hx282_0
   replace hx282_1 := (cell_far (p := ⟨gb277, 2, none⟩) (by first | (rw [add_block]; exact hn282_2) | (show (Addr.add _ _).block ≠ _; rw [add_block]; exact hn282_2) | exact hn282_2) (.int .i64 t276)).trans hx282_1
   clear hn282_0
   clear hn282_1
   clear hn282_2
   replace p282 := eq_true p282
   replace q282 := eq_true q282
   go_wp2
   go_ret
   exact ⟨by first | rfl | (simp [errW_none, errW_some] <;> rfl) | (simp only [← hji34]; first | rfl | (simp [errW_none, errW_some] <;> rfl)) | (simp [*, errW_none, errW_some] <;> rfl), bw HB⟩
  obtain rfl := Option.some.inj H
  obtain ⟨Ao50, co50, eo50⟩ := Kd.R_slice HO273.out
  subst eo50
  have p280 : 0 ≤ ((ji34) : Int) := of_decide_eq_true as1
  have q280 : (ji34) < (t271.length : Int) := of_decide_eq_true as1
  obtain ⟨ad280, e280, hx280_0⟩ := Kd.at_int (Kd.R_reads' HO273.out).2.2 (ji34) p280 q280
  cases e280
  have hn280_0 : ad280.block ≠ gb277 := Kd.own_blk (Kd.R_ne HO273.out BK277.out (by decide))
  have hn280_1 : ad280.block ≠ gb277 := Kd.own_blk (Kd.R_ne HO273.out BK277.out (by decide))
  have hn280_2 : ad280.block ≠ gb277 := Kd.own_blk (Kd.R_ne HO273.out BK277.out (by decide))
  replace hx280_0 := (cell_far (p := ⟨gb277, 0, none⟩) (by first | (rw [add_block]; exact hn280_0) | (show (Addr.add _ _).block ≠ _; rw [add_block]; exact hn280_0) | exact hn280_0) (.int .i64 t274)).trans hx280_0
  replace hx280_0 := (cell_far (p := ⟨gb277, 1, none⟩) (by first | (rw [add_block]; exact hn280_1) | (show (Addr.add _ _).block ≠ _; rw [add_block]; exact hn280_1) | exact hn280_1) (.int .i64 t275)).trans hx280_0
  replace hx280_0 := (cell_far (p := ⟨gb277, 2, none⟩) (by first | (rw [add_block]; exact hn280_2) | (show (Addr.add _ _).block ≠ _; rw [add_block]; exact hn280_2) | exact hn280_2) (.int .i64 t276)).trans hx280_0
  clear hn280_0
  clear hn280_1
  clear hn280_2
  replace p280 := eq_true p280
  replace q280 := eq_true q280
  go_wp2
  go_ret
  exact ⟨by first | rfl | (simp [errW_none, errW_some] <;> rfl) | (simp only [← hji34]; first | rfl | (simp [errW_none, errW_some] <;> rfl)) | (simp [*, errW_none, errW_some] <;> rfl), bw HB⟩
 obtain rfl := Option.some.inj H
 go_wp2
 go_ret
 exact ⟨er, bw HB⟩

end Go.Proofs.Ytbmjmaahcaoajaa.QFnExactStateRight
