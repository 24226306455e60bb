import Derived.Test.YtbmjmaahcaoajaaCFnExactStateRightx0
import Derived.Test.YtbmjmaahcaoajaaCFnExactStateRightx1
import Derived.Test.YtbmjmaahcaoajaaCFnExactStateRightx13
namespace Go.Proofs.Ytbmjmaahcaoajaa.QFnExactStateRight
open Go.RowKit Go.Proofs.YtbmjmaahcaoajaaW
open PrintWords PrintLast PrintMore PrintShort
attribute [local go_sem] max2_int min2_int max_two min_two max_three min_three max_four min_four   -- for this text's walks alone
set_option linter.unusedVariables false
set_option maxHeartbeats 8000000
set_option maxRecDepth 100000
set_option linter.unusedSimpArgs false

attribute [local go_sem high] eqA102
mutual
def impl_world_right.j0 : Nat → Int → Bool → List (List Int) → List Int → Int → Bool → Int → Int → Option (Bool)
 | 0, _, _, _, _, _, _, _, _ => none
 | k + 1, x1, x25, x434000, x434001, x434002, x434003, x434004, x434005 => if x25 = true then (some false) else (impl_world_right.l0 k x1 x434000 (x434000.length : Int) 0 x434000 x434001 x434002 x434003 x434004 x434005)
def impl_world_right.l0 : Nat → Int → List (List Int) → Int → Int → List (List Int) → List Int → Int → Bool → Int → Int → Option (Bool)
 | 0, _, _, _, _, _, _, _, _, _, _ => none
 | k + 1, x1, x27, x28, x29, x434000, x434001, x434002, x434003, x434004, x434005 => if x29 < x28 then (if 0 ≤ x29 then (if x29 < (x27.length : Int) then (if ((rd_L7 x27 x29).length : Int) > 50 then (some false) else (impl_world_right.l0 k x1 x27 x28 (wrap64 (x29 + 1)) x434000 x434001 x434002 x434003 x434004 x434005)) else (none)) else (none)) else (if x434003 = true then (if x1 = 0 then (if x434005 = 0 then (some true) else ((impl_in.f x434005 11 15).bind fun t436 => (if t436 = true then (some (x434004 == 0)) else (some false)))) else (some false)) else (if x434004 = 0 then (if x434005 = 0 then ((impl_in.f x1 1 10).bind fun t437 => (some t437)) else (some false)) else (some false)))
end
def impl_world_right.f (k : Nat) (l0_0 : List (List Int)) (l0_1 : List Int) (a0_2 : Int) (a0_3 : Bool) (a0_4 : Int) (a0_5 : Int) (a1 : Int) : Option (Bool) := (impl_in.f a0_2 0 3000).bind fun t434 => (if t434 = true then (if (l0_0.length : Int) > 30 then (impl_world_right.j0 k a1 true l0_0 l0_1 a0_2 a0_3 a0_4 a0_5) else (impl_world_right.j0 k a1 (decide ((l0_1.length : Int) > (wrap64 (3000 - a0_2)))) l0_0 l0_1 a0_2 a0_3 a0_4 a0_5)) else (impl_world_right.j0 k a1 true l0_0 l0_1 a0_2 a0_3 a0_4 a0_5))
theorem impl_world_right.mono_l : ∀ k, (∀ y0 y1 y2 y3 y4 y5 y6 y7, LeO (impl_world_right.j0 k y0 y1 y2 y3 y4 y5 y6 y7) (impl_world_right.j0 (k + 1) y0 y1 y2 y3 y4 y5 y6 y7)) ∧ (∀ y0 y1 y2 y3 y4 y5 y6 y7 y8 y9, LeO (impl_world_right.l0 k y0 y1 y2 y3 y4 y5 y6 y7 y8 y9) (impl_world_right.l0 (k + 1) y0 y1 y2 y3 y4 y5 y6 y7 y8 y9))
 | 0 => ⟨fun _ _ _ _ _ _ _ _ r h => by simp [impl_world_right.j0] at h, fun _ _ _ _ _ _ _ _ _ _ r h => by simp [impl_world_right.l0] at h⟩
 | k + 1 => by
  obtain ⟨ih0, ih1⟩ := impl_world_right.mono_l k
  refine ⟨?_, ?_⟩
  ·intro y0 y1 y2 y3 y4 y5 y6 y7
   unfold impl_world_right.j0
   with_reducible repeat' first | exact ih0 .. | exact ih1 .. | exact LeO.refl _ | exact LeO.none _ | refine LeO.ite ?_ ?_ | refine LeO.bind ?_ (fun _ => ?_)
  ·intro y0 y1 y2 y3 y4 y5 y6 y7 y8 y9
   unfold impl_world_right.l0
   with_reducible repeat' first | exact ih0 .. | exact ih1 .. | exact LeO.refl _ | exact LeO.none _ | refine LeO.ite ?_ ?_ | refine LeO.bind ?_ (fun _ => ?_)
theorem impl_world_right.mono : ∀ a0 a1 a2 a3 a4 a5 a6 k, LeO (impl_world_right.f k a0 a1 a2 a3 a4 a5 a6) (impl_world_right.f (k + 1) a0 a1 a2 a3 a4 a5 a6) := by
 intro a0 a1 a2 a3 a4 a5 a6 k
 obtain ⟨ih0, ih1⟩ := impl_world_right.mono_l k
 unfold impl_world_right.f
 with_reducible repeat' first | exact ih0 .. | exact ih1 .. | exact LeO.refl _ | exact LeO.none _ | refine LeO.ite ?_ ?_ | refine LeO.bind ?_ (fun _ => ?_)
theorem impl_world_right.calls (k : Nat) (A0_0 : Option Addr) (c0_0 : Nat) (l0_0 : List (List Int)) (A0_1 : Option Addr) (c0_1 : Nat) (l0_1 : List Int) (a0_2 : Int) (a0_3 : Bool) (a0_4 : Int) (a0_5 : Int) (a1 : Int) (r : Bool) (w : World) (hr0_0 : Kd.C (Kd.slice 2 (Kd.int .i64)) w A0_0 l0_0.length l0_0) (hc0_0 : l0_0.length ≤ c0_0) (hr0_1 : Kd.C (Kd.int .i64) w A0_1 l0_1.length l0_1) (hc0_1 : l0_1.length ≤ c0_1) (h : impl_world_right.f k l0_0 l0_1 a0_2 a0_3 a0_4 a0_5 a1 = some r) :
  Calls Try.prog 165 #[.agg #[.slice A0_0 l0_0.length c0_0, .slice A0_1 l0_1.length c0_1, .int .i64 a0_2, .bool a0_3, .int .i64 a0_4, .int .i64 a0_5], .int .i64 a1] w fun e w' => e = .returned (.bool r) ∧ Below w.heap.size w w' := by
 have hu150 := Try.underlying150
 have HR0_0 := am hr0_0
 have HC0_0 := am hc0_0
 clear hr0_0 hc0_0
 have HR0_1 := am hr0_1
 have HC0_1 := am hc0_1
 clear hr0_1 hc0_1
 have HB := am (Below.refl w.heap.size w)
 have H : ((impl_in.f a0_2 0 3000).bind fun t434 => (if t434 = true then (if (l0_0.length : Int) > 30 then (impl_world_right.j0 k a1 true l0_0 l0_1 a0_2 a0_3 a0_4 a0_5) else (impl_world_right.j0 k a1 (decide ((l0_1.length : Int) > (wrap64 (3000 - a0_2)))) l0_0 l0_1 a0_2 a0_3 a0_4 a0_5)) else (impl_world_right.j0 k a1 true l0_0 l0_1 a0_2 a0_3 a0_4 a0_5))) = some r := h
 clear h
 have HC3 := am H
 clear H
 go_enter Try.func165, Try.ntmps165
 go_upto_region 1 with (first | ((with_reducible refine gate_dst (N := 2) rfl ?_); (try (refine gate_guard (by rfl) ?_; dsimp only)); refine box_event ?hg (N := 2) ?hd (cs := #[.slice A0_0 l0_0.length c0_0, .slice A0_1 l0_1.length c0_1, .int .i64 a0_2, .bool a0_3, .int .i64 a0_4, .int .i64 a0_5]) (t := 150) ?hr ?_; (case hd => rfl); (case hg => rfl); (case hr => exact gs); intro gb433 hg w4 hbox hb; have BK433 := am (hbox); have GW433 := gw hg HB; replace HB := bs HB hb; clear hb hbox hg))
 (try simp only [Act.put, sa, sz, ss])
 go_cut [25] (fun v25 wc => ∃ (kq : Nat) (x25_2 : Bool), v25 = .bool x25_2 ∧ Aside0 (impl_world_right.j0 kq a1 x25_2 l0_0 l0_1 a0_2 a0_3 a0_4 a0_5 = some r) ∧ Aside0 (kq ≤ k) ∧ Aside0 (wc.heap[gb433]? = some (.cells #[(.slice A0_0 l0_0.length c0_0), (.slice A0_1 l0_1.length c0_1), .int .i64 a0_2, .bool a0_3, .int .i64 a0_4, .int .i64 a0_5] 150 (0, 0))) ∧ Aside0 (Below w.heap.size w wc))
 case first =>
  have H := HC3.out
  clear HC3
  refine be H ?_; clear H; intro t434 A5 H
  refine qT H ?_ ?_ <;> clear H <;> intro c6 H <;> subst c6
  ·refine qG H ?_ ?_ <;> clear H <;> intro c7b0 H
   ·have c7 := of_decide_eq_true c7b0
    have c7b1 : decide (30 < l0_0.length) = true := decide_eq_true (by omega)
    clear c7
    (first | rw [c7b0] | (simp only [i64_w, i32_w]; rw [c7b0]) | skip)
    have H' := am H
    clear H
    have hcz8_0 := bk w4 BK433 0
    have hcz8_1 := bk w4 BK433 1
    have hcz8_2 := bk w4 BK433 2
    have hcz8_3 := bk w4 BK433 3
    have hcz8_4 := bk w4 BK433 4
    have hcz8_5 := bk w4 BK433 5
    have hfz8_0 := bf BK433 0
    have hfz8_1 := bf BK433 1
    have hfz8_2 := bf BK433 2
    have hfz8_3 := bf BK433 3
    have hfz8_4 := bf BK433 4
    have hfz8_5 := bf BK433 5
    go_wp2_with (first | ((with_reducible refine gate_callee (f := 85) rfl ?_); refine goesL_ (some 9) rfl rfl Try.func85 (by kernel_rfl) rfl #[.int .i64 a0_2, .int .i64 0, .int .i64 3000] rfl gl ?_; (with_reducible refine (impl_in.calls a0_2 0 3000 true _ A5.out).mono ?_); rintro e w' ⟨rfl, ⟨nd, rfl⟩⟩; refine ⟨_, rfl, ?_⟩))
    go_meet
    case rel => exact ⟨_, (true), dr, H', ⟨lk0⟩, ⟨bp BK433⟩, ⟨bw HB⟩⟩
   have c7 := of_decide_eq_false c7b0
   have c7b1 : decide (30 < l0_0.length) = false := decide_eq_false (by omega)
   clear c7
   (first | rw [c7b0] | (simp only [i64_w, i32_w]; rw [c7b0]) | skip)
   have H' := am H
   clear H
   have hcz9_0 := bk w4 BK433 0
   have hcz9_1 := bk w4 BK433 1
   have hcz9_2 := bk w4 BK433 2
   have hcz9_3 := bk w4 BK433 3
   have hcz9_4 := bk w4 BK433 4
   have hcz9_5 := bk w4 BK433 5
   have hfz9_0 := bf BK433 0
   have hfz9_1 := bf BK433 1
   have hfz9_2 := bf BK433 2
   have hfz9_3 := bf BK433 3
   have hfz9_4 := bf BK433 4
   have hfz9_5 := bf BK433 5
   go_wp2_with (first | ((with_reducible refine gate_callee (f := 85) rfl ?_); refine goesL_ (some 9) rfl rfl Try.func85 (by kernel_rfl) rfl #[.int .i64 a0_2, .int .i64 0, .int .i64 3000] rfl gl ?_; (with_reducible refine (impl_in.calls a0_2 0 3000 true _ A5.out).mono ?_); rintro e w' ⟨rfl, ⟨nd, rfl⟩⟩; refine ⟨_, rfl, ?_⟩))
   go_meet
   case rel => exact ⟨_, (decide ((l0_1.length : Int) > (wrap64 (3000 - a0_2)))), dr, H', ⟨lk0⟩, ⟨bp BK433⟩, ⟨bw HB⟩⟩
  have H' := am H
  clear H
  have hcz10_0 := bk w4 BK433 0
  have hcz10_1 := bk w4 BK433 1
  have hcz10_2 := bk w4 BK433 2
  have hcz10_3 := bk w4 BK433 3
  have hcz10_4 := bk w4 BK433 4
  have hcz10_5 := bk w4 BK433 5
  have hfz10_0 := bf BK433 0
  have hfz10_1 := bf BK433 1
  have hfz10_2 := bf BK433 2
  have hfz10_3 := bf BK433 3
  have hfz10_4 := bf BK433 4
  have hfz10_5 := bf BK433 5
  go_wp2_with (first | ((with_reducible refine gate_callee (f := 85) rfl ?_); refine goesL_ (some 9) rfl rfl Try.func85 (by kernel_rfl) rfl #[.int .i64 a0_2, .int .i64 0, .int .i64 3000] rfl gl ?_; (with_reducible refine (impl_in.calls a0_2 0 3000 false _ A5.out).mono ?_); rintro e w' ⟨rfl, ⟨nd, rfl⟩⟩; refine ⟨_, rfl, ?_⟩))
  go_meet
  case rel => exact ⟨_, (true), dr, H', ⟨lk0⟩, ⟨bp BK433⟩, ⟨bw HB⟩⟩
 clear HC3
 (try clear c1); (try clear p2); (try clear c6); (try clear p6); (try clear c7); (try clear c7b0); (try clear c7b1); (try clear c8); (try clear hcz10_0); (try clear hcz10_1); (try clear hcz10_2); (try clear hcz10_3); (try clear hcz10_4); (try clear hcz10_5); (try clear hcz8_0); (try clear hcz8_1); (try clear hcz8_2); (try clear hcz8_3); (try clear hcz8_4); (try clear hcz8_5); (try clear hcz9_0); (try clear hcz9_1); (try clear hcz9_2); (try clear hcz9_3); (try clear hcz9_4); (try clear hcz9_5); (try clear hfz10_0); (try clear hfz10_1); (try clear hfz10_2); (try clear hfz10_3); (try clear hfz10_4); (try clear hfz10_5); (try clear hfz8_0); (try clear hfz8_1); (try clear hfz8_2); (try clear hfz8_3); (try clear hfz8_4); (try clear hfz8_5); (try clear hfz9_0); (try clear hfz9_1); (try clear hfz9_2); (try clear hfz9_3); (try clear hfz9_4); (try clear hfz9_5)
 obtain ⟨kq, x25_2, rfl, HA, HJ2, BK433, HB⟩ := hcut
 rcases kq with _ | kj2
 ·exact absurd HA.out (by simp [impl_world_right.j0])
 have H := HA.out
 clear HA
 simp only [impl_world_right.j0] at H
 refine qT H ?_ ?_ <;> clear H <;> intro c11 H <;> subst c11
 ·obtain rfl := Option.some.inj H
  go_wp2
  go_ret
  exact ⟨er, bw HB⟩
 have H' := am H
 clear H
 have hcz12_0 := bk wc BK433 0
 have hcz12_1 := bk wc BK433 1
 have hcz12_2 := bk wc BK433 2
 have hcz12_3 := bk wc BK433 3
 have hcz12_4 := bk wc BK433 4
 have hcz12_5 := bk wc BK433 5
 have hfz12_0 := bf BK433 0
 have hfz12_1 := bf BK433 1
 have hfz12_2 := bf BK433 2
 have hfz12_3 := bf BK433 3
 have hfz12_4 := bf BK433 4
 have hfz12_5 := bf BK433 5
 go_wp2
 go_loopg [29] kj2 (fun kq v29 w' => ∃ (x29_2 : Int), v29 = .int .i64 x29_2 ∧ Aside0 (impl_world_right.l0 kq a1 l0_0 (l0_0.length : Int) x29_2 l0_0 l0_1 a0_2 a0_3 a0_4 a0_5 = some r) ∧ Aside0 (kq ≤ kj2) ∧ Aside0 (w'.heap[gb433]? = some (.cells #[(.slice A0_0 l0_0.length c0_0), (.slice A0_1 l0_1.length c0_1), .int .i64 a0_2, .bool a0_3, .int .i64 a0_4, .int .i64 a0_5] 150 (0, 0))) ∧ Aside0 (Below w.heap.size w w'))
 case atStart => exact ⟨(0), dr, H', ⟨Nat.le_refl _⟩, ⟨bp BK433⟩, ⟨bw HB⟩⟩
 clear H'
 (try clear c11); (try clear hcz12_0); (try clear hcz12_1); (try clear hcz12_2); (try clear hcz12_3); (try clear hcz12_4); (try clear hcz12_5); (try clear hfz12_0); (try clear hfz12_1); (try clear hfz12_2); (try clear hfz12_3); (try clear hfz12_4); (try clear hfz12_5)
 obtain ⟨x29_2, rfl, HA, HK2, BK433, HB⟩ := hrel
 rcases gk with _ | k2
 ·exact absurd HA.out (by simp [impl_world_right.l0])
 have H := HA.out
 clear HA
 simp only [impl_world_right.l0] at H
 refine qI H ?_ ?_ <;> clear H <;> intro c13b0 H
 ·refine iM H ?_; clear H; intro c14b0 H
  refine iM H ?_; clear H; intro c15b0 H
  refine qG H ?_ ?_ <;> clear H <;> intro c16b0 H
  ·have c16 := of_decide_eq_true c16b0
   have c16b1 : decide (50 < (rd_L7 l0_0 x29_2).length) = true := decide_eq_true (by omega)
   clear c16
   obtain rfl := Option.some.inj H
   have p435 : 0 ≤ (x29_2 : Int) := of_decide_eq_true as1
   have q435 : x29_2 < (l0_0.length : Int) := of_decide_eq_true as1
   obtain ⟨ad435, A435_0, c435_0, e435, hx435_0, hl435_0, hi435_0⟩ := at_L7 HR0_0.out x29_2 p435 q435
   cases e435
   replace hx435_0 := cl HB hx435_0
   have HR435_0 := am hi435_0
   have HC435_0 := am hl435_0
   clear hi435_0 hl435_0
   replace p435 := eq_true p435
   replace q435 := eq_true q435
   go_wp2
   go_ret
   exact ⟨er, bw HB⟩
  have c16 := of_decide_eq_false c16b0
  have c16b1 : decide (50 < (rd_L7 l0_0 x29_2).length) = false := decide_eq_false (by omega)
  clear c16
  have H' := am H
  clear H
  have p435 : 0 ≤ (x29_2 : Int) := of_decide_eq_true as1
  have q435 : x29_2 < (l0_0.length : Int) := of_decide_eq_true as1
  obtain ⟨ad435, A435_0, c435_0, e435, hx435_0, hl435_0, hi435_0⟩ := at_L7 HR0_0.out x29_2 p435 q435
  cases e435
  replace hx435_0 := cl HB hx435_0
  have HR435_0 := am hi435_0
  have HC435_0 := am hl435_0
  clear hi435_0 hl435_0
  replace p435 := eq_true p435
  replace q435 := eq_true q435
  go_wp2
  go_roundg k2
  case measure => have := HJ2.out; have := HK2.out; omega
  case rel => exact ⟨(wrap64 (x29_2 + 1)), dr, H', ⟨by have := HJ2.out; have := HK2.out; omega⟩, ⟨bp BK433⟩, ⟨bw HB⟩⟩
 refine qT H ?_ ?_ <;> clear H <;> intro c17 H <;> subst c17
 ·refine qE H ?_ ?_ <;> clear H
  ·intro c18b0 c18b1 H
   refine qE H ?_ ?_ <;> clear H
   ·intro c19b0 c19b1 H
    obtain rfl := Option.some.inj H
    have hcz20_0 := bk wr BK433 0
    have hcz20_1 := bk wr BK433 1
    have hcz20_2 := bk wr BK433 2
    have hcz20_3 := bk wr BK433 3
    have hcz20_4 := bk wr BK433 4
    have hcz20_5 := bk wr BK433 5
    have hfz20_0 := bf BK433 0
    have hfz20_1 := bf BK433 1
    have hfz20_2 := bf BK433 2
    have hfz20_3 := bf BK433 3
    have hfz20_4 := bf BK433 4
    have hfz20_5 := bf BK433 5
    go_wp2
    go_ret
    exact ⟨er, bw HB⟩
   intro c19 c19b0 c19b1 H
   refine be H ?_; clear H; intro t436 A21 H
   refine qT H ?_ ?_ <;> clear H <;> intro c22 H <;> subst c22
   ·obtain rfl := Option.some.inj H
    have hcz23_0 := bk wr BK433 0
    have hcz23_1 := bk wr BK433 1
    have hcz23_2 := bk wr BK433 2
    have hcz23_3 := bk wr BK433 3
    have hcz23_4 := bk wr BK433 4
    have hcz23_5 := bk wr BK433 5
    have hfz23_0 := bf BK433 0
    have hfz23_1 := bf BK433 1
    have hfz23_2 := bf BK433 2
    have hfz23_3 := bf BK433 3
    have hfz23_4 := bf BK433 4
    have hfz23_5 := bf BK433 5
    go_wp2_with (first | (go_at_call 85; (with_reducible refine (impl_in.calls a0_5 11 15 true _ A21.out).mono ?_); rintro e w' ⟨rfl, ⟨nd, rfl⟩⟩))
    go_ret
    exact ⟨er, bw HB⟩
   obtain rfl := Option.some.inj H
   have hcz24_0 := bk wr BK433 0
   have hcz24_1 := bk wr BK433 1
   have hcz24_2 := bk wr BK433 2
   have hcz24_3 := bk wr BK433 3
   have hcz24_4 := bk wr BK433 4
   have hcz24_5 := bk wr BK433 5
   have hfz24_0 := bf BK433 0
   have hfz24_1 := bf BK433 1
   have hfz24_2 := bf BK433 2
   have hfz24_3 := bf BK433 3
   have hfz24_4 := bf BK433 4
   have hfz24_5 := bf BK433 5
   go_wp2_with (first | (go_at_call 85; (with_reducible refine (impl_in.calls a0_5 11 15 false _ A21.out).mono ?_); rintro e w' ⟨rfl, ⟨nd, rfl⟩⟩))
   go_ret
   exact ⟨er, bw HB⟩
  intro c18 c18b0 c18b1 H
  obtain rfl := Option.some.inj H
  have hcz25_0 := bk wr BK433 0
  have hcz25_1 := bk wr BK433 1
  have hcz25_2 := bk wr BK433 2
  have hcz25_3 := bk wr BK433 3
  have hcz25_4 := bk wr BK433 4
  have hcz25_5 := bk wr BK433 5
  have hfz25_0 := bf BK433 0
  have hfz25_1 := bf BK433 1
  have hfz25_2 := bf BK433 2
  have hfz25_3 := bf BK433 3
  have hfz25_4 := bf BK433 4
  have hfz25_5 := bf BK433 5
  go_wp2
  go_ret
  exact ⟨er, bw HB⟩
 refine qE H ?_ ?_ <;> clear H
 ·intro c26b0 c26b1 H
  refine qE H ?_ ?_ <;> clear H
  ·intro c27b0 c27b1 H
   refine be H ?_; clear H; intro t437 A28 H
   obtain rfl := Option.some.inj H
   have hcz29_0 := bk wr BK433 0
   have hcz29_1 := bk wr BK433 1
   have hcz29_2 := bk wr BK433 2
   have hcz29_3 := bk wr BK433 3
   have hcz29_4 := bk wr BK433 4
   have hcz29_5 := bk wr BK433 5
   have hfz29_0 := bf BK433 0
   have hfz29_1 := bf BK433 1
   have hfz29_2 := bf BK433 2
   have hfz29_3 := bf BK433 3
   have hfz29_4 := bf BK433 4
   have hfz29_5 := bf BK433 5
   go_wp2_with (first | (go_at_call 85; (with_reducible refine (impl_in.calls a1 1 10 t437 _ A28.out).mono ?_); rintro e w' ⟨rfl, ⟨nd, rfl⟩⟩))
   go_ret
   exact ⟨er, bw HB⟩
  intro c27 c27b0 c27b1 H
  obtain rfl := Option.some.inj H
  have hcz30_0 := bk wr BK433 0
  have hcz30_1 := bk wr BK433 1
  have hcz30_2 := bk wr BK433 2
  have hcz30_3 := bk wr BK433 3
  have hcz30_4 := bk wr BK433 4
  have hcz30_5 := bk wr BK433 5
  have hfz30_0 := bf BK433 0
  have hfz30_1 := bf BK433 1
  have hfz30_2 := bf BK433 2
  have hfz30_3 := bf BK433 3
  have hfz30_4 := bf BK433 4
  have hfz30_5 := bf BK433 5
  go_wp2
  go_ret
  exact ⟨er, bw HB⟩
 intro c26 c26b0 c26b1 H
 obtain rfl := Option.some.inj H
 have hcz31_0 := bk wr BK433 0
 have hcz31_1 := bk wr BK433 1
 have hcz31_2 := bk wr BK433 2
 have hcz31_3 := bk wr BK433 3
 have hcz31_4 := bk wr BK433 4
 have hcz31_5 := bk wr BK433 5
 have hfz31_0 := bf BK433 0
 have hfz31_1 := bf BK433 1
 have hfz31_2 := bf BK433 2
 have hfz31_3 := bf BK433 3
 have hfz31_4 := bf BK433 4
 have hfz31_5 := bf BK433 5
 go_wp2
 go_ret
 exact ⟨er, bw HB⟩

def impl_prog_reached.f (l0_0 : List (S100)) (l0_1 : List (List Int)) (a1 : Int) (a2 : Int) : Option (Bool) := (impl_hasFunc.f l0_0 a1).bind fun t438 => (if t438 = true then (if a2 ≥ 0 then (if 0 ≤ a1 then (if a1 < (l0_1.length : Int) then (if a2 < ((rd_L7 l0_1 a1).length : Int) then (if 0 ≤ a2 then (some (decide ((rd (rd_L7 l0_1 a1) a2) ≥ 0))) else (none)) else (some false)) else (none)) else (none)) else (some false)) else (some false))
theorem impl_prog_reached.calls (g0_ : Nat) (A0_0 : Option Addr) (c0_0 : Nat) (l0_0 : List (S100)) (A0_1 : Option Addr) (c0_1 : Nat) (l0_1 : List (List Int)) (a1 : Int) (a2 : Int) (r : Bool) (w : World) (hp0 : w.heap[g0_]? = some (.cells #[.slice A0_0 l0_0.length c0_0, .slice A0_1 l0_1.length c0_1] 92 (0, 0))) (hr0_0 : Kd.C k100 w A0_0 l0_0.length l0_0) (hc0_0 : l0_0.length ≤ c0_0) (hr0_1 : Kd.C (Kd.slice 2 (Kd.int .i64)) w A0_1 l0_1.length l0_1) (hc0_1 : l0_1.length ≤ c0_1) (h : impl_prog_reached.f l0_0 l0_1 a1 a2 = some r) :
  Calls Try.prog 132 #[.pointer (some ⟨g0_, 0, none⟩), .int .i64 a1, .int .i64 a2] w fun e w' => e = .returned (.bool r) ∧ Below w.heap.size w w' := by
 have hu30 := Try.underlying30
 have HP0_ := am hp0
 clear hp0
 have HR0_0 := am hr0_0
 have HC0_0 := am hc0_0
 clear hr0_0 hc0_0
 have HR0_1 := am hr0_1
 have HC0_1 := am hc0_1
 clear hr0_1 hc0_1
 have HB := am (Below.refl w.heap.size w)
 have H : ((impl_hasFunc.f l0_0 a1).bind fun t438 => (if t438 = true then (if a2 ≥ 0 then (if 0 ≤ a1 then (if a1 < (l0_1.length : Int) then (if a2 < ((rd_L7 l0_1 a1).length : Int) then (if 0 ≤ a2 then (some (decide ((rd (rd_L7 l0_1 a1) a2) ≥ 0))) else (none)) else (some false)) else (none)) else (none)) else (some false)) else (some false))) = some r := h
 clear h
 refine be H ?_; clear H; intro t438 A4 H
 refine qT H ?_ ?_ <;> clear H <;> intro c5 H <;> subst c5
 ·refine qL H ?_ ?_ <;> clear H <;> intro c6b0 H
  ·refine iM H ?_; clear H; intro c7b0 H
   refine iM H ?_; clear H; intro c8b0 H
   refine qI H ?_ ?_ <;> clear H <;> intro c9b0 H
   ·refine iM H ?_; clear H; intro c10b0 H
    obtain rfl := Option.some.inj H
    have hcz11 := bK w HP0_
    have hfz11 := bF HP0_
    go_enter Try.func132, Try.ntmps132
    go_wp2_with (first | ((with_reducible refine gk 121 rfl ?_); refine gB 121 (some 12) Try.func121 #[.agg #[.slice A0_0 l0_0.length c0_0], .int .i64 a1] (impl_hasFunc.calls _ _ l0_0 a1 true _ (by repeat (first | exact HR0_0.out | (with_reducible refine Kd.C_alloc ?_ _) | (with_reducible refine Kd.C_drewN ?_ _) | (with_reducible refine Kd.C_drew ?_))) HC0_0.out A4.out) ?_; intro w12 hb; replace HP0_ := bb HP0_ hb; replace HB := bs HB hb; clear hb; have hcz13 := bK w12 HP0_; have hfz13 := bF HP0_; have p439 : 0 ≤ (a1 : Int) := of_decide_eq_true as1; have q439 : a1 < (l0_1.length : Int) := of_decide_eq_true as1; obtain ⟨ad439, A439_0, c439_0, e439, hx439_0, hl439_0, hi439_0⟩ := at_L7 HR0_1.out a1 p439 q439; cases e439; replace hx439_0 := cl HB hx439_0; have HR439_0 := am hi439_0; have HC439_0 := am hl439_0; clear hi439_0 hl439_0; replace p439 := eq_true p439; replace q439 := eq_true q439; have p440 : 0 ≤ (a1 : Int) := of_decide_eq_true as1; have q440 : a1 < (l0_1.length : Int) := of_decide_eq_true as1; obtain ⟨ad440, A440_0, c440_0, e440, hx440_0, hl440_0, hi440_0⟩ := at_L7 HR0_1.out a1 p440 q440; obtain rfl : ad439 = ad440 := (by injection e440); replace hx440_0 := cl HB hx440_0; have HR440_0 := am hi440_0; have HC440_0 := am hl440_0; clear hi440_0 hl440_0; replace p440 := eq_true p440; replace q440 := eq_true q440; have ea_ := Option.some.inj (hx439_0.symm.trans hx440_0); injection ea_ with ea_ en_ ec_; subst ea_; subst ec_; clear en_; have p441 : 0 ≤ (a2 : Int) := of_decide_eq_true as1; have q441 : a2 < ((rd_L7 l0_1 a1).length : Int) := of_decide_eq_true as1; obtain ⟨ad441, e441, hx441_0⟩ := Kd.at_int HR440_0.out a2 p441 q441; cases e441; replace hx441_0 := cl HB hx441_0; replace p441 := eq_true p441; replace q441 := eq_true q441))
    go_ret
    exact ⟨er, bw HB⟩
   obtain rfl := Option.some.inj H
   have hcz14 := bK w HP0_
   have hfz14 := bF HP0_
   go_enter Try.func132, Try.ntmps132
   go_wp2_with (first | ((with_reducible refine gk 121 rfl ?_); refine gB 121 (some 12) Try.func121 #[.agg #[.slice A0_0 l0_0.length c0_0], .int .i64 a1] (impl_hasFunc.calls _ _ l0_0 a1 true _ (by repeat (first | exact HR0_0.out | (with_reducible refine Kd.C_alloc ?_ _) | (with_reducible refine Kd.C_drewN ?_ _) | (with_reducible refine Kd.C_drew ?_))) HC0_0.out A4.out) ?_; intro w15 hb; replace HP0_ := bb HP0_ hb; replace HB := bs HB hb; clear hb; have hcz16 := bK w15 HP0_; have hfz16 := bF HP0_; have p439 : 0 ≤ (a1 : Int) := of_decide_eq_true as1; have q439 : a1 < (l0_1.length : Int) := of_decide_eq_true as1; obtain ⟨ad439, A439_0, c439_0, e439, hx439_0, hl439_0, hi439_0⟩ := at_L7 HR0_1.out a1 p439 q439; cases e439; replace hx439_0 := cl HB hx439_0; have HR439_0 := am hi439_0; have HC439_0 := am hl439_0; clear hi439_0 hl439_0; replace p439 := eq_true p439; replace q439 := eq_true q439))
   go_ret
   exact ⟨er, bw HB⟩
  obtain rfl := Option.some.inj H
  have hcz17 := bK w HP0_
  have hfz17 := bF HP0_
  go_enter Try.func132, Try.ntmps132
  go_wp2_with (first | ((with_reducible refine gk 121 rfl ?_); refine gB 121 (some 12) Try.func121 #[.agg #[.slice A0_0 l0_0.length c0_0], .int .i64 a1] (impl_hasFunc.calls _ _ l0_0 a1 true _ (by repeat (first | exact HR0_0.out | (with_reducible refine Kd.C_alloc ?_ _) | (with_reducible refine Kd.C_drewN ?_ _) | (with_reducible refine Kd.C_drew ?_))) HC0_0.out A4.out) ?_; intro w18 hb; replace HP0_ := bb HP0_ hb; replace HB := bs HB hb; clear hb))
  go_ret
  exact ⟨er, bw HB⟩
 obtain rfl := Option.some.inj H
 have hcz19 := bK w HP0_
 have hfz19 := bF HP0_
 go_enter Try.func132, Try.ntmps132
 go_wp2_with (first | ((with_reducible refine gk 121 rfl ?_); refine gB 121 (some 12) Try.func121 #[.agg #[.slice A0_0 l0_0.length c0_0], .int .i64 a1] (impl_hasFunc.calls _ _ l0_0 a1 false _ (by repeat (first | exact HR0_0.out | (with_reducible refine Kd.C_alloc ?_ _) | (with_reducible refine Kd.C_drewN ?_ _) | (with_reducible refine Kd.C_drew ?_))) HC0_0.out A4.out) ?_; intro w20 hb; replace HP0_ := bb HP0_ hb; replace HB := bs HB hb; clear hb))
 go_ret
 exact ⟨er, bw HB⟩

def impl_prog_at.f (l0_0 : List (S100)) (l0_1 : List (List Int)) (a1 : Int) (a2 : Int) : Option (Int × Int) := if 0 ≤ a1 then (if a1 < (l0_0.length : Int) then (if 0 ≤ a2 then (if a2 < (((rd_T100 l0_0 a1).f2).length : Int) then (some ((rd_T102 ((rd_T100 l0_0 a1).f2) a2).f0, (rd_T102 ((rd_T100 l0_0 a1).f2) a2).f1)) else (none)) else (none)) else (none)) else (none)
theorem impl_prog_at.calls (g0_ : Nat) (A0_0 : Option Addr) (c0_0 : Nat) (l0_0 : List (S100)) (A0_1 : Option Addr) (c0_1 : Nat) (l0_1 : List (List Int)) (a1 : Int) (a2 : Int) (r1 : Int) (r2 : Int) (w : World) (hp0 : w.heap[g0_]? = some (.cells #[.slice A0_0 l0_0.length c0_0, .slice A0_1 l0_1.length c0_1] 92 (0, 0))) (hr0_0 : Kd.C k100 w A0_0 l0_0.length l0_0) (hc0_0 : l0_0.length ≤ c0_0) (hr0_1 : Kd.C (Kd.slice 2 (Kd.int .i64)) w A0_1 l0_1.length l0_1) (hc0_1 : l0_1.length ≤ c0_1) (h : impl_prog_at.f l0_0 l0_1 a1 a2 = some (r1, r2)) :
  Calls Try.prog 141 #[.pointer (some ⟨g0_, 0, none⟩), .int .i64 a1, .int .i64 a2] w fun e w' => e = .returned (.agg #[.int .i64 r1, .int .i64 r2]) ∧ Below w.heap.size w w' := by
 have hu102 := Try.underlying102
 have HP0_ := am hp0
 clear hp0
 have HR0_0 := am hr0_0
 have HC0_0 := am hc0_0
 clear hr0_0 hc0_0
 have HR0_1 := am hr0_1
 have HC0_1 := am hc0_1
 clear hr0_1 hc0_1
 have HB := am (Below.refl w.heap.size w)
 have H : (if 0 ≤ a1 then (if a1 < (l0_0.length : Int) then (if 0 ≤ a2 then (if a2 < (((rd_T100 l0_0 a1).f2).length : Int) then (some ((rd_T102 ((rd_T100 l0_0 a1).f2) a2).f0, (rd_T102 ((rd_T100 l0_0 a1).f2) a2).f1)) else (none)) else (none)) else (none)) else (none)) = some (r1, r2) := h
 clear h
 refine iM H ?_; clear H; intro c4b0 H
 refine iM H ?_; clear H; intro c5b0 H
 refine iM H ?_; clear H; intro c6b0 H
 refine iM H ?_; clear H; intro c7b0 H
 simp only [Option.some.injEq, Prod.mk.injEq] at H
 obtain ⟨rfl, rfl⟩ := H
 go_enter Try.func141, Try.ntmps141
 go_wp2_with (first | ((with_reducible refine gd 6 rfl ?_); refine bX 6 #[.int .i64 0, .int .i64 0] 102 HB ?_; clear HB; intro gb442 w8 hg hb BK442 GW442 HB; obtain ⟨NB0_442, NB442_0, HP0_⟩ := b3 hg HP0_ hb; clear hb hg; have hnb9 := NB0_442.out; have hnc9 := NB442_0.out; have hcz10 := bK w8 HP0_; have hfz10 := bF HP0_; have p443 : 0 ≤ (a1 : Int) := of_decide_eq_true as1; have q443 : a1 < (l0_0.length : Int) := of_decide_eq_true as1; obtain ⟨ad443, A443_2, c443_2, e443, hx443_0, hx443_1, hx443_2, hl443_2, hi443_2⟩ := at_T100 HR0_0.out a1 p443 q443; cases e443; replace hx443_0 := cl HB hx443_0; replace hx443_1 := cl HB hx443_1; replace hx443_2 := cl HB hx443_2; have HR443_2 := am hi443_2; have HC443_2 := am hl443_2; clear hi443_2 hl443_2; replace p443 := eq_true p443; replace q443 := eq_true q443; have p444 : 0 ≤ (a2 : Int) := of_decide_eq_true as1; have q444 : a2 < (((rd_T100 l0_0 a1).f2).length : Int) := of_decide_eq_true as1; obtain ⟨ad444, e444, hx444_0, hx444_1⟩ := at_T102 HR443_2.out a2 p444 q444; cases e444; replace hx444_0 := cl HB hx444_0; replace hx444_1 := cl HB hx444_1; replace p444 := eq_true p444; replace q444 := eq_true q444; have hcz11 := bK w8 BK442; have hfz11 := bF BK442))
 refine bodyPost_ret (results_cell_row rfl _ _ gb442 102 #[.int .i64 ((rd_T102 ((rd_T100 l0_0 a1).f2) a2).f0), .int .i64 ((rd_T102 ((rd_T100 l0_0 a1).f2) a2).f1)] (0, 0) _ rfl (bt BK442) Try.underlying102 rfl (by kernel_rfl)) rfl ?_
 exact ⟨er, bw HB⟩

def impl_prog_stands.f (l0_0 : List (S100)) (l0_1 : List (List Int)) (a1 : Int) (a2 : Int) (a3 : Int) : Option (Bool) := (impl_prog_reached.f l0_0 l0_1 a1 a2).bind fun t445 => (if t445 = true then (if a3 < 0 then (some true) else (if a2 > 0 then ((impl_prog_reached.f l0_0 l0_1 a1 (wrap64 (a2 - 1))).bind fun t446 => (if t446 = true then ((impl_prog_at.f l0_0 l0_1 a1 (wrap64 (a2 - 1))).bind fun bt447 => (some (bt447.1 == 32 && (bt447.2 == a3)))) else (some false))) else (some false))) else (some false))
theorem impl_prog_stands.calls (g0_ : Nat) (A0_0 : Option Addr) (c0_0 : Nat) (l0_0 : List (S100)) (A0_1 : Option Addr) (c0_1 : Nat) (l0_1 : List (List Int)) (a1 : Int) (a2 : Int) (a3 : Int) (r : Bool) (w : World) (hp0 : w.heap[g0_]? = some (.cells #[.slice A0_0 l0_0.length c0_0, .slice A0_1 l0_1.length c0_1] 92 (0, 0))) (hr0_0 : Kd.C k100 w A0_0 l0_0.length l0_0) (hc0_0 : l0_0.length ≤ c0_0) (hr0_1 : Kd.C (Kd.slice 2 (Kd.int .i64)) w A0_1 l0_1.length l0_1) (hc0_1 : l0_1.length ≤ c0_1) (h : impl_prog_stands.f l0_0 l0_1 a1 a2 a3 = some r) :
  Calls Try.prog 187 #[.pointer (some ⟨g0_, 0, none⟩), .int .i64 a1, .int .i64 a2, .int .i64 a3] w fun e w' => e = .returned (.bool r) ∧ Below w.heap.size w w' := by
 have hu102 := Try.underlying102
 have HP0_ := am hp0
 clear hp0
 have HR0_0 := am hr0_0
 have HC0_0 := am hc0_0
 clear hr0_0 hc0_0
 have HR0_1 := am hr0_1
 have HC0_1 := am hc0_1
 clear hr0_1 hc0_1
 have HB := am (Below.refl w.heap.size w)
 have H : ((impl_prog_reached.f l0_0 l0_1 a1 a2).bind fun t445 => (if t445 = true then (if a3 < 0 then (some true) else (if a2 > 0 then ((impl_prog_reached.f l0_0 l0_1 a1 (wrap64 (a2 - 1))).bind fun t446 => (if t446 = true then ((impl_prog_at.f l0_0 l0_1 a1 (wrap64 (a2 - 1))).bind fun bt447 => (some (bt447.1 == 32 && (bt447.2 == a3)))) else (some false))) else (some false))) else (some false))) = some r := h
 clear h
 refine be H ?_; clear H; intro t445 A5 H
 have HC6 := am H
 clear H
 go_enter Try.func187, Try.ntmps187
 go_upto_if 13 with (first | ((with_reducible refine gk 132 rfl ?_); refine gB 132 (some 12) Try.func132 #[.pointer (some ⟨g0_, 0, none⟩), .int .i64 a1, .int .i64 a2] (impl_prog_reached.calls g0_ A0_0 c0_0 l0_0 A0_1 c0_1 l0_1 a1 a2 t445 _ (bp HP0_) (by repeat (first | exact HR0_0.out | (with_reducible refine Kd.C_alloc ?_ _) | (with_reducible refine Kd.C_drewN ?_ _) | (with_reducible refine Kd.C_drew ?_))) HC0_0.out (by repeat (first | exact HR0_1.out | (with_reducible refine Kd.C_alloc ?_ _) | (with_reducible refine Kd.C_drewN ?_ _) | (with_reducible refine Kd.C_drew ?_))) HC0_1.out A5.out) ?_; intro w7 hb; replace HP0_ := bb HP0_ hb; replace HB := bs HB hb; clear hb))
 (try simp only [Act.put, sa, sz, ss])
 have H := HC6.out
 clear HC6
 refine qT H ?_ ?_ <;> clear H <;> intro c8 H <;> subst c8
 ·refine qI H ?_ ?_ <;> clear H <;> intro c9b0 H
  ·(first | rw [c9b0] | (simp only [i64_w, i32_w]; rw [c9b0]) | skip)
   obtain rfl := Option.some.inj H
   go_wp2
   go_ret
   exact ⟨er, bw HB⟩
  (first | rw [c9b0] | (simp only [i64_w, i32_w]; rw [c9b0]) | skip)
  refine qG H ?_ ?_ <;> clear H <;> intro c10b0 H
  ·refine be H ?_; clear H; intro t446 A11 H
   refine qT H ?_ ?_ <;> clear H <;> intro c12 H <;> subst c12
   ·replace H := Option.bind_eq_some_iff.mp H
    obtain ⟨⟨t447, t448⟩, A130, H⟩ := H
    replace H : (some (t447 == 32 && (t448 == a3))) = some r := H
    have A13 := am A130
    clear A130
    obtain rfl := Option.some.inj H
    go_wp2_with (first | (go_at_call 132; refine (impl_prog_reached.calls g0_ A0_0 c0_0 l0_0 A0_1 c0_1 l0_1 a1 (wrap64 (a2 - 1)) true _ (bp HP0_) (cc (Kd.C_below HR0_0.out HB.out)) HC0_0.out (cc (Kd.C_below HR0_1.out HB.out)) HC0_1.out A11.out).mono ?_; rintro e w14 ⟨rfl, hb⟩; replace HP0_ := bb HP0_ hb; replace HB := bs HB hb; clear hb) | (go_at_call 141; refine (impl_prog_at.calls g0_ A0_0 c0_0 l0_0 A0_1 c0_1 l0_1 a1 (wrap64 (a2 - 1)) t447 t448 _ (bp HP0_) (cc (Kd.C_below HR0_0.out HB.out)) HC0_0.out (cc (Kd.C_below HR0_1.out HB.out)) HC0_1.out A13.out).mono ?_; rintro e w15 ⟨rfl, hb⟩; replace HP0_ := bb HP0_ hb; replace HB := bs HB hb; clear hb))
    go_ret
    exact ⟨er, bw HB⟩
   obtain rfl := Option.some.inj H
   go_wp2_with (first | (go_at_call 132; refine (impl_prog_reached.calls g0_ A0_0 c0_0 l0_0 A0_1 c0_1 l0_1 a1 (wrap64 (a2 - 1)) false _ (bp HP0_) (cc (Kd.C_below HR0_0.out HB.out)) HC0_0.out (cc (Kd.C_below HR0_1.out HB.out)) HC0_1.out A11.out).mono ?_; rintro e w16 ⟨rfl, hb⟩; replace HP0_ := bb HP0_ hb; replace HB := bs HB hb; clear hb))
   go_ret
   exact ⟨er, bw HB⟩
  obtain rfl := Option.some.inj H
  go_wp2
  go_ret
  exact ⟨er, bw HB⟩
 obtain rfl := Option.some.inj H
 go_wp2
 go_ret
 exact ⟨er, bw HB⟩

def impl_prog_depth.f (l0_0 : List (S100)) (l0_1 : List (List Int)) (a1 : Int) (a2 : Int) (a3 : Int) : Option (Int) := if a3 < 0 then (if 0 ≤ a1 then (if a1 < (l0_1.length : Int) then (if 0 ≤ a2 then (if a2 < ((rd_L7 l0_1 a1).length : Int) then (some (rd (rd_L7 l0_1 a1) a2)) else (none)) else (none)) else (none)) else (none)) else (if 0 ≤ a1 then (if a1 < (l0_1.length : Int) then (if 0 ≤ a2 then (if a2 < ((rd_L7 l0_1 a1).length : Int) then (some (wrap64 ((rd (rd_L7 l0_1 a1) a2) - 1))) else (none)) else (none)) else (none)) else (none))
theorem impl_prog_depth.calls (g0_ : Nat) (A0_0 : Option Addr) (c0_0 : Nat) (l0_0 : List (S100)) (A0_1 : Option Addr) (c0_1 : Nat) (l0_1 : List (List Int)) (a1 : Int) (a2 : Int) (a3 : Int) (r : Int) (w : World) (hp0 : w.heap[g0_]? = some (.cells #[.slice A0_0 l0_0.length c0_0, .slice A0_1 l0_1.length c0_1] 92 (0, 0))) (hr0_0 : Kd.C k100 w A0_0 l0_0.length l0_0) (hc0_0 : l0_0.length ≤ c0_0) (hr0_1 : Kd.C (Kd.slice 2 (Kd.int .i64)) w A0_1 l0_1.length l0_1) (hc0_1 : l0_1.length ≤ c0_1) (h : impl_prog_depth.f l0_0 l0_1 a1 a2 a3 = some r) :
  Calls Try.prog 188 #[.pointer (some ⟨g0_, 0, none⟩), .int .i64 a1, .int .i64 a2, .int .i64 a3] w fun e w' => e = .returned (.int .i64 r) ∧ Below w.heap.size w w' := by
 have HP0_ := am hp0
 clear hp0
 have HR0_0 := am hr0_0
 have HC0_0 := am hc0_0
 clear hr0_0 hc0_0
 have HR0_1 := am hr0_1
 have HC0_1 := am hc0_1
 clear hr0_1 hc0_1
 have HB := am (Below.refl w.heap.size w)
 have H : (if a3 < 0 then (if 0 ≤ a1 then (if a1 < (l0_1.length : Int) then (if 0 ≤ a2 then (if a2 < ((rd_L7 l0_1 a1).length : Int) then (some (rd (rd_L7 l0_1 a1) a2)) else (none)) else (none)) else (none)) else (none)) else (if 0 ≤ a1 then (if a1 < (l0_1.length : Int) then (if 0 ≤ a2 then (if a2 < ((rd_L7 l0_1 a1).length : Int) then (some (wrap64 ((rd (rd_L7 l0_1 a1) a2) - 1))) else (none)) else (none)) else (none)) else (none))) = some r := h
 clear h
 refine qI H ?_ ?_ <;> clear H <;> intro c5b0 H
 ·refine iM H ?_; clear H; intro c6b0 H
  refine iM H ?_; clear H; intro c7b0 H
  refine iM H ?_; clear H; intro c8b0 H
  refine iM H ?_; clear H; intro c9b0 H
  obtain rfl := Option.some.inj H
  have hcz10 := bK w HP0_
  have hfz10 := bF HP0_
  have p449 : 0 ≤ (a1 : Int) := of_decide_eq_true as1
  have q449 : a1 < (l0_1.length : Int) := of_decide_eq_true as1
  obtain ⟨ad449, A449_0, c449_0, e449, hx449_0, hl449_0, hi449_0⟩ := at_L7 HR0_1.out a1 p449 q449
  cases e449
  have HR449_0 := am hi449_0
  have HC449_0 := am hl449_0
  clear hi449_0 hl449_0
  replace p449 := eq_true p449
  replace q449 := eq_true q449
  have p450 : 0 ≤ (a2 : Int) := of_decide_eq_true as1
  have q450 : a2 < ((rd_L7 l0_1 a1).length : Int) := of_decide_eq_true as1
  obtain ⟨ad450, e450, hx450_0⟩ := Kd.at_int HR449_0.out a2 p450 q450
  cases e450
  replace p450 := eq_true p450
  replace q450 := eq_true q450
  go_enter Try.func188, Try.ntmps188
  go_wp2
  go_ret
  exact ⟨er, bw HB⟩
 refine iM H ?_; clear H; intro c11b0 H
 refine iM H ?_; clear H; intro c12b0 H
 refine iM H ?_; clear H; intro c13b0 H
 refine iM H ?_; clear H; intro c14b0 H
 obtain rfl := Option.some.inj H
 have hcz15 := bK w HP0_
 have hfz15 := bF HP0_
 have p451 : 0 ≤ (a1 : Int) := of_decide_eq_true as1
 have q451 : a1 < (l0_1.length : Int) := of_decide_eq_true as1
 obtain ⟨ad451, A451_0, c451_0, e451, hx451_0, hl451_0, hi451_0⟩ := at_L7 HR0_1.out a1 p451 q451
 cases e451
 have HR451_0 := am hi451_0
 have HC451_0 := am hl451_0
 clear hi451_0 hl451_0
 replace p451 := eq_true p451
 replace q451 := eq_true q451
 have p452 : 0 ≤ (a2 : Int) := of_decide_eq_true as1
 have q452 : a2 < ((rd_L7 l0_1 a1).length : Int) := of_decide_eq_true as1
 obtain ⟨ad452, e452, hx452_0⟩ := Kd.at_int HR451_0.out a2 p452 q452
 cases e452
 replace p452 := eq_true p452
 replace q452 := eq_true q452
 go_enter Try.func188, Try.ntmps188
 go_wp2
 go_ret
 exact ⟨er, bw HB⟩

end Go.Proofs.Ytbmjmaahcaoajaa.QFnExactStateRight
