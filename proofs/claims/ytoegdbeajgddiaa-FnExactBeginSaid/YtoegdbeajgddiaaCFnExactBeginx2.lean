import Derived.Test.YtoegdbeajgddiaaCFnExactBeginx0
import Derived.Test.YtoegdbeajgddiaaCFnExactBeginx1
namespace Go.Proofs.Ytoegdbeajgddiaa.QFnExactBegin
open Go.RowKit Go.Proofs.YtoegdbeajgddiaaW
open PrintWords PrintLast PrintMore PrintShort PrintIsh
attribute [local go_sem] max2_int min2_int max_two min_two max_three min_three max_four min_four   -- for this text's walks alone
set_option linter.unusedVariables false
set_option maxHeartbeats 8000000
set_option maxRecDepth 100000
set_option linter.unusedSimpArgs false

mutual
def spec_InsRight.j0 : Nat → Int → Bool → List (S55) → Int → Int → Option (Bool)
 | 0, _, _, _, _, _ => none
 | k + 1, x1, x15, x116000, x117000, x117001 => if x15 = true then (some false) else (if x117000 = 1 then (some true) else (if x117000 = 2 then (spec_InsRight.j1 k x1 x117000 (x117000 == 2) x116000 x117000 x117001) else (spec_InsRight.j1 k x1 x117000 (x117000 == 3) x116000 x117000 x117001)))
def spec_InsRight.j1 : Nat → Int → Int → Bool → List (S55) → Int → Int → Option (Bool)
 | 0, _, _, _, _, _, _ => none
 | k + 1, x1, x17, x20, x116000, x117000, x117001 => if x20 = true then (if x117001 ≥ 0 then (if 0 ≤ x1 then (if x1 < (x116000.length : Int) then (some (decide (x117001 < ((rd_T55 x116000 x1).f1)))) else (none)) else (none)) else (some false)) else (if x17 = 30 then (spec_InsRight.j2 k x1 x17 (x17 == 30) x116000 x117000 x117001) else (spec_InsRight.j2 k x1 x17 (x17 == 31) x116000 x117000 x117001))
def spec_InsRight.j2 : Nat → Int → Int → Bool → List (S55) → Int → Int → Option (Bool)
 | 0, _, _, _, _, _, _ => none
 | k + 1, x1, x17, x37, x116000, x117000, x117001 => if x37 = true then (if x117001 ≥ 0 then (if 0 ≤ x1 then (if x1 < (x116000.length : Int) then (some (decide (x117001 < (((rd_T55 x116000 x1).f2).length : Int)))) else (none)) else (none)) else (some false)) else (if x17 = 32 then (if x117001 ≥ 0 then (some (decide (x117001 < (x116000.length : Int)))) else (some false)) else ((spec_OpName.f k x117000).bind fun t119 => (if t119.toList = ([] : List UInt8) then (some false) else (some (x117001 == 0)))))
end
def spec_InsRight.f (k : Nat) (l0_0 : List (S55)) (a1 : Int) (a2_0 : Int) (a2_1 : Int) : Option (Bool) := if a1 < 0 then (spec_InsRight.j0 k a1 true l0_0 a2_0 a2_1) else (spec_InsRight.j0 k a1 (decide (a1 ≥ (l0_0.length : Int))) l0_0 a2_0 a2_1)
theorem spec_InsRight.mono_l : ∀ k, (∀ y0 y1 y2 y3 y4, LeO (spec_InsRight.j0 k y0 y1 y2 y3 y4) (spec_InsRight.j0 (k + 1) y0 y1 y2 y3 y4)) ∧ (∀ y0 y1 y2 y3 y4 y5, LeO (spec_InsRight.j1 k y0 y1 y2 y3 y4 y5) (spec_InsRight.j1 (k + 1) y0 y1 y2 y3 y4 y5)) ∧ (∀ y0 y1 y2 y3 y4 y5, LeO (spec_InsRight.j2 k y0 y1 y2 y3 y4 y5) (spec_InsRight.j2 (k + 1) y0 y1 y2 y3 y4 y5))
 | 0 => ⟨fun _ _ _ _ _ r h => by simp [spec_InsRight.j0] at h, fun _ _ _ _ _ _ r h => by simp [spec_InsRight.j1] at h, fun _ _ _ _ _ _ r h => by simp [spec_InsRight.j2] at h⟩
 | k + 1 => by
  obtain ⟨ih0, ih1, ih2⟩ := spec_InsRight.mono_l k
  refine ⟨?_, ?_, ?_⟩
  ·intro y0 y1 y2 y3 y4
   unfold spec_InsRight.j0
   with_reducible repeat' first | exact ih0 .. | exact ih1 .. | exact ih2 .. | exact spec_OpName.mono .. | exact LeO.refl _ | exact LeO.none _ | refine LeO.ite ?_ ?_ | refine LeO.bind ?_ (fun _ => ?_)
  ·intro y0 y1 y2 y3 y4 y5
   unfold spec_InsRight.j1
   with_reducible repeat' first | exact ih0 .. | exact ih1 .. | exact ih2 .. | exact spec_OpName.mono .. | exact LeO.refl _ | exact LeO.none _ | refine LeO.ite ?_ ?_ | refine LeO.bind ?_ (fun _ => ?_)
  ·intro y0 y1 y2 y3 y4 y5
   unfold spec_InsRight.j2
   with_reducible repeat' first | exact ih0 .. | exact ih1 .. | exact ih2 .. | exact spec_OpName.mono .. | exact LeO.refl _ | exact LeO.none _ | refine LeO.ite ?_ ?_ | refine LeO.bind ?_ (fun _ => ?_)
theorem spec_InsRight.mono : ∀ a0 a1 a2 a3 k, LeO (spec_InsRight.f k a0 a1 a2 a3) (spec_InsRight.f (k + 1) a0 a1 a2 a3) := by
 intro a0 a1 a2 a3 k
 obtain ⟨ih0, ih1, ih2⟩ := spec_InsRight.mono_l k
 unfold spec_InsRight.f
 with_reducible repeat' first | exact ih0 .. | exact ih1 .. | exact ih2 .. | exact spec_OpName.mono .. | exact LeO.refl _ | exact LeO.none _ | refine LeO.ite ?_ ?_ | refine LeO.bind ?_ (fun _ => ?_)
theorem spec_InsRight.calls (k : Nat) (A0_0 : Option Addr) (c0_0 : Nat) (l0_0 : List (S55)) (a1 : Int) (a2_0 : Int) (a2_1 : Int) (r : Bool) (w : World) (hr0_0 : Kd.C k55 w A0_0 l0_0.length l0_0) (hc0_0 : l0_0.length ≤ c0_0) (h : spec_InsRight.f k l0_0 a1 a2_0 a2_1 = some r) :
  Calls Try.prog 55 #[.agg #[.slice A0_0 l0_0.length c0_0], .int .i64 a1, .agg #[.int .i64 a2_0, .int .i64 a2_1]] w fun e w' => e = .returned (.bool r) ∧ Below w.heap.size w w' := by
 have hu34 := Try.underlying34
 have hu85 := Try.underlying85
 have HR0_0 := am hr0_0
 have HC0_0 := am hc0_0
 clear hr0_0 hc0_0
 have HB := am (Below.refl w.heap.size w)
 have H : (if a1 < 0 then (spec_InsRight.j0 k a1 true l0_0 a2_0 a2_1) else (spec_InsRight.j0 k a1 (decide (a1 ≥ (l0_0.length : Int))) l0_0 a2_0 a2_1)) = some r := h
 clear h
 have HC4 := am H
 clear H
 go_enter Try.func55, Try.ntmps55
 go_upto_region 1 with (first | ((with_reducible refine gate_dst (N := 3) rfl ?_); (try (refine gate_guard (by rfl) ?_; dsimp only)); refine box_event ?hg (N := 3) ?hd (cs := #[.slice A0_0 l0_0.length c0_0]) (t := 34) ?hr ?_; (case hd => rfl); (case hg => rfl); (case hr => exact gs); intro gb115 hg w5 hbox hb; have BK115 := am (hbox); have GW115 := gw hg HB; replace HB := bs HB hb; clear hb hbox hg) | ((with_reducible refine gate_dst (N := 5) rfl ?_); (try (refine gate_guard (by rfl) ?_; dsimp only)); refine box_event ?hg (N := 5) ?hd (cs := #[.int .i64 a2_0, .int .i64 a2_1]) (t := 85) ?hr ?_; (case hd => rfl); (case hg => rfl); (case hr => exact gs); intro gb116 hg w6 hbox hb; have BK116 := am (hbox); have GW116 := gw hg HB; replace HB := bs HB hb; obtain ⟨NB115_116, NB116_115, BK115⟩ := b3 hg BK115 hb; clear hb hbox hg))
 repeat (go_quiet (first | ((with_reducible refine gate_dst (N := 3) rfl ?_); (try (refine gate_guard (by rfl) ?_; dsimp only)); refine box_event ?hg (N := 3) ?hd (cs := #[.slice A0_0 l0_0.length c0_0]) (t := 34) ?hr ?_; (case hd => rfl); (case hg => rfl); (case hr => exact gs); intro gb115 hg w5 hbox hb; have BK115 := am (hbox); have GW115 := gw hg HB; replace HB := bs HB hb; clear hb hbox hg) | ((with_reducible refine gate_dst (N := 5) rfl ?_); (try (refine gate_guard (by rfl) ?_; dsimp only)); refine box_event ?hg (N := 5) ?hd (cs := #[.int .i64 a2_0, .int .i64 a2_1]) (t := 85) ?hr ?_; (case hd => rfl); (case hg => rfl); (case hr => exact gs); intro gb116 hg w6 hbox hb; have BK116 := am (hbox); have GW116 := gw hg HB; replace HB := bs HB hb; obtain ⟨NB115_116, NB116_115, BK115⟩ := b3 hg BK115 hb; clear hb hbox hg)); go_upto_region 1 with (first | ((with_reducible refine gate_dst (N := 3) rfl ?_); (try (refine gate_guard (by rfl) ?_; dsimp only)); refine box_event ?hg (N := 3) ?hd (cs := #[.slice A0_0 l0_0.length c0_0]) (t := 34) ?hr ?_; (case hd => rfl); (case hg => rfl); (case hr => exact gs); intro gb115 hg w5 hbox hb; have BK115 := am (hbox); have GW115 := gw hg HB; replace HB := bs HB hb; clear hb hbox hg) | ((with_reducible refine gate_dst (N := 5) rfl ?_); (try (refine gate_guard (by rfl) ?_; dsimp only)); refine box_event ?hg (N := 5) ?hd (cs := #[.int .i64 a2_0, .int .i64 a2_1]) (t := 85) ?hr ?_; (case hd => rfl); (case hg => rfl); (case hr => exact gs); intro gb116 hg w6 hbox hb; have BK116 := am (hbox); have GW116 := gw hg HB; replace HB := bs HB hb; obtain ⟨NB115_116, NB116_115, BK115⟩ := b3 hg BK115 hb; clear hb hbox hg)))
 (try simp only [Act.put, sa, sz, ss])
 go_cut [15] (fun v15 wc => ∃ (kq : Nat) (x15_3 : Bool), v15 = .bool x15_3 ∧ Aside0 (spec_InsRight.j0 kq a1 x15_3 l0_0 a2_0 a2_1 = some r) ∧ Aside0 (kq ≤ k) ∧ Aside0 (wc.heap[gb115]? = some (.cells #[(.slice A0_0 l0_0.length c0_0)] 34 (0, 0))) ∧ Aside0 (wc.heap[gb116]? = some (.cells #[.int .i64 a2_0, .int .i64 a2_1] 85 (0, 0))) ∧ Aside0 (Below w.heap.size w wc))
 case first =>
  have H := HC4.out
  clear HC4
  refine qI H ?_ ?_ <;> clear H <;> intro c7b0 H
  ·(first | rw [c7b0] | (simp only [i64_w, i32_w]; rw [c7b0]) | skip)
   have H' := am H
   clear H
   go_wp2
   repeat (go_quiet (fail); try go_wp2)
   go_meet
   case rel => exact ⟨_, (true), dr, H', ⟨lk0⟩, ⟨bp BK115⟩, ⟨bp BK116⟩, ⟨bw HB⟩⟩
  (first | rw [c7b0] | (simp only [i64_w, i32_w]; rw [c7b0]) | skip)
  have H' := am H
  clear H
  have hnb8 := NB115_116.out
  have hnc8 := NB116_115.out
  have hcz9 := bK w6 BK115
  have hfz9 := bF BK115
  go_wp2
  repeat (go_quiet (fail); try go_wp2)
  go_meet
  case rel => exact ⟨_, (decide (a1 ≥ (l0_0.length : Int))), dr, H', ⟨lk0⟩, ⟨bp BK115⟩, ⟨bp BK116⟩, ⟨bw HB⟩⟩
 clear HC4
 (try clear p2); (try clear c5); (try clear c7); (try clear c7b0); (try clear c8); (try clear hcz9); (try clear hfz9)
 obtain ⟨kq, x15_3, rfl, HA, HJ3, BK115, BK116, HB⟩ := hcut
 rcases kq with _ | kj3
 ·exact absurd HA.out (by simp [spec_InsRight.j0])
 have H := HA.out
 clear HA
 simp only [spec_InsRight.j0] at H
 refine qT H ?_ ?_ <;> clear H <;> intro c10 H <;> subst c10
 ·obtain rfl := Option.some.inj H
  go_wp2
  repeat (go_quiet (fail); try go_wp2)
  go_ret
  exact ⟨er, bw HB⟩
 refine qE H ?_ ?_ <;> clear H
 ·intro c11b0 c11b1 H
  obtain rfl := Option.some.inj H
  have hnb12 := NB116_115.out
  have hnc12 := NB115_116.out
  have hcz13 := bK wc BK116
  have hfz13 := bF BK116
  go_wp2
  repeat (go_quiet (fail); try go_wp2)
  go_ret
  exact ⟨er, bw HB⟩
 intro c11 c11b0 c11b1 H
 have HC14 := am H
 clear H
 have hnb15 := NB116_115.out
 have hnc15 := NB115_116.out
 have hcz16 := bK wc BK116
 have hfz16 := bF BK116
 go_upto_if 20 with (fail)
 repeat (go_quiet (fail); go_upto_if 20 with (fail))
 go_cut [20] (fun v20 wc => ∃ (kq : Nat) (x20_13 : Bool), v20 = .bool x20_13 ∧ Aside0 (spec_InsRight.j1 kq a1 a2_0 x20_13 l0_0 a2_0 a2_1 = some r) ∧ Aside0 (kq ≤ kj3) ∧ Aside0 (wc.heap[gb115]? = some (.cells #[(.slice A0_0 l0_0.length c0_0)] 34 (0, 0))) ∧ Aside0 (wc.heap[gb116]? = some (.cells #[.int .i64 a2_0, .int .i64 a2_1] 85 (0, 0))) ∧ Aside0 (Below w.heap.size w wc))
 case first =>
  have H := HC14.out
  clear HC14
  refine qE H ?_ ?_ <;> clear H
  ·intro c17b0 c17b1 H
   (first | rw [c17b0] | (simp only [i64_w, i32_w]; rw [c17b0]) | skip)
   have H' := am H
   clear H
   go_wp2
   repeat (go_quiet (fail); try go_wp2)
   go_meet
   case rel => exact ⟨_, ((a2_0 == 2)), dr, H', ⟨lk1 HJ3⟩, ⟨bp BK115⟩, ⟨bp BK116⟩, ⟨bw HB⟩⟩
  intro c17 c17b0 c17b1 H
  (first | rw [c17b0] | (simp only [i64_w, i32_w]; rw [c17b0]) | skip)
  have H' := am H
  clear H
  go_wp2
  repeat (go_quiet (fail); try go_wp2)
  go_meet
  case rel => exact ⟨_, ((a2_0 == 3)), dr, H', ⟨lk1 HJ3⟩, ⟨bp BK115⟩, ⟨bp BK116⟩, ⟨bw HB⟩⟩
 clear HC14
 (try clear c1); (try clear c10); (try clear c11); (try clear c11b0); (try clear c11b1); (try clear c12); (try clear c15); (try clear c17); (try clear c17b0); (try clear c17b1); (try clear hcz13); (try clear hcz16); (try clear hfz13); (try clear hfz16)
 obtain ⟨kq, x20_13, rfl, HA, HJ13, BK115, BK116, HB⟩ := hcut
 rcases kq with _ | kj13
 ·exact absurd HA.out (by simp [spec_InsRight.j1])
 have H := HA.out
 clear HA
 simp only [spec_InsRight.j1] at H
 refine qT H ?_ ?_ <;> clear H <;> intro c18 H <;> subst c18
 ·refine qL H ?_ ?_ <;> clear H <;> intro c19b0 H
  ·refine iM H ?_; clear H; intro c20b0 H
   refine iM H ?_; clear H; intro c21b0 H
   obtain rfl := Option.some.inj H
   have hnb22 := NB116_115.out
   have hnc22 := NB115_116.out
   have hcz23 := bK wc BK116
   have hfz23 := bF BK116
   have hcz24 := bK wc BK115
   have hfz24 := bF BK115
   have p117 : 0 ≤ (a1 : Int) := of_decide_eq_true as1
   have q117 : a1 < (l0_0.length : Int) := of_decide_eq_true as1
   obtain ⟨ad117, A117_2, c117_2, e117, hx117_0, hx117_1, hx117_2, hl117_2, hi117_2⟩ := at_T55 HR0_0.out a1 p117 q117
   cases e117
   replace hx117_0 := cl HB hx117_0
   replace hx117_1 := cl HB hx117_1
   replace hx117_2 := cl HB hx117_2
   have HR117_2 := am hi117_2
   have HC117_2 := am hl117_2
   clear hi117_2 hl117_2
   replace p117 := eq_true p117
   replace q117 := eq_true q117
   go_wp2
   repeat (go_quiet (fail); try go_wp2)
   go_ret
   exact ⟨er, bw HB⟩
  obtain rfl := Option.some.inj H
  have hnb25 := NB116_115.out
  have hnc25 := NB115_116.out
  have hcz26 := bK wc BK116
  have hfz26 := bF BK116
  go_wp2
  repeat (go_quiet (fail); try go_wp2)
  go_ret
  exact ⟨er, bw HB⟩
 have HC27 := am H
 clear H
 go_upto_if 37 with (fail)
 repeat (go_quiet (fail); go_upto_if 37 with (fail))
 go_cut [37] (fun v37 wc => ∃ (kq : Nat) (x37_26 : Bool), v37 = .bool x37_26 ∧ Aside0 (spec_InsRight.j2 kq a1 a2_0 x37_26 l0_0 a2_0 a2_1 = some r) ∧ Aside0 (kq ≤ kj13) ∧ Aside0 (wc.heap[gb115]? = some (.cells #[(.slice A0_0 l0_0.length c0_0)] 34 (0, 0))) ∧ Aside0 (wc.heap[gb116]? = some (.cells #[.int .i64 a2_0, .int .i64 a2_1] 85 (0, 0))) ∧ Aside0 (Below w.heap.size w wc))
 case first =>
  have H := HC27.out
  clear HC27
  refine qE H ?_ ?_ <;> clear H
  ·intro c28b0 c28b1 H
   (first | rw [c28b0] | (simp only [i64_w, i32_w]; rw [c28b0]) | skip)
   have H' := am H
   clear H
   go_wp2
   repeat (go_quiet (fail); try go_wp2)
   go_meet
   case rel => exact ⟨_, ((a2_0 == 30)), dr, H', ⟨lk2 HJ3 HJ13⟩, ⟨bp BK115⟩, ⟨bp BK116⟩, ⟨bw HB⟩⟩
  intro c28 c28b0 c28b1 H
  (first | rw [c28b0] | (simp only [i64_w, i32_w]; rw [c28b0]) | skip)
  have H' := am H
  clear H
  go_wp2
  repeat (go_quiet (fail); try go_wp2)
  go_meet
  case rel => exact ⟨_, ((a2_0 == 31)), dr, H', ⟨lk2 HJ3 HJ13⟩, ⟨bp BK115⟩, ⟨bp BK116⟩, ⟨bw HB⟩⟩
 clear HC27
 (try clear p1); (try clear q1); (try clear hx1); (try clear c2); (try clear p11); (try clear q11); (try clear hx11); (try clear c18); (try clear c19); (try clear c19b0); (try clear c20); (try clear c20b0); (try clear c21); (try clear c21b0); (try clear c22); (try clear c25); (try clear c28); (try clear c28b0); (try clear c28b1); (try clear hcz23); (try clear hcz24); (try clear hcz26); (try clear hfz23); (try clear hfz24); (try clear hfz26); (try clear hx117_0); (try clear hx117_1); (try clear hx117_2); (try clear p117); (try clear q117)
 obtain ⟨kq, x37_26, rfl, HA, HJ26, BK115, BK116, HB⟩ := hcut
 rcases kq with _ | kj26
 ·exact absurd HA.out (by simp [spec_InsRight.j2])
 have H := HA.out
 clear HA
 simp only [spec_InsRight.j2] at H
 refine qT H ?_ ?_ <;> clear H <;> intro c29 H <;> subst c29
 ·refine qL H ?_ ?_ <;> clear H <;> intro c30b0 H
  ·refine iM H ?_; clear H; intro c31b0 H
   refine iM H ?_; clear H; intro c32b0 H
   obtain rfl := Option.some.inj H
   have hnb33 := NB116_115.out
   have hnc33 := NB115_116.out
   have hcz34 := bK wc BK116
   have hfz34 := bF BK116
   have hcz35 := bK wc BK115
   have hfz35 := bF BK115
   have p118 : 0 ≤ (a1 : Int) := of_decide_eq_true as1
   have q118 : a1 < (l0_0.length : Int) := of_decide_eq_true as1
   obtain ⟨ad118, A118_2, c118_2, e118, hx118_0, hx118_1, hx118_2, hl118_2, hi118_2⟩ := at_T55 HR0_0.out a1 p118 q118
   cases e118
   replace hx118_0 := cl HB hx118_0
   replace hx118_1 := cl HB hx118_1
   replace hx118_2 := cl HB hx118_2
   have HR118_2 := am hi118_2
   have HC118_2 := am hl118_2
   clear hi118_2 hl118_2
   replace p118 := eq_true p118
   replace q118 := eq_true q118
   go_wp2
   repeat (go_quiet (fail); try go_wp2)
   go_ret
   exact ⟨er, bw HB⟩
  obtain rfl := Option.some.inj H
  have hnb36 := NB116_115.out
  have hnc36 := NB115_116.out
  have hcz37 := bK wc BK116
  have hfz37 := bF BK116
  go_wp2
  repeat (go_quiet (fail); try go_wp2)
  go_ret
  exact ⟨er, bw HB⟩
 refine qE H ?_ ?_ <;> clear H
 ·intro c38b0 c38b1 H
  refine qL H ?_ ?_ <;> clear H <;> intro c39b0 H
  ·obtain rfl := Option.some.inj H
   have hnb40 := NB116_115.out
   have hnc40 := NB115_116.out
   have hcz41 := bK wc BK116
   have hfz41 := bF BK116
   have hcz42 := bK wc BK115
   have hfz42 := bF BK115
   go_wp2
   repeat (go_quiet (fail); try go_wp2)
   go_ret
   exact ⟨er, bw HB⟩
  obtain rfl := Option.some.inj H
  have hnb43 := NB116_115.out
  have hnc43 := NB115_116.out
  have hcz44 := bK wc BK116
  have hfz44 := bF BK116
  go_wp2
  repeat (go_quiet (fail); try go_wp2)
  go_ret
  exact ⟨er, bw HB⟩
 intro c38 c38b0 c38b1 H
 refine be H ?_; clear H; intro t119 A45 H
 by_cases c46 : t119.toList = ([] : List UInt8)
 ·rw [if_pos c46] at H
  have c46b0 : (t119.toList == ([] : List UInt8)) = true := beq_iff_eq.mpr c46
  have c46b1 : (t119.toList != ([] : List UInt8)) = false := bne_eq_false_iff_eq.mpr c46
  clear c46
  obtain rfl := Option.some.inj H
  have hnb47 := NB116_115.out
  have hnc47 := NB115_116.out
  have hcz48 := bK wc BK116
  have hfz48 := bF BK116
  go_wp2_with (first | (go_at_call 61; (with_reducible refine (spec_OpName.calls kj26 a2_0 t119 _ A45.out).mono ?_); rintro e w49 ⟨rfl, hb⟩; replace BK115 := bb BK115 hb; replace BK116 := bb BK116 hb; replace HB := bs HB hb; clear hb))
  repeat (go_quiet (first | (go_at_call 61; (with_reducible refine (spec_OpName.calls kj26 a2_0 t119 _ A45.out).mono ?_); rintro e w49 ⟨rfl, hb⟩; replace BK115 := bb BK115 hb; replace BK116 := bb BK116 hb; replace HB := bs HB hb; clear hb)); try go_wp2_with (first | (go_at_call 61; (with_reducible refine (spec_OpName.calls kj26 a2_0 t119 _ A45.out).mono ?_); rintro e w49 ⟨rfl, hb⟩; replace BK115 := bb BK115 hb; replace BK116 := bb BK116 hb; replace HB := bs HB hb; clear hb)))
  go_ret
  exact ⟨er, bw HB⟩
 rw [if_neg c46] at H
 have c46b0 : (t119.toList == ([] : List UInt8)) = false := beq_eq_false_iff_ne.mpr c46
 have c46b1 : (t119.toList != ([] : List UInt8)) = true := bne_iff_ne.mpr c46
 obtain rfl := Option.some.inj H
 have hnb50 := NB116_115.out
 have hnc50 := NB115_116.out
 have hcz51 := bK wc BK116
 have hfz51 := bF BK116
 go_wp2_with (first | (go_at_call 61; (with_reducible refine (spec_OpName.calls kj26 a2_0 t119 _ A45.out).mono ?_); rintro e w52 ⟨rfl, hb⟩; replace BK115 := bb BK115 hb; replace BK116 := bb BK116 hb; replace HB := bs HB hb; clear hb; have hcz53 := bK w52 BK116; have hfz53 := bF BK116))
 repeat (go_quiet (first | (go_at_call 61; (with_reducible refine (spec_OpName.calls kj26 a2_0 t119 _ A45.out).mono ?_); rintro e w52 ⟨rfl, hb⟩; replace BK115 := bb BK115 hb; replace BK116 := bb BK116 hb; replace HB := bs HB hb; clear hb; have hcz53 := bK w52 BK116; have hfz53 := bF BK116)); try go_wp2_with (first | (go_at_call 61; (with_reducible refine (spec_OpName.calls kj26 a2_0 t119 _ A45.out).mono ?_); rintro e w52 ⟨rfl, hb⟩; replace BK115 := bb BK115 hb; replace BK116 := bb BK116 hb; replace HB := bs HB hb; clear hb; have hcz53 := bK w52 BK116; have hfz53 := bF BK116)))
 go_ret
 exact ⟨er, bw HB⟩

def spec_l04Least.l0 : Nat → List Bool → Int → Option (Int)
 | 0, _, _ => none
 | k + 1, x0, x3 => if x3 < (x0.length : Int) then (if 0 ≤ x3 then (if rdOf false x0 x3 = true then (some x3) else (spec_l04Least.l0 k x0 (wrap64 (x3 + 1)))) else (none)) else (some (-1))
def spec_l04Least.f (k : Nat) (l0 : List Bool) : Option (Int) := spec_l04Least.l0 k l0 0
theorem spec_l04Least.mono_l : ∀ k, (∀ y0 y1, LeO (spec_l04Least.l0 k y0 y1) (spec_l04Least.l0 (k + 1) y0 y1))
 | 0 => fun _ _ r h => by simp [spec_l04Least.l0] at h
 | k + 1 => by
  have ih0 := spec_l04Least.mono_l k
  ·intro y0 y1
   unfold spec_l04Least.l0
   with_reducible repeat' first | exact ih0 .. | exact LeO.refl _ | exact LeO.none _ | refine LeO.ite ?_ ?_ | refine LeO.bind ?_ (fun _ => ?_)
theorem spec_l04Least.mono : ∀ a0 k, LeO (spec_l04Least.f k a0) (spec_l04Least.f (k + 1) a0) := by
 intro a0 k
 have ih0 := spec_l04Least.mono_l k
 unfold spec_l04Least.f
 with_reducible repeat' first | exact ih0 .. | exact LeO.refl _ | exact LeO.none _ | refine LeO.ite ?_ ?_ | refine LeO.bind ?_ (fun _ => ?_)
theorem spec_l04Least.calls (k : Nat) (A0 : Option Addr) (c0 : Nat) (l0 : List Bool) (r : Int) (w : World) (hr0 : Kd.C Kd.bool w A0 l0.length l0) (hc0 : l0.length ≤ c0) (h : spec_l04Least.f k l0 = some r) :
  Calls Try.prog 62 #[.slice A0 l0.length c0] w fun e w' => e = .returned (.int .i64 r) ∧ Drawn0 w w' := by
 have HR0 := am hr0
 have HC0 := am hc0
 clear hr0 hc0
 have H : (spec_l04Least.l0 k l0 0) = some r := h
 clear h
 have H' := am H
 clear H
 go_enter Try.func62, Try.ntmps62
 go_wp2
 go_loopg [3] k (fun kq v3 w' => ∃ (x3_1 : Int), v3 = .int .i64 x3_1 ∧ Aside0 (spec_l04Least.l0 kq l0 x3_1 = some r) ∧ Aside0 (kq ≤ k) ∧ Drawn0 w w')
 case atStart => exact ⟨(0), dr, H', ⟨Nat.le_refl _⟩, by repeat (first | exact Drawn0.refl _ | apply Drawn0.step)⟩
 clear H'
 obtain ⟨x3_1, rfl, HA, HK1, ⟨m1, rfl⟩⟩ := hrel
 rcases gk with _ | k1
 ·exact absurd HA.out (by simp [spec_l04Least.l0])
 have H := HA.out
 clear HA
 simp only [spec_l04Least.l0] at H
 refine qI H ?_ ?_ <;> clear H <;> intro c2b0 H
 ·refine iM H ?_; clear H; intro c3b0 H
  obtain ⟨bq4, hbq4⟩ : ∃ b_ : Bool, b_ = (rdOf false l0 x3_1) := ⟨_, rfl⟩
  replace H : (if bq4 = true then (some x3_1) else (spec_l04Least.l0 k1 l0 (wrap64 (x3_1 + 1)))) = some r := by rw [← hbq4] at H; exact H
  have Nbq4 := am hbq4
  clear hbq4
  refine qT H ?_ ?_ <;> clear H <;> intro c5 H <;> subst c5
  ·obtain rfl := Option.some.inj H
   have p120 : 0 ≤ (x3_1 : Int) := of_decide_eq_true as1
   have q120 : x3_1 < (l0.length : Int) := of_decide_eq_true as1
   obtain ⟨ad120, e120, hx120_0⟩ := Kd.at_bool HR0.out x3_1 p120 q120
   (try rw [← Nbq4.out] at hx120_0)
   cases e120
   replace p120 := eq_true p120
   replace q120 := eq_true q120
   go_wp2
   go_ret
   exact ⟨by first | rfl | (simp; done) | (simp [*]; done), by repeat (first | exact Drawn0.refl _ | apply Drawn0.step)⟩
  have H' := am H
  clear H
  have p120 : 0 ≤ (x3_1 : Int) := of_decide_eq_true as1
  have q120 : x3_1 < (l0.length : Int) := of_decide_eq_true as1
  obtain ⟨ad120, e120, hx120_0⟩ := Kd.at_bool HR0.out x3_1 p120 q120
  (try rw [← Nbq4.out] at hx120_0)
  cases e120
  replace p120 := eq_true p120
  replace q120 := eq_true q120
  go_wp2
  go_roundg k1
  case measure => have := HK1.out; omega
  case rel => exact ⟨(wrap64 (x3_1 + 1)), dr, H', ⟨by have := HK1.out; omega⟩, by repeat (first | exact Drawn0.refl _ | apply Drawn0.step)⟩
 obtain rfl := Option.some.inj H
 go_wp2
 go_ret
 exact ⟨by first | rfl | (simp; done) | (simp [*]; done), by repeat (first | exact Drawn0.refl _ | apply Drawn0.step)⟩

def spec_l03Binary.f (a0 : Int) : Option (Bool) := if a0 ≥ 10 then (some (decide (a0 ≤ 23))) else (some false)
theorem spec_l03Binary.calls (a0 : Int) (r : Bool) (w : World) (h : spec_l03Binary.f a0 = some r) :
  Calls Try.prog 65 #[.int .i64 a0] w fun e w' => e = .returned (.bool r) ∧ Drawn0 w w' := by
 have H : (if a0 ≥ 10 then (some (decide (a0 ≤ 23))) else (some false)) = some r := h
 clear h
 refine qL H ?_ ?_ <;> clear H <;> intro c2b0 H
 ·obtain rfl := Option.some.inj H
  go_enter Try.func65, Try.ntmps65
  go_wp2
  go_ret
  exact ⟨by first | rfl | (simp; done) | (simp [*]; done), by repeat (first | exact Drawn0.refl _ | apply Drawn0.step)⟩
 obtain rfl := Option.some.inj H
 go_enter Try.func65, Try.ntmps65
 go_wp2
 go_ret
 exact ⟨by first | rfl | (simp; done) | (simp [*]; done), by repeat (first | exact Drawn0.refl _ | apply Drawn0.step)⟩

def spec_l03Unary.f (a0 : Int) : Option (Bool) := if a0 ≥ 24 then (some (decide (a0 ≤ 29))) else (some false)
theorem spec_l03Unary.calls (a0 : Int) (r : Bool) (w : World) (h : spec_l03Unary.f a0 = some r) :
  Calls Try.prog 66 #[.int .i64 a0] w fun e w' => e = .returned (.bool r) ∧ Drawn0 w w' := by
 have H : (if a0 ≥ 24 then (some (decide (a0 ≤ 29))) else (some false)) = some r := h
 clear h
 refine qL H ?_ ?_ <;> clear H <;> intro c2b0 H
 ·obtain rfl := Option.some.inj H
  go_enter Try.func66, Try.ntmps66
  go_wp2
  go_ret
  exact ⟨by first | rfl | (simp; done) | (simp [*]; done), by repeat (first | exact Drawn0.refl _ | apply Drawn0.step)⟩
 obtain rfl := Option.some.inj H
 go_enter Try.func66, Try.ntmps66
 go_wp2
 go_ret
 exact ⟨by first | rfl | (simp; done) | (simp [*]; done), by repeat (first | exact Drawn0.refl _ | apply Drawn0.step)⟩

end Go.Proofs.Ytoegdbeajgddiaa.QFnExactBegin
