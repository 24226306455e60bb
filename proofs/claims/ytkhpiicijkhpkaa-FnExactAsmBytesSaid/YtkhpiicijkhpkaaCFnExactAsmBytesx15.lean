import Derived.Test.YtkhpiicijkhpkaaCFnExactAsmBytesx0
import Derived.Test.YtkhpiicijkhpkaaCFnExactAsmBytesx14
namespace Go.Proofs.Ytkhpiicijkhpkaa.QFnExactAsmBytes
open Go.RowKit Go.Proofs.YtkhpiicijkhpkaaW
open PrintWords PrintLast PrintMore PrintShort PrintIsh
attribute [local go_sem] max2_int min2_int max_two min_two max_three min_three max_four min_four
set_option linter.unusedVariables false
set_option maxHeartbeats 8000000
set_option maxRecDepth 100000
set_option linter.unusedSimpArgs false

mutual
def impl_InsRight.j0 : Nat → Int → Int → Bool → List (S121) → Int → Int → Option (Bool)
 | 0, _, _, _, _, _, _ => none
 | k + 1, x1, x12, x15, x451000, x452000, x452001 => if x15 = true then (if x452001 ≥ 0 then (if 0 ≤ x1 then (if x1 < (x451000.length : Int) then (some (decide (x452001 < ((rd_T121 x451000 x1).f1)))) else (none)) else (none)) else (some false)) else (if x12 = 30 then (impl_InsRight.j1 k x1 x12 (x12 == 30) x451000 x452000 x452001) else (impl_InsRight.j1 k x1 x12 (x12 == 31) x451000 x452000 x452001))
def impl_InsRight.j1 : Nat → Int → Int → Bool → List (S121) → Int → Int → Option (Bool)
 | 0, _, _, _, _, _, _ => none
 | k + 1, x1, x12, x32, x451000, x452000, x452001 => if x32 = true then (if x452001 ≥ 0 then (if 0 ≤ x1 then (if x1 < (x451000.length : Int) then (some (decide (x452001 < (((rd_T121 x451000 x1).f2).length : Int)))) else (none)) else (none)) else (some false)) else (if x12 = 32 then ((impl_hasFunc.f x451000 x452001).bind fun t455 => (some t455)) else ((impl_OpName.f x452000).bind fun t456 => (if t456.toList = ([] : List UInt8) then (some false) else (some (x452001 == 0)))))
end
def impl_InsRight.f (k : Nat) (l0_0 : List (S121)) (a1 : Int) (a2_0 : Int) (a2_1 : Int) : Option (Bool) := (impl_hasFunc.f l0_0 a1).bind fun t452 => (if t452 = true then (if a2_0 = 1 then (some true) else (if a2_0 = 2 then (impl_InsRight.j0 k a1 a2_0 (a2_0 == 2) l0_0 a2_0 a2_1) else (impl_InsRight.j0 k a1 a2_0 (a2_0 == 3) l0_0 a2_0 a2_1))) else (some false))
theorem impl_InsRight.mono_l : ∀ k, (∀ y0 y1 y2 y3 y4 y5, LeO (impl_InsRight.j0 k y0 y1 y2 y3 y4 y5) (impl_InsRight.j0 (k + 1) y0 y1 y2 y3 y4 y5)) ∧ (∀ y0 y1 y2 y3 y4 y5, LeO (impl_InsRight.j1 k y0 y1 y2 y3 y4 y5) (impl_InsRight.j1 (k + 1) y0 y1 y2 y3 y4 y5))
 | 0 => ⟨fun _ _ _ _ _ _ r h => by simp [impl_InsRight.j0] at h, fun _ _ _ _ _ _ r h => by simp [impl_InsRight.j1] at h⟩
 | k + 1 => by
  obtain ⟨ih0, ih1⟩ := impl_InsRight.mono_l k
  refine ⟨?_, ?_⟩
  ·intro y0 y1 y2 y3 y4 y5
   unfold impl_InsRight.j0
   with_reducible repeat' first | exact ih0 .. | exact ih1 .. | exact LeO.refl _ | exact LeO.none _ | refine LeO.ite ?_ ?_ | refine LeO.bind ?_ (fun _ => ?_)
  ·intro y0 y1 y2 y3 y4 y5
   unfold impl_InsRight.j1
   with_reducible repeat' first | exact ih0 .. | exact ih1 .. | exact LeO.refl _ | exact LeO.none _ | refine LeO.ite ?_ ?_ | refine LeO.bind ?_ (fun _ => ?_)
theorem impl_InsRight.mono : ∀ a0 a1 a2 a3 k, LeO (impl_InsRight.f k a0 a1 a2 a3) (impl_InsRight.f (k + 1) a0 a1 a2 a3) := by
 intro a0 a1 a2 a3 k
 obtain ⟨ih0, ih1⟩ := impl_InsRight.mono_l k
 unfold impl_InsRight.f
 with_reducible repeat' first | exact ih0 .. | exact ih1 .. | exact LeO.refl _ | exact LeO.none _ | refine LeO.ite ?_ ?_ | refine LeO.bind ?_ (fun _ => ?_)
theorem impl_InsRight.calls (k : Nat) (A0_0 : Option Addr) (c0_0 : Nat) (l0_0 : List (S121)) (a1 : Int) (a2_0 : Int) (a2_1 : Int) (r : Bool) (w : World) (hr0_0 : Kd.C k121 w A0_0 l0_0.length l0_0) (hc0_0 : l0_0.length ≤ c0_0) (h : impl_InsRight.f k l0_0 a1 a2_0 a2_1 = some r) :
  Calls Try.prog 137 #[.agg #[.slice A0_0 l0_0.length c0_0], .int .i64 a1, .agg #[.int .i64 a2_0, .int .i64 a2_1]] w fun e w' => e = .returned (.bool r) ∧ Below w.heap.size w w' := by
 have hu32 := Try.underlying32
 have hu153 := Try.underlying153
 have HR0_0 := am hr0_0
 have HC0_0 := am hc0_0
 clear hr0_0 hc0_0
 have HB := am (Below.refl w.heap.size w)
 have H : ((impl_hasFunc.f l0_0 a1).bind fun t452 => (if t452 = true then (if a2_0 = 1 then (some true) else (if a2_0 = 2 then (impl_InsRight.j0 k a1 a2_0 (a2_0 == 2) l0_0 a2_0 a2_1) else (impl_InsRight.j0 k a1 a2_0 (a2_0 == 3) l0_0 a2_0 a2_1))) else (some false))) = some r := h
 clear h
 refine be H ?_; clear H; intro t452 A4 H
 have HC5 := am H
 clear H
 go_enter Try.func137, Try.ntmps137
 go_upto_if 10 with (first | ((with_reducible refine gate_dst (N := 3) rfl ?_); (try (refine gate_guard (by rfl) ?_; dsimp only)); refine box_event ?hg (N := 3) ?hd (cs := #[.slice A0_0 l0_0.length c0_0]) (t := 32) ?hr ?_; (case hd => rfl); (case hg => rfl); (case hr => exact gs); intro gb450 hg w6 hbox hb; have BK450 := am (hbox); have GW450 := gw hg HB; replace HB := bs HB hb; clear hb hbox hg) | ((with_reducible refine gate_dst (N := 5) rfl ?_); (try (refine gate_guard (by rfl) ?_; dsimp only)); refine box_event ?hg (N := 5) ?hd (cs := #[.int .i64 a2_0, .int .i64 a2_1]) (t := 153) ?hr ?_; (case hd => rfl); (case hg => rfl); (case hr => exact gs); intro gb451 hg w7 hbox hb; have BK451 := am (hbox); have GW451 := gw hg HB; replace HB := bs HB hb; obtain ⟨NB450_451, NB451_450, BK450⟩ := b3 hg BK450 hb; clear hb hbox hg; have hnb8 := NB450_451.out; have hnc8 := NB451_450.out; have hcz9 := bK w7 BK450; have hfz9 := bF BK450) | (go_at_call 95; refine (impl_hasFunc.calls _ _ l0_0 a1 t452 _ (cc (Kd.C_below HR0_0.out HB.out)) HC0_0.out A4.out).mono ?_; rintro e w10 ⟨rfl, hb⟩; replace BK450 := bb BK450 hb; replace BK451 := bb BK451 hb; replace HB := bs HB hb; clear hb))
 repeat (go_quiet (first | ((with_reducible refine gate_dst (N := 3) rfl ?_); (try (refine gate_guard (by rfl) ?_; dsimp only)); refine box_event ?hg (N := 3) ?hd (cs := #[.slice A0_0 l0_0.length c0_0]) (t := 32) ?hr ?_; (case hd => rfl); (case hg => rfl); (case hr => exact gs); intro gb450 hg w6 hbox hb; have BK450 := am (hbox); have GW450 := gw hg HB; replace HB := bs HB hb; clear hb hbox hg) | ((with_reducible refine gate_dst (N := 5) rfl ?_); (try (refine gate_guard (by rfl) ?_; dsimp only)); refine box_event ?hg (N := 5) ?hd (cs := #[.int .i64 a2_0, .int .i64 a2_1]) (t := 153) ?hr ?_; (case hd => rfl); (case hg => rfl); (case hr => exact gs); intro gb451 hg w7 hbox hb; have BK451 := am (hbox); have GW451 := gw hg HB; replace HB := bs HB hb; obtain ⟨NB450_451, NB451_450, BK450⟩ := b3 hg BK450 hb; clear hb hbox hg; have hnb8 := NB450_451.out; have hnc8 := NB451_450.out; have hcz9 := bK w7 BK450; have hfz9 := bF BK450) | (go_at_call 95; refine (impl_hasFunc.calls _ _ l0_0 a1 t452 _ (cc (Kd.C_below HR0_0.out HB.out)) HC0_0.out A4.out).mono ?_; rintro e w10 ⟨rfl, hb⟩; replace BK450 := bb BK450 hb; replace BK451 := bb BK451 hb; replace HB := bs HB hb; clear hb)); go_upto_if 10 with (first | ((with_reducible refine gate_dst (N := 3) rfl ?_); (try (refine gate_guard (by rfl) ?_; dsimp only)); refine box_event ?hg (N := 3) ?hd (cs := #[.slice A0_0 l0_0.length c0_0]) (t := 32) ?hr ?_; (case hd => rfl); (case hg => rfl); (case hr => exact gs); intro gb450 hg w6 hbox hb; have BK450 := am (hbox); have GW450 := gw hg HB; replace HB := bs HB hb; clear hb hbox hg) | ((with_reducible refine gate_dst (N := 5) rfl ?_); (try (refine gate_guard (by rfl) ?_; dsimp only)); refine box_event ?hg (N := 5) ?hd (cs := #[.int .i64 a2_0, .int .i64 a2_1]) (t := 153) ?hr ?_; (case hd => rfl); (case hg => rfl); (case hr => exact gs); intro gb451 hg w7 hbox hb; have BK451 := am (hbox); have GW451 := gw hg HB; replace HB := bs HB hb; obtain ⟨NB450_451, NB451_450, BK450⟩ := b3 hg BK450 hb; clear hb hbox hg; have hnb8 := NB450_451.out; have hnc8 := NB451_450.out; have hcz9 := bK w7 BK450; have hfz9 := bF BK450) | (go_at_call 95; refine (impl_hasFunc.calls _ _ l0_0 a1 t452 _ (cc (Kd.C_below HR0_0.out HB.out)) HC0_0.out A4.out).mono ?_; rintro e w10 ⟨rfl, hb⟩; replace BK450 := bb BK450 hb; replace BK451 := bb BK451 hb; replace HB := bs HB hb; clear hb)))
 (try simp only [Act.put, sa, sz, ss])
 have H := HC5.out
 clear HC5
 refine qT H ?_ ?_ <;> clear H <;> intro c11 H <;> subst c11
 ·refine qE H ?_ ?_ <;> clear H
  ·intro c12b0 c12b1 H
   (first | rw [c12b0] | (simp only [i64_w, i32_w]; rw [c12b0]) | skip)
   obtain rfl := oi H
   have hnb13 := NB451_450.out
   have hnc13 := NB450_451.out
   have hcz14 := bK w10 BK451
   have hfz14 := bF BK451
   go_wp2
   repeat (go_quiet (fail); try go_wp2)
   go_ret
   exact ⟨er, bw HB⟩
  intro c12 c12b0 c12b1 H
  (first | rw [c12b0] | (simp only [i64_w, i32_w]; rw [c12b0]) | skip)
  have HC15 := am H
  clear H
  have hnb16 := NB451_450.out
  have hnc16 := NB450_451.out
  have hcz17 := bK w10 BK451
  have hfz17 := bF BK451
  go_upto_if 15 with (fail)
  repeat (go_quiet (fail); go_upto_if 15 with (fail))
  go_cut [15] (fun v15 wc => ∃ (kq : Nat) (x15_14 : Bool), v15 = .bool x15_14 ∧ Aside0 (impl_InsRight.j0 kq a1 a2_0 x15_14 l0_0 a2_0 a2_1 = some r) ∧ Aside0 (kq ≤ k) ∧ Aside0 (wc.heap[gb450]? = some (.cells #[(.slice A0_0 l0_0.length c0_0)] 32 (0, 0))) ∧ Aside0 (wc.heap[gb451]? = some (.cells #[.int .i64 a2_0, .int .i64 a2_1] 153 (0, 0))) ∧ Aside0 (Below w.heap.size w wc))
  case first =>
   have H := HC15.out
   clear HC15
   refine qE H ?_ ?_ <;> clear H
   ·intro c18b0 c18b1 H
    (first | rw [c18b0] | (simp only [i64_w, i32_w]; rw [c18b0]) | skip)
    have H' := am H
    clear H
    go_wp2
    repeat (go_quiet (fail); try go_wp2)
    go_meet
    case rel => exact ⟨_, ((a2_0 == 2)), dr, H', ⟨lk0⟩, ⟨bp BK450⟩, ⟨bp BK451⟩, ⟨bw HB⟩⟩
   intro c18 c18b0 c18b1 H
   (first | rw [c18b0] | (simp only [i64_w, i32_w]; rw [c18b0]) | skip)
   have H' := am H
   clear H
   go_wp2
   repeat (go_quiet (fail); try go_wp2)
   go_meet
   case rel => exact ⟨_, ((a2_0 == 3)), dr, H', ⟨lk0⟩, ⟨bp BK450⟩, ⟨bp BK451⟩, ⟨bw HB⟩⟩
  clear HC15
  obtain ⟨kq, x15_14, rfl, HA, HJ14, BK450, BK451, HB⟩ := hcut
  rcases kq with _ | kj14
  ·exact absurd HA.out (by simp [impl_InsRight.j0])
  have H := HA.out
  clear HA
  simp only [impl_InsRight.j0] at H
  refine qT H ?_ ?_ <;> clear H <;> intro c19 H <;> subst c19
  ·refine qL H ?_ ?_ <;> clear H <;> intro c20b0 H
   ·refine iM H ?_; clear H; intro c21b0 H
    refine iM H ?_; clear H; intro c22b0 H
    obtain rfl := oi H
    have hnb23 := NB451_450.out
    have hnc23 := NB450_451.out
    have hcz24 := bK wc BK451
    have hfz24 := bF BK451
    have hcz25 := bK wc BK450
    have hfz25 := bF BK450
    have p453 : 0 ≤ (a1 : Int) := dt
    have q453 : a1 < (l0_0.length : Int) := dt
    obtain ⟨ad453, A453_2, c453_2, e453, hx453_0, hx453_1, hx453_2, hl453_2, hi453_2⟩ := at_T121 HR0_0.out a1 p453 q453
    cases e453
    replace hx453_0 := cl HB hx453_0
    replace hx453_1 := cl HB hx453_1
    replace hx453_2 := cl HB hx453_2
    have HR453_2 := am hi453_2
    have HC453_2 := am hl453_2
    clear hi453_2 hl453_2
    replace p453 := eq_true p453
    replace q453 := eq_true q453
    go_wp2
    repeat (go_quiet (fail); try go_wp2)
    go_ret
    exact ⟨er, bw HB⟩
   obtain rfl := oi H
   have hnb26 := NB451_450.out
   have hnc26 := NB450_451.out
   have hcz27 := bK wc BK451
   have hfz27 := bF BK451
   go_wp2
   repeat (go_quiet (fail); try go_wp2)
   go_ret
   exact ⟨er, bw HB⟩
  have HC28 := am H
  clear H
  go_upto_if 32 with (fail)
  repeat (go_quiet (fail); go_upto_if 32 with (fail))
  go_cut [32] (fun v32 wc => ∃ (kq : Nat) (x32_27 : Bool), v32 = .bool x32_27 ∧ Aside0 (impl_InsRight.j1 kq a1 a2_0 x32_27 l0_0 a2_0 a2_1 = some r) ∧ Aside0 (kq ≤ kj14) ∧ Aside0 (wc.heap[gb450]? = some (.cells #[(.slice A0_0 l0_0.length c0_0)] 32 (0, 0))) ∧ Aside0 (wc.heap[gb451]? = some (.cells #[.int .i64 a2_0, .int .i64 a2_1] 153 (0, 0))) ∧ Aside0 (Below w.heap.size w wc))
  case first =>
   have H := HC28.out
   clear HC28
   refine qE H ?_ ?_ <;> clear H
   ·intro c29b0 c29b1 H
    (first | rw [c29b0] | (simp only [i64_w, i32_w]; rw [c29b0]) | skip)
    have H' := am H
    clear H
    go_wp2
    repeat (go_quiet (fail); try go_wp2)
    go_meet
    case rel => exact ⟨_, ((a2_0 == 30)), dr, H', ⟨lk1 HJ14⟩, ⟨bp BK450⟩, ⟨bp BK451⟩, ⟨bw HB⟩⟩
   intro c29 c29b0 c29b1 H
   (first | rw [c29b0] | (simp only [i64_w, i32_w]; rw [c29b0]) | skip)
   have H' := am H
   clear H
   go_wp2
   repeat (go_quiet (fail); try go_wp2)
   go_meet
   case rel => exact ⟨_, ((a2_0 == 31)), dr, H', ⟨lk1 HJ14⟩, ⟨bp BK450⟩, ⟨bp BK451⟩, ⟨bw HB⟩⟩
  clear HC28
  obtain ⟨kq, x32_27, rfl, HA, HJ27, BK450, BK451, HB⟩ := hcut
  rcases kq with _ | kj27
  ·exact absurd HA.out (by simp [impl_InsRight.j1])
  have H := HA.out
  clear HA
  simp only [impl_InsRight.j1] at H
  refine qT H ?_ ?_ <;> clear H <;> intro c30 H <;> subst c30
  ·refine qL H ?_ ?_ <;> clear H <;> intro c31b0 H
   ·refine iM H ?_; clear H; intro c32b0 H
    refine iM H ?_; clear H; intro c33b0 H
    obtain rfl := oi H
    have hnb34 := NB451_450.out
    have hnc34 := NB450_451.out
    have hcz35 := bK wc BK451
    have hfz35 := bF BK451
    have hcz36 := bK wc BK450
    have hfz36 := bF BK450
    have p454 : 0 ≤ (a1 : Int) := dt
    have q454 : a1 < (l0_0.length : Int) := dt
    obtain ⟨ad454, A454_2, c454_2, e454, hx454_0, hx454_1, hx454_2, hl454_2, hi454_2⟩ := at_T121 HR0_0.out a1 p454 q454
    cases e454
    replace hx454_0 := cl HB hx454_0
    replace hx454_1 := cl HB hx454_1
    replace hx454_2 := cl HB hx454_2
    have HR454_2 := am hi454_2
    have HC454_2 := am hl454_2
    clear hi454_2 hl454_2
    replace p454 := eq_true p454
    replace q454 := eq_true q454
    go_wp2
    repeat (go_quiet (fail); try go_wp2)
    go_ret
    exact ⟨er, bw HB⟩
   obtain rfl := oi H
   have hnb37 := NB451_450.out
   have hnc37 := NB450_451.out
   have hcz38 := bK wc BK451
   have hfz38 := bF BK451
   go_wp2
   repeat (go_quiet (fail); try go_wp2)
   go_ret
   exact ⟨er, bw HB⟩
  refine qE H ?_ ?_ <;> clear H
  ·intro c39b0 c39b1 H
   refine be H ?_; clear H; intro t455 A40 H
   obtain rfl := oi H
   have hnb41 := NB450_451.out
   have hnc41 := NB451_450.out
   have hcz42 := bK wc BK450
   have hfz42 := bF BK450
   have hcz43 := bK wc BK451
   have hfz43 := bF BK451
   go_wp2_with (first | (go_at_call 95; refine (impl_hasFunc.calls _ _ l0_0 a2_1 t455 _ (cc (Kd.C_below HR0_0.out HB.out)) HC0_0.out A40.out).mono ?_; rintro e w44 ⟨rfl, hb⟩; replace BK450 := bb BK450 hb; replace BK451 := bb BK451 hb; replace HB := bs HB hb; clear hb))
   repeat (go_quiet (first | (go_at_call 95; refine (impl_hasFunc.calls _ _ l0_0 a2_1 t455 _ (cc (Kd.C_below HR0_0.out HB.out)) HC0_0.out A40.out).mono ?_; rintro e w44 ⟨rfl, hb⟩; replace BK450 := bb BK450 hb; replace BK451 := bb BK451 hb; replace HB := bs HB hb; clear hb)); try go_wp2_with (first | (go_at_call 95; refine (impl_hasFunc.calls _ _ l0_0 a2_1 t455 _ (cc (Kd.C_below HR0_0.out HB.out)) HC0_0.out A40.out).mono ?_; rintro e w44 ⟨rfl, hb⟩; replace BK450 := bb BK450 hb; replace BK451 := bb BK451 hb; replace HB := bs HB hb; clear hb)))
   go_ret
   exact ⟨er, bw HB⟩
  intro c39 c39b0 c39b1 H
  refine be H ?_; clear H; intro t456 A45 H
  by_cases c46 : t456.toList = ([] : List UInt8)
  ·rw [if_pos c46] at H
   have c46b0 : (t456.toList == ([] : List UInt8)) = true := beq_iff_eq.mpr c46
   have c46b1 : (t456.toList != ([] : List UInt8)) = false := bne_eq_false_iff_eq.mpr c46
   clear c46
   obtain rfl := oi H
   have hnb47 := NB451_450.out
   have hnc47 := NB450_451.out
   have hcz48 := bK wc BK451
   have hfz48 := bF BK451
   go_wp2_with (first | (go_at_call 159; (with_reducible refine (impl_OpName.calls a2_0 t456 _ A45.out).mono ?_); rintro e w49 ⟨rfl, hb⟩; replace BK450 := bb BK450 hb; replace BK451 := bb BK451 hb; replace HB := bs HB hb; clear hb))
   repeat (go_quiet (first | (go_at_call 159; (with_reducible refine (impl_OpName.calls a2_0 t456 _ A45.out).mono ?_); rintro e w49 ⟨rfl, hb⟩; replace BK450 := bb BK450 hb; replace BK451 := bb BK451 hb; replace HB := bs HB hb; clear hb)); try go_wp2_with (first | (go_at_call 159; (with_reducible refine (impl_OpName.calls a2_0 t456 _ A45.out).mono ?_); rintro e w49 ⟨rfl, hb⟩; replace BK450 := bb BK450 hb; replace BK451 := bb BK451 hb; replace HB := bs HB hb; clear hb)))
   go_ret
   exact ⟨er, bw HB⟩
  rw [if_neg c46] at H
  have c46b0 : (t456.toList == ([] : List UInt8)) = false := beq_eq_false_iff_ne.mpr c46
  have c46b1 : (t456.toList != ([] : List UInt8)) = true := bne_iff_ne.mpr c46
  obtain rfl := oi H
  have hnb50 := NB451_450.out
  have hnc50 := NB450_451.out
  have hcz51 := bK wc BK451
  have hfz51 := bF BK451
  go_wp2_with (first | (go_at_call 159; (with_reducible refine (impl_OpName.calls a2_0 t456 _ A45.out).mono ?_); rintro e w52 ⟨rfl, hb⟩; replace BK450 := bb BK450 hb; replace BK451 := bb BK451 hb; replace HB := bs HB hb; clear hb; have hcz53 := bK w52 BK451; have hfz53 := bF BK451))
  repeat (go_quiet (first | (go_at_call 159; (with_reducible refine (impl_OpName.calls a2_0 t456 _ A45.out).mono ?_); rintro e w52 ⟨rfl, hb⟩; replace BK450 := bb BK450 hb; replace BK451 := bb BK451 hb; replace HB := bs HB hb; clear hb; have hcz53 := bK w52 BK451; have hfz53 := bF BK451)); try go_wp2_with (first | (go_at_call 159; (with_reducible refine (impl_OpName.calls a2_0 t456 _ A45.out).mono ?_); rintro e w52 ⟨rfl, hb⟩; replace BK450 := bb BK450 hb; replace BK451 := bb BK451 hb; replace HB := bs HB hb; clear hb; have hcz53 := bK w52 BK451; have hfz53 := bF BK451)))
  go_ret
  exact ⟨er, bw HB⟩
 obtain rfl := oi H
 go_wp2
 repeat (go_quiet (fail); try go_wp2)
 go_ret
 exact ⟨er, bw HB⟩

def impl_isBinary.f (a0 : Int) : Option (Bool) := (impl_in.f a0 10 23).bind fun t457 => (some t457)
theorem impl_isBinary.calls (a0 : Int) (r : Bool) (w : World) (h : impl_isBinary.f a0 = some r) :
  Calls Try.prog 146 #[.int .i64 a0] w fun e w' => e = .returned (.bool r) ∧ Drawn0 w w' := by
 have H : ((impl_in.f a0 10 23).bind fun t457 => (some t457)) = some r := h
 clear h
 refine be H ?_; clear H; intro t457 A2 H
 obtain rfl := oi H
 go_enter Try.func146, Try.ntmps146
 go_wp2_with (first | ((with_reducible refine gate_callee (f := 113) rfl ?_); refine goesL_ (some 4) rfl rfl Try.func113 (by kernel_rfl) rfl #[.int .i64 a0, .int .i64 10, .int .i64 23] rfl gl ?_; (with_reducible refine (impl_in.calls a0 10 23 t457 _ A2.out).mono ?_); rintro e w' ⟨rfl, ⟨nd, rfl⟩⟩; refine ⟨_, rfl, ?_⟩))
 go_ret
 exact ⟨by first | rfl | (simp; done) | (simp [*]; done), by repeat (first | exact Drawn0.refl _ | apply Drawn0.step)⟩

def impl_isUnary.f (a0 : Int) : Option (Bool) := (impl_in.f a0 24 29).bind fun t458 => (some t458)
theorem impl_isUnary.calls (a0 : Int) (r : Bool) (w : World) (h : impl_isUnary.f a0 = some r) :
  Calls Try.prog 147 #[.int .i64 a0] w fun e w' => e = .returned (.bool r) ∧ Drawn0 w w' := by
 have H : ((impl_in.f a0 24 29).bind fun t458 => (some t458)) = some r := h
 clear h
 refine be H ?_; clear H; intro t458 A2 H
 obtain rfl := oi H
 go_enter Try.func147, Try.ntmps147
 go_wp2_with (first | ((with_reducible refine gate_callee (f := 113) rfl ?_); refine goesL_ (some 4) rfl rfl Try.func113 (by kernel_rfl) rfl #[.int .i64 a0, .int .i64 24, .int .i64 29] rfl gl ?_; (with_reducible refine (impl_in.calls a0 24 29 t458 _ A2.out).mono ?_); rintro e w' ⟨rfl, ⟨nd, rfl⟩⟩; refine ⟨_, rfl, ?_⟩))
 go_ret
 exact ⟨by first | rfl | (simp; done) | (simp [*]; done), by repeat (first | exact Drawn0.refl _ | apply Drawn0.step)⟩

mutual
def impl_Takes.j0 : Nat → Bool → List (S121) → Int → Int → Option (Int)
 | 0, _, _, _, _ => none
 | k + 1, x5, x460000, x461000, x461001 => if x5 = true then (some 2) else (if x461000 = 36 then (some 3) else (if x461000 = 32 then ((impl_hasFunc.f x460000 x461001).bind fun t462 => (if t462 = true then (if 0 ≤ x461001 then (if x461001 < (x460000.length : Int) then (some ((rd_T121 x460000 x461001).f0)) else (none)) else (none)) else (some 0))) else ((impl_isUnary.f x461000).bind fun t464 => (if t464 = true then (some 1) else (if x461000 = 3 then (impl_Takes.j1 k (x461000 == 3)) else (if x461000 = 4 then (impl_Takes.j1 k (x461000 == 4)) else (if x461000 = 5 then (impl_Takes.j1 k (x461000 == 5)) else (if x461000 = 31 then (impl_Takes.j1 k (x461000 == 31)) else (if x461000 = 33 then (impl_Takes.j1 k (x461000 == 33)) else (if x461000 = 34 then (impl_Takes.j1 k (x461000 == 34)) else (if x461000 = 37 then (impl_Takes.j1 k (x461000 == 37)) else (impl_Takes.j1 k (x461000 == 38)))))))))))))
def impl_Takes.j1 : Nat → Bool → Option (Int)
 | 0, _ => none
 | k + 1, x37 => if x37 = true then (some 1) else (some 0)
end
def impl_Takes.f (k : Nat) (l0_0 : List (S121)) (a1_0 : Int) (a1_1 : Int) : Option (Int) := (impl_isBinary.f a1_0).bind fun t461 => (if t461 = true then (impl_Takes.j0 k t461 l0_0 a1_0 a1_1) else (impl_Takes.j0 k (a1_0 == 35) l0_0 a1_0 a1_1))
theorem impl_Takes.mono_l : ∀ k, (∀ y0 y1 y2 y3, LeO (impl_Takes.j0 k y0 y1 y2 y3) (impl_Takes.j0 (k + 1) y0 y1 y2 y3)) ∧ (∀ y0, LeO (impl_Takes.j1 k y0) (impl_Takes.j1 (k + 1) y0))
 | 0 => ⟨fun _ _ _ _ r h => by simp [impl_Takes.j0] at h, fun _ r h => by simp [impl_Takes.j1] at h⟩
 | k + 1 => by
  obtain ⟨ih0, ih1⟩ := impl_Takes.mono_l k
  refine ⟨?_, ?_⟩
  ·intro y0 y1 y2 y3
   unfold impl_Takes.j0
   with_reducible repeat' first | exact ih0 .. | exact ih1 .. | exact LeO.refl _ | exact LeO.none _ | refine LeO.ite ?_ ?_ | refine LeO.bind ?_ (fun _ => ?_)
  ·intro y0
   unfold impl_Takes.j1
   with_reducible repeat' first | exact ih0 .. | exact ih1 .. | exact LeO.refl _ | exact LeO.none _ | refine LeO.ite ?_ ?_ | refine LeO.bind ?_ (fun _ => ?_)
theorem impl_Takes.mono : ∀ a0 a1 a2 k, LeO (impl_Takes.f k a0 a1 a2) (impl_Takes.f (k + 1) a0 a1 a2) := by
 intro a0 a1 a2 k
 obtain ⟨ih0, ih1⟩ := impl_Takes.mono_l k
 unfold impl_Takes.f
 with_reducible repeat' first | exact ih0 .. | exact ih1 .. | exact LeO.refl _ | exact LeO.none _ | refine LeO.ite ?_ ?_ | refine LeO.bind ?_ (fun _ => ?_)
theorem impl_Takes.calls (k : Nat) (A0_0 : Option Addr) (c0_0 : Nat) (l0_0 : List (S121)) (a1_0 : Int) (a1_1 : Int) (r : Int) (w : World) (hr0_0 : Kd.C k121 w A0_0 l0_0.length l0_0) (hc0_0 : l0_0.length ≤ c0_0) (h : impl_Takes.f k l0_0 a1_0 a1_1 = some r) :
  Calls Try.prog 103 #[.agg #[.slice A0_0 l0_0.length c0_0], .agg #[.int .i64 a1_0, .int .i64 a1_1]] w fun e w' => e = .returned (.int .i64 r) ∧ Below w.heap.size w w' := by
 have hu32 := Try.underlying32
 have hu153 := Try.underlying153
 have HR0_0 := am hr0_0
 have HC0_0 := am hc0_0
 clear hr0_0 hc0_0
 have HB := am (Below.refl w.heap.size w)
 have H : ((impl_isBinary.f a1_0).bind fun t461 => (if t461 = true then (impl_Takes.j0 k t461 l0_0 a1_0 a1_1) else (impl_Takes.j0 k (a1_0 == 35) l0_0 a1_0 a1_1))) = some r := h
 clear h
 refine be H ?_; clear H; intro t461 A3 H
 have HC4 := am H
 clear H
 go_enter Try.func103, Try.ntmps103
 go_upto_if 5 with (first | ((with_reducible refine gd 2 rfl ?_); refine bX 2 #[.slice A0_0 l0_0.length c0_0] 32 HB ?_; clear HB; intro gb459 w5 hg hb BK459 GW459 HB; clear hb hg) | ((with_reducible refine gd 3 rfl ?_); refine bX 3 #[.int .i64 a1_0, .int .i64 a1_1] 153 HB ?_; clear HB; intro gb460 w6 hg hb BK460 GW460 HB; obtain ⟨NB459_460, NB460_459, BK459⟩ := b3 hg BK459 hb; clear hb hg; have hnb7 := NB460_459.out; have hnc7 := NB459_460.out; have hcz8 := bK w6 BK460; have hfz8 := bF BK460) | ((with_reducible refine gate_callee (f := 146) rfl ?_); refine goesL_ (some 8) rfl rfl Try.func146 (by kernel_rfl) rfl #[.int .i64 a1_0] rfl gl ?_; (with_reducible refine (impl_isBinary.calls a1_0 t461 _ A3.out).mono ?_); rintro e w' ⟨rfl, ⟨nd, rfl⟩⟩; refine ⟨_, rfl, ?_⟩))
 (try simp only [Act.put, sa, sz, ss])
 go_cut [5] (fun v5 wc => ∃ (kq : Nat) (x5_3 : Bool), v5 = .bool x5_3 ∧ Aside0 (impl_Takes.j0 kq x5_3 l0_0 a1_0 a1_1 = some r) ∧ Aside0 (kq ≤ k) ∧ Aside0 (wc.heap[gb459]? = some (.cells #[(.slice A0_0 l0_0.length c0_0)] 32 (0, 0))) ∧ Aside0 (wc.heap[gb460]? = some (.cells #[.int .i64 a1_0, .int .i64 a1_1] 153 (0, 0))) ∧ Aside0 (Below w.heap.size w wc))
 case first =>
  have H := HC4.out
  clear HC4
  refine qT H ?_ ?_ <;> clear H <;> intro c9 H <;> subst c9
  ·have H' := am H
   clear H
   go_wp2
   go_meet
   case rel => exact ⟨_, (true), dr, H', ⟨lk0⟩, ⟨bp BK459⟩, ⟨bp BK460⟩, ⟨bw HB⟩⟩
  have H' := am H
  clear H
  have hnb10 := NB460_459.out
  have hnc10 := NB459_460.out
  have hcz11 := bK w6 BK460
  have hfz11 := bF BK460
  go_wp2
  go_meet
  case rel => exact ⟨_, ((a1_0 == 35)), dr, H', ⟨lk0⟩, ⟨bp BK459⟩, ⟨bp BK460⟩, ⟨bw HB⟩⟩
 clear HC4
 obtain ⟨kq, x5_3, rfl, HA, HJ3, BK459, BK460, HB⟩ := hcut
 rcases kq with _ | kj3
 ·exact absurd HA.out (by simp [impl_Takes.j0])
 have H := HA.out
 clear HA
 simp only [impl_Takes.j0] at H
 refine qT H ?_ ?_ <;> clear H <;> intro c12 H <;> subst c12
 ·obtain rfl := oi H
  go_wp2
  go_ret
  exact ⟨er, bw HB⟩
 refine qE H ?_ ?_ <;> clear H
 ·intro c13b0 c13b1 H
  obtain rfl := oi H
  have hnb14 := NB460_459.out
  have hnc14 := NB459_460.out
  have hcz15 := bK wc BK460
  have hfz15 := bF BK460
  go_wp2
  go_ret
  exact ⟨er, bw HB⟩
 intro c13 c13b0 c13b1 H
 refine qE H ?_ ?_ <;> clear H
 ·intro c16b0 c16b1 H
  refine be H ?_; clear H; intro t462 A17 H
  have HC18 := am H
  clear H
  have hnb19 := NB460_459.out
  have hnc19 := NB459_460.out
  have hcz20 := bK wc BK460
  have hfz20 := bF BK460
  have hcz21 := bK wc BK459
  have hfz21 := bF BK459
  go_upto_if 23 with (first | ((with_reducible refine gk 95 rfl ?_); refine gB 95 (some 23) Try.func95 #[.agg #[.slice A0_0 l0_0.length c0_0], .int .i64 a1_1] (impl_hasFunc.calls _ _ l0_0 a1_1 t462 _ (cc (Kd.C_below HR0_0.out HB.out)) HC0_0.out A17.out) ?_; intro w22 hb; replace BK459 := bb BK459 hb; replace BK460 := bb BK460 hb; replace HB := bs HB hb; clear hb))
  (try simp only [Act.put, sa, sz, ss])
  have H := HC18.out
  clear HC18
  refine qT H ?_ ?_ <;> clear H <;> intro c23 H <;> subst c23
  ·refine iM H ?_; clear H; intro c24b0 H
   (first | rw [c24b0] | (simp only [i64_w, i32_w]; rw [c24b0]) | skip)
   refine iM H ?_; clear H; intro c25b0 H
   obtain rfl := oi H
   have hnb26 := NB459_460.out
   have hnc26 := NB460_459.out
   have hcz27 := bK w22 BK459
   have hfz27 := bF BK459
   have hcz28 := bK w22 BK460
   have hfz28 := bF BK460
   have p463 : 0 ≤ (a1_1 : Int) := dt
   have q463 : a1_1 < (l0_0.length : Int) := dt
   obtain ⟨ad463, A463_2, c463_2, e463, hx463_0, hx463_1, hx463_2, hl463_2, hi463_2⟩ := at_T121 HR0_0.out a1_1 p463 q463
   cases e463
   replace hx463_0 := cl HB hx463_0
   replace hx463_1 := cl HB hx463_1
   replace hx463_2 := cl HB hx463_2
   have HR463_2 := am hi463_2
   have HC463_2 := am hl463_2
   clear hi463_2 hl463_2
   replace p463 := eq_true p463
   replace q463 := eq_true q463
   go_wp2
   go_ret
   exact ⟨er, bw HB⟩
  obtain rfl := oi H
  go_wp2
  go_ret
  exact ⟨er, bw HB⟩
 intro c16 c16b0 c16b1 H
 refine be H ?_; clear H; intro t464 A29 H
 have HC30 := am H
 clear H
 have hnb31 := NB460_459.out
 have hnc31 := NB459_460.out
 have hcz32 := bK wc BK460
 have hfz32 := bF BK460
 go_upto_if 31 with (first | ((with_reducible refine gate_callee (f := 147) rfl ?_); refine goesL_ (some 34) rfl rfl Try.func147 (by kernel_rfl) rfl #[.int .i64 a1_0] rfl gl ?_; (with_reducible refine (impl_isUnary.calls a1_0 t464 _ A29.out).mono ?_); rintro e w' ⟨rfl, ⟨nd, rfl⟩⟩; refine ⟨_, rfl, ?_⟩))
 (try simp only [Act.put, sa, sz, ss])
 (try simp only [World.drewN_drewN])
 generalize hq_ : World.drewN wc _ = w33
 replace BK459 : Aside0 (w33.heap[gb459]? = some (.cells #[.slice A0_0 l0_0.length c0_0] 32 (0, 0))) := ⟨by rw [← hq_]; exact (bp BK459)⟩
 replace BK460 : Aside0 (w33.heap[gb460]? = some (.cells #[.int .i64 a1_0, .int .i64 a1_1] 153 (0, 0))) := ⟨by rw [← hq_]; exact (bp BK460)⟩
 replace HB : Aside0 (Below w.heap.size w w33) := ⟨by rw [← hq_]; exact (bw HB)⟩
 clear hq_
 have H := HC30.out
 clear HC30
 refine qT H ?_ ?_ <;> clear H <;> intro c34 H <;> subst c34
 ·obtain rfl := oi H
  go_wp2
  go_ret
  exact ⟨er, bw HB⟩
 have HC35 := am H
 clear H
 have hnb36 := NB460_459.out
 have hnc36 := NB459_460.out
 have hcz37 := bK w33 BK460
 have hfz37 := bF BK460
 go_upto_if 37 with (fail)
 go_cut [37] (fun v37 wc => ∃ (kq : Nat) (x37_34 : Bool), v37 = .bool x37_34 ∧ Aside0 (impl_Takes.j1 kq x37_34 = some r) ∧ Aside0 (kq ≤ kj3) ∧ Aside0 (wc.heap[gb459]? = some (.cells #[(.slice A0_0 l0_0.length c0_0)] 32 (0, 0))) ∧ Aside0 (wc.heap[gb460]? = some (.cells #[.int .i64 a1_0, .int .i64 a1_1] 153 (0, 0))) ∧ Aside0 (Below w.heap.size w wc))
 case first =>
  have H := HC35.out
  clear HC35
  refine qE H ?_ ?_ <;> clear H
  ·intro c38b0 c38b1 H
   (first | rw [c38b0] | (simp only [i64_w, i32_w]; rw [c38b0]) | skip)
   have H' := am H
   clear H
   go_wp2
   go_meet
   case rel => exact ⟨_, ((a1_0 == 3)), dr, H', ⟨lk1 HJ3⟩, ⟨bp BK459⟩, ⟨bp BK460⟩, ⟨bw HB⟩⟩
  intro c38 c38b0 c38b1 H
  (first | rw [c38b0] | (simp only [i64_w, i32_w]; rw [c38b0]) | skip)
  refine qE H ?_ ?_ <;> clear H
  ·intro c39b0 c39b1 H
   have H' := am H
   clear H
   go_wp2
   go_meet
   case rel => exact ⟨_, ((a1_0 == 4)), dr, H', ⟨lk1 HJ3⟩, ⟨bp BK459⟩, ⟨bp BK460⟩, ⟨bw HB⟩⟩
  intro c39 c39b0 c39b1 H
  refine qE H ?_ ?_ <;> clear H
  ·intro c40b0 c40b1 H
   have H' := am H
   clear H
   go_wp2
   go_meet
   case rel => exact ⟨_, ((a1_0 == 5)), dr, H', ⟨lk1 HJ3⟩, ⟨bp BK459⟩, ⟨bp BK460⟩, ⟨bw HB⟩⟩
  intro c40 c40b0 c40b1 H
  refine qE H ?_ ?_ <;> clear H
  ·intro c41b0 c41b1 H
   have H' := am H
   clear H
   go_wp2
   go_meet
   case rel => exact ⟨_, ((a1_0 == 31)), dr, H', ⟨lk1 HJ3⟩, ⟨bp BK459⟩, ⟨bp BK460⟩, ⟨bw HB⟩⟩
  intro c41 c41b0 c41b1 H
  refine qE H ?_ ?_ <;> clear H
  ·intro c42b0 c42b1 H
   have H' := am H
   clear H
   go_wp2
   go_meet
   case rel => exact ⟨_, ((a1_0 == 33)), dr, H', ⟨lk1 HJ3⟩, ⟨bp BK459⟩, ⟨bp BK460⟩, ⟨bw HB⟩⟩
  intro c42 c42b0 c42b1 H
  refine qE H ?_ ?_ <;> clear H
  ·intro c43b0 c43b1 H
   have H' := am H
   clear H
   go_wp2
   go_meet
   case rel => exact ⟨_, ((a1_0 == 34)), dr, H', ⟨lk1 HJ3⟩, ⟨bp BK459⟩, ⟨bp BK460⟩, ⟨bw HB⟩⟩
  intro c43 c43b0 c43b1 H
  refine qE H ?_ ?_ <;> clear H
  ·intro c44b0 c44b1 H
   have H' := am H
   clear H
   go_wp2
   go_meet
   case rel => exact ⟨_, ((a1_0 == 37)), dr, H', ⟨lk1 HJ3⟩, ⟨bp BK459⟩, ⟨bp BK460⟩, ⟨bw HB⟩⟩
  intro c44 c44b0 c44b1 H
  have H' := am H
  clear H
  go_wp2
  go_meet
  case rel => exact ⟨_, ((a1_0 == 38)), dr, H', ⟨lk1 HJ3⟩, ⟨bp BK459⟩, ⟨bp BK460⟩, ⟨bw HB⟩⟩
 clear HC35
 obtain ⟨kq, x37_34, rfl, HA, HJ34, BK459, BK460, HB⟩ := hcut
 rcases kq with _ | kj34
 ·exact absurd HA.out (by simp [impl_Takes.j1])
 have H := HA.out
 clear HA
 simp only [impl_Takes.j1] at H
 refine qT H ?_ ?_ <;> clear H <;> intro c45 H <;> subst c45
 ·obtain rfl := oi H
  go_wp2
  go_ret
  exact ⟨er, bw HB⟩
 obtain rfl := oi H
 go_wp2
 go_ret
 exact ⟨er, bw HB⟩

def impl_isArith.f (a0 : Int) : Option (Bool) := (impl_in.f a0 10 29).bind fun t465 => (some t465)
theorem impl_isArith.calls (a0 : Int) (r : Bool) (w : World) (h : impl_isArith.f a0 = some r) :
  Calls Try.prog 145 #[.int .i64 a0] w fun e w' => e = .returned (.bool r) ∧ Drawn0 w w' := by
 have H : ((impl_in.f a0 10 29).bind fun t465 => (some t465)) = some r := h
 clear h
 refine be H ?_; clear H; intro t465 A2 H
 obtain rfl := oi H
 go_enter Try.func145, Try.ntmps145
 go_wp2_with (first | ((with_reducible refine gate_callee (f := 113) rfl ?_); refine goesL_ (some 4) rfl rfl Try.func113 (by kernel_rfl) rfl #[.int .i64 a0, .int .i64 10, .int .i64 29] rfl gl ?_; (with_reducible refine (impl_in.calls a0 10 29 t465 _ A2.out).mono ?_); rintro e w' ⟨rfl, ⟨nd, rfl⟩⟩; refine ⟨_, rfl, ?_⟩))
 go_ret
 exact ⟨by first | rfl | (simp; done) | (simp [*]; done), by repeat (first | exact Drawn0.refl _ | apply Drawn0.step)⟩

end Go.Proofs.Ytkhpiicijkhpkaa.QFnExactAsmBytes
