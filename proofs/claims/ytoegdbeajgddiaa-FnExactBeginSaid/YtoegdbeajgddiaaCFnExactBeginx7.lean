import Derived.Test.YtoegdbeajgddiaaCFnExactBeginx0
import Derived.Test.YtoegdbeajgddiaaCFnExactBeginx6
namespace Go.Proofs.Ytoegdbeajgddiaa.QFnExactBegin
open Go.RowKit Go.Proofs.YtoegdbeajgddiaaW
open PrintWords PrintLast PrintMore PrintShort PrintIsh
attribute [local go_sem] max2_int min2_int max_two min_two max_three min_three max_four min_four   -- for this text's walks alone
set_option linter.unusedVariables false
set_option maxHeartbeats 8000000
set_option maxRecDepth 100000
set_option linter.unusedSimpArgs false

mutual
def impl_InsRight.j0 : Nat → Int → Int → Bool → List (S55) → Int → Int → Option (Bool)
 | 0, _, _, _, _, _, _ => none
 | k + 1, x1, x12, x15, x266000, x267000, x267001 => if x15 = true then (if x267001 ≥ 0 then (if 0 ≤ x1 then (if x1 < (x266000.length : Int) then (some (decide (x267001 < ((rd_T55 x266000 x1).f1)))) else (none)) else (none)) else (some false)) else (if x12 = 30 then (impl_InsRight.j1 k x1 x12 (x12 == 30) x266000 x267000 x267001) else (impl_InsRight.j1 k x1 x12 (x12 == 31) x266000 x267000 x267001))
def impl_InsRight.j1 : Nat → Int → Int → Bool → List (S55) → Int → Int → Option (Bool)
 | 0, _, _, _, _, _, _ => none
 | k + 1, x1, x12, x32, x266000, x267000, x267001 => if x32 = true then (if x267001 ≥ 0 then (if 0 ≤ x1 then (if x1 < (x266000.length : Int) then (some (decide (x267001 < (((rd_T55 x266000 x1).f2).length : Int)))) else (none)) else (none)) else (some false)) else (if x12 = 32 then ((impl_hasFunc.f x266000 x267001).bind fun t270 => (some t270)) else ((impl_OpName.f x267000).bind fun t271 => (if t271.toList = ([] : List UInt8) then (some false) else (some (x267001 == 0)))))
end
def impl_InsRight.f (k : Nat) (l0_0 : List (S55)) (a1 : Int) (a2_0 : Int) (a2_1 : Int) : Option (Bool) := (impl_hasFunc.f l0_0 a1).bind fun t267 => (if t267 = true then (if a2_0 = 1 then (some true) else (if a2_0 = 2 then (impl_InsRight.j0 k a1 a2_0 (a2_0 == 2) l0_0 a2_0 a2_1) else (impl_InsRight.j0 k a1 a2_0 (a2_0 == 3) l0_0 a2_0 a2_1))) else (some false))
theorem impl_InsRight.mono_l : ∀ k, (∀ y0 y1 y2 y3 y4 y5, LeO (impl_InsRight.j0 k y0 y1 y2 y3 y4 y5) (impl_InsRight.j0 (k + 1) y0 y1 y2 y3 y4 y5)) ∧ (∀ y0 y1 y2 y3 y4 y5, LeO (impl_InsRight.j1 k y0 y1 y2 y3 y4 y5) (impl_InsRight.j1 (k + 1) y0 y1 y2 y3 y4 y5))
 | 0 => ⟨fun _ _ _ _ _ _ r h => by simp [impl_InsRight.j0] at h, fun _ _ _ _ _ _ r h => by simp [impl_InsRight.j1] at h⟩
 | k + 1 => by
  obtain ⟨ih0, ih1⟩ := impl_InsRight.mono_l k
  refine ⟨?_, ?_⟩
  ·intro y0 y1 y2 y3 y4 y5
   unfold impl_InsRight.j0
   with_reducible repeat' first | exact ih0 .. | exact ih1 .. | exact LeO.refl _ | exact LeO.none _ | refine LeO.ite ?_ ?_ | refine LeO.bind ?_ (fun _ => ?_)
  ·intro y0 y1 y2 y3 y4 y5
   unfold impl_InsRight.j1
   with_reducible repeat' first | exact ih0 .. | exact ih1 .. | exact LeO.refl _ | exact LeO.none _ | refine LeO.ite ?_ ?_ | refine LeO.bind ?_ (fun _ => ?_)
theorem impl_InsRight.mono : ∀ a0 a1 a2 a3 k, LeO (impl_InsRight.f k a0 a1 a2 a3) (impl_InsRight.f (k + 1) a0 a1 a2 a3) := by
 intro a0 a1 a2 a3 k
 obtain ⟨ih0, ih1⟩ := impl_InsRight.mono_l k
 unfold impl_InsRight.f
 with_reducible repeat' first | exact ih0 .. | exact ih1 .. | exact LeO.refl _ | exact LeO.none _ | refine LeO.ite ?_ ?_ | refine LeO.bind ?_ (fun _ => ?_)
theorem impl_InsRight.calls (k : Nat) (A0_0 : Option Addr) (c0_0 : Nat) (l0_0 : List (S55)) (a1 : Int) (a2_0 : Int) (a2_1 : Int) (r : Bool) (w : World) (hr0_0 : Kd.C k55 w A0_0 l0_0.length l0_0) (hc0_0 : l0_0.length ≤ c0_0) (h : impl_InsRight.f k l0_0 a1 a2_0 a2_1 = some r) :
  Calls Try.prog 47 #[.agg #[.slice A0_0 l0_0.length c0_0], .int .i64 a1, .agg #[.int .i64 a2_0, .int .i64 a2_1]] w fun e w' => e = .returned (.bool r) ∧ Below w.heap.size w w' := by
 have hu34 := Try.underlying34
 have hu85 := Try.underlying85
 have HR0_0 := am hr0_0
 have HC0_0 := am hc0_0
 clear hr0_0 hc0_0
 have HB := am (Below.refl w.heap.size w)
 have H : ((impl_hasFunc.f l0_0 a1).bind fun t267 => (if t267 = true then (if a2_0 = 1 then (some true) else (if a2_0 = 2 then (impl_InsRight.j0 k a1 a2_0 (a2_0 == 2) l0_0 a2_0 a2_1) else (impl_InsRight.j0 k a1 a2_0 (a2_0 == 3) l0_0 a2_0 a2_1))) else (some false))) = some r := h
 clear h
 refine be H ?_; clear H; intro t267 A4 H
 have HC5 := am H
 clear H
 go_enter Try.func47, Try.ntmps47
 go_upto_if 10 with (first | ((with_reducible refine gate_dst (N := 3) rfl ?_); (try (refine gate_guard (by rfl) ?_; dsimp only)); refine box_event ?hg (N := 3) ?hd (cs := #[.slice A0_0 l0_0.length c0_0]) (t := 34) ?hr ?_; (case hd => rfl); (case hg => rfl); (case hr => exact gs); intro gb265 hg w6 hbox hb; have BK265 := am (hbox); have GW265 := gw hg HB; replace HB := bs HB hb; clear hb hbox hg) | ((with_reducible refine gate_dst (N := 5) rfl ?_); (try (refine gate_guard (by rfl) ?_; dsimp only)); refine box_event ?hg (N := 5) ?hd (cs := #[.int .i64 a2_0, .int .i64 a2_1]) (t := 85) ?hr ?_; (case hd => rfl); (case hg => rfl); (case hr => exact gs); intro gb266 hg w7 hbox hb; have BK266 := am (hbox); have GW266 := gw hg HB; replace HB := bs HB hb; obtain ⟨NB265_266, NB266_265, BK265⟩ := b3 hg BK265 hb; clear hb hbox hg; have hnb8 := NB265_266.out; have hnc8 := NB266_265.out; have hcz9 := bK w7 BK265; have hfz9 := bF BK265) | (go_at_call 36; refine (impl_hasFunc.calls _ _ l0_0 a1 t267 _ (cc (Kd.C_below HR0_0.out HB.out)) HC0_0.out A4.out).mono ?_; rintro e w10 ⟨rfl, hb⟩; replace BK265 := bb BK265 hb; replace BK266 := bb BK266 hb; replace HB := bs HB hb; clear hb))
 repeat (go_quiet (first | ((with_reducible refine gate_dst (N := 3) rfl ?_); (try (refine gate_guard (by rfl) ?_; dsimp only)); refine box_event ?hg (N := 3) ?hd (cs := #[.slice A0_0 l0_0.length c0_0]) (t := 34) ?hr ?_; (case hd => rfl); (case hg => rfl); (case hr => exact gs); intro gb265 hg w6 hbox hb; have BK265 := am (hbox); have GW265 := gw hg HB; replace HB := bs HB hb; clear hb hbox hg) | ((with_reducible refine gate_dst (N := 5) rfl ?_); (try (refine gate_guard (by rfl) ?_; dsimp only)); refine box_event ?hg (N := 5) ?hd (cs := #[.int .i64 a2_0, .int .i64 a2_1]) (t := 85) ?hr ?_; (case hd => rfl); (case hg => rfl); (case hr => exact gs); intro gb266 hg w7 hbox hb; have BK266 := am (hbox); have GW266 := gw hg HB; replace HB := bs HB hb; obtain ⟨NB265_266, NB266_265, BK265⟩ := b3 hg BK265 hb; clear hb hbox hg; have hnb8 := NB265_266.out; have hnc8 := NB266_265.out; have hcz9 := bK w7 BK265; have hfz9 := bF BK265) | (go_at_call 36; refine (impl_hasFunc.calls _ _ l0_0 a1 t267 _ (cc (Kd.C_below HR0_0.out HB.out)) HC0_0.out A4.out).mono ?_; rintro e w10 ⟨rfl, hb⟩; replace BK265 := bb BK265 hb; replace BK266 := bb BK266 hb; replace HB := bs HB hb; clear hb)); go_upto_if 10 with (first | ((with_reducible refine gate_dst (N := 3) rfl ?_); (try (refine gate_guard (by rfl) ?_; dsimp only)); refine box_event ?hg (N := 3) ?hd (cs := #[.slice A0_0 l0_0.length c0_0]) (t := 34) ?hr ?_; (case hd => rfl); (case hg => rfl); (case hr => exact gs); intro gb265 hg w6 hbox hb; have BK265 := am (hbox); have GW265 := gw hg HB; replace HB := bs HB hb; clear hb hbox hg) | ((with_reducible refine gate_dst (N := 5) rfl ?_); (try (refine gate_guard (by rfl) ?_; dsimp only)); refine box_event ?hg (N := 5) ?hd (cs := #[.int .i64 a2_0, .int .i64 a2_1]) (t := 85) ?hr ?_; (case hd => rfl); (case hg => rfl); (case hr => exact gs); intro gb266 hg w7 hbox hb; have BK266 := am (hbox); have GW266 := gw hg HB; replace HB := bs HB hb; obtain ⟨NB265_266, NB266_265, BK265⟩ := b3 hg BK265 hb; clear hb hbox hg; have hnb8 := NB265_266.out; have hnc8 := NB266_265.out; have hcz9 := bK w7 BK265; have hfz9 := bF BK265) | (go_at_call 36; refine (impl_hasFunc.calls _ _ l0_0 a1 t267 _ (cc (Kd.C_below HR0_0.out HB.out)) HC0_0.out A4.out).mono ?_; rintro e w10 ⟨rfl, hb⟩; replace BK265 := bb BK265 hb; replace BK266 := bb BK266 hb; replace HB := bs HB hb; clear hb)))
 (try simp only [Act.put, sa, sz, ss])
 have H := HC5.out
 clear HC5
 refine qT H ?_ ?_ <;> clear H <;> intro c11 H <;> subst c11
 ·refine qE H ?_ ?_ <;> clear H
  ·intro c12b0 c12b1 H
   (first | rw [c12b0] | (simp only [i64_w, i32_w]; rw [c12b0]) | skip)
   obtain rfl := Option.some.inj H
   have hnb13 := NB266_265.out
   have hnc13 := NB265_266.out
   have hcz14 := bK w10 BK266
   have hfz14 := bF BK266
   go_wp2
   repeat (go_quiet (fail); try go_wp2)
   go_ret
   exact ⟨er, bw HB⟩
  intro c12 c12b0 c12b1 H
  (first | rw [c12b0] | (simp only [i64_w, i32_w]; rw [c12b0]) | skip)
  have HC15 := am H
  clear H
  have hnb16 := NB266_265.out
  have hnc16 := NB265_266.out
  have hcz17 := bK w10 BK266
  have hfz17 := bF BK266
  go_upto_if 15 with (fail)
  repeat (go_quiet (fail); go_upto_if 15 with (fail))
  go_cut [15] (fun v15 wc => ∃ (kq : Nat) (x15_14 : Bool), v15 = .bool x15_14 ∧ Aside0 (impl_InsRight.j0 kq a1 a2_0 x15_14 l0_0 a2_0 a2_1 = some r) ∧ Aside0 (kq ≤ k) ∧ Aside0 (wc.heap[gb265]? = some (.cells #[(.slice A0_0 l0_0.length c0_0)] 34 (0, 0))) ∧ Aside0 (wc.heap[gb266]? = some (.cells #[.int .i64 a2_0, .int .i64 a2_1] 85 (0, 0))) ∧ Aside0 (Below w.heap.size w wc))
  case first =>
   have H := HC15.out
   clear HC15
   refine qE H ?_ ?_ <;> clear H
   ·intro c18b0 c18b1 H
    (first | rw [c18b0] | (simp only [i64_w, i32_w]; rw [c18b0]) | skip)
    have H' := am H
    clear H
    go_wp2
    repeat (go_quiet (fail); try go_wp2)
    go_meet
    case rel => exact ⟨_, ((a2_0 == 2)), dr, H', ⟨lk0⟩, ⟨bp BK265⟩, ⟨bp BK266⟩, ⟨bw HB⟩⟩
   intro c18 c18b0 c18b1 H
   (first | rw [c18b0] | (simp only [i64_w, i32_w]; rw [c18b0]) | skip)
   have H' := am H
   clear H
   go_wp2
   repeat (go_quiet (fail); try go_wp2)
   go_meet
   case rel => exact ⟨_, ((a2_0 == 3)), dr, H', ⟨lk0⟩, ⟨bp BK265⟩, ⟨bp BK266⟩, ⟨bw HB⟩⟩
  clear HC15
  (try clear c1); (try clear p2); (try clear c4); (try clear c8); (try clear c11); (try clear c12); (try clear c12b0); (try clear c12b1); (try clear c13); (try clear c16); (try clear c18); (try clear c18b0); (try clear c18b1); (try clear hcz14); (try clear hcz17); (try clear hcz9); (try clear hfz14); (try clear hfz17); (try clear hfz9)
  obtain ⟨kq, x15_14, rfl, HA, HJ14, BK265, BK266, HB⟩ := hcut
  rcases kq with _ | kj14
  ·exact absurd HA.out (by simp [impl_InsRight.j0])
  have H := HA.out
  clear HA
  simp only [impl_InsRight.j0] at H
  refine qT H ?_ ?_ <;> clear H <;> intro c19 H <;> subst c19
  ·refine qL H ?_ ?_ <;> clear H <;> intro c20b0 H
   ·refine iM H ?_; clear H; intro c21b0 H
    refine iM H ?_; clear H; intro c22b0 H
    obtain rfl := Option.some.inj H
    have hnb23 := NB266_265.out
    have hnc23 := NB265_266.out
    have hcz24 := bK wc BK266
    have hfz24 := bF BK266
    have hcz25 := bK wc BK265
    have hfz25 := bF BK265
    have p268 : 0 ≤ (a1 : Int) := of_decide_eq_true as1
    have q268 : a1 < (l0_0.length : Int) := of_decide_eq_true as1
    obtain ⟨ad268, A268_2, c268_2, e268, hx268_0, hx268_1, hx268_2, hl268_2, hi268_2⟩ := at_T55 HR0_0.out a1 p268 q268
    cases e268
    replace hx268_0 := cl HB hx268_0
    replace hx268_1 := cl HB hx268_1
    replace hx268_2 := cl HB hx268_2
    have HR268_2 := am hi268_2
    have HC268_2 := am hl268_2
    clear hi268_2 hl268_2
    replace p268 := eq_true p268
    replace q268 := eq_true q268
    go_wp2
    repeat (go_quiet (fail); try go_wp2)
    go_ret
    exact ⟨er, bw HB⟩
   obtain rfl := Option.some.inj H
   have hnb26 := NB266_265.out
   have hnc26 := NB265_266.out
   have hcz27 := bK wc BK266
   have hfz27 := bF BK266
   go_wp2
   repeat (go_quiet (fail); try go_wp2)
   go_ret
   exact ⟨er, bw HB⟩
  have HC28 := am H
  clear H
  go_upto_if 32 with (fail)
  repeat (go_quiet (fail); go_upto_if 32 with (fail))
  go_cut [32] (fun v32 wc => ∃ (kq : Nat) (x32_27 : Bool), v32 = .bool x32_27 ∧ Aside0 (impl_InsRight.j1 kq a1 a2_0 x32_27 l0_0 a2_0 a2_1 = some r) ∧ Aside0 (kq ≤ kj14) ∧ Aside0 (wc.heap[gb265]? = some (.cells #[(.slice A0_0 l0_0.length c0_0)] 34 (0, 0))) ∧ Aside0 (wc.heap[gb266]? = some (.cells #[.int .i64 a2_0, .int .i64 a2_1] 85 (0, 0))) ∧ Aside0 (Below w.heap.size w wc))
  case first =>
   have H := HC28.out
   clear HC28
   refine qE H ?_ ?_ <;> clear H
   ·intro c29b0 c29b1 H
    (first | rw [c29b0] | (simp only [i64_w, i32_w]; rw [c29b0]) | skip)
    have H' := am H
    clear H
    go_wp2
    repeat (go_quiet (fail); try go_wp2)
    go_meet
    case rel => exact ⟨_, ((a2_0 == 30)), dr, H', ⟨lk1 HJ14⟩, ⟨bp BK265⟩, ⟨bp BK266⟩, ⟨bw HB⟩⟩
   intro c29 c29b0 c29b1 H
   (first | rw [c29b0] | (simp only [i64_w, i32_w]; rw [c29b0]) | skip)
   have H' := am H
   clear H
   go_wp2
   repeat (go_quiet (fail); try go_wp2)
   go_meet
   case rel => exact ⟨_, ((a2_0 == 31)), dr, H', ⟨lk1 HJ14⟩, ⟨bp BK265⟩, ⟨bp BK266⟩, ⟨bw HB⟩⟩
  clear HC28
  (try clear c2); (try clear q2); (try clear hx2); (try clear c19); (try clear c20); (try clear c20b0); (try clear c21); (try clear c21b0); (try clear c22); (try clear c22b0); (try clear c23); (try clear c26); (try clear p26); (try clear q26); (try clear hx26); (try clear c29); (try clear c29b0); (try clear c29b1); (try clear hcz24); (try clear hcz25); (try clear hcz27); (try clear hfz24); (try clear hfz25); (try clear hfz27); (try clear hx268_0); (try clear hx268_1); (try clear hx268_2); (try clear p268); (try clear q268)
  obtain ⟨kq, x32_27, rfl, HA, HJ27, BK265, BK266, HB⟩ := hcut
  rcases kq with _ | kj27
  ·exact absurd HA.out (by simp [impl_InsRight.j1])
  have H := HA.out
  clear HA
  simp only [impl_InsRight.j1] at H
  refine qT H ?_ ?_ <;> clear H <;> intro c30 H <;> subst c30
  ·refine qL H ?_ ?_ <;> clear H <;> intro c31b0 H
   ·refine iM H ?_; clear H; intro c32b0 H
    refine iM H ?_; clear H; intro c33b0 H
    obtain rfl := Option.some.inj H
    have hnb34 := NB266_265.out
    have hnc34 := NB265_266.out
    have hcz35 := bK wc BK266
    have hfz35 := bF BK266
    have hcz36 := bK wc BK265
    have hfz36 := bF BK265
    have p269 : 0 ≤ (a1 : Int) := of_decide_eq_true as1
    have q269 : a1 < (l0_0.length : Int) := of_decide_eq_true as1
    obtain ⟨ad269, A269_2, c269_2, e269, hx269_0, hx269_1, hx269_2, hl269_2, hi269_2⟩ := at_T55 HR0_0.out a1 p269 q269
    cases e269
    replace hx269_0 := cl HB hx269_0
    replace hx269_1 := cl HB hx269_1
    replace hx269_2 := cl HB hx269_2
    have HR269_2 := am hi269_2
    have HC269_2 := am hl269_2
    clear hi269_2 hl269_2
    replace p269 := eq_true p269
    replace q269 := eq_true q269
    go_wp2
    repeat (go_quiet (fail); try go_wp2)
    go_ret
    exact ⟨er, bw HB⟩
   obtain rfl := Option.some.inj H
   have hnb37 := NB266_265.out
   have hnc37 := NB265_266.out
   have hcz38 := bK wc BK266
   have hfz38 := bF BK266
   go_wp2
   repeat (go_quiet (fail); try go_wp2)
   go_ret
   exact ⟨er, bw HB⟩
  refine qE H ?_ ?_ <;> clear H
  ·intro c39b0 c39b1 H
   refine be H ?_; clear H; intro t270 A40 H
   obtain rfl := Option.some.inj H
   have hnb41 := NB265_266.out
   have hnc41 := NB266_265.out
   have hcz42 := bK wc BK265
   have hfz42 := bF BK265
   have hcz43 := bK wc BK266
   have hfz43 := bF BK266
   go_wp2_with (first | (go_at_call 36; refine (impl_hasFunc.calls _ _ l0_0 a2_1 t270 _ (cc (Kd.C_below HR0_0.out HB.out)) HC0_0.out A40.out).mono ?_; rintro e w44 ⟨rfl, hb⟩; replace BK265 := bb BK265 hb; replace BK266 := bb BK266 hb; replace HB := bs HB hb; clear hb))
   repeat (go_quiet (first | (go_at_call 36; refine (impl_hasFunc.calls _ _ l0_0 a2_1 t270 _ (cc (Kd.C_below HR0_0.out HB.out)) HC0_0.out A40.out).mono ?_; rintro e w44 ⟨rfl, hb⟩; replace BK265 := bb BK265 hb; replace BK266 := bb BK266 hb; replace HB := bs HB hb; clear hb)); try go_wp2_with (first | (go_at_call 36; refine (impl_hasFunc.calls _ _ l0_0 a2_1 t270 _ (cc (Kd.C_below HR0_0.out HB.out)) HC0_0.out A40.out).mono ?_; rintro e w44 ⟨rfl, hb⟩; replace BK265 := bb BK265 hb; replace BK266 := bb BK266 hb; replace HB := bs HB hb; clear hb)))
   go_ret
   exact ⟨er, bw HB⟩
  intro c39 c39b0 c39b1 H
  refine be H ?_; clear H; intro t271 A45 H
  by_cases c46 : t271.toList = ([] : List UInt8)
  ·rw [if_pos c46] at H
   have c46b0 : (t271.toList == ([] : List UInt8)) = true := beq_iff_eq.mpr c46
   have c46b1 : (t271.toList != ([] : List UInt8)) = false := bne_eq_false_iff_eq.mpr c46
   clear c46
   obtain rfl := Option.some.inj H
   have hnb47 := NB266_265.out
   have hnc47 := NB265_266.out
   have hcz48 := bK wc BK266
   have hfz48 := bF BK266
   go_wp2_with (first | (go_at_call 51; (with_reducible refine (impl_OpName.calls a2_0 t271 _ A45.out).mono ?_); rintro e w49 ⟨rfl, hb⟩; replace BK265 := bb BK265 hb; replace BK266 := bb BK266 hb; replace HB := bs HB hb; clear hb))
   repeat (go_quiet (first | (go_at_call 51; (with_reducible refine (impl_OpName.calls a2_0 t271 _ A45.out).mono ?_); rintro e w49 ⟨rfl, hb⟩; replace BK265 := bb BK265 hb; replace BK266 := bb BK266 hb; replace HB := bs HB hb; clear hb)); try go_wp2_with (first | (go_at_call 51; (with_reducible refine (impl_OpName.calls a2_0 t271 _ A45.out).mono ?_); rintro e w49 ⟨rfl, hb⟩; replace BK265 := bb BK265 hb; replace BK266 := bb BK266 hb; replace HB := bs HB hb; clear hb)))
   go_ret
   exact ⟨er, bw HB⟩
  rw [if_neg c46] at H
  have c46b0 : (t271.toList == ([] : List UInt8)) = false := beq_eq_false_iff_ne.mpr c46
  have c46b1 : (t271.toList != ([] : List UInt8)) = true := bne_iff_ne.mpr c46
  obtain rfl := Option.some.inj H
  have hnb50 := NB266_265.out
  have hnc50 := NB265_266.out
  have hcz51 := bK wc BK266
  have hfz51 := bF BK266
  go_wp2_with (first | (go_at_call 51; (with_reducible refine (impl_OpName.calls a2_0 t271 _ A45.out).mono ?_); rintro e w52 ⟨rfl, hb⟩; replace BK265 := bb BK265 hb; replace BK266 := bb BK266 hb; replace HB := bs HB hb; clear hb; have hcz53 := bK w52 BK266; have hfz53 := bF BK266))
  repeat (go_quiet (first | (go_at_call 51; (with_reducible refine (impl_OpName.calls a2_0 t271 _ A45.out).mono ?_); rintro e w52 ⟨rfl, hb⟩; replace BK265 := bb BK265 hb; replace BK266 := bb BK266 hb; replace HB := bs HB hb; clear hb; have hcz53 := bK w52 BK266; have hfz53 := bF BK266)); try go_wp2_with (first | (go_at_call 51; (with_reducible refine (impl_OpName.calls a2_0 t271 _ A45.out).mono ?_); rintro e w52 ⟨rfl, hb⟩; replace BK265 := bb BK265 hb; replace BK266 := bb BK266 hb; replace HB := bs HB hb; clear hb; have hcz53 := bK w52 BK266; have hfz53 := bF BK266)))
  go_ret
  exact ⟨er, bw HB⟩
 obtain rfl := Option.some.inj H
 go_wp2
 repeat (go_quiet (fail); try go_wp2)
 go_ret
 exact ⟨er, bw HB⟩

def impl_isBinary.f (a0 : Int) : Option (Bool) := (impl_in.f a0 10 23).bind fun t272 => (some t272)
theorem impl_isBinary.calls (a0 : Int) (r : Bool) (w : World) (h : impl_isBinary.f a0 = some r) :
  Calls Try.prog 58 #[.int .i64 a0] w fun e w' => e = .returned (.bool r) ∧ Drawn0 w w' := by
 have H : ((impl_in.f a0 10 23).bind fun t272 => (some t272)) = some r := h
 clear h
 refine be H ?_; clear H; intro t272 A2 H
 obtain rfl := Option.some.inj H
 go_enter Try.func58, Try.ntmps58
 go_wp2_with (first | ((with_reducible refine gate_callee (f := 21) rfl ?_); refine goesL_ (some 4) rfl rfl Try.func21 (by kernel_rfl) rfl #[.int .i64 a0, .int .i64 10, .int .i64 23] rfl gl ?_; (with_reducible refine (impl_in.calls a0 10 23 t272 _ A2.out).mono ?_); rintro e w' ⟨rfl, ⟨nd, rfl⟩⟩; refine ⟨_, rfl, ?_⟩))
 go_ret
 exact ⟨by first | rfl | (simp; done) | (simp [*]; done), by repeat (first | exact Drawn0.refl _ | apply Drawn0.step)⟩

def impl_isUnary.f (a0 : Int) : Option (Bool) := (impl_in.f a0 24 29).bind fun t273 => (some t273)
theorem impl_isUnary.calls (a0 : Int) (r : Bool) (w : World) (h : impl_isUnary.f a0 = some r) :
  Calls Try.prog 59 #[.int .i64 a0] w fun e w' => e = .returned (.bool r) ∧ Drawn0 w w' := by
 have H : ((impl_in.f a0 24 29).bind fun t273 => (some t273)) = some r := h
 clear h
 refine be H ?_; clear H; intro t273 A2 H
 obtain rfl := Option.some.inj H
 go_enter Try.func59, Try.ntmps59
 go_wp2_with (first | ((with_reducible refine gate_callee (f := 21) rfl ?_); refine goesL_ (some 4) rfl rfl Try.func21 (by kernel_rfl) rfl #[.int .i64 a0, .int .i64 24, .int .i64 29] rfl gl ?_; (with_reducible refine (impl_in.calls a0 24 29 t273 _ A2.out).mono ?_); rintro e w' ⟨rfl, ⟨nd, rfl⟩⟩; refine ⟨_, rfl, ?_⟩))
 go_ret
 exact ⟨by first | rfl | (simp; done) | (simp [*]; done), by repeat (first | exact Drawn0.refl _ | apply Drawn0.step)⟩

mutual
def impl_Takes.j0 : Nat → Bool → List (S55) → Int → Int → Option (Int)
 | 0, _, _, _, _ => none
 | k + 1, x5, x275000, x276000, x276001 => if x5 = true then (some 2) else (if x276000 = 36 then (some 3) else (if x276000 = 32 then ((impl_hasFunc.f x275000 x276001).bind fun t277 => (if t277 = true then (if 0 ≤ x276001 then (if x276001 < (x275000.length : Int) then (some ((rd_T55 x275000 x276001).f0)) else (none)) else (none)) else (some 0))) else ((impl_isUnary.f x276000).bind fun t279 => (if t279 = true then (some 1) else (if x276000 = 3 then (impl_Takes.j1 k (x276000 == 3)) else (if x276000 = 4 then (impl_Takes.j1 k (x276000 == 4)) else (if x276000 = 5 then (impl_Takes.j1 k (x276000 == 5)) else (if x276000 = 31 then (impl_Takes.j1 k (x276000 == 31)) else (if x276000 = 33 then (impl_Takes.j1 k (x276000 == 33)) else (if x276000 = 34 then (impl_Takes.j1 k (x276000 == 34)) else (if x276000 = 37 then (impl_Takes.j1 k (x276000 == 37)) else (impl_Takes.j1 k (x276000 == 38)))))))))))))
def impl_Takes.j1 : Nat → Bool → Option (Int)
 | 0, _ => none
 | k + 1, x37 => if x37 = true then (some 1) else (some 0)
end
def impl_Takes.f (k : Nat) (l0_0 : List (S55)) (a1_0 : Int) (a1_1 : Int) : Option (Int) := (impl_isBinary.f a1_0).bind fun t276 => (if t276 = true then (impl_Takes.j0 k t276 l0_0 a1_0 a1_1) else (impl_Takes.j0 k (a1_0 == 35) l0_0 a1_0 a1_1))
theorem impl_Takes.mono_l : ∀ k, (∀ y0 y1 y2 y3, LeO (impl_Takes.j0 k y0 y1 y2 y3) (impl_Takes.j0 (k + 1) y0 y1 y2 y3)) ∧ (∀ y0, LeO (impl_Takes.j1 k y0) (impl_Takes.j1 (k + 1) y0))
 | 0 => ⟨fun _ _ _ _ r h => by simp [impl_Takes.j0] at h, fun _ r h => by simp [impl_Takes.j1] at h⟩
 | k + 1 => by
  obtain ⟨ih0, ih1⟩ := impl_Takes.mono_l k
  refine ⟨?_, ?_⟩
  ·intro y0 y1 y2 y3
   unfold impl_Takes.j0
   with_reducible repeat' first | exact ih0 .. | exact ih1 .. | exact LeO.refl _ | exact LeO.none _ | refine LeO.ite ?_ ?_ | refine LeO.bind ?_ (fun _ => ?_)
  ·intro y0
   unfold impl_Takes.j1
   with_reducible repeat' first | exact ih0 .. | exact ih1 .. | exact LeO.refl _ | exact LeO.none _ | refine LeO.ite ?_ ?_ | refine LeO.bind ?_ (fun _ => ?_)
theorem impl_Takes.mono : ∀ a0 a1 a2 k, LeO (impl_Takes.f k a0 a1 a2) (impl_Takes.f (k + 1) a0 a1 a2) := by
 intro a0 a1 a2 k
 obtain ⟨ih0, ih1⟩ := impl_Takes.mono_l k
 unfold impl_Takes.f
 with_reducible repeat' first | exact ih0 .. | exact ih1 .. | exact LeO.refl _ | exact LeO.none _ | refine LeO.ite ?_ ?_ | refine LeO.bind ?_ (fun _ => ?_)
theorem impl_Takes.calls (k : Nat) (A0_0 : Option Addr) (c0_0 : Nat) (l0_0 : List (S55)) (a1_0 : Int) (a1_1 : Int) (r : Int) (w : World) (hr0_0 : Kd.C k55 w A0_0 l0_0.length l0_0) (hc0_0 : l0_0.length ≤ c0_0) (h : impl_Takes.f k l0_0 a1_0 a1_1 = some r) :
  Calls Try.prog 52 #[.agg #[.slice A0_0 l0_0.length c0_0], .agg #[.int .i64 a1_0, .int .i64 a1_1]] w fun e w' => e = .returned (.int .i64 r) ∧ Below w.heap.size w w' := by
 have hu34 := Try.underlying34
 have hu85 := Try.underlying85
 have HR0_0 := am hr0_0
 have HC0_0 := am hc0_0
 clear hr0_0 hc0_0
 have HB := am (Below.refl w.heap.size w)
 have H : ((impl_isBinary.f a1_0).bind fun t276 => (if t276 = true then (impl_Takes.j0 k t276 l0_0 a1_0 a1_1) else (impl_Takes.j0 k (a1_0 == 35) l0_0 a1_0 a1_1))) = some r := h
 clear h
 refine be H ?_; clear H; intro t276 A3 H
 have HC4 := am H
 clear H
 go_enter Try.func52, Try.ntmps52
 go_upto_if 5 with (first | ((with_reducible refine gd 2 rfl ?_); refine bX 2 #[.slice A0_0 l0_0.length c0_0] 34 HB ?_; clear HB; intro gb274 w5 hg hb BK274 GW274 HB; clear hb hg) | ((with_reducible refine gd 3 rfl ?_); refine bX 3 #[.int .i64 a1_0, .int .i64 a1_1] 85 HB ?_; clear HB; intro gb275 w6 hg hb BK275 GW275 HB; obtain ⟨NB274_275, NB275_274, BK274⟩ := b3 hg BK274 hb; clear hb hg; have hnb7 := NB275_274.out; have hnc7 := NB274_275.out; have hcz8 := bK w6 BK275; have hfz8 := bF BK275) | ((with_reducible refine gate_callee (f := 58) rfl ?_); refine goesL_ (some 8) rfl rfl Try.func58 (by kernel_rfl) rfl #[.int .i64 a1_0] rfl gl ?_; (with_reducible refine (impl_isBinary.calls a1_0 t276 _ A3.out).mono ?_); rintro e w' ⟨rfl, ⟨nd, rfl⟩⟩; refine ⟨_, rfl, ?_⟩))
 (try simp only [Act.put, sa, sz, ss])
 go_cut [5] (fun v5 wc => ∃ (kq : Nat) (x5_3 : Bool), v5 = .bool x5_3 ∧ Aside0 (impl_Takes.j0 kq x5_3 l0_0 a1_0 a1_1 = some r) ∧ Aside0 (kq ≤ k) ∧ Aside0 (wc.heap[gb274]? = some (.cells #[(.slice A0_0 l0_0.length c0_0)] 34 (0, 0))) ∧ Aside0 (wc.heap[gb275]? = some (.cells #[.int .i64 a1_0, .int .i64 a1_1] 85 (0, 0))) ∧ Aside0 (Below w.heap.size w wc))
 case first =>
  have H := HC4.out
  clear HC4
  refine qT H ?_ ?_ <;> clear H <;> intro c9 H <;> subst c9
  ·have H' := am H
   clear H
   go_wp2
   go_meet
   case rel => exact ⟨_, (true), dr, H', ⟨lk0⟩, ⟨bp BK274⟩, ⟨bp BK275⟩, ⟨bw HB⟩⟩
  have H' := am H
  clear H
  have hnb10 := NB275_274.out
  have hnc10 := NB274_275.out
  have hcz11 := bK w6 BK275
  have hfz11 := bF BK275
  go_wp2
  go_meet
  case rel => exact ⟨_, ((a1_0 == 35)), dr, H', ⟨lk0⟩, ⟨bp BK274⟩, ⟨bp BK275⟩, ⟨bw HB⟩⟩
 clear HC4
 (try clear c1); (try clear p2); (try clear c5); (try clear c7); (try clear c9); (try clear c10); (try clear hcz11); (try clear hcz8); (try clear hfz11); (try clear hfz8)
 obtain ⟨kq, x5_3, rfl, HA, HJ3, BK274, BK275, HB⟩ := hcut
 rcases kq with _ | kj3
 ·exact absurd HA.out (by simp [impl_Takes.j0])
 have H := HA.out
 clear HA
 simp only [impl_Takes.j0] at H
 refine qT H ?_ ?_ <;> clear H <;> intro c12 H <;> subst c12
 ·obtain rfl := Option.some.inj H
  go_wp2
  go_ret
  exact ⟨er, bw HB⟩
 refine qE H ?_ ?_ <;> clear H
 ·intro c13b0 c13b1 H
  obtain rfl := Option.some.inj H
  have hnb14 := NB275_274.out
  have hnc14 := NB274_275.out
  have hcz15 := bK wc BK275
  have hfz15 := bF BK275
  go_wp2
  go_ret
  exact ⟨er, bw HB⟩
 intro c13 c13b0 c13b1 H
 refine qE H ?_ ?_ <;> clear H
 ·intro c16b0 c16b1 H
  refine be H ?_; clear H; intro t277 A17 H
  have HC18 := am H
  clear H
  have hnb19 := NB275_274.out
  have hnc19 := NB274_275.out
  have hcz20 := bK wc BK275
  have hfz20 := bF BK275
  have hcz21 := bK wc BK274
  have hfz21 := bF BK274
  go_upto_if 23 with (first | ((with_reducible refine gk 36 rfl ?_); refine gB 36 (some 23) Try.func36 #[.agg #[.slice A0_0 l0_0.length c0_0], .int .i64 a1_1] (impl_hasFunc.calls _ _ l0_0 a1_1 t277 _ (cc (Kd.C_below HR0_0.out HB.out)) HC0_0.out A17.out) ?_; intro w22 hb; replace BK274 := bb BK274 hb; replace BK275 := bb BK275 hb; replace HB := bs HB hb; clear hb))
  (try simp only [Act.put, sa, sz, ss])
  have H := HC18.out
  clear HC18
  refine qT H ?_ ?_ <;> clear H <;> intro c23 H <;> subst c23
  ·refine iM H ?_; clear H; intro c24b0 H
   (first | rw [c24b0] | (simp only [i64_w, i32_w]; rw [c24b0]) | skip)
   refine iM H ?_; clear H; intro c25b0 H
   obtain rfl := Option.some.inj H
   have hnb26 := NB274_275.out
   have hnc26 := NB275_274.out
   have hcz27 := bK w22 BK274
   have hfz27 := bF BK274
   have hcz28 := bK w22 BK275
   have hfz28 := bF BK275
   have p278 : 0 ≤ (a1_1 : Int) := of_decide_eq_true as1
   have q278 : a1_1 < (l0_0.length : Int) := of_decide_eq_true as1
   obtain ⟨ad278, A278_2, c278_2, e278, hx278_0, hx278_1, hx278_2, hl278_2, hi278_2⟩ := at_T55 HR0_0.out a1_1 p278 q278
   cases e278
   replace hx278_0 := cl HB hx278_0
   replace hx278_1 := cl HB hx278_1
   replace hx278_2 := cl HB hx278_2
   have HR278_2 := am hi278_2
   have HC278_2 := am hl278_2
   clear hi278_2 hl278_2
   replace p278 := eq_true p278
   replace q278 := eq_true q278
   go_wp2
   go_ret
   exact ⟨er, bw HB⟩
  obtain rfl := Option.some.inj H
  go_wp2
  go_ret
  exact ⟨er, bw HB⟩
 intro c16 c16b0 c16b1 H
 refine be H ?_; clear H; intro t279 A29 H
 have HC30 := am H
 clear H
 have hnb31 := NB275_274.out
 have hnc31 := NB274_275.out
 have hcz32 := bK wc BK275
 have hfz32 := bF BK275
 go_upto_if 31 with (first | ((with_reducible refine gate_callee (f := 59) rfl ?_); refine goesL_ (some 34) rfl rfl Try.func59 (by kernel_rfl) rfl #[.int .i64 a1_0] rfl gl ?_; (with_reducible refine (impl_isUnary.calls a1_0 t279 _ A29.out).mono ?_); rintro e w' ⟨rfl, ⟨nd, rfl⟩⟩; refine ⟨_, rfl, ?_⟩))
 (try simp only [Act.put, sa, sz, ss])
 (try simp only [World.drewN_drewN])
 generalize hq_ : World.drewN wc _ = w33
 replace BK274 : Aside0 (w33.heap[gb274]? = some (.cells #[.slice A0_0 l0_0.length c0_0] 34 (0, 0))) := ⟨by rw [← hq_]; exact (bp BK274)⟩
 replace BK275 : Aside0 (w33.heap[gb275]? = some (.cells #[.int .i64 a1_0, .int .i64 a1_1] 85 (0, 0))) := ⟨by rw [← hq_]; exact (bp BK275)⟩
 replace HB : Aside0 (Below w.heap.size w w33) := ⟨by rw [← hq_]; exact (bw HB)⟩
 clear hq_
 have H := HC30.out
 clear HC30
 refine qT H ?_ ?_ <;> clear H <;> intro c34 H <;> subst c34
 ·obtain rfl := Option.some.inj H
  go_wp2
  go_ret
  exact ⟨er, bw HB⟩
 have HC35 := am H
 clear H
 have hnb36 := NB275_274.out
 have hnc36 := NB274_275.out
 have hcz37 := bK w33 BK275
 have hfz37 := bF BK275
 go_upto_if 37 with (fail)
 go_cut [37] (fun v37 wc => ∃ (kq : Nat) (x37_34 : Bool), v37 = .bool x37_34 ∧ Aside0 (impl_Takes.j1 kq x37_34 = some r) ∧ Aside0 (kq ≤ kj3) ∧ Aside0 (wc.heap[gb274]? = some (.cells #[(.slice A0_0 l0_0.length c0_0)] 34 (0, 0))) ∧ Aside0 (wc.heap[gb275]? = some (.cells #[.int .i64 a1_0, .int .i64 a1_1] 85 (0, 0))) ∧ Aside0 (Below w.heap.size w wc))
 case first =>
  have H := HC35.out
  clear HC35
  refine qE H ?_ ?_ <;> clear H
  ·intro c38b0 c38b1 H
   (first | rw [c38b0] | (simp only [i64_w, i32_w]; rw [c38b0]) | skip)
   have H' := am H
   clear H
   go_wp2
   go_meet
   case rel => exact ⟨_, ((a1_0 == 3)), dr, H', ⟨lk1 HJ3⟩, ⟨bp BK274⟩, ⟨bp BK275⟩, ⟨bw HB⟩⟩
  intro c38 c38b0 c38b1 H
  (first | rw [c38b0] | (simp only [i64_w, i32_w]; rw [c38b0]) | skip)
  refine qE H ?_ ?_ <;> clear H
  ·intro c39b0 c39b1 H
   have H' := am H
   clear H
   go_wp2
   go_meet
   case rel => exact ⟨_, ((a1_0 == 4)), dr, H', ⟨lk1 HJ3⟩, ⟨bp BK274⟩, ⟨bp BK275⟩, ⟨bw HB⟩⟩
  intro c39 c39b0 c39b1 H
  refine qE H ?_ ?_ <;> clear H
  ·intro c40b0 c40b1 H
   have H' := am H
   clear H
   go_wp2
   go_meet
   case rel => exact ⟨_, ((a1_0 == 5)), dr, H', ⟨lk1 HJ3⟩, ⟨bp BK274⟩, ⟨bp BK275⟩, ⟨bw HB⟩⟩
  intro c40 c40b0 c40b1 H
  refine qE H ?_ ?_ <;> clear H
  ·intro c41b0 c41b1 H
   have H' := am H
   clear H
   go_wp2
   go_meet
   case rel => exact ⟨_, ((a1_0 == 31)), dr, H', ⟨lk1 HJ3⟩, ⟨bp BK274⟩, ⟨bp BK275⟩, ⟨bw HB⟩⟩
  intro c41 c41b0 c41b1 H
  refine qE H ?_ ?_ <;> clear H
  ·intro c42b0 c42b1 H
   have H' := am H
   clear H
   go_wp2
   go_meet
   case rel => exact ⟨_, ((a1_0 == 33)), dr, H', ⟨lk1 HJ3⟩, ⟨bp BK274⟩, ⟨bp BK275⟩, ⟨bw HB⟩⟩
  intro c42 c42b0 c42b1 H
  refine qE H ?_ ?_ <;> clear H
  ·intro c43b0 c43b1 H
   have H' := am H
   clear H
   go_wp2
   go_meet
   case rel => exact ⟨_, ((a1_0 == 34)), dr, H', ⟨lk1 HJ3⟩, ⟨bp BK274⟩, ⟨bp BK275⟩, ⟨bw HB⟩⟩
  intro c43 c43b0 c43b1 H
  refine qE H ?_ ?_ <;> clear H
  ·intro c44b0 c44b1 H
   have H' := am H
   clear H
   go_wp2
   go_meet
   case rel => exact ⟨_, ((a1_0 == 37)), dr, H', ⟨lk1 HJ3⟩, ⟨bp BK274⟩, ⟨bp BK275⟩, ⟨bw HB⟩⟩
  intro c44 c44b0 c44b1 H
  have H' := am H
  clear H
  go_wp2
  go_meet
  case rel => exact ⟨_, ((a1_0 == 38)), dr, H', ⟨lk1 HJ3⟩, ⟨bp BK274⟩, ⟨bp BK275⟩, ⟨bw HB⟩⟩
 clear HC35
 (try clear c2); (try clear q2); (try clear hx2); (try clear c3); (try clear c4); (try clear c12); (try clear c13); (try clear c13b0); (try clear c13b1); (try clear c14); (try clear c16); (try clear c16b0); (try clear c16b1); (try clear c19); (try clear c23); (try clear c24); (try clear c24b0); (try clear c25); (try clear c25b0); (try clear c26); (try clear c27); (try clear p27); (try clear q27); (try clear hx27); (try clear c31); (try clear c34); (try clear c36); (try clear c38); (try clear c38b0); (try clear c38b1); (try clear c39); (try clear c39b0); (try clear c39b1); (try clear c40); (try clear c40b0); (try clear c40b1); (try clear c41); (try clear c41b0); (try clear c41b1); (try clear c42); (try clear c42b0); (try clear c42b1); (try clear c43); (try clear c43b0); (try clear c43b1); (try clear c44); (try clear c44b0); (try clear c44b1); (try clear hcz15); (try clear hcz20); (try clear hcz21); (try clear hcz27); (try clear hcz28); (try clear hcz32); (try clear hcz37); (try clear hfz15); (try clear hfz20); (try clear hfz21); (try clear hfz27); (try clear hfz28); (try clear hfz32); (try clear hfz37); (try clear hx278_0); (try clear hx278_1); (try clear hx278_2); (try clear p278); (try clear q278)
 obtain ⟨kq, x37_34, rfl, HA, HJ34, BK274, BK275, HB⟩ := hcut
 rcases kq with _ | kj34
 ·exact absurd HA.out (by simp [impl_Takes.j1])
 have H := HA.out
 clear HA
 simp only [impl_Takes.j1] at H
 refine qT H ?_ ?_ <;> clear H <;> intro c45 H <;> subst c45
 ·obtain rfl := Option.some.inj H
  go_wp2
  go_ret
  exact ⟨er, bw HB⟩
 obtain rfl := Option.some.inj H
 go_wp2
 go_ret
 exact ⟨er, bw HB⟩

def impl_isArith.f (a0 : Int) : Option (Bool) := (impl_in.f a0 10 29).bind fun t280 => (some t280)
theorem impl_isArith.calls (a0 : Int) (r : Bool) (w : World) (h : impl_isArith.f a0 = some r) :
  Calls Try.prog 60 #[.int .i64 a0] w fun e w' => e = .returned (.bool r) ∧ Drawn0 w w' := by
 have H : ((impl_in.f a0 10 29).bind fun t280 => (some t280)) = some r := h
 clear h
 refine be H ?_; clear H; intro t280 A2 H
 obtain rfl := Option.some.inj H
 go_enter Try.func60, Try.ntmps60
 go_wp2_with (first | ((with_reducible refine gate_callee (f := 21) rfl ?_); refine goesL_ (some 4) rfl rfl Try.func21 (by kernel_rfl) rfl #[.int .i64 a0, .int .i64 10, .int .i64 29] rfl gl ?_; (with_reducible refine (impl_in.calls a0 10 29 t280 _ A2.out).mono ?_); rintro e w' ⟨rfl, ⟨nd, rfl⟩⟩; refine ⟨_, rfl, ?_⟩))
 go_ret
 exact ⟨by first | rfl | (simp; done) | (simp [*]; done), by repeat (first | exact Drawn0.refl _ | apply Drawn0.step)⟩

end Go.Proofs.Ytoegdbeajgddiaa.QFnExactBegin
