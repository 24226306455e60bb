import Derived.Test.YtbmjmaahcaoajaaCFnExactStateRightx0
import Derived.Test.YtbmjmaahcaoajaaCFnExactStateRightx13
import Derived.Test.YtbmjmaahcaoajaaCFnExactStateRightx14
import Derived.Test.YtbmjmaahcaoajaaCFnExactStateRightx16
namespace Go.Proofs.Ytbmjmaahcaoajaa.QFnExactStateRight
open Go.RowKit Go.Proofs.YtbmjmaahcaoajaaW
open PrintWords PrintLast PrintMore PrintShort
attribute [local go_sem] max2_int min2_int max_two min_two max_three min_three max_four min_four   -- for this text's walks alone
set_option linter.unusedVariables false
set_option maxHeartbeats 8000000
set_option maxRecDepth 100000
set_option linter.unusedSimpArgs false

mutual
def impl_verify.j0 : Nat → Bool → List (S100) → Option (Int × Int × Int × (List (List Int)))
 | 0, _, _ => none
 | k + 1, x21, x407000 => if x21 = true then (some (0, 0, 1, ([] : List (List Int)))) else (impl_verify.l0 k ([] : List (List Int)) x407000 (x407000.length : Int) 0 x407000)
def impl_verify.l0 : Nat → List (List Int) → List (S100) → Int → Int → List (S100) → Option (Int × Int × Int × (List (List Int)))
 | 0, _, _, _, _, _ => none
 | k + 1, x4, x24, x25, x26, x407000 => if x26 < x25 then (if 0 ≤ x26 then (if x26 < (x24.length : Int) then ((impl_in.f ((rd_T100 x24 x26).f0) 0 4).bind fun t410 => (if t410 = true then ((impl_in.f ((rd_T100 x24 x26).f1) ((rd_T100 x24 x26).f0) 8).bind fun t411 => (if t411 = true then ((impl_in.f (((rd_T100 x24 x26).f2).length : Int) 1 60).bind fun t412 => (impl_verify.j2 k x4 x26 x24 x25 x26 (!t412) x407000 ((rd_T100 x24 x26).f0) ((rd_T100 x24 x26).f1) ((rd_T100 x24 x26).f2))) else (impl_verify.j2 k x4 x26 x24 x25 x26 true x407000 ((rd_T100 x24 x26).f0) ((rd_T100 x24 x26).f1) ((rd_T100 x24 x26).f2)))) else (impl_verify.j2 k x4 x26 x24 x25 x26 true x407000 ((rd_T100 x24 x26).f0) ((rd_T100 x24 x26).f1) ((rd_T100 x24 x26).f2)))) else (none)) else (none)) else (some (0, 0, 0, x4))
def impl_verify.j2 : Nat → List (List Int) → Int → List (S100) → Int → Int → Bool → List (S100) → Int → Int → List (S102) → Option (Int × Int × Int × (List (List Int)))
 | 0, _, _, _, _, _, _, _, _, _, _ => none
 | k + 1, x4, x5, x24, x25, x26, x49, x407000, x410000, x410001, x410002 => if x49 = true then (some (x5, 0, 1, ([] : List (List Int)))) else (impl_verify.l1 k x4 x5 x24 x25 x26 x410002 (x410002.length : Int) 0 x407000)
def impl_verify.l1 : Nat → List (List Int) → Int → List (S100) → Int → Int → List (S102) → Int → Int → List (S100) → Option (Int × Int × Int × (List (List Int)))
 | 0, _, _, _, _, _, _, _, _, _ => none
 | k + 1, x4, x5, x24, x25, x26, x53, x54, x55, x407000 => if x55 < x54 then (if 0 ≤ x55 then (if x55 < (x53.length : Int) then ((impl_InsRight.f k x407000 x5 ((rd_T102 x53 x55).f0) ((rd_T102 x53 x55).f1)).bind fun t415 => (if t415 = true then (impl_verify.l1 k x4 x5 x24 x25 x26 x53 x54 (wrap64 (x55 + 1)) x407000) else (some (x5, x55, 1, ([] : List (List Int)))))) else (none)) else (none)) else ((impl_heightsOf.f k x407000 x5).bind fun bt416 => (if bt416.2.2 = 0 then (if x4.length < 5864062014805 then (impl_verify.l0 k (x4 ++ [bt416.1]) x24 x25 (wrap64 (x26 + 1)) x407000) else (none)) else (some (x5, bt416.2.1, bt416.2.2, ([] : List (List Int))))))
end
def impl_verify.f (k : Nat) (l0_0 : List (S100)) : Option (Int × Int × Int × (List (List Int))) := if (l0_0.length : Int) < 1 then (impl_verify.j0 k true l0_0) else (impl_verify.j0 k (decide ((l0_0.length : Int) > 6)) l0_0)
theorem impl_verify.mono_l : ∀ k, (∀ y0 y1, LeO (impl_verify.j0 k y0 y1) (impl_verify.j0 (k + 1) y0 y1)) ∧ (∀ y0 y1 y2 y3 y4, LeO (impl_verify.l0 k y0 y1 y2 y3 y4) (impl_verify.l0 (k + 1) y0 y1 y2 y3 y4)) ∧ (∀ y0 y1 y2 y3 y4 y5 y6 y7 y8 y9, LeO (impl_verify.j2 k y0 y1 y2 y3 y4 y5 y6 y7 y8 y9) (impl_verify.j2 (k + 1) y0 y1 y2 y3 y4 y5 y6 y7 y8 y9)) ∧ (∀ y0 y1 y2 y3 y4 y5 y6 y7 y8, LeO (impl_verify.l1 k y0 y1 y2 y3 y4 y5 y6 y7 y8) (impl_verify.l1 (k + 1) y0 y1 y2 y3 y4 y5 y6 y7 y8))
 | 0 => ⟨fun _ _ r h => by simp [impl_verify.j0] at h, fun _ _ _ _ _ r h => by simp [impl_verify.l0] at h, fun _ _ _ _ _ _ _ _ _ _ r h => by simp [impl_verify.j2] at h, fun _ _ _ _ _ _ _ _ _ r h => by simp [impl_verify.l1] at h⟩
 | k + 1 => by
  obtain ⟨ih0, ih1, ih2, ih3⟩ := impl_verify.mono_l k
  refine ⟨?_, ?_, ?_, ?_⟩
  ·intro y0 y1
   unfold impl_verify.j0
   with_reducible repeat' first | exact ih0 .. | exact ih1 .. | exact ih2 .. | exact ih3 .. | exact impl_InsRight.mono .. | exact impl_heightsOf.mono .. | exact LeO.refl _ | exact LeO.none _ | refine LeO.ite ?_ ?_ | refine LeO.bind ?_ (fun _ => ?_)
  ·intro y0 y1 y2 y3 y4
   unfold impl_verify.l0
   with_reducible repeat' first | exact ih0 .. | exact ih1 .. | exact ih2 .. | exact ih3 .. | exact impl_InsRight.mono .. | exact impl_heightsOf.mono .. | exact LeO.refl _ | exact LeO.none _ | refine LeO.ite ?_ ?_ | refine LeO.bind ?_ (fun _ => ?_)
  ·intro y0 y1 y2 y3 y4 y5 y6 y7 y8 y9
   unfold impl_verify.j2
   with_reducible repeat' first | exact ih0 .. | exact ih1 .. | exact ih2 .. | exact ih3 .. | exact impl_InsRight.mono .. | exact impl_heightsOf.mono .. | exact LeO.refl _ | exact LeO.none _ | refine LeO.ite ?_ ?_ | refine LeO.bind ?_ (fun _ => ?_)
  ·intro y0 y1 y2 y3 y4 y5 y6 y7 y8
   unfold impl_verify.l1
   with_reducible repeat' first | exact ih0 .. | exact ih1 .. | exact ih2 .. | exact ih3 .. | exact impl_InsRight.mono .. | exact impl_heightsOf.mono .. | exact LeO.refl _ | exact LeO.none _ | refine LeO.ite ?_ ?_ | refine LeO.bind ?_ (fun _ => ?_)
theorem impl_verify.mono : ∀ a0 k, LeO (impl_verify.f k a0) (impl_verify.f (k + 1) a0) := by
 intro a0 k
 obtain ⟨ih0, ih1, ih2, ih3⟩ := impl_verify.mono_l k
 unfold impl_verify.f
 with_reducible repeat' first | exact ih0 .. | exact ih1 .. | exact ih2 .. | exact ih3 .. | exact impl_InsRight.mono .. | exact impl_heightsOf.mono .. | exact LeO.refl _ | exact LeO.none _ | refine LeO.ite ?_ ?_ | refine LeO.bind ?_ (fun _ => ?_)
theorem impl_verify.calls (k : Nat) (A0_0 : Option Addr) (c0_0 : Nat) (l0_0 : List (S100)) (r1 : Int) (r2 : Int) (r3 : Int) (r4 : List (List Int)) (w : World) (hr0_0 : Kd.C k100 w A0_0 l0_0.length l0_0) (hc0_0 : l0_0.length ≤ c0_0) (h : impl_verify.f k l0_0 = some (r1, r2, r3, r4)) :
  Calls Try.prog 126 #[.agg #[.slice A0_0 l0_0.length c0_0]] w fun e w' => ∃ v3_ : Value, e = .returned (.tuple #[.agg #[.int .i64 r1, .int .i64 r2, .int .i64 r3], v3_]) ∧ Kd.S (Kd.slice 2 (Kd.int .i64)) 26 w' w.heap.size (fun _ => True) v3_ r4 ∧ Below w.heap.size w w' := by
 have hu30 := Try.underlying30
 have hu84 := Try.underlying84
 have hu100 := Try.underlying100
 have hu102 := Try.underlying102
 have HR0_0 := am hr0_0
 have HC0_0 := am hc0_0
 clear hr0_0 hc0_0
 have HB := am (Below.refl w.heap.size w)
 have H : (if (l0_0.length : Int) < 1 then (impl_verify.j0 k true l0_0) else (impl_verify.j0 k (decide ((l0_0.length : Int) > 6)) l0_0)) = some (r1, r2, r3, r4) := h
 clear h
 have HC2 := am H
 clear H
 go_enter Try.func126, Try.ntmps126
 go_upto_region 1 with (first | ((with_reducible refine gate_dst (N := 1) rfl ?_); (try (refine gate_guard (by rfl) ?_; dsimp only)); refine box_event ?hg (N := 1) ?hd (cs := #[.slice A0_0 l0_0.length c0_0]) (t := 30) ?hr ?_; (case hd => rfl); (case hg => rfl); (case hr => exact gs); intro gb406 hg w3 hbox hb; have BK406 := am (hbox); have GW406 := gw hg HB; replace HB := bs HB hb; clear hb hbox hg) | ((with_reducible refine gate_dst (N := 2) rfl ?_); (try (refine gate_guard (by rfl) ?_; dsimp only)); refine box_event ?hg (N := 2) ?hd (cs := #[.int .i64 0, .int .i64 0, .int .i64 0]) (t := 84) ?hr ?_; (case hd => rfl); (case hg => rfl); (case hr => exact gs); intro gb407 hg w4 hbox hb; have BK407 := am (hbox); have GW407 := gw hg HB; replace HB := bs HB hb; obtain ⟨NB406_407, NB407_406, BK406⟩ := b3 hg BK406 hb; clear hb hbox hg))
 (try simp only [Act.put, sa, sz, ss])
 go_cut [21] (fun v21 wc => ∃ (kq : Nat) (x21_1 : Bool), v21 = .bool x21_1 ∧ Aside0 (impl_verify.j0 kq x21_1 l0_0 = some (r1, r2, r3, r4)) ∧ Aside0 (kq ≤ k) ∧ Aside0 (wc.heap[gb406]? = some (.cells #[(.slice A0_0 l0_0.length c0_0)] 30 (0, 0))) ∧ Aside0 (wc.heap[gb407]? = some (.cells #[.int .i64 0, .int .i64 0, .int .i64 0] 84 (0, 0))) ∧ Aside0 (Below w.heap.size w wc))
 case first =>
  have H := HC2.out
  clear HC2
  refine qI H ?_ ?_ <;> clear H <;> intro c5b0 H
  ·have c5 := of_decide_eq_true c5b0
   have c5b1 : decide (l0_0.length < 1) = true := decide_eq_true (by omega)
   clear c5
   (first | rw [c5b0] | (simp only [i64_w, i32_w]; rw [c5b0]) | skip)
   have H' := am H
   clear H
   have hnb6 := NB406_407.out
   have hnc6 := NB407_406.out
   have hcz7 := bK w4 BK406
   have hfz7 := bF BK406
   go_wp2
   go_meet
   case rel => exact ⟨_, (true), dr, H', ⟨lk0⟩, ⟨bp BK406⟩, ⟨bp BK407⟩, ⟨bw HB⟩⟩
  have c5 := of_decide_eq_false c5b0
  have c5b1 : decide (l0_0.length < 1) = false := decide_eq_false (by omega)
  clear c5
  (first | rw [c5b0] | (simp only [i64_w, i32_w]; rw [c5b0]) | skip)
  have H' := am H
  clear H
  have hnb8 := NB406_407.out
  have hnc8 := NB407_406.out
  have hcz9 := bK w4 BK406
  have hfz9 := bF BK406
  go_wp2
  go_meet
  case rel => exact ⟨_, (decide ((l0_0.length : Int) > 6)), dr, H', ⟨lk0⟩, ⟨bp BK406⟩, ⟨bp BK407⟩, ⟨bw HB⟩⟩
 clear HC2
 (try clear c1); (try clear p2); (try clear c5); (try clear c5b0); (try clear c5b1); (try clear c6); (try clear c8); (try clear hcz7); (try clear hcz9); (try clear hfz7); (try clear hfz9)
 obtain ⟨kq, x21_1, rfl, HA, HJ1, BK406, BK407, HB⟩ := hcut
 rcases kq with _ | kj1
 ·exact absurd HA.out (by simp [impl_verify.j0])
 have H := HA.out
 clear HA
 simp only [impl_verify.j0] at H
 refine qT H ?_ ?_ <;> clear H <;> intro c10 H <;> subst c10
 ·simp only [Option.some.injEq, Prod.mk.injEq] at H
  obtain ⟨rfl, rfl, rfl, rfl⟩ := H
  have hnb11 := NB407_406.out
  have hnc11 := NB406_407.out
  have hcz12 := bK wc BK407
  have hfz12 := bF BK407
  go_wp2
  refine bodyPost_ret (results_ct rfl _ _ gb407 84 #[.int .i64 0, .int .i64 0, .int .i64 1] (0, 0) _ rfl (bt BK407) Try.underlying84 rfl (by kernel_rfl)) rfl ?_
  exact ⟨_, er, by first | exact Kd.S_nil _ _ _ _ _ | exact Kd.N_nil _ _ _ _ _ | exact Kd.V_nil _ _ _ _ _ | exact Kd.Q_nil _ _ _ _ _ | exact Kd.R_nil _ _ _ _ _, bw HB⟩
 have H' := am H
 clear H
 have hnb13 := NB406_407.out
 have hnc13 := NB407_406.out
 have hcz14 := bK wc BK406
 have hfz14 := bF BK406
 go_wp2
 go_loopg [4, 26] kj1 (fun kq v4 v26 w' => ∃ (x4_2 : List (List Int)) (x26_2 : Int) (x408000_2 : Int) (x408001_2 : Int) (x408002_2 : Int), v26 = .int .i64 x26_2 ∧ Aside0 (impl_verify.l0 kq x4_2 l0_0 (l0_0.length : Int) x26_2 l0_0 = some (r1, r2, r3, r4)) ∧ Aside0 (kq ≤ kj1) ∧ Aside0 (Kd.S (Kd.slice 2 (Kd.int .i64)) 26 w' w.heap.size (fun _ => True) v4 x4_2) ∧ Aside0 (w'.heap[gb406]? = some (.cells #[(.slice A0_0 l0_0.length c0_0)] 30 (0, 0))) ∧ Aside0 (w'.heap[gb407]? = some (.cells #[.int .i64 x408000_2, .int .i64 x408001_2, .int .i64 x408002_2] 84 (0, 0))) ∧ Aside0 (Below w.heap.size w w'))
 case atStart => exact ⟨(([] : List (List Int))), (0), (0), (0), (0), dr, H', ⟨Nat.le_refl _⟩, ⟨by first | exact Kd.S_nil _ _ _ _ _ | exact Kd.N_nil _ _ _ _ _ | exact Kd.V_nil _ _ _ _ _ | exact Kd.Q_nil _ _ _ _ _ | exact Kd.R_nil _ _ _ _ _⟩, ⟨bp BK406⟩, ⟨bp BK407⟩, ⟨bw HB⟩⟩
 clear H'
 (try clear c10); (try clear c11); (try clear c12); (try clear c13); (try clear hcz12); (try clear hcz14); (try clear hfz12); (try clear hfz14)
 obtain ⟨x4_2, x26_2, x408000_2, x408001_2, x408002_2, rfl, HA, HK2, HO_4, BK406, BK407, HB⟩ := hrel
 rcases gk with _ | k2
 ·exact absurd HA.out (by simp [impl_verify.l0])
 have H := HA.out
 clear HA
 simp only [impl_verify.l0] at H
 by_cases c15 : x26_2 < (l0_0.length : Int)
 ·rw [if_pos c15] at H
  have c15b0 := decide_eq_true c15
  clear c15
  refine iN H ?_; clear H; intro c16 H
  have c16b0 := decide_eq_true c16
  clear c16
  refine iN H ?_; clear H; intro c17 H
  have c17b0 := decide_eq_true c17
  clear c17
  have HC18 := am H
  clear H
  have p408 : 0 ≤ (x26_2 : Int) := of_decide_eq_true as1
  have q408 : x26_2 < (l0_0.length : Int) := of_decide_eq_true as1
  obtain ⟨ad408, A408_2, c408_2, e408, hx408_0, hx408_1, hx408_2, hl408_2, hi408_2⟩ := at_T100 HR0_0.out x26_2 p408 q408
  cases e408
  replace hx408_0 := cl HB hx408_0
  replace hx408_1 := cl HB hx408_1
  replace hx408_2 := cl HB hx408_2
  have HR408_2 := am hi408_2
  have HC408_2 := am hl408_2
  clear hi408_2 hl408_2
  replace p408 := eq_true p408
  replace q408 := eq_true q408
  go_upto_region 7 with (first | ((with_reducible refine gate_dst (N := 6) rfl ?_); (try (refine gate_guard (by rfl) ?_; dsimp only)); refine box_event ?hg (N := 6) ?hd (cs := #[.int .i64 0, .int .i64 0, .slice none 0 0]) (t := 100) ?hr ?_; (case hd => rfl); (case hg => rfl); (case hr => exact gs); intro gb409 hg w19 hbox hb; replace HO_4 := am (Kd.S_below (kS HO_4) hb); have BK409 := am (hbox); have GW409 := gw hg HB; replace HB := bs HB hb; obtain ⟨NB406_409, NB409_406, BK406⟩ := b3 hg BK406 hb; obtain ⟨NB407_409, NB409_407, BK407⟩ := b3 hg BK407 hb; clear hb hbox hg; have hnb20 := NB409_406.out; have hnc20 := NB406_409.out; have hnb21 := NB409_407.out; have hnc21 := NB407_409.out; have hcz22 := bK w19 BK409; have hfz22 := bF BK409))
  (try simp only [Act.put, sa, sz, ss])
  go_cut [49] (fun v49 wc => ∃ (kq : Nat) (x49_17 : Bool), v49 = .bool x49_17 ∧ Aside0 (impl_verify.j2 kq x4_2 x26_2 l0_0 (l0_0.length : Int) x26_2 x49_17 l0_0 ((rd_T100 l0_0 x26_2).f0) ((rd_T100 l0_0 x26_2).f1) ((rd_T100 l0_0 x26_2).f2) = some (r1, r2, r3, r4)) ∧ Aside0 (kq ≤ k2) ∧ Aside0 (Kd.S (Kd.slice 2 (Kd.int .i64)) 26 wc w.heap.size (fun _ => True) u4 x4_2) ∧ Aside0 (wc.heap[gb406]? = some (.cells #[(.slice (some ad408) l0_0.length c0_0)] 30 (0, 0))) ∧ Aside0 (wc.heap[gb407]? = some (.cells #[.int .i64 x408000_2, .int .i64 x408001_2, .int .i64 x408002_2] 84 (0, 0))) ∧ Aside0 (wc.heap[gb409]? = some (.cells #[.int .i64 ((rd_T100 l0_0 x26_2).f0), .int .i64 ((rd_T100 l0_0 x26_2).f1), (.slice A408_2 ((rd_T100 l0_0 x26_2).f2).length c408_2)] 100 (0, 0))) ∧ Aside0 (Below w.heap.size w wc))
  case first =>
   have H := HC18.out
   clear HC18
   refine be H ?_; clear H; intro t410 A23 H
   refine qT H ?_ ?_ <;> clear H <;> intro c24 H <;> subst c24
   ·refine be H ?_; clear H; intro t411 A25 H
    refine qT H ?_ ?_ <;> clear H <;> intro c26 H <;> subst c26
    ·refine be H ?_; clear H; intro t412 A27 H
     have H' := am H
     clear H
     have hnb28 := NB409_406.out
     have hnc28 := NB406_409.out
     have hnb29 := NB409_407.out
     have hnc29 := NB407_409.out
     have hcz30 := bK w19 BK409
     have hfz30 := bF BK409
     go_wp2_with (first | ((with_reducible refine gate_callee (f := 85) rfl ?_); refine goesL_ (some 33) rfl rfl Try.func85 (by kernel_rfl) rfl #[.int .i64 ((rd_T100 l0_0 x26_2).f0), .int .i64 0, .int .i64 4] rfl gl ?_; (with_reducible refine (impl_in.calls ((rd_T100 l0_0 x26_2).f0) 0 4 true _ A23.out).mono ?_); rintro e w' ⟨rfl, ⟨nd, rfl⟩⟩; refine ⟨_, rfl, ?_⟩) | (go_at_call 85; (with_reducible refine (impl_in.calls ((rd_T100 l0_0 x26_2).f1) ((rd_T100 l0_0 x26_2).f0) 8 true _ A25.out).mono ?_); rintro e w' ⟨rfl, ⟨nd, rfl⟩⟩) | (go_at_call 85; (with_reducible refine (impl_in.calls (((rd_T100 l0_0 x26_2).f2).length : Int) 1 60 t412 _ A27.out).mono ?_); rintro e w' ⟨rfl, ⟨nd, rfl⟩⟩))
     go_meet
     case rel => exact ⟨_, (!t412), dr, H', ⟨lk2 HJ1 HK2⟩, ⟨by (with_reducible repeat (first | apply Kd.S_alloc | apply Kd.S_drewN | apply Kd.S_drew)); exact Kd.S_mono (Kd.S_far (p := ⟨gb409, 2, none⟩) (Kd.S_far (p := ⟨gb409, 1, none⟩) (Kd.S_far (p := ⟨gb409, 0, none⟩) (Kd.S_types HO_4.out BK409.out (by decide)) (fun _ hk => hk.2) (.int .i64 ((rd_T100 l0_0 x26_2).f0))) (fun _ hk => hk.2) (.int .i64 ((rd_T100 l0_0 x26_2).f1))) (fun _ hk => hk.2) (.slice A408_2 ((rd_T100 l0_0 x26_2).f2).length c408_2)) (fun _ hk => trivial)⟩, ⟨by (with_reducible repeat (first | apply dN | apply dW | apply dA)); refine blk_far ?_ NB406_409.out _; (with_reducible repeat (first | apply dN | apply dW | apply dA)); refine blk_far ?_ NB406_409.out _; (with_reducible repeat (first | apply dN | apply dW | apply dA)); refine blk_far ?_ NB406_409.out _; exact bp BK406⟩, ⟨by (with_reducible repeat (first | apply dN | apply dW | apply dA)); refine blk_far ?_ NB407_409.out _; (with_reducible repeat (first | apply dN | apply dW | apply dA)); refine blk_far ?_ NB407_409.out _; (with_reducible repeat (first | apply dN | apply dW | apply dA)); refine blk_far ?_ NB407_409.out _; exact bp BK407⟩, ⟨by (with_reducible repeat (first | apply dN | apply dW | apply dA)); refine blk_put (cs := #[.int .i64 ((rd_T100 l0_0 x26_2).f0), .int .i64 ((rd_T100 l0_0 x26_2).f1), .slice none 0 0]) ?_ 2 _ rfl; (with_reducible repeat (first | apply dN | apply dW | apply dA)); refine blk_put (cs := #[.int .i64 ((rd_T100 l0_0 x26_2).f0), .int .i64 0, .slice none 0 0]) ?_ 1 _ rfl; (with_reducible repeat (first | apply dN | apply dW | apply dA)); refine blk_put (cs := #[.int .i64 0, .int .i64 0, .slice none 0 0]) ?_ 0 _ rfl; exact bp BK409⟩, ⟨bw HB⟩⟩
    have H' := am H
    clear H
    have hnb31 := NB409_406.out
    have hnc31 := NB406_409.out
    have hnb32 := NB409_407.out
    have hnc32 := NB407_409.out
    have hcz33 := bK w19 BK409
    have hfz33 := bF BK409
    go_wp2_with (first | ((with_reducible refine gate_callee (f := 85) rfl ?_); refine goesL_ (some 33) rfl rfl Try.func85 (by kernel_rfl) rfl #[.int .i64 ((rd_T100 l0_0 x26_2).f0), .int .i64 0, .int .i64 4] rfl gl ?_; (with_reducible refine (impl_in.calls ((rd_T100 l0_0 x26_2).f0) 0 4 true _ A23.out).mono ?_); rintro e w' ⟨rfl, ⟨nd, rfl⟩⟩; refine ⟨_, rfl, ?_⟩) | (go_at_call 85; (with_reducible refine (impl_in.calls ((rd_T100 l0_0 x26_2).f1) ((rd_T100 l0_0 x26_2).f0) 8 false _ A25.out).mono ?_); rintro e w' ⟨rfl, ⟨nd, rfl⟩⟩))
    go_meet
    case rel => exact ⟨_, (true), dr, H', ⟨lk2 HJ1 HK2⟩, ⟨by (with_reducible repeat (first | apply Kd.S_alloc | apply Kd.S_drewN | apply Kd.S_drew)); exact Kd.S_mono (Kd.S_far (p := ⟨gb409, 2, none⟩) (Kd.S_far (p := ⟨gb409, 1, none⟩) (Kd.S_far (p := ⟨gb409, 0, none⟩) (Kd.S_types HO_4.out BK409.out (by decide)) (fun _ hk => hk.2) (.int .i64 ((rd_T100 l0_0 x26_2).f0))) (fun _ hk => hk.2) (.int .i64 ((rd_T100 l0_0 x26_2).f1))) (fun _ hk => hk.2) (.slice A408_2 ((rd_T100 l0_0 x26_2).f2).length c408_2)) (fun _ hk => trivial)⟩, ⟨by (with_reducible repeat (first | apply dN | apply dW | apply dA)); refine blk_far ?_ NB406_409.out _; (with_reducible repeat (first | apply dN | apply dW | apply dA)); refine blk_far ?_ NB406_409.out _; (with_reducible repeat (first | apply dN | apply dW | apply dA)); refine blk_far ?_ NB406_409.out _; exact bp BK406⟩, ⟨by (with_reducible repeat (first | apply dN | apply dW | apply dA)); refine blk_far ?_ NB407_409.out _; (with_reducible repeat (first | apply dN | apply dW | apply dA)); refine blk_far ?_ NB407_409.out _; (with_reducible repeat (first | apply dN | apply dW | apply dA)); refine blk_far ?_ NB407_409.out _; exact bp BK407⟩, ⟨by (with_reducible repeat (first | apply dN | apply dW | apply dA)); refine blk_put (cs := #[.int .i64 ((rd_T100 l0_0 x26_2).f0), .int .i64 ((rd_T100 l0_0 x26_2).f1), .slice none 0 0]) ?_ 2 _ rfl; (with_reducible repeat (first | apply dN | apply dW | apply dA)); refine blk_put (cs := #[.int .i64 ((rd_T100 l0_0 x26_2).f0), .int .i64 0, .slice none 0 0]) ?_ 1 _ rfl; (with_reducible repeat (first | apply dN | apply dW | apply dA)); refine blk_put (cs := #[.int .i64 0, .int .i64 0, .slice none 0 0]) ?_ 0 _ rfl; exact bp BK409⟩, ⟨bw HB⟩⟩
   have H' := am H
   clear H
   have hnb34 := NB409_406.out
   have hnc34 := NB406_409.out
   have hnb35 := NB409_407.out
   have hnc35 := NB407_409.out
   have hcz36 := bK w19 BK409
   have hfz36 := bF BK409
   go_wp2_with (first | ((with_reducible refine gate_callee (f := 85) rfl ?_); refine goesL_ (some 33) rfl rfl Try.func85 (by kernel_rfl) rfl #[.int .i64 ((rd_T100 l0_0 x26_2).f0), .int .i64 0, .int .i64 4] rfl gl ?_; (with_reducible refine (impl_in.calls ((rd_T100 l0_0 x26_2).f0) 0 4 false _ A23.out).mono ?_); rintro e w' ⟨rfl, ⟨nd, rfl⟩⟩; refine ⟨_, rfl, ?_⟩))
   go_meet
   case rel => exact ⟨_, (true), dr, H', ⟨lk2 HJ1 HK2⟩, ⟨by (with_reducible repeat (first | apply Kd.S_alloc | apply Kd.S_drewN | apply Kd.S_drew)); exact Kd.S_mono (Kd.S_far (p := ⟨gb409, 2, none⟩) (Kd.S_far (p := ⟨gb409, 1, none⟩) (Kd.S_far (p := ⟨gb409, 0, none⟩) (Kd.S_types HO_4.out BK409.out (by decide)) (fun _ hk => hk.2) (.int .i64 ((rd_T100 l0_0 x26_2).f0))) (fun _ hk => hk.2) (.int .i64 ((rd_T100 l0_0 x26_2).f1))) (fun _ hk => hk.2) (.slice A408_2 ((rd_T100 l0_0 x26_2).f2).length c408_2)) (fun _ hk => trivial)⟩, ⟨by (with_reducible repeat (first | apply dN | apply dW | apply dA)); refine blk_far ?_ NB406_409.out _; (with_reducible repeat (first | apply dN | apply dW | apply dA)); refine blk_far ?_ NB406_409.out _; (with_reducible repeat (first | apply dN | apply dW | apply dA)); refine blk_far ?_ NB406_409.out _; exact bp BK406⟩, ⟨by (with_reducible repeat (first | apply dN | apply dW | apply dA)); refine blk_far ?_ NB407_409.out _; (with_reducible repeat (first | apply dN | apply dW | apply dA)); refine blk_far ?_ NB407_409.out _; (with_reducible repeat (first | apply dN | apply dW | apply dA)); refine blk_far ?_ NB407_409.out _; exact bp BK407⟩, ⟨by (with_reducible repeat (first | apply dN | apply dW | apply dA)); refine blk_put (cs := #[.int .i64 ((rd_T100 l0_0 x26_2).f0), .int .i64 ((rd_T100 l0_0 x26_2).f1), .slice none 0 0]) ?_ 2 _ rfl; (with_reducible repeat (first | apply dN | apply dW | apply dA)); refine blk_put (cs := #[.int .i64 ((rd_T100 l0_0 x26_2).f0), .int .i64 0, .slice none 0 0]) ?_ 1 _ rfl; (with_reducible repeat (first | apply dN | apply dW | apply dA)); refine blk_put (cs := #[.int .i64 0, .int .i64 0, .slice none 0 0]) ?_ 0 _ rfl; exact bp BK409⟩, ⟨bw HB⟩⟩
  clear HC18
  (try clear c2); (try clear c3); (try clear c4); (try clear p4); (try clear q4); (try clear hx4); (try clear c15); (try clear c15b0); (try clear c16); (try clear c16b0); (try clear c17); (try clear c17b0); (try clear c20); (try clear c21); (try clear c24); (try clear c26); (try clear c28); (try clear c29); (try clear c31); (try clear c32); (try clear c34); (try clear c35); (try clear hcz22); (try clear hcz30); (try clear hcz33); (try clear hcz36); (try clear hfz22); (try clear hfz30); (try clear hfz33); (try clear hfz36); (try clear hx408_0); (try clear hx408_1); (try clear hx408_2); (try clear p408); (try clear q408)
  obtain ⟨kq, x49_17, rfl, HA, HJ17, HO_4, BK406, BK407, BK409, HB⟩ := hcut
  rcases kq with _ | kj17
  ·exact absurd HA.out (by simp [impl_verify.j2])
  have H := HA.out
  clear HA
  simp only [impl_verify.j2] at H
  refine qT H ?_ ?_ <;> clear H <;> intro c37 H <;> subst c37
  ·simp only [Option.some.injEq, Prod.mk.injEq] at H
   obtain ⟨rfl, rfl, rfl, rfl⟩ := H
   have hnb38 := NB407_406.out
   have hnc38 := NB406_407.out
   have hnb39 := NB407_409.out
   have hnc39 := NB409_407.out
   have hcz40 := bK wc BK407
   have hfz40 := bF BK407
   go_wp2
   refine bodyPost_ret (results_ct rfl _ _ gb407 84 #[.int .i64 x26_2, .int .i64 0, .int .i64 1] (0, 0) _ rfl (bt BK407) Try.underlying84 rfl (by kernel_rfl)) rfl ?_
   exact ⟨_, er, by first | exact Kd.S_nil _ _ _ _ _ | exact Kd.N_nil _ _ _ _ _ | exact Kd.V_nil _ _ _ _ _ | exact Kd.Q_nil _ _ _ _ _ | exact Kd.R_nil _ _ _ _ _, bw HB⟩
  have H' := am H
  clear H
  have hnb41 := NB409_406.out
  have hnc41 := NB406_409.out
  have hnb42 := NB409_407.out
  have hnc42 := NB407_409.out
  have hcz43 := bK wc BK409
  have hfz43 := bF BK409
  go_wp2
  go_loopg [55] kj17 (fun kq v55 w' => ∃ (x55_4 : Int) (x408000_4 : Int) (x408001_4 : Int) (x408002_4 : Int), v55 = .int .i64 x55_4 ∧ Aside0 (impl_verify.l1 kq x4_2 x26_2 l0_0 (l0_0.length : Int) x26_2 ((rd_T100 l0_0 x26_2).f2) (((rd_T100 l0_0 x26_2).f2).length : Int) x55_4 l0_0 = some (r1, r2, r3, r4)) ∧ Aside0 (kq ≤ kj17) ∧ Aside0 (Kd.S (Kd.slice 2 (Kd.int .i64)) 26 w' w.heap.size (fun _ => True) u4 x4_2) ∧ Aside0 (w'.heap[gb406]? = some (.cells #[(.slice (some ad408) l0_0.length c0_0)] 30 (0, 0))) ∧ Aside0 (w'.heap[gb407]? = some (.cells #[.int .i64 x408000_4, .int .i64 x408001_4, .int .i64 x408002_4] 84 (0, 0))) ∧ Aside0 (w'.heap[gb409]? = some (.cells #[.int .i64 ((rd_T100 l0_0 x26_2).f0), .int .i64 ((rd_T100 l0_0 x26_2).f1), (.slice A408_2 ((rd_T100 l0_0 x26_2).f2).length c408_2)] 100 (0, 0))) ∧ Aside0 (Below w.heap.size w w'))
  case atStart => exact ⟨(0), (x408000_2), (x408001_2), (x408002_2), dr, H', ⟨Nat.le_refl _⟩, ⟨kS HO_4⟩, ⟨bp BK406⟩, ⟨bp BK407⟩, ⟨bp BK409⟩, ⟨bw HB⟩⟩
  clear H'
  (try clear c37); (try clear c38); (try clear c39); (try clear c40); (try clear p40); (try clear q40); (try clear hx40); (try clear c41); (try clear c42); (try clear hcz40); (try clear hcz43); (try clear hfz40); (try clear hfz43)
  obtain ⟨x55_4, x408000_4, x408001_4, x408002_4, rfl, HA, HK4, HO_4, BK406, BK407, BK409, HB⟩ := hrel
  rcases gk with _ | k4
  ·exact absurd HA.out (by simp [impl_verify.l1])
  have H := HA.out
  clear HA
  simp only [impl_verify.l1] at H
  refine qI H ?_ ?_ <;> clear H <;> intro c44b0 H
  ·refine iM H ?_; clear H; intro c45b0 H
   refine iM H ?_; clear H; intro c46b0 H
   refine be H ?_; clear H; intro t415 A47 H
   have HC48 := am H
   clear H
   have p413 : 0 ≤ (x55_4 : Int) := of_decide_eq_true as1
   have q413 : x55_4 < (((rd_T100 l0_0 x26_2).f2).length : Int) := of_decide_eq_true as1
   obtain ⟨ad413, e413, hx413_0, hx413_1⟩ := at_T102 HR408_2.out x55_4 p413 q413
   cases e413
   replace hx413_0 := cl HB hx413_0
   replace hx413_1 := cl HB hx413_1
   replace p413 := eq_true p413
   replace q413 := eq_true q413
   go_upto_if 64 with (first | ((with_reducible refine gate_dst (N := 8) rfl ?_); (try (refine gate_guard (by rfl) ?_; dsimp only)); refine box_event ?hg (N := 8) ?hd (cs := #[.int .i64 0, .int .i64 0]) (t := 102) ?hr ?_; (case hd => rfl); (case hg => rfl); (case hr => exact gs); intro gb414 hg w49 hbox hb; replace HO_4 := am (Kd.S_below (kS HO_4) hb); have BK414 := am (hbox); have GW414 := gw hg HB; replace HB := bs HB hb; obtain ⟨NB406_414, NB414_406, BK406⟩ := b3 hg BK406 hb; obtain ⟨NB407_414, NB414_407, BK407⟩ := b3 hg BK407 hb; obtain ⟨NB409_414, NB414_409, BK409⟩ := b3 hg BK409 hb; clear hb hbox hg; have hnb50 := NB414_406.out; have hnc50 := NB406_414.out; have hnb51 := NB414_407.out; have hnc51 := NB407_414.out; have hnb52 := NB414_409.out; have hnc52 := NB409_414.out; have hcz53 := bK w49 BK414; have hfz53 := bF BK414; have hnb54 := NB406_407.out; have hnc54 := NB407_406.out; have hnb55 := NB406_409.out; have hnc55 := NB409_406.out; have hcz56 := bK w49 BK406; have hfz56 := bF BK406) | ((with_reducible refine gk 173 rfl ?_); refine gB 173 (some 63) Try.func173 #[.agg #[.slice (some ad408) l0_0.length c0_0], .int .i64 x26_2, .agg #[.int .i64 ((rd_T102 ((rd_T100 l0_0 x26_2).f2) x55_4).f0), .int .i64 ((rd_T102 ((rd_T100 l0_0 x26_2).f2) x55_4).f1)]] (impl_InsRight.calls k4 _ _ l0_0 x26_2 ((rd_T102 ((rd_T100 l0_0 x26_2).f2) x55_4).f0) ((rd_T102 ((rd_T100 l0_0 x26_2).f2) x55_4).f1) t415 _ (Kd.C_below HR0_0.out (bw HB)) HC0_0.out A47.out) ?_; intro w57 hb; replace HO_4 := am (Kd.S_below (by (with_reducible repeat (first | apply Kd.S_alloc | apply Kd.S_drewN | apply Kd.S_drew)); exact (Kd.S_mono (Kd.S_far (p := ⟨gb414, 1, none⟩) (Kd.S_far (p := ⟨gb414, 0, none⟩) (Kd.S_types HO_4.out BK414.out (by decide)) (fun _ hk => hk.2) (.int .i64 ((rd_T102 ((rd_T100 l0_0 x26_2).f2) x55_4).f0))) (fun _ hk => hk.2) (.int .i64 ((rd_T102 ((rd_T100 l0_0 x26_2).f2) x55_4).f1))) (fun _ h_ => h_.1))) hb); replace BK406 := bb2 BK406 hb; replace BK407 := bb2 BK407 hb; replace BK409 := bb2 BK409 hb; replace BK414 := bo #[.int .i64 ((rd_T102 ((rd_T100 l0_0 x26_2).f2) x55_4).f0), .int .i64 ((rd_T102 ((rd_T100 l0_0 x26_2).f2) x55_4).f1)] BK414 hb; replace HB := bs HB hb; clear hb))
   (try simp only [Act.put, sa, sz, ss])
   have H := HC48.out
   clear HC48
   refine qT H ?_ ?_ <;> clear H <;> intro c58 H <;> subst c58
   ·have H' := am H
    clear H
    go_wp2
    go_roundg k4
    case measure => have := HJ1.out; have := HK2.out; have := HJ17.out; have := HK4.out; omega
    case rel => exact ⟨(wrap64 (x55_4 + 1)), (x408000_4), (x408001_4), (x408002_4), dr, H', ⟨by have := HJ1.out; have := HK2.out; have := HJ17.out; have := HK4.out; omega⟩, ⟨kS HO_4⟩, ⟨bp BK406⟩, ⟨bp BK407⟩, ⟨bp BK409⟩, ⟨bw HB⟩⟩
   simp only [Option.some.injEq, Prod.mk.injEq] at H
   obtain ⟨rfl, rfl, rfl, rfl⟩ := H
   have hnb59 := NB407_406.out
   have hnc59 := NB406_407.out
   have hnb60 := NB407_409.out
   have hnc60 := NB409_407.out
   have hnb61 := NB407_414.out
   have hnc61 := NB414_407.out
   have hcz62 := bK w57 BK407
   have hfz62 := bF BK407
   go_wp2
   refine bodyPost_ret (results_ct rfl _ _ gb407 84 #[.int .i64 x26_2, .int .i64 x55_4, .int .i64 1] (0, 0) _ rfl (bt BK407) Try.underlying84 rfl (by kernel_rfl)) rfl ?_
   exact ⟨_, er, by first | exact Kd.S_nil _ _ _ _ _ | exact Kd.N_nil _ _ _ _ _ | exact Kd.V_nil _ _ _ _ _ | exact Kd.Q_nil _ _ _ _ _ | exact Kd.R_nil _ _ _ _ _, bw HB⟩
  replace H := Option.bind_eq_some_iff.mp H
  obtain ⟨⟨t416, t419, t420⟩, A630, H⟩ := H
  replace H : (if t420 = 0 then (if x4_2.length < 5864062014805 then (impl_verify.l0 k4 (x4_2 ++ [t416]) l0_0 (l0_0.length : Int) (wrap64 (x26_2 + 1)) l0_0) else (none)) else (some (x26_2, t419, t420, ([] : List (List Int))))) = some (r1, r2, r3, r4) := H
  have A63 := am A630
  clear A630
  have HC64 := am H
  clear H
  have hnb65 := NB406_407.out
  have hnc65 := NB407_406.out
  have hnb66 := NB406_409.out
  have hnc66 := NB409_406.out
  have hcz67 := bK wr BK406
  have hfz67 := bF BK406
  go_upto_if 77 with (first | ((with_reducible refine gk 174 rfl ?_); refine gC 174 (some 72) Try.func174 #[.agg #[.slice (some ad408) l0_0.length c0_0], .int .i64 x26_2] ((impl_heightsOf.calls k4 _ _ l0_0 x26_2 t416 t419 t420 _ (cc (Kd.C_below HR0_0.out HB.out)) HC0_0.out A63.out).mono ?_); rintro e w68 ⟨v417, rfl, ho0, hb⟩; refine ⟨_, rfl, ?_⟩; replace HO_4 := am (Kd.S_elder' (kS HO_4) (Kd.R_base ho0) hb); have HO418 := am (Kd.R_lower ho0 (below_size (bw HB))); replace BK406 := bb BK406 hb; replace BK407 := bb BK407 hb; replace BK409 := bb BK409 hb; replace HB := bs HB hb; clear hb; (try clear ho0)))
  (try simp only [Act.put, sa, sz, ss])
  have H := HC64.out
  clear HC64
  refine qE H ?_ ?_ <;> clear H
  ·intro c69b0 c69b1 H
   (first | rw [c69b0] | (simp only [i64_w, i32_w]; rw [c69b0]) | skip)
   refine iN H ?_; clear H; intro c70 H
   have LMc70 := am c70
   clear c70
   obtain ⟨y421, hy421⟩ : ∃ y_ : List (List Int), y_ = (x4_2 ++ [t416]) := ⟨_, rfl⟩
   replace H : (impl_verify.l0 k4 y421 l0_0 (l0_0.length : Int) (wrap64 (x26_2 + 1)) l0_0) = some (r1, r2, r3, r4) := by first | (rw [hy421]; with_reducible exact H) | (have H2_ := (Option.bind_some _ _).symm.trans H; rw [hy421]; with_reducible exact H2_) | (have H2_ := (Option.bind_some _ _).symm.trans H; with_reducible exact H2_) | with_reducible exact H | (rw [hy421]; exact H) | exact H
   have Ny421 := am hy421
   clear hy421
   have H' := am H
   clear H
   obtain ⟨Ao72, co72, eo72⟩ := Kd.R_slice HO418.out
   subst eo72
   go_wp2_with (first | ((with_reducible refine gate_builtin (b := .append) (xs := #[.tmp 82, .tmp 84]) rfl ?_); (try (refine gate_guard (by rfl) ?_; dsimp only)); at_builtin; refine Kd.S_append (Kd.slice 2 (Kd.int .i64)) (w0 := w) w.heap.size rfl (.tmp 82) (.tmp 84) 50 26 (.slice none 0 0) 24 rfl Try.underlying50 info26 rfl (by decide) (by omega) u4 x4_2 t416 [.slice Ao72 t416.length co72] (fun _ => True) (fun k_ => some k_ = (.slice Ao72 t416.length co72 : Value).ownBlock) rfl rfl ?aP (fun k_ hk_ => ((Kd.R_mono (ok' := fun k_ => ((fun _ => True)) k_ ∧ some k_ ≠ (u4 : Value).ownBlock) (Kd.R_apart' (HO418.out) (Kd.S_typed HO_4.out) (by decide)) (fun k_ hk => ⟨trivial, hk.2⟩))).1 k_ hk_.symm) ?aF ?aO ?aB ?aS ?aL ?_; (case aP => exact Kd.M_row (Kd.R_mono (Kd.R_tight rfl (Kd.R_mono (ok' := fun k_ => ((fun _ => True)) k_ ∧ some k_ ≠ (u4 : Value).ownBlock) (Kd.R_apart' (HO418.out) (Kd.S_typed HO_4.out) (by decide)) (fun k_ hk => ⟨trivial, hk.2⟩))) (fun _ h_ => h_))); (case aB => exact (bw HB)); (case aF => exact (fun _ _ => trivial)); (case aO => exact (by (with_reducible repeat (first | apply Kd.S_alloc | apply Kd.S_drewN | apply Kd.S_drew)); exact Kd.S_mono HO_4.out (fun k_ hk => ⟨trivial, fun e_ => hk.2 e_⟩))); (case aS => exact (below_size (bw HB))); (case aL => have := LMc70.out; omega); intro v422 w71 ho hb hg hat; rw [← Ny421.out] at ho; replace BK406 := bg BK406 hg (Kd.S_ne HO_4.out BK406.out (by decide)); replace BK407 := bg BK407 hg (Kd.S_ne HO_4.out BK407.out (by decide)); replace BK409 := bg BK409 hg (Kd.S_ne HO_4.out BK409.out (by decide)); replace HB := am (hb); have HO423 := am (ho); clear HO_4; clear HO418; clear ho hb hg hat))
   go_roundg k4
   case measure => have := HJ1.out; have := HK2.out; have := HJ17.out; have := HK4.out; omega
   case rel => exact ⟨(y421), (wrap64 (x26_2 + 1)), (x408000_4), (x408001_4), (x408002_4), dr, H', ⟨by have := HJ1.out; have := HK2.out; have := HJ17.out; have := HK4.out; omega⟩, ⟨kS HO423⟩, ⟨bp BK406⟩, ⟨bp BK407⟩, ⟨bw HB⟩⟩
  intro c69 c69b0 c69b1 H
  (first | rw [c69b0] | (simp only [i64_w, i32_w]; rw [c69b0]) | skip)
  simp only [Option.some.injEq, Prod.mk.injEq] at H
  obtain ⟨rfl, rfl, rfl, rfl⟩ := H
  have hnb73 := NB407_406.out
  have hnc73 := NB406_407.out
  have hnb74 := NB407_409.out
  have hnc74 := NB409_407.out
  have hcz75 := bK w68 BK407
  have hfz75 := bF BK407
  go_wp2
  refine bodyPost_ret (results_ct rfl _ _ gb407 84 #[.int .i64 x26_2, .int .i64 t419, .int .i64 t420] (0, 0) _ rfl (bt BK407) Try.underlying84 rfl (by kernel_rfl)) rfl ?_
  exact ⟨_, er, by first | exact Kd.S_nil _ _ _ _ _ | exact Kd.N_nil _ _ _ _ _ | exact Kd.V_nil _ _ _ _ _ | exact Kd.Q_nil _ _ _ _ _ | exact Kd.R_nil _ _ _ _ _, bw HB⟩
 rw [if_neg c15] at H
 have c15b0 := decide_eq_false c15
 clear c15
 simp only [Option.some.injEq, Prod.mk.injEq] at H
 obtain ⟨rfl, rfl, rfl, rfl⟩ := H
 have hnb76 := NB407_406.out
 have hnc76 := NB406_407.out
 have hcz77 := bK wr BK407
 have hfz77 := bF BK407
 go_wp2
 refine bodyPost_ret (results_ct rfl _ _ gb407 84 #[.int .i64 0, .int .i64 0, .int .i64 0] (0, 0) _ rfl (bt BK407) Try.underlying84 rfl (by kernel_rfl)) rfl ?_
 exact ⟨_, er, by (with_reducible repeat (first | apply Kd.S_alloc | apply Kd.S_drewN | apply Kd.S_drew)); exact Kd.S_mono (Kd.S_far (p := ⟨gb407, 2, none⟩) (Kd.S_far (p := ⟨gb407, 1, none⟩) (Kd.S_far (p := ⟨gb407, 0, none⟩) (Kd.S_types HO_4.out BK407.out (by decide)) (fun _ hk => hk.2) (.int .i64 0)) (fun _ hk => hk.2) (.int .i64 0)) (fun _ hk => hk.2) (.int .i64 0)) (fun _ hk => trivial), bw HB⟩

def impl_known.f (k : Nat) (l0_0 : List (S100)) : Option ((List (S100)) × (List (List Int)) × Bool) := (impl_verify.f k l0_0).bind fun bt425 => (some (l0_0, bt425.2.2.2, (bt425.2.2.1 == 0)))
theorem impl_known.mono : ∀ a0 k, LeO (impl_known.f k a0) (impl_known.f (k + 1) a0) := by
 intro a0 k
 unfold impl_known.f
 with_reducible repeat' first | exact impl_verify.mono .. | exact LeO.refl _ | exact LeO.none _ | refine LeO.ite ?_ ?_ | refine LeO.bind ?_ (fun _ => ?_)
def impl_known.T2 : Bool × List (List Nat × List Nat) := (true, [([], []), ([], []), ([0, 1], [0, 1]), ([2], [2]), ([], []), ([4], [4]), ([5], [5]), ([3, 0, 1, 2, 3], [3]), ([6, 7, 0, 1, 2, 3, 4, 5, 6, 7], [6])])
def impl_known.B2 : List Nat := [0, 0, 3, 7, 0, 16, 48, 15, 255]
theorem impl_known.tab2 : rtab .any (opsOf Try.f66 2) = impl_known.T2 := by kernel_rfl
theorem impl_known.bits2 : waitsOk impl_known.T2.2 impl_known.B2 = true := by kernel_rfl
theorem impl_known.calls (k : Nat) (P0_0_ : Nat → Prop) (A0_0 : Option Addr) (c0_0 : Nat) (l0_0 : List (S100)) (r1 : List (S100)) (r2 : List (List Int)) (r3 : Bool) (w : World) (hs0_0 : Kd.V k100 100 w w.heap.size (fun k_ => P0_0_ k_) (.slice A0_0 l0_0.length c0_0) l0_0) (h : impl_known.f k l0_0 = some (r1, r2, r3)) :
  Calls Try.prog 66 #[.agg #[.slice A0_0 l0_0.length c0_0]] w fun e w' => ∃ v0_ v1_ : Value, ∃ g_ : Nat, e = .returned (.tuple #[.pointer (some ⟨g_, 0, none⟩), .bool r3]) ∧ Kd.V k100 100 w' w.heap.size (fun k_ => (P0_0_ k_ ∨ w.heap.size ≤ k_) ∧ some k_ ≠ (v1_ : Value).ownBlock) v0_ r1 ∧ Kd.S (Kd.slice 2 (Kd.int .i64)) 26 w' w.heap.size (fun k_ => (w.heap.size ≤ k_)) v1_ r2 ∧ w'.heap[g_]? = some (.cells #[v0_, v1_] 92 (0, 0)) ∧ w.heap.size ≤ g_ ∧ Below w.heap.size w w' := by
 have hu30 := Try.underlying30
 have hu84 := Try.underlying84
 have hu92 := Try.underlying92
 have HO0_0 := am (show Kd.V k100 100 w w.heap.size (fun k_ => (P0_0_ k_ ∨ w.heap.size ≤ k_)) (.slice A0_0 l0_0.length c0_0) l0_0 from Kd.V_mono hs0_0 (fun k_ hk => .inl hk))
 have HB := am (Below.refl w.heap.size w)
 have H : ((impl_verify.f k l0_0).bind fun bt425 => (some (l0_0, bt425.2.2.2, (bt425.2.2.1 == 0)))) = some (r1, r2, r3) := h
 clear h
 replace H := Option.bind_eq_some_iff.mp H
 obtain ⟨⟨t425, t426, t427, t428⟩, A20, H⟩ := H
 replace H : (some (l0_0, t428, (t427 == 0))) = some (r1, r2, r3) := H
 have A2 := am A20
 clear A20
 simp only [Option.some.injEq, Prod.mk.injEq] at H
 obtain ⟨rfl, rfl, rfl⟩ := H
 go_enter Try.func66, Try.ntmps66
 try go_wp2_with (first | ((with_reducible refine gd 1 rfl ?_); refine bX 1 #[.slice A0_0 l0_0.length c0_0] 30 HB ?_; clear HB; intro gb424 w3 hg hb BK424 GW424 HB; replace HO0_0 := am (Kd.V_below (Kd.V_elderB (kV HO0_0) gb424 (Nat.le_of_eq hg.symm)) hb); clear hb hg; have hcz4 := bK w3 BK424; have hfz4 := bF BK424) | ((with_reducible refine gk 126 rfl ?_); refine gC 126 (some 8) Try.func126 #[.agg #[.slice A0_0 l0_0.length c0_0]] ((impl_verify.calls k _ _ l0_0 t425 t426 t427 t428 _ (cc (Kd.V_reads' HO0_0.out).2.2) ((Kd.V_reads' HO0_0.out).2.1) A2.out).mono ?_); rintro e w5 ⟨v429, rfl, ho0, hb⟩; refine ⟨_, rfl, ?_⟩; replace HO0_0 := am (Kd.V_elder' (kV HO0_0) (Kd.S_base ho0) hb); have HO430 := am (Kd.S_lower (Kd.S_newM (M := fun k_ => (w.heap.size ≤ k_)) ho0 (below_size (bw HB)) (fun k_ h_ => h_)) (below_size (bw HB))); replace BK424 := bb BK424 hb; replace HB := bs HB hb; clear hb; (try clear ho0)) | ((with_reducible refine gd 4 rfl ?_); refine bX 4 #[.int .i64 0, .int .i64 0, .int .i64 0] 84 HB ?_; clear HB; intro gb431 w6 hg hb BK431 GW431 HB; replace HO0_0 := am (Kd.V_below (Kd.V_elderB (kV HO0_0) gb431 (Nat.le_of_eq hg.symm)) hb); replace HO430 := am (Kd.S_below (kS HO430) hb); obtain ⟨NB424_431, NB431_424, BK424⟩ := b3 hg BK424 hb; clear hb hg; have hnb7 := NB431_424.out; have hnc7 := NB424_431.out; have hcz8 := bK w6 BK431; have hfz8 := bF BK431))
 replace HO0_0 : Aside0 (Kd.V k100 100 (((w6.setCell ⟨gb431, 0, none⟩ (.int .i64 t425)).setCell ⟨gb431, 1, none⟩ (.int .i64 t426)).setCell ⟨gb431, 2, none⟩ (.int .i64 t427)) w.heap.size (fun k_ => (P0_0_ k_ ∨ w.heap.size ≤ k_) ∧ some k_ ≠ (v429 : Value).ownBlock ∧ k_ ≠ gb424 ∧ k_ ≠ gb431) (.slice A0_0 l0_0.length c0_0) l0_0) := ⟨by (with_reducible repeat (first | apply Kd.V_alloc | apply Kd.V_drewN | apply Kd.V_drew)); exact Kd.V_mono (Kd.V_far (p := ⟨gb431, 2, none⟩) (Kd.V_far (p := ⟨gb431, 1, none⟩) (Kd.V_far (p := ⟨gb431, 0, none⟩) (Kd.V_mono HO0_0.out (fun k_ hk => (⟨hk, hk.2⟩ : _ ∧ k_ ≠ gb431))) (fun _ hk => hk.2) (.int .i64 t425)) (fun _ hk => hk.2) (.int .i64 t426)) (fun _ hk => hk.2) (.int .i64 t427)) (fun _ hk => ⟨hk.1.1.1.1, ⟨hk.1.1.2, ⟨hk.1.1.1.2, hk.1.2⟩⟩⟩)⟩
 replace HO430 : Aside0 (Kd.S (Kd.slice 2 (Kd.int .i64)) 26 (((w6.setCell ⟨gb431, 0, none⟩ (.int .i64 t425)).setCell ⟨gb431, 1, none⟩ (.int .i64 t426)).setCell ⟨gb431, 2, none⟩ (.int .i64 t427)) w.heap.size (fun k_ => (w.heap.size ≤ k_)) v429 t428) := ⟨by (with_reducible repeat (first | apply Kd.S_alloc | apply Kd.S_drewN | apply Kd.S_drew)); exact Kd.S_mono (Kd.S_far (p := ⟨gb431, 2, none⟩) (Kd.S_far (p := ⟨gb431, 1, none⟩) (Kd.S_far (p := ⟨gb431, 0, none⟩) (Kd.S_types HO430.out BK431.out (by decide)) (fun _ hk => hk.2) (.int .i64 t425)) (fun _ hk => hk.2) (.int .i64 t426)) (fun _ hk => hk.2) (.int .i64 t427)) (fun _ hk => hk.1.1)⟩
 replace BK424 : Aside0 ((((w6.setCell ⟨gb431, 0, none⟩ (.int .i64 t425)).setCell ⟨gb431, 1, none⟩ (.int .i64 t426)).setCell ⟨gb431, 2, none⟩ (.int .i64 t427)).heap[gb424]? = some (.cells #[.slice A0_0 l0_0.length c0_0] 30 (0, 0))) := ⟨by (with_reducible repeat (first | apply dN | apply dW | apply dA)); refine blk_far ?_ NB424_431.out _; (with_reducible repeat (first | apply dN | apply dW | apply dA)); refine blk_far ?_ NB424_431.out _; (with_reducible repeat (first | apply dN | apply dW | apply dA)); refine blk_far ?_ NB424_431.out _; exact bp BK424⟩
 replace BK431 : Aside0 ((((w6.setCell ⟨gb431, 0, none⟩ (.int .i64 t425)).setCell ⟨gb431, 1, none⟩ (.int .i64 t426)).setCell ⟨gb431, 2, none⟩ (.int .i64 t427)).heap[gb431]? = some (.cells #[.int .i64 t425, .int .i64 t426, .int .i64 t427] 84 (0, 0))) := ⟨by (with_reducible repeat (first | apply dN | apply dW | apply dA)); refine blk_put (cs := #[.int .i64 t425, .int .i64 t426, .int .i64 0]) ?_ 2 _ rfl; (with_reducible repeat (first | apply dN | apply dW | apply dA)); refine blk_put (cs := #[.int .i64 t425, .int .i64 0, .int .i64 0]) ?_ 1 _ rfl; (with_reducible repeat (first | apply dN | apply dW | apply dA)); refine blk_put (cs := #[.int .i64 0, .int .i64 0, .int .i64 0]) ?_ 0 _ rfl; exact bp BK431⟩
 replace HB : Aside0 (Below w.heap.size w (((w6.setCell ⟨gb431, 0, none⟩ (.int .i64 t425)).setCell ⟨gb431, 1, none⟩ (.int .i64 t426)).setCell ⟨gb431, 2, none⟩ (.int .i64 t427))) := ⟨bw HB⟩
 generalize (((w6.setCell ⟨gb431, 0, none⟩ (.int .i64 t425)).setCell ⟨gb431, 1, none⟩ (.int .i64 t426)).setCell ⟨gb431, 2, none⟩ (.int .i64 t427)) = w9 at HO0_0 HO430 BK424 BK431 HB ⊢
 replace HO0_0 := am (Kd.V_drew HO0_0.out)
 replace HO430 := am (Kd.S_drew HO430.out)
 replace BK424 := am (blk_drew BK424.out)
 replace BK431 := am (blk_drew BK431.out)
 replace HB := am (below_drew1 HB.out)
 obtain ⟨Ao11, co11, eo11⟩ := Kd.S_slice HO430.out
 (first | subst eo11 | (injection eo11 with f1_ f2_ f3_; have f4_ := f1_.symm; have f5_ := f3_.symm; clear f1_ f2_ f3_; subst f4_; subst f5_))
 refine start_ (n := 9) (S := fun w' => w'.cell? ⟨gb424, 0, none⟩ = some (.slice A0_0 l0_0.length c0_0) ∧ w'.cell? ⟨gb431, 0, none⟩ = some (.int .i64 t425) ∧ w'.cell? ⟨gb431, 1, none⟩ = some (.int .i64 t426) ∧ w'.cell? ⟨gb431, 2, none⟩ = some (.int .i64 t427)) (ds := []) (bv 9 0) (by kernel_rfl) rfl (by kernel_rfl) ⟨bc BK424 0, bc BK431 0, bc BK431 1, bc BK431 2⟩ (fun hHeld => ?_); refine with_tabW impl_known.tab2 impl_known.bits2 (fun HT_ HW_ => ?_)
 generalize w9.drew = w10 at HO0_0 HO430 BK424 BK431 HB hHeld ⊢
 refine pu 1 12 9 2 HT_ ?_
 refine pu 4 15 9 18 HT_ ?_
 refine tk 0 11 9 19 HT_ HW_ hHeld ?_
 refine pu 2 13 9 23 HT_ ?_
 refine tk 5 16 9 55 HT_ HW_ hHeld ?_
 refine pu 6 17 9 119 HT_ ?_
 refine on 3 (some 14) 9 127 HT_ fun K hK => ?_
 refine box_step ?hg (N := 14) ?hd (cs := #[.slice A0_0 l0_0.length c0_0, .slice Ao11 t428.length co11]) (t := 92) ?hr ?_; (case hd => rfl); (case hg => rfl); (case hr => exact gs)
 intro gb432 hg w12 hbox hb
 have n0_ := am (Kd.V_below (Kd.V_elderB (kV HO0_0) gb432 (Nat.le_of_eq hg.symm)) hb)
 have n1_ := am (Kd.S_below (kS HO430) hb)
 have n2_ := bb BK424 hb
 have n3_ := bb BK431 hb
 have n4_ := am (below_step (bw HB) hb)
 have n5_ := am (hbox)
 have n6_ := gw hg HB
 have n7_ := gw hg HB
 have n8_ := am ((by rw [hg]; exact Nat.ne_of_lt (blk_lt (g := gb424) (o := .cells #[.slice A0_0 l0_0.length c0_0] 30 (0, 0)) (bp BK424)) : gb424 ≠ gb432))
 have n9_ := am ((by rw [hg]; exact Nat.ne_of_gt (blk_lt (g := gb424) (o := .cells #[.slice A0_0 l0_0.length c0_0] 30 (0, 0)) (bp BK424)) : gb432 ≠ gb424))
 have n10_ := am ((by rw [hg]; exact Nat.ne_of_lt (blk_lt (g := gb431) (o := .cells #[.int .i64 t425, .int .i64 t426, .int .i64 t427] 84 (0, 0)) (bp BK431)) : gb431 ≠ gb432))
 have n11_ := am ((by rw [hg]; exact Nat.ne_of_gt (blk_lt (g := gb431) (o := .cells #[.int .i64 t425, .int .i64 t426, .int .i64 t427] 84 (0, 0)) (bp BK431)) : gb432 ≠ gb431))
 clear HO0_0
 clear HO430
 clear BK424
 clear BK431
 clear HB
 have HO0_0 := n0_
 have HO430 := n1_
 have BK424 := n2_
 have BK431 := n3_
 have HB := n4_
 have BK432 := n5_
 have GW432 := n6_
 have GE432 := n7_
 have NB424_432 := n8_
 have NB432_424 := n9_
 have NB431_432 := n10_
 have NB432_431 := n11_
 clear n0_ n1_ n2_ n3_ n4_ n5_ n6_ n7_ n8_ n9_ n10_ n11_
 clear hb hbox hg
 refine hK.out _ _ ⟨bc BK424 0, bc BK431 0, bc BK431 1, bc BK431 2⟩ (fun hHeld => ?_)
 clear hK K
 refine nm (some 14) ?_
 refine pu 7 2 9 255 HT_ ?_
 refine pu 8 3 9 511 HT_ ?_
 refine done_ (done_of HT_.out (by kernel_rfl)) ?_
 try go_wp2
 go_ret2
 exact ⟨_, _, gb432, er, by (with_reducible repeat (first | apply Kd.V_alloc | apply Kd.V_drewN | apply Kd.V_drew)); exact Kd.V_mono HO0_0.out (fun _ hk => ⟨hk.1.1, hk.1.2.1⟩), kS HO430, (bp BK432), GW432.out, bw HB⟩

end Go.Proofs.Ytbmjmaahcaoajaa.QFnExactStateRight
