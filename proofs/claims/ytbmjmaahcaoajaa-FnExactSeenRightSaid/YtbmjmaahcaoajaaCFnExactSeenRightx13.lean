import Derived.Test.YtbmjmaahcaoajaaCFnExactSeenRightx0
import Derived.Test.YtbmjmaahcaoajaaCFnExactSeenRightx10
import Derived.Test.YtbmjmaahcaoajaaCFnExactSeenRightx12
namespace Go.Proofs.Ytbmjmaahcaoajaa.QFnExactSeenRight
open Go.RowKit Go.Proofs.YtbmjmaahcaoajaaW
open PrintWords PrintLast PrintMore PrintShort
attribute [local go_sem] max2_int min2_int max_two min_two max_three min_three max_four min_four   -- for this text's walks alone
set_option linter.unusedVariables false
set_option maxHeartbeats 8000000
set_option maxRecDepth 100000
set_option linter.unusedSimpArgs false

mutual
def impl_verify.j0 : Nat → Bool → List (S100) → Option (Int × Int × Int × (List (List Int)))
 | 0, _, _ => none
 | k + 1, x21, x331000 => if x21 = true then (some (0, 0, 1, ([] : List (List Int)))) else (impl_verify.l0 k ([] : List (List Int)) x331000 (x331000.length : Int) 0 x331000)
def impl_verify.l0 : Nat → List (List Int) → List (S100) → Int → Int → List (S100) → Option (Int × Int × Int × (List (List Int)))
 | 0, _, _, _, _, _ => none
 | k + 1, x4, x24, x25, x26, x331000 => if x26 < x25 then (if 0 ≤ x26 then (if x26 < (x24.length : Int) then ((impl_in.f ((rd_T100 x24 x26).f0) 0 4).bind fun t334 => (if t334 = true then ((impl_in.f ((rd_T100 x24 x26).f1) ((rd_T100 x24 x26).f0) 8).bind fun t335 => (if t335 = true then ((impl_in.f (((rd_T100 x24 x26).f2).length : Int) 1 60).bind fun t336 => (impl_verify.j2 k x4 x26 x24 x25 x26 (!t336) x331000 ((rd_T100 x24 x26).f0) ((rd_T100 x24 x26).f1) ((rd_T100 x24 x26).f2))) else (impl_verify.j2 k x4 x26 x24 x25 x26 true x331000 ((rd_T100 x24 x26).f0) ((rd_T100 x24 x26).f1) ((rd_T100 x24 x26).f2)))) else (impl_verify.j2 k x4 x26 x24 x25 x26 true x331000 ((rd_T100 x24 x26).f0) ((rd_T100 x24 x26).f1) ((rd_T100 x24 x26).f2)))) else (none)) else (none)) else (some (0, 0, 0, x4))
def impl_verify.j2 : Nat → List (List Int) → Int → List (S100) → Int → Int → Bool → List (S100) → Int → Int → List (S102) → Option (Int × Int × Int × (List (List Int)))
 | 0, _, _, _, _, _, _, _, _, _, _ => none
 | k + 1, x4, x5, x24, x25, x26, x49, x331000, x334000, x334001, x334002 => if x49 = true then (some (x5, 0, 1, ([] : List (List Int)))) else (impl_verify.l1 k x4 x5 x24 x25 x26 x334002 (x334002.length : Int) 0 x331000)
def impl_verify.l1 : Nat → List (List Int) → Int → List (S100) → Int → Int → List (S102) → Int → Int → List (S100) → Option (Int × Int × Int × (List (List Int)))
 | 0, _, _, _, _, _, _, _, _, _ => none
 | k + 1, x4, x5, x24, x25, x26, x53, x54, x55, x331000 => if x55 < x54 then (if 0 ≤ x55 then (if x55 < (x53.length : Int) then ((impl_InsRight.f k x331000 x5 ((rd_T102 x53 x55).f0) ((rd_T102 x53 x55).f1)).bind fun t339 => (if t339 = true then (impl_verify.l1 k x4 x5 x24 x25 x26 x53 x54 (wrap64 (x55 + 1)) x331000) else (some (x5, x55, 1, ([] : List (List Int)))))) else (none)) else (none)) else ((impl_heightsOf.f k x331000 x5).bind fun bt340 => (if bt340.2.2 = 0 then (if x4.length < 5864062014805 then (impl_verify.l0 k (x4 ++ [bt340.1]) x24 x25 (wrap64 (x26 + 1)) x331000) else (none)) else (some (x5, bt340.2.1, bt340.2.2, ([] : List (List Int))))))
end
def impl_verify.f (k : Nat) (l0_0 : List (S100)) : Option (Int × Int × Int × (List (List Int))) := if (l0_0.length : Int) < 1 then (impl_verify.j0 k true l0_0) else (impl_verify.j0 k (decide ((l0_0.length : Int) > 6)) l0_0)
theorem impl_verify.mono_l : ∀ k, (∀ y0 y1, LeO (impl_verify.j0 k y0 y1) (impl_verify.j0 (k + 1) y0 y1)) ∧ (∀ y0 y1 y2 y3 y4, LeO (impl_verify.l0 k y0 y1 y2 y3 y4) (impl_verify.l0 (k + 1) y0 y1 y2 y3 y4)) ∧ (∀ y0 y1 y2 y3 y4 y5 y6 y7 y8 y9, LeO (impl_verify.j2 k y0 y1 y2 y3 y4 y5 y6 y7 y8 y9) (impl_verify.j2 (k + 1) y0 y1 y2 y3 y4 y5 y6 y7 y8 y9)) ∧ (∀ y0 y1 y2 y3 y4 y5 y6 y7 y8, LeO (impl_verify.l1 k y0 y1 y2 y3 y4 y5 y6 y7 y8) (impl_verify.l1 (k + 1) y0 y1 y2 y3 y4 y5 y6 y7 y8))
 | 0 => ⟨fun _ _ r h => by simp [impl_verify.j0] at h, fun _ _ _ _ _ r h => by simp [impl_verify.l0] at h, fun _ _ _ _ _ _ _ _ _ _ r h => by simp [impl_verify.j2] at h, fun _ _ _ _ _ _ _ _ _ r h => by simp [impl_verify.l1] at h⟩
 | k + 1 => by
  obtain ⟨ih0, ih1, ih2, ih3⟩ := impl_verify.mono_l k
  refine ⟨?_, ?_, ?_, ?_⟩
  ·intro y0 y1
   unfold impl_verify.j0
   with_reducible repeat' first | exact ih0 .. | exact ih1 .. | exact ih2 .. | exact ih3 .. | exact impl_InsRight.mono .. | exact impl_heightsOf.mono .. | exact LeO.refl _ | exact LeO.none _ | refine LeO.ite ?_ ?_ | refine LeO.bind ?_ (fun _ => ?_)
  ·intro y0 y1 y2 y3 y4
   unfold impl_verify.l0
   with_reducible repeat' first | exact ih0 .. | exact ih1 .. | exact ih2 .. | exact ih3 .. | exact impl_InsRight.mono .. | exact impl_heightsOf.mono .. | exact LeO.refl _ | exact LeO.none _ | refine LeO.ite ?_ ?_ | refine LeO.bind ?_ (fun _ => ?_)
  ·intro y0 y1 y2 y3 y4 y5 y6 y7 y8 y9
   unfold impl_verify.j2
   with_reducible repeat' first | exact ih0 .. | exact ih1 .. | exact ih2 .. | exact ih3 .. | exact impl_InsRight.mono .. | exact impl_heightsOf.mono .. | exact LeO.refl _ | exact LeO.none _ | refine LeO.ite ?_ ?_ | refine LeO.bind ?_ (fun _ => ?_)
  ·intro y0 y1 y2 y3 y4 y5 y6 y7 y8
   unfold impl_verify.l1
   with_reducible repeat' first | exact ih0 .. | exact ih1 .. | exact ih2 .. | exact ih3 .. | exact impl_InsRight.mono .. | exact impl_heightsOf.mono .. | exact LeO.refl _ | exact LeO.none _ | refine LeO.ite ?_ ?_ | refine LeO.bind ?_ (fun _ => ?_)
theorem impl_verify.mono : ∀ a0 k, LeO (impl_verify.f k a0) (impl_verify.f (k + 1) a0) := by
 intro a0 k
 obtain ⟨ih0, ih1, ih2, ih3⟩ := impl_verify.mono_l k
 unfold impl_verify.f
 with_reducible repeat' first | exact ih0 .. | exact ih1 .. | exact ih2 .. | exact ih3 .. | exact impl_InsRight.mono .. | exact impl_heightsOf.mono .. | exact LeO.refl _ | exact LeO.none _ | refine LeO.ite ?_ ?_ | refine LeO.bind ?_ (fun _ => ?_)
theorem impl_verify.calls (k : Nat) (A0_0 : Option Addr) (c0_0 : Nat) (l0_0 : List (S100)) (r1 : Int) (r2 : Int) (r3 : Int) (r4 : List (List Int)) (w : World) (hr0_0 : Kd.C k100 w A0_0 l0_0.length l0_0) (hc0_0 : l0_0.length ≤ c0_0) (h : impl_verify.f k l0_0 = some (r1, r2, r3, r4)) :
  Calls Try.prog 126 #[.agg #[.slice A0_0 l0_0.length c0_0]] w fun e w' => ∃ v3_ : Value, e = .returned (.tuple #[.agg #[.int .i64 r1, .int .i64 r2, .int .i64 r3], v3_]) ∧ Kd.S (Kd.slice 2 (Kd.int .i64)) 26 w' w.heap.size (fun _ => True) v3_ r4 ∧ Below w.heap.size w w' := by
 have hu30 := Try.underlying30
 have hu84 := Try.underlying84
 have hu100 := Try.underlying100
 have hu102 := Try.underlying102
 have HR0_0 := am hr0_0
 have HC0_0 := am hc0_0
 clear hr0_0 hc0_0
 have HB := am (Below.refl w.heap.size w)
 have H : (if (l0_0.length : Int) < 1 then (impl_verify.j0 k true l0_0) else (impl_verify.j0 k (decide ((l0_0.length : Int) > 6)) l0_0)) = some (r1, r2, r3, r4) := h
 clear h
 have HC2 := am H
 clear H
 go_enter Try.func126, Try.ntmps126
 go_upto_region 1 with (first | ((with_reducible refine gate_dst (N := 1) rfl ?_); (try (refine gate_guard (by rfl) ?_; dsimp only)); refine box_event ?hg (N := 1) ?hd (cs := #[.slice A0_0 l0_0.length c0_0]) (t := 30) ?hr ?_; (case hd => rfl); (case hg => rfl); (case hr => exact gs); intro gb330 hg w3 hbox hb; have BK330 := am (hbox); have GW330 := gw hg HB; replace HB := bs HB hb; clear hb hbox hg) | ((with_reducible refine gate_dst (N := 2) rfl ?_); (try (refine gate_guard (by rfl) ?_; dsimp only)); refine box_event ?hg (N := 2) ?hd (cs := #[.int .i64 0, .int .i64 0, .int .i64 0]) (t := 84) ?hr ?_; (case hd => rfl); (case hg => rfl); (case hr => exact gs); intro gb331 hg w4 hbox hb; have BK331 := am (hbox); have GW331 := gw hg HB; replace HB := bs HB hb; obtain ⟨NB330_331, NB331_330, BK330⟩ := b3 hg BK330 hb; clear hb hbox hg))
 (try simp only [Act.put, sa, sz, ss])
 go_cut [21] (fun v21 wc => ∃ (kq : Nat) (x21_1 : Bool), v21 = .bool x21_1 ∧ Aside0 (impl_verify.j0 kq x21_1 l0_0 = some (r1, r2, r3, r4)) ∧ Aside0 (kq ≤ k) ∧ Aside0 (wc.heap[gb330]? = some (.cells #[(.slice A0_0 l0_0.length c0_0)] 30 (0, 0))) ∧ Aside0 (wc.heap[gb331]? = some (.cells #[.int .i64 0, .int .i64 0, .int .i64 0] 84 (0, 0))) ∧ Aside0 (Below w.heap.size w wc))
 case first =>
  have H := HC2.out
  clear HC2
  refine qI H ?_ ?_ <;> clear H <;> intro c5b0 H
  ·have c5 := of_decide_eq_true c5b0
   have c5b1 : decide (l0_0.length < 1) = true := decide_eq_true (by omega)
   clear c5
   (first | rw [c5b0] | (simp only [i64_w, i32_w]; rw [c5b0]) | skip)
   have H' := am H
   clear H
   have hnb6 := NB330_331.out
   have hnc6 := NB331_330.out
   have hcz7 := bK w4 BK330
   have hfz7 := bF BK330
   go_wp2
   go_meet
   case rel => exact ⟨_, (true), dr, H', ⟨lk0⟩, ⟨bp BK330⟩, ⟨bp BK331⟩, ⟨bw HB⟩⟩
  have c5 := of_decide_eq_false c5b0
  have c5b1 : decide (l0_0.length < 1) = false := decide_eq_false (by omega)
  clear c5
  (first | rw [c5b0] | (simp only [i64_w, i32_w]; rw [c5b0]) | skip)
  have H' := am H
  clear H
  have hnb8 := NB330_331.out
  have hnc8 := NB331_330.out
  have hcz9 := bK w4 BK330
  have hfz9 := bF BK330
  go_wp2
  go_meet
  case rel => exact ⟨_, (decide ((l0_0.length : Int) > 6)), dr, H', ⟨lk0⟩, ⟨bp BK330⟩, ⟨bp BK331⟩, ⟨bw HB⟩⟩
 clear HC2
 (try clear c1); (try clear p2); (try clear c5); (try clear c5b0); (try clear c5b1); (try clear c6); (try clear c8); (try clear hcz7); (try clear hcz9); (try clear hfz7); (try clear hfz9)
 obtain ⟨kq, x21_1, rfl, HA, HJ1, BK330, BK331, HB⟩ := hcut
 rcases kq with _ | kj1
 ·exact absurd HA.out (by simp [impl_verify.j0])
 have H := HA.out
 clear HA
 simp only [impl_verify.j0] at H
 refine qT H ?_ ?_ <;> clear H <;> intro c10 H <;> subst c10
 ·simp only [Option.some.injEq, Prod.mk.injEq] at H
  obtain ⟨rfl, rfl, rfl, rfl⟩ := H
  have hnb11 := NB331_330.out
  have hnc11 := NB330_331.out
  have hcz12 := bK wc BK331
  have hfz12 := bF BK331
  go_wp2
  refine bodyPost_ret (results_ct rfl _ _ gb331 84 #[.int .i64 0, .int .i64 0, .int .i64 1] (0, 0) _ rfl (bt BK331) Try.underlying84 rfl (by kernel_rfl)) rfl ?_
  exact ⟨_, er, by first | exact Kd.S_nil _ _ _ _ _ | exact Kd.N_nil _ _ _ _ _ | exact Kd.V_nil _ _ _ _ _ | exact Kd.Q_nil _ _ _ _ _ | exact Kd.R_nil _ _ _ _ _, bw HB⟩
 have H' := am H
 clear H
 have hnb13 := NB330_331.out
 have hnc13 := NB331_330.out
 have hcz14 := bK wc BK330
 have hfz14 := bF BK330
 go_wp2
 go_loopg [4, 26] kj1 (fun kq v4 v26 w' => ∃ (x4_2 : List (List Int)) (x26_2 : Int) (x332000_2 : Int) (x332001_2 : Int) (x332002_2 : Int), v26 = .int .i64 x26_2 ∧ Aside0 (impl_verify.l0 kq x4_2 l0_0 (l0_0.length : Int) x26_2 l0_0 = some (r1, r2, r3, r4)) ∧ Aside0 (kq ≤ kj1) ∧ Aside0 (Kd.S (Kd.slice 2 (Kd.int .i64)) 26 w' w.heap.size (fun _ => True) v4 x4_2) ∧ Aside0 (w'.heap[gb330]? = some (.cells #[(.slice A0_0 l0_0.length c0_0)] 30 (0, 0))) ∧ Aside0 (w'.heap[gb331]? = some (.cells #[.int .i64 x332000_2, .int .i64 x332001_2, .int .i64 x332002_2] 84 (0, 0))) ∧ Aside0 (Below w.heap.size w w'))
 case atStart => exact ⟨(([] : List (List Int))), (0), (0), (0), (0), dr, H', ⟨Nat.le_refl _⟩, ⟨by first | exact Kd.S_nil _ _ _ _ _ | exact Kd.N_nil _ _ _ _ _ | exact Kd.V_nil _ _ _ _ _ | exact Kd.Q_nil _ _ _ _ _ | exact Kd.R_nil _ _ _ _ _⟩, ⟨bp BK330⟩, ⟨bp BK331⟩, ⟨bw HB⟩⟩
 clear H'
 (try clear c10); (try clear c11); (try clear c12); (try clear c13); (try clear hcz12); (try clear hcz14); (try clear hfz12); (try clear hfz14)
 obtain ⟨x4_2, x26_2, x332000_2, x332001_2, x332002_2, rfl, HA, HK2, HO_4, BK330, BK331, HB⟩ := hrel
 rcases gk with _ | k2
 ·exact absurd HA.out (by simp [impl_verify.l0])
 have H := HA.out
 clear HA
 simp only [impl_verify.l0] at H
 by_cases c15 : x26_2 < (l0_0.length : Int)
 ·rw [if_pos c15] at H
  have c15b0 := decide_eq_true c15
  clear c15
  refine iN H ?_; clear H; intro c16 H
  have c16b0 := decide_eq_true c16
  clear c16
  refine iN H ?_; clear H; intro c17 H
  have c17b0 := decide_eq_true c17
  clear c17
  have HC18 := am H
  clear H
  have p332 : 0 ≤ (x26_2 : Int) := of_decide_eq_true as1
  have q332 : x26_2 < (l0_0.length : Int) := of_decide_eq_true as1
  obtain ⟨ad332, A332_2, c332_2, e332, hx332_0, hx332_1, hx332_2, hl332_2, hi332_2⟩ := at_T100 HR0_0.out x26_2 p332 q332
  cases e332
  replace hx332_0 := cl HB hx332_0
  replace hx332_1 := cl HB hx332_1
  replace hx332_2 := cl HB hx332_2
  have HR332_2 := am hi332_2
  have HC332_2 := am hl332_2
  clear hi332_2 hl332_2
  replace p332 := eq_true p332
  replace q332 := eq_true q332
  go_upto_region 7 with (first | ((with_reducible refine gate_dst (N := 6) rfl ?_); (try (refine gate_guard (by rfl) ?_; dsimp only)); refine box_event ?hg (N := 6) ?hd (cs := #[.int .i64 0, .int .i64 0, .slice none 0 0]) (t := 100) ?hr ?_; (case hd => rfl); (case hg => rfl); (case hr => exact gs); intro gb333 hg w19 hbox hb; replace HO_4 := am (Kd.S_below (kS HO_4) hb); have BK333 := am (hbox); have GW333 := gw hg HB; replace HB := bs HB hb; obtain ⟨NB330_333, NB333_330, BK330⟩ := b3 hg BK330 hb; obtain ⟨NB331_333, NB333_331, BK331⟩ := b3 hg BK331 hb; clear hb hbox hg; have hnb20 := NB333_330.out; have hnc20 := NB330_333.out; have hnb21 := NB333_331.out; have hnc21 := NB331_333.out; have hcz22 := bK w19 BK333; have hfz22 := bF BK333))
  (try simp only [Act.put, sa, sz, ss])
  go_cut [49] (fun v49 wc => ∃ (kq : Nat) (x49_17 : Bool), v49 = .bool x49_17 ∧ Aside0 (impl_verify.j2 kq x4_2 x26_2 l0_0 (l0_0.length : Int) x26_2 x49_17 l0_0 ((rd_T100 l0_0 x26_2).f0) ((rd_T100 l0_0 x26_2).f1) ((rd_T100 l0_0 x26_2).f2) = some (r1, r2, r3, r4)) ∧ Aside0 (kq ≤ k2) ∧ Aside0 (Kd.S (Kd.slice 2 (Kd.int .i64)) 26 wc w.heap.size (fun _ => True) u4 x4_2) ∧ Aside0 (wc.heap[gb330]? = some (.cells #[(.slice (some ad332) l0_0.length c0_0)] 30 (0, 0))) ∧ Aside0 (wc.heap[gb331]? = some (.cells #[.int .i64 x332000_2, .int .i64 x332001_2, .int .i64 x332002_2] 84 (0, 0))) ∧ Aside0 (wc.heap[gb333]? = some (.cells #[.int .i64 ((rd_T100 l0_0 x26_2).f0), .int .i64 ((rd_T100 l0_0 x26_2).f1), (.slice A332_2 ((rd_T100 l0_0 x26_2).f2).length c332_2)] 100 (0, 0))) ∧ Aside0 (Below w.heap.size w wc))
  case first =>
   have H := HC18.out
   clear HC18
   refine be H ?_; clear H; intro t334 A23 H
   refine qT H ?_ ?_ <;> clear H <;> intro c24 H <;> subst c24
   ·refine be H ?_; clear H; intro t335 A25 H
    refine qT H ?_ ?_ <;> clear H <;> intro c26 H <;> subst c26
    ·refine be H ?_; clear H; intro t336 A27 H
     have H' := am H
     clear H
     have hnb28 := NB333_330.out
     have hnc28 := NB330_333.out
     have hnb29 := NB333_331.out
     have hnc29 := NB331_333.out
     have hcz30 := bK w19 BK333
     have hfz30 := bF BK333
     go_wp2_with (first | ((with_reducible refine gate_callee (f := 85) rfl ?_); refine goesL_ (some 33) rfl rfl Try.func85 (by kernel_rfl) rfl #[.int .i64 ((rd_T100 l0_0 x26_2).f0), .int .i64 0, .int .i64 4] rfl gl ?_; (with_reducible refine (impl_in.calls ((rd_T100 l0_0 x26_2).f0) 0 4 true _ A23.out).mono ?_); rintro e w' ⟨rfl, ⟨nd, rfl⟩⟩; refine ⟨_, rfl, ?_⟩) | (go_at_call 85; (with_reducible refine (impl_in.calls ((rd_T100 l0_0 x26_2).f1) ((rd_T100 l0_0 x26_2).f0) 8 true _ A25.out).mono ?_); rintro e w' ⟨rfl, ⟨nd, rfl⟩⟩) | (go_at_call 85; (with_reducible refine (impl_in.calls (((rd_T100 l0_0 x26_2).f2).length : Int) 1 60 t336 _ A27.out).mono ?_); rintro e w' ⟨rfl, ⟨nd, rfl⟩⟩))
     go_meet
     case rel => exact ⟨_, (!t336), dr, H', ⟨lk2 HJ1 HK2⟩, ⟨by (with_reducible repeat (first | apply Kd.S_alloc | apply Kd.S_drewN | apply Kd.S_drew)); exact Kd.S_mono (Kd.S_far (p := ⟨gb333, 2, none⟩) (Kd.S_far (p := ⟨gb333, 1, none⟩) (Kd.S_far (p := ⟨gb333, 0, none⟩) (Kd.S_types HO_4.out BK333.out (by decide)) (fun _ hk => hk.2) (.int .i64 ((rd_T100 l0_0 x26_2).f0))) (fun _ hk => hk.2) (.int .i64 ((rd_T100 l0_0 x26_2).f1))) (fun _ hk => hk.2) (.slice A332_2 ((rd_T100 l0_0 x26_2).f2).length c332_2)) (fun _ hk => trivial)⟩, ⟨by (with_reducible repeat (first | apply dN | apply dW | apply dA)); refine blk_far ?_ NB330_333.out _; (with_reducible repeat (first | apply dN | apply dW | apply dA)); refine blk_far ?_ NB330_333.out _; (with_reducible repeat (first | apply dN | apply dW | apply dA)); refine blk_far ?_ NB330_333.out _; exact bp BK330⟩, ⟨by (with_reducible repeat (first | apply dN | apply dW | apply dA)); refine blk_far ?_ NB331_333.out _; (with_reducible repeat (first | apply dN | apply dW | apply dA)); refine blk_far ?_ NB331_333.out _; (with_reducible repeat (first | apply dN | apply dW | apply dA)); refine blk_far ?_ NB331_333.out _; exact bp BK331⟩, ⟨by (with_reducible repeat (first | apply dN | apply dW | apply dA)); refine blk_put (cs := #[.int .i64 ((rd_T100 l0_0 x26_2).f0), .int .i64 ((rd_T100 l0_0 x26_2).f1), .slice none 0 0]) ?_ 2 _ rfl; (with_reducible repeat (first | apply dN | apply dW | apply dA)); refine blk_put (cs := #[.int .i64 ((rd_T100 l0_0 x26_2).f0), .int .i64 0, .slice none 0 0]) ?_ 1 _ rfl; (with_reducible repeat (first | apply dN | apply dW | apply dA)); refine blk_put (cs := #[.int .i64 0, .int .i64 0, .slice none 0 0]) ?_ 0 _ rfl; exact bp BK333⟩, ⟨bw HB⟩⟩
    have H' := am H
    clear H
    have hnb31 := NB333_330.out
    have hnc31 := NB330_333.out
    have hnb32 := NB333_331.out
    have hnc32 := NB331_333.out
    have hcz33 := bK w19 BK333
    have hfz33 := bF BK333
    go_wp2_with (first | ((with_reducible refine gate_callee (f := 85) rfl ?_); refine goesL_ (some 33) rfl rfl Try.func85 (by kernel_rfl) rfl #[.int .i64 ((rd_T100 l0_0 x26_2).f0), .int .i64 0, .int .i64 4] rfl gl ?_; (with_reducible refine (impl_in.calls ((rd_T100 l0_0 x26_2).f0) 0 4 true _ A23.out).mono ?_); rintro e w' ⟨rfl, ⟨nd, rfl⟩⟩; refine ⟨_, rfl, ?_⟩) | (go_at_call 85; (with_reducible refine (impl_in.calls ((rd_T100 l0_0 x26_2).f1) ((rd_T100 l0_0 x26_2).f0) 8 false _ A25.out).mono ?_); rintro e w' ⟨rfl, ⟨nd, rfl⟩⟩))
    go_meet
    case rel => exact ⟨_, (true), dr, H', ⟨lk2 HJ1 HK2⟩, ⟨by (with_reducible repeat (first | apply Kd.S_alloc | apply Kd.S_drewN | apply Kd.S_drew)); exact Kd.S_mono (Kd.S_far (p := ⟨gb333, 2, none⟩) (Kd.S_far (p := ⟨gb333, 1, none⟩) (Kd.S_far (p := ⟨gb333, 0, none⟩) (Kd.S_types HO_4.out BK333.out (by decide)) (fun _ hk => hk.2) (.int .i64 ((rd_T100 l0_0 x26_2).f0))) (fun _ hk => hk.2) (.int .i64 ((rd_T100 l0_0 x26_2).f1))) (fun _ hk => hk.2) (.slice A332_2 ((rd_T100 l0_0 x26_2).f2).length c332_2)) (fun _ hk => trivial)⟩, ⟨by (with_reducible repeat (first | apply dN | apply dW | apply dA)); refine blk_far ?_ NB330_333.out _; (with_reducible repeat (first | apply dN | apply dW | apply dA)); refine blk_far ?_ NB330_333.out _; (with_reducible repeat (first | apply dN | apply dW | apply dA)); refine blk_far ?_ NB330_333.out _; exact bp BK330⟩, ⟨by (with_reducible repeat (first | apply dN | apply dW | apply dA)); refine blk_far ?_ NB331_333.out _; (with_reducible repeat (first | apply dN | apply dW | apply dA)); refine blk_far ?_ NB331_333.out _; (with_reducible repeat (first | apply dN | apply dW | apply dA)); refine blk_far ?_ NB331_333.out _; exact bp BK331⟩, ⟨by (with_reducible repeat (first | apply dN | apply dW | apply dA)); refine blk_put (cs := #[.int .i64 ((rd_T100 l0_0 x26_2).f0), .int .i64 ((rd_T100 l0_0 x26_2).f1), .slice none 0 0]) ?_ 2 _ rfl; (with_reducible repeat (first | apply dN | apply dW | apply dA)); refine blk_put (cs := #[.int .i64 ((rd_T100 l0_0 x26_2).f0), .int .i64 0, .slice none 0 0]) ?_ 1 _ rfl; (with_reducible repeat (first | apply dN | apply dW | apply dA)); refine blk_put (cs := #[.int .i64 0, .int .i64 0, .slice none 0 0]) ?_ 0 _ rfl; exact bp BK333⟩, ⟨bw HB⟩⟩
   have H' := am H
   clear H
   have hnb34 := NB333_330.out
   have hnc34 := NB330_333.out
   have hnb35 := NB333_331.out
   have hnc35 := NB331_333.out
   have hcz36 := bK w19 BK333
   have hfz36 := bF BK333
   go_wp2_with (first | ((with_reducible refine gate_callee (f := 85) rfl ?_); refine goesL_ (some 33) rfl rfl Try.func85 (by kernel_rfl) rfl #[.int .i64 ((rd_T100 l0_0 x26_2).f0), .int .i64 0, .int .i64 4] rfl gl ?_; (with_reducible refine (impl_in.calls ((rd_T100 l0_0 x26_2).f0) 0 4 false _ A23.out).mono ?_); rintro e w' ⟨rfl, ⟨nd, rfl⟩⟩; refine ⟨_, rfl, ?_⟩))
   go_meet
   case rel => exact ⟨_, (true), dr, H', ⟨lk2 HJ1 HK2⟩, ⟨by (with_reducible repeat (first | apply Kd.S_alloc | apply Kd.S_drewN | apply Kd.S_drew)); exact Kd.S_mono (Kd.S_far (p := ⟨gb333, 2, none⟩) (Kd.S_far (p := ⟨gb333, 1, none⟩) (Kd.S_far (p := ⟨gb333, 0, none⟩) (Kd.S_types HO_4.out BK333.out (by decide)) (fun _ hk => hk.2) (.int .i64 ((rd_T100 l0_0 x26_2).f0))) (fun _ hk => hk.2) (.int .i64 ((rd_T100 l0_0 x26_2).f1))) (fun _ hk => hk.2) (.slice A332_2 ((rd_T100 l0_0 x26_2).f2).length c332_2)) (fun _ hk => trivial)⟩, ⟨by (with_reducible repeat (first | apply dN | apply dW | apply dA)); refine blk_far ?_ NB330_333.out _; (with_reducible repeat (first | apply dN | apply dW | apply dA)); refine blk_far ?_ NB330_333.out _; (with_reducible repeat (first | apply dN | apply dW | apply dA)); refine blk_far ?_ NB330_333.out _; exact bp BK330⟩, ⟨by (with_reducible repeat (first | apply dN | apply dW | apply dA)); refine blk_far ?_ NB331_333.out _; (with_reducible repeat (first | apply dN | apply dW | apply dA)); refine blk_far ?_ NB331_333.out _; (with_reducible repeat (first | apply dN | apply dW | apply dA)); refine blk_far ?_ NB331_333.out _; exact bp BK331⟩, ⟨by (with_reducible repeat (first | apply dN | apply dW | apply dA)); refine blk_put (cs := #[.int .i64 ((rd_T100 l0_0 x26_2).f0), .int .i64 ((rd_T100 l0_0 x26_2).f1), .slice none 0 0]) ?_ 2 _ rfl; (with_reducible repeat (first | apply dN | apply dW | apply dA)); refine blk_put (cs := #[.int .i64 ((rd_T100 l0_0 x26_2).f0), .int .i64 0, .slice none 0 0]) ?_ 1 _ rfl; (with_reducible repeat (first | apply dN | apply dW | apply dA)); refine blk_put (cs := #[.int .i64 0, .int .i64 0, .slice none 0 0]) ?_ 0 _ rfl; exact bp BK333⟩, ⟨bw HB⟩⟩
  clear HC18
  (try clear c2); (try clear c3); (try clear p3); (try clear q3); (try clear hx3); (try clear c15); (try clear c15b0); (try clear c16); (try clear c16b0); (try clear c17); (try clear c17b0); (try clear c20); (try clear c21); (try clear c24); (try clear c26); (try clear c28); (try clear c29); (try clear c31); (try clear c32); (try clear c33); (try clear p33); (try clear q33); (try clear hx33); (try clear c34); (try clear c35); (try clear hcz22); (try clear hcz30); (try clear hcz33); (try clear hcz36); (try clear hfz22); (try clear hfz30); (try clear hfz33); (try clear hfz36); (try clear hx332_0); (try clear hx332_1); (try clear hx332_2); (try clear p332); (try clear q332)
  obtain ⟨kq, x49_17, rfl, HA, HJ17, HO_4, BK330, BK331, BK333, HB⟩ := hcut
  rcases kq with _ | kj17
  ·exact absurd HA.out (by simp [impl_verify.j2])
  have H := HA.out
  clear HA
  simp only [impl_verify.j2] at H
  refine qT H ?_ ?_ <;> clear H <;> intro c37 H <;> subst c37
  ·simp only [Option.some.injEq, Prod.mk.injEq] at H
   obtain ⟨rfl, rfl, rfl, rfl⟩ := H
   have hnb38 := NB331_330.out
   have hnc38 := NB330_331.out
   have hnb39 := NB331_333.out
   have hnc39 := NB333_331.out
   have hcz40 := bK wc BK331
   have hfz40 := bF BK331
   go_wp2
   refine bodyPost_ret (results_ct rfl _ _ gb331 84 #[.int .i64 x26_2, .int .i64 0, .int .i64 1] (0, 0) _ rfl (bt BK331) Try.underlying84 rfl (by kernel_rfl)) rfl ?_
   exact ⟨_, er, by first | exact Kd.S_nil _ _ _ _ _ | exact Kd.N_nil _ _ _ _ _ | exact Kd.V_nil _ _ _ _ _ | exact Kd.Q_nil _ _ _ _ _ | exact Kd.R_nil _ _ _ _ _, bw HB⟩
  have H' := am H
  clear H
  have hnb41 := NB333_330.out
  have hnc41 := NB330_333.out
  have hnb42 := NB333_331.out
  have hnc42 := NB331_333.out
  have hcz43 := bK wc BK333
  have hfz43 := bF BK333
  go_wp2
  go_loopg [55] kj17 (fun kq v55 w' => ∃ (x55_4 : Int) (x332000_4 : Int) (x332001_4 : Int) (x332002_4 : Int), v55 = .int .i64 x55_4 ∧ Aside0 (impl_verify.l1 kq x4_2 x26_2 l0_0 (l0_0.length : Int) x26_2 ((rd_T100 l0_0 x26_2).f2) (((rd_T100 l0_0 x26_2).f2).length : Int) x55_4 l0_0 = some (r1, r2, r3, r4)) ∧ Aside0 (kq ≤ kj17) ∧ Aside0 (Kd.S (Kd.slice 2 (Kd.int .i64)) 26 w' w.heap.size (fun _ => True) u4 x4_2) ∧ Aside0 (w'.heap[gb330]? = some (.cells #[(.slice (some ad332) l0_0.length c0_0)] 30 (0, 0))) ∧ Aside0 (w'.heap[gb331]? = some (.cells #[.int .i64 x332000_4, .int .i64 x332001_4, .int .i64 x332002_4] 84 (0, 0))) ∧ Aside0 (w'.heap[gb333]? = some (.cells #[.int .i64 ((rd_T100 l0_0 x26_2).f0), .int .i64 ((rd_T100 l0_0 x26_2).f1), (.slice A332_2 ((rd_T100 l0_0 x26_2).f2).length c332_2)] 100 (0, 0))) ∧ Aside0 (Below w.heap.size w w'))
  case atStart => exact ⟨(0), (x332000_2), (x332001_2), (x332002_2), dr, H', ⟨Nat.le_refl _⟩, ⟨kS HO_4⟩, ⟨bp BK330⟩, ⟨bp BK331⟩, ⟨bp BK333⟩, ⟨bw HB⟩⟩
  clear H'
  (try clear c4); (try clear c37); (try clear c38); (try clear c39); (try clear c41); (try clear c42); (try clear hcz40); (try clear hcz43); (try clear hfz40); (try clear hfz43)
  obtain ⟨x55_4, x332000_4, x332001_4, x332002_4, rfl, HA, HK4, HO_4, BK330, BK331, BK333, HB⟩ := hrel
  rcases gk with _ | k4
  ·exact absurd HA.out (by simp [impl_verify.l1])
  have H := HA.out
  clear HA
  simp only [impl_verify.l1] at H
  refine qI H ?_ ?_ <;> clear H <;> intro c44b0 H
  ·refine iM H ?_; clear H; intro c45b0 H
   refine iM H ?_; clear H; intro c46b0 H
   refine be H ?_; clear H; intro t339 A47 H
   refine qT H ?_ ?_ <;> clear H <;> intro c48 H <;> subst c48
   ·have H' := am H
    clear H
    have p337 : 0 ≤ (x55_4 : Int) := of_decide_eq_true as1
    have q337 : x55_4 < (((rd_T100 l0_0 x26_2).f2).length : Int) := of_decide_eq_true as1
    obtain ⟨ad337, e337, hx337_0, hx337_1⟩ := at_T102 HR332_2.out x55_4 p337 q337
    cases e337
    replace hx337_0 := cl HB hx337_0
    replace hx337_1 := cl HB hx337_1
    replace p337 := eq_true p337
    replace q337 := eq_true q337
    go_wp2_with (first | ((with_reducible refine gate_dst (N := 8) rfl ?_); (try (refine gate_guard (by rfl) ?_; dsimp only)); refine box_event ?hg (N := 8) ?hd (cs := #[.int .i64 0, .int .i64 0]) (t := 102) ?hr ?_; (case hd => rfl); (case hg => rfl); (case hr => exact gs); intro gb338 hg w49 hbox hb; replace HO_4 := am (Kd.S_below (kS HO_4) hb); have BK338 := am (hbox); have GW338 := gw hg HB; replace HB := bs HB hb; obtain ⟨NB330_338, NB338_330, BK330⟩ := b3 hg BK330 hb; obtain ⟨NB331_338, NB338_331, BK331⟩ := b3 hg BK331 hb; obtain ⟨NB333_338, NB338_333, BK333⟩ := b3 hg BK333 hb; clear hb hbox hg; have hnb50 := NB338_330.out; have hnc50 := NB330_338.out; have hnb51 := NB338_331.out; have hnc51 := NB331_338.out; have hnb52 := NB338_333.out; have hnc52 := NB333_338.out; have hcz53 := bK w49 BK338; have hfz53 := bF BK338; have hnb54 := NB330_331.out; have hnc54 := NB331_330.out; have hnb55 := NB330_333.out; have hnc55 := NB333_330.out; have hcz56 := bK w49 BK330; have hfz56 := bF BK330) | ((with_reducible refine gk 173 rfl ?_); refine gB 173 (some 63) Try.func173 #[.agg #[.slice (some ad332) l0_0.length c0_0], .int .i64 x26_2, .agg #[.int .i64 ((rd_T102 ((rd_T100 l0_0 x26_2).f2) x55_4).f0), .int .i64 ((rd_T102 ((rd_T100 l0_0 x26_2).f2) x55_4).f1)]] (impl_InsRight.calls k4 _ _ l0_0 x26_2 ((rd_T102 ((rd_T100 l0_0 x26_2).f2) x55_4).f0) ((rd_T102 ((rd_T100 l0_0 x26_2).f2) x55_4).f1) true _ (Kd.C_below HR0_0.out (bw HB)) HC0_0.out A47.out) ?_; intro w57 hb; replace HO_4 := am (Kd.S_below (by (with_reducible repeat (first | apply Kd.S_alloc | apply Kd.S_drewN | apply Kd.S_drew)); exact (Kd.S_mono (Kd.S_far (p := ⟨gb338, 1, none⟩) (Kd.S_far (p := ⟨gb338, 0, none⟩) (Kd.S_types HO_4.out BK338.out (by decide)) (fun _ hk => hk.2) (.int .i64 ((rd_T102 ((rd_T100 l0_0 x26_2).f2) x55_4).f0))) (fun _ hk => hk.2) (.int .i64 ((rd_T102 ((rd_T100 l0_0 x26_2).f2) x55_4).f1))) (fun _ h_ => h_.1))) hb); replace BK330 := bb2 BK330 hb; replace BK331 := bb2 BK331 hb; replace BK333 := bb2 BK333 hb; replace BK338 := bo #[.int .i64 ((rd_T102 ((rd_T100 l0_0 x26_2).f2) x55_4).f0), .int .i64 ((rd_T102 ((rd_T100 l0_0 x26_2).f2) x55_4).f1)] BK338 hb; replace HB := bs HB hb; clear hb))
    go_roundg k4
    case measure => have := HJ1.out; have := HK2.out; have := HJ17.out; have := HK4.out; omega
    case rel => exact ⟨(wrap64 (x55_4 + 1)), (x332000_4), (x332001_4), (x332002_4), dr, H', ⟨by have := HJ1.out; have := HK2.out; have := HJ17.out; have := HK4.out; omega⟩, ⟨kS HO_4⟩, ⟨bp BK330⟩, ⟨bp BK331⟩, ⟨bp BK333⟩, ⟨bw HB⟩⟩
   simp only [Option.some.injEq, Prod.mk.injEq] at H
   obtain ⟨rfl, rfl, rfl, rfl⟩ := H
   have p337 : 0 ≤ (x55_4 : Int) := of_decide_eq_true as1
   have q337 : x55_4 < (((rd_T100 l0_0 x26_2).f2).length : Int) := of_decide_eq_true as1
   obtain ⟨ad337, e337, hx337_0, hx337_1⟩ := at_T102 HR332_2.out x55_4 p337 q337
   cases e337
   replace hx337_0 := cl HB hx337_0
   replace hx337_1 := cl HB hx337_1
   replace p337 := eq_true p337
   replace q337 := eq_true q337
   go_wp2_with (first | ((with_reducible refine gate_dst (N := 8) rfl ?_); (try (refine gate_guard (by rfl) ?_; dsimp only)); refine box_event ?hg (N := 8) ?hd (cs := #[.int .i64 0, .int .i64 0]) (t := 102) ?hr ?_; (case hd => rfl); (case hg => rfl); (case hr => exact gs); intro gb338 hg w58 hbox hb; replace HO_4 := am (Kd.S_below (kS HO_4) hb); have BK338 := am (hbox); have GW338 := gw hg HB; replace HB := bs HB hb; obtain ⟨NB330_338, NB338_330, BK330⟩ := b3 hg BK330 hb; obtain ⟨NB331_338, NB338_331, BK331⟩ := b3 hg BK331 hb; obtain ⟨NB333_338, NB338_333, BK333⟩ := b3 hg BK333 hb; clear hb hbox hg; have hnb59 := NB338_330.out; have hnc59 := NB330_338.out; have hnb60 := NB338_331.out; have hnc60 := NB331_338.out; have hnb61 := NB338_333.out; have hnc61 := NB333_338.out; have hcz62 := bK w58 BK338; have hfz62 := bF BK338; have hnb63 := NB330_331.out; have hnc63 := NB331_330.out; have hnb64 := NB330_333.out; have hnc64 := NB333_330.out; have hcz65 := bK w58 BK330; have hfz65 := bF BK330) | ((with_reducible refine gk 173 rfl ?_); refine gB 173 (some 63) Try.func173 #[.agg #[.slice (some ad332) l0_0.length c0_0], .int .i64 x26_2, .agg #[.int .i64 ((rd_T102 ((rd_T100 l0_0 x26_2).f2) x55_4).f0), .int .i64 ((rd_T102 ((rd_T100 l0_0 x26_2).f2) x55_4).f1)]] (impl_InsRight.calls k4 _ _ l0_0 x26_2 ((rd_T102 ((rd_T100 l0_0 x26_2).f2) x55_4).f0) ((rd_T102 ((rd_T100 l0_0 x26_2).f2) x55_4).f1) false _ (Kd.C_below HR0_0.out (bw HB)) HC0_0.out A47.out) ?_; intro w66 hb; replace HO_4 := am (Kd.S_below (by (with_reducible repeat (first | apply Kd.S_alloc | apply Kd.S_drewN | apply Kd.S_drew)); exact (Kd.S_mono (Kd.S_far (p := ⟨gb338, 1, none⟩) (Kd.S_far (p := ⟨gb338, 0, none⟩) (Kd.S_types HO_4.out BK338.out (by decide)) (fun _ hk => hk.2) (.int .i64 ((rd_T102 ((rd_T100 l0_0 x26_2).f2) x55_4).f0))) (fun _ hk => hk.2) (.int .i64 ((rd_T102 ((rd_T100 l0_0 x26_2).f2) x55_4).f1))) (fun _ h_ => h_.1))) hb); replace BK330 := bb2 BK330 hb; replace BK331 := bb2 BK331 hb; replace BK333 := bb2 BK333 hb; replace BK338 := bo #[.int .i64 ((rd_T102 ((rd_T100 l0_0 x26_2).f2) x55_4).f0), .int .i64 ((rd_T102 ((rd_T100 l0_0 x26_2).f2) x55_4).f1)] BK338 hb; replace HB := bs HB hb; clear hb; have hnb67 := NB331_333.out; have hnc67 := NB333_331.out; have hcz68 := bK w66 BK331; have hfz68 := bF BK331))
   refine bodyPost_ret (results_ct rfl _ _ gb331 84 #[.int .i64 x26_2, .int .i64 x55_4, .int .i64 1] (0, 0) _ rfl (bt BK331) Try.underlying84 rfl (by kernel_rfl)) rfl ?_
   exact ⟨_, er, by first | exact Kd.S_nil _ _ _ _ _ | exact Kd.N_nil _ _ _ _ _ | exact Kd.V_nil _ _ _ _ _ | exact Kd.Q_nil _ _ _ _ _ | exact Kd.R_nil _ _ _ _ _, bw HB⟩
  replace H := Option.bind_eq_some_iff.mp H
  obtain ⟨⟨t340, t343, t344⟩, A690, H⟩ := H
  replace H : (if t344 = 0 then (if x4_2.length < 5864062014805 then (impl_verify.l0 k4 (x4_2 ++ [t340]) l0_0 (l0_0.length : Int) (wrap64 (x26_2 + 1)) l0_0) else (none)) else (some (x26_2, t343, t344, ([] : List (List Int))))) = some (r1, r2, r3, r4) := H
  have A69 := am A690
  clear A690
  refine qE H ?_ ?_ <;> clear H
  ·intro c70b0 c70b1 H
   refine iN H ?_; clear H; intro c71 H
   have LMc71 := am c71
   clear c71
   obtain ⟨y345, hy345⟩ : ∃ y_ : List (List Int), y_ = (x4_2 ++ [t340]) := ⟨_, rfl⟩
   replace H : (impl_verify.l0 k4 y345 l0_0 (l0_0.length : Int) (wrap64 (x26_2 + 1)) l0_0) = some (r1, r2, r3, r4) := by first | (rw [hy345]; with_reducible exact H) | (have H2_ := (Option.bind_some _ _).symm.trans H; rw [hy345]; with_reducible exact H2_) | (have H2_ := (Option.bind_some _ _).symm.trans H; with_reducible exact H2_) | with_reducible exact H | (rw [hy345]; exact H) | exact H
   have Ny345 := am hy345
   clear hy345
   have H' := am H
   clear H
   have hnb72 := NB330_331.out
   have hnc72 := NB331_330.out
   have hnb73 := NB330_333.out
   have hnc73 := NB333_330.out
   have hcz74 := bK wr BK330
   have hfz74 := bF BK330
   go_wp2_with (first | ((with_reducible refine gk 174 rfl ?_); refine gC 174 (some 72) Try.func174 #[.agg #[.slice (some ad332) l0_0.length c0_0], .int .i64 x26_2] ((impl_heightsOf.calls k4 _ _ l0_0 x26_2 t340 t343 t344 _ (cc (Kd.C_below HR0_0.out HB.out)) HC0_0.out A69.out).mono ?_); rintro e w75 ⟨v341, rfl, ho0, hb⟩; refine ⟨_, rfl, ?_⟩; replace HO_4 := am (Kd.S_elder' (kS HO_4) (Kd.R_base ho0) hb); have HO342 := am (Kd.R_lower ho0 (below_size (bw HB))); replace BK330 := bb BK330 hb; replace BK331 := bb BK331 hb; replace BK333 := bb BK333 hb; replace HB := bs HB hb; clear hb; (try clear ho0); obtain ⟨Ao77, co77, eo77⟩ := Kd.R_slice HO342.out; subst eo77) | ((with_reducible refine gate_builtin (b := .append) (xs := #[.tmp 82, .tmp 84]) rfl ?_); (try (refine gate_guard (by rfl) ?_; dsimp only)); at_builtin; refine Kd.S_append (Kd.slice 2 (Kd.int .i64)) (w0 := w) w.heap.size rfl (.tmp 82) (.tmp 84) 50 26 (.slice none 0 0) 24 rfl Try.underlying50 info26 rfl (by decide) (by omega) u4 x4_2 t340 [.slice Ao77 t340.length co77] (fun _ => True) (fun k_ => some k_ = (.slice Ao77 t340.length co77 : Value).ownBlock) rfl rfl ?aP (fun k_ hk_ => ((Kd.R_mono (ok' := fun k_ => ((fun _ => True)) k_ ∧ some k_ ≠ (u4 : Value).ownBlock) (Kd.R_apart' (HO342.out) (Kd.S_typed HO_4.out) (by decide)) (fun k_ hk => ⟨trivial, hk.2⟩))).1 k_ hk_.symm) ?aF ?aO ?aB ?aS ?aL ?_; (case aP => exact Kd.M_row (Kd.R_mono (Kd.R_tight rfl (Kd.R_mono (ok' := fun k_ => ((fun _ => True)) k_ ∧ some k_ ≠ (u4 : Value).ownBlock) (Kd.R_apart' (HO342.out) (Kd.S_typed HO_4.out) (by decide)) (fun k_ hk => ⟨trivial, hk.2⟩))) (fun _ h_ => h_))); (case aB => exact (bw HB)); (case aF => exact (fun _ _ => trivial)); (case aO => exact (by (with_reducible repeat (first | apply Kd.S_alloc | apply Kd.S_drewN | apply Kd.S_drew)); exact Kd.S_mono HO_4.out (fun k_ hk => ⟨trivial, fun e_ => hk.2 e_⟩))); (case aS => exact (below_size (bw HB))); (case aL => have := LMc71.out; omega); intro v346 w76 ho hb hg hat; rw [← Ny345.out] at ho; replace BK330 := bg BK330 hg (Kd.S_ne HO_4.out BK330.out (by decide)); replace BK331 := bg BK331 hg (Kd.S_ne HO_4.out BK331.out (by decide)); replace BK333 := bg BK333 hg (Kd.S_ne HO_4.out BK333.out (by decide)); replace HB := am (hb); have HO347 := am (ho); clear HO_4; clear HO342; clear ho hb hg hat))
   go_roundg k4
   case measure => have := HJ1.out; have := HK2.out; have := HJ17.out; have := HK4.out; omega
   case rel => exact ⟨(y345), (wrap64 (x26_2 + 1)), (x332000_4), (x332001_4), (x332002_4), dr, H', ⟨by have := HJ1.out; have := HK2.out; have := HJ17.out; have := HK4.out; omega⟩, ⟨kS HO347⟩, ⟨bp BK330⟩, ⟨bp BK331⟩, ⟨bw HB⟩⟩
  intro c70 c70b0 c70b1 H
  simp only [Option.some.injEq, Prod.mk.injEq] at H
  obtain ⟨rfl, rfl, rfl, rfl⟩ := H
  have hnb78 := NB330_331.out
  have hnc78 := NB331_330.out
  have hnb79 := NB330_333.out
  have hnc79 := NB333_330.out
  have hcz80 := bK wr BK330
  have hfz80 := bF BK330
  (try clear HO_4)
  go_wp2_with (first | ((with_reducible refine gk 174 rfl ?_); refine gC 174 (some 72) Try.func174 #[.agg #[.slice (some ad332) l0_0.length c0_0], .int .i64 x26_2] ((impl_heightsOf.calls k4 _ _ l0_0 x26_2 t340 t343 t344 _ (cc (Kd.C_below HR0_0.out HB.out)) HC0_0.out A69.out).mono ?_); rintro e w81 ⟨v341, rfl, ho0, hb⟩; refine ⟨_, rfl, ?_⟩; have HO342 := am (Kd.R_lower ho0 (below_size (bw HB))); replace BK330 := bb BK330 hb; replace BK331 := bb BK331 hb; replace BK333 := bb BK333 hb; replace HB := bs HB hb; clear hb; (try clear ho0); have hnb82 := NB331_333.out; have hnc82 := NB333_331.out; have hcz83 := bK w81 BK331; have hfz83 := bF BK331))
  refine bodyPost_ret (results_ct rfl _ _ gb331 84 #[.int .i64 x26_2, .int .i64 t343, .int .i64 t344] (0, 0) _ rfl (bt BK331) Try.underlying84 rfl (by kernel_rfl)) rfl ?_
  exact ⟨_, er, by first | exact Kd.S_nil _ _ _ _ _ | exact Kd.N_nil _ _ _ _ _ | exact Kd.V_nil _ _ _ _ _ | exact Kd.Q_nil _ _ _ _ _ | exact Kd.R_nil _ _ _ _ _, bw HB⟩
 rw [if_neg c15] at H
 have c15b0 := decide_eq_false c15
 clear c15
 simp only [Option.some.injEq, Prod.mk.injEq] at H
 obtain ⟨rfl, rfl, rfl, rfl⟩ := H
 have hnb84 := NB331_330.out
 have hnc84 := NB330_331.out
 have hcz85 := bK wr BK331
 have hfz85 := bF BK331
 go_wp2
 refine bodyPost_ret (results_ct rfl _ _ gb331 84 #[.int .i64 0, .int .i64 0, .int .i64 0] (0, 0) _ rfl (bt BK331) Try.underlying84 rfl (by kernel_rfl)) rfl ?_
 exact ⟨_, er, by (with_reducible repeat (first | apply Kd.S_alloc | apply Kd.S_drewN | apply Kd.S_drew)); exact Kd.S_mono (Kd.S_far (p := ⟨gb331, 2, none⟩) (Kd.S_far (p := ⟨gb331, 1, none⟩) (Kd.S_far (p := ⟨gb331, 0, none⟩) (Kd.S_types HO_4.out BK331.out (by decide)) (fun _ hk => hk.2) (.int .i64 0)) (fun _ hk => hk.2) (.int .i64 0)) (fun _ hk => hk.2) (.int .i64 0)) (fun _ hk => trivial), bw HB⟩

def impl_known.f (k : Nat) (l0_0 : List (S100)) : Option ((List (S100)) × (List (List Int)) × Bool) := (impl_verify.f k l0_0).bind fun bt349 => (some (l0_0, bt349.2.2.2, (bt349.2.2.1 == 0)))
theorem impl_known.mono : ∀ a0 k, LeO (impl_known.f k a0) (impl_known.f (k + 1) a0) := by
 intro a0 k
 unfold impl_known.f
 with_reducible repeat' first | exact impl_verify.mono .. | exact LeO.refl _ | exact LeO.none _ | refine LeO.ite ?_ ?_ | refine LeO.bind ?_ (fun _ => ?_)
def impl_known.T2 : Bool × List (List Nat × List Nat) := (true, [([], []), ([], []), ([0, 1], [0, 1]), ([2], [2]), ([], []), ([4], [4]), ([5], [5]), ([3, 0, 1, 2, 3], [3]), ([6, 7, 0, 1, 2, 3, 4, 5, 6, 7], [6])])
def impl_known.B2 : List Nat := [0, 0, 3, 7, 0, 16, 48, 15, 255]
theorem impl_known.tab2 : rtab .any (opsOf Try.f66 2) = impl_known.T2 := by kernel_rfl
theorem impl_known.bits2 : waitsOk impl_known.T2.2 impl_known.B2 = true := by kernel_rfl
theorem impl_known.calls (k : Nat) (P0_0_ : Nat → Prop) (A0_0 : Option Addr) (c0_0 : Nat) (l0_0 : List (S100)) (r1 : List (S100)) (r2 : List (List Int)) (r3 : Bool) (w : World) (hs0_0 : Kd.V k100 100 w w.heap.size (fun k_ => P0_0_ k_) (.slice A0_0 l0_0.length c0_0) l0_0) (h : impl_known.f k l0_0 = some (r1, r2, r3)) :
  Calls Try.prog 66 #[.agg #[.slice A0_0 l0_0.length c0_0]] w fun e w' => ∃ v0_ v1_ : Value, ∃ g_ : Nat, e = .returned (.tuple #[.pointer (some ⟨g_, 0, none⟩), .bool r3]) ∧ Kd.V k100 100 w' w.heap.size (fun k_ => (P0_0_ k_ ∨ w.heap.size ≤ k_) ∧ some k_ ≠ (v1_ : Value).ownBlock) v0_ r1 ∧ Kd.S (Kd.slice 2 (Kd.int .i64)) 26 w' w.heap.size (fun k_ => (w.heap.size ≤ k_)) v1_ r2 ∧ w'.heap[g_]? = some (.cells #[v0_, v1_] 92 (0, 0)) ∧ w.heap.size ≤ g_ ∧ Below w.heap.size w w' := by
 have hu30 := Try.underlying30
 have hu84 := Try.underlying84
 have hu92 := Try.underlying92
 have HO0_0 := am (show Kd.V k100 100 w w.heap.size (fun k_ => (P0_0_ k_ ∨ w.heap.size ≤ k_)) (.slice A0_0 l0_0.length c0_0) l0_0 from Kd.V_mono hs0_0 (fun k_ hk => .inl hk))
 have HB := am (Below.refl w.heap.size w)
 have H : ((impl_verify.f k l0_0).bind fun bt349 => (some (l0_0, bt349.2.2.2, (bt349.2.2.1 == 0)))) = some (r1, r2, r3) := h
 clear h
 replace H := Option.bind_eq_some_iff.mp H
 obtain ⟨⟨t349, t350, t351, t352⟩, A20, H⟩ := H
 replace H : (some (l0_0, t352, (t351 == 0))) = some (r1, r2, r3) := H
 have A2 := am A20
 clear A20
 simp only [Option.some.injEq, Prod.mk.injEq] at H
 obtain ⟨rfl, rfl, rfl⟩ := H
 go_enter Try.func66, Try.ntmps66
 try go_wp2_with (first | ((with_reducible refine gd 1 rfl ?_); refine bX 1 #[.slice A0_0 l0_0.length c0_0] 30 HB ?_; clear HB; intro gb348 w3 hg hb BK348 GW348 HB; replace HO0_0 := am (Kd.V_below (Kd.V_elderB (kV HO0_0) gb348 (Nat.le_of_eq hg.symm)) hb); clear hb hg; have hcz4 := bK w3 BK348; have hfz4 := bF BK348) | ((with_reducible refine gk 126 rfl ?_); refine gC 126 (some 8) Try.func126 #[.agg #[.slice A0_0 l0_0.length c0_0]] ((impl_verify.calls k _ _ l0_0 t349 t350 t351 t352 _ (cc (Kd.V_reads' HO0_0.out).2.2) ((Kd.V_reads' HO0_0.out).2.1) A2.out).mono ?_); rintro e w5 ⟨v353, rfl, ho0, hb⟩; refine ⟨_, rfl, ?_⟩; replace HO0_0 := am (Kd.V_elder' (kV HO0_0) (Kd.S_base ho0) hb); have HO354 := am (Kd.S_lower (Kd.S_newM (M := fun k_ => (w.heap.size ≤ k_)) ho0 (below_size (bw HB)) (fun k_ h_ => h_)) (below_size (bw HB))); replace BK348 := bb BK348 hb; replace HB := bs HB hb; clear hb; (try clear ho0)) | ((with_reducible refine gd 4 rfl ?_); refine bX 4 #[.int .i64 0, .int .i64 0, .int .i64 0] 84 HB ?_; clear HB; intro gb355 w6 hg hb BK355 GW355 HB; replace HO0_0 := am (Kd.V_below (Kd.V_elderB (kV HO0_0) gb355 (Nat.le_of_eq hg.symm)) hb); replace HO354 := am (Kd.S_below (kS HO354) hb); obtain ⟨NB348_355, NB355_348, BK348⟩ := b3 hg BK348 hb; clear hb hg; have hnb7 := NB355_348.out; have hnc7 := NB348_355.out; have hcz8 := bK w6 BK355; have hfz8 := bF BK355))
 replace HO0_0 : Aside0 (Kd.V k100 100 (((w6.setCell ⟨gb355, 0, none⟩ (.int .i64 t349)).setCell ⟨gb355, 1, none⟩ (.int .i64 t350)).setCell ⟨gb355, 2, none⟩ (.int .i64 t351)) w.heap.size (fun k_ => (P0_0_ k_ ∨ w.heap.size ≤ k_) ∧ some k_ ≠ (v353 : Value).ownBlock ∧ k_ ≠ gb348 ∧ k_ ≠ gb355) (.slice A0_0 l0_0.length c0_0) l0_0) := ⟨by (with_reducible repeat (first | apply Kd.V_alloc | apply Kd.V_drewN | apply Kd.V_drew)); exact Kd.V_mono (Kd.V_far (p := ⟨gb355, 2, none⟩) (Kd.V_far (p := ⟨gb355, 1, none⟩) (Kd.V_far (p := ⟨gb355, 0, none⟩) (Kd.V_mono HO0_0.out (fun k_ hk => (⟨hk, hk.2⟩ : _ ∧ k_ ≠ gb355))) (fun _ hk => hk.2) (.int .i64 t349)) (fun _ hk => hk.2) (.int .i64 t350)) (fun _ hk => hk.2) (.int .i64 t351)) (fun _ hk => ⟨hk.1.1.1.1, ⟨hk.1.1.2, ⟨hk.1.1.1.2, hk.1.2⟩⟩⟩)⟩
 replace HO354 : Aside0 (Kd.S (Kd.slice 2 (Kd.int .i64)) 26 (((w6.setCell ⟨gb355, 0, none⟩ (.int .i64 t349)).setCell ⟨gb355, 1, none⟩ (.int .i64 t350)).setCell ⟨gb355, 2, none⟩ (.int .i64 t351)) w.heap.size (fun k_ => (w.heap.size ≤ k_)) v353 t352) := ⟨by (with_reducible repeat (first | apply Kd.S_alloc | apply Kd.S_drewN | apply Kd.S_drew)); exact Kd.S_mono (Kd.S_far (p := ⟨gb355, 2, none⟩) (Kd.S_far (p := ⟨gb355, 1, none⟩) (Kd.S_far (p := ⟨gb355, 0, none⟩) (Kd.S_types HO354.out BK355.out (by decide)) (fun _ hk => hk.2) (.int .i64 t349)) (fun _ hk => hk.2) (.int .i64 t350)) (fun _ hk => hk.2) (.int .i64 t351)) (fun _ hk => hk.1.1)⟩
 replace BK348 : Aside0 ((((w6.setCell ⟨gb355, 0, none⟩ (.int .i64 t349)).setCell ⟨gb355, 1, none⟩ (.int .i64 t350)).setCell ⟨gb355, 2, none⟩ (.int .i64 t351)).heap[gb348]? = some (.cells #[.slice A0_0 l0_0.length c0_0] 30 (0, 0))) := ⟨by (with_reducible repeat (first | apply dN | apply dW | apply dA)); refine blk_far ?_ NB348_355.out _; (with_reducible repeat (first | apply dN | apply dW | apply dA)); refine blk_far ?_ NB348_355.out _; (with_reducible repeat (first | apply dN | apply dW | apply dA)); refine blk_far ?_ NB348_355.out _; exact bp BK348⟩
 replace BK355 : Aside0 ((((w6.setCell ⟨gb355, 0, none⟩ (.int .i64 t349)).setCell ⟨gb355, 1, none⟩ (.int .i64 t350)).setCell ⟨gb355, 2, none⟩ (.int .i64 t351)).heap[gb355]? = some (.cells #[.int .i64 t349, .int .i64 t350, .int .i64 t351] 84 (0, 0))) := ⟨by (with_reducible repeat (first | apply dN | apply dW | apply dA)); refine blk_put (cs := #[.int .i64 t349, .int .i64 t350, .int .i64 0]) ?_ 2 _ rfl; (with_reducible repeat (first | apply dN | apply dW | apply dA)); refine blk_put (cs := #[.int .i64 t349, .int .i64 0, .int .i64 0]) ?_ 1 _ rfl; (with_reducible repeat (first | apply dN | apply dW | apply dA)); refine blk_put (cs := #[.int .i64 0, .int .i64 0, .int .i64 0]) ?_ 0 _ rfl; exact bp BK355⟩
 replace HB : Aside0 (Below w.heap.size w (((w6.setCell ⟨gb355, 0, none⟩ (.int .i64 t349)).setCell ⟨gb355, 1, none⟩ (.int .i64 t350)).setCell ⟨gb355, 2, none⟩ (.int .i64 t351))) := ⟨bw HB⟩
 generalize (((w6.setCell ⟨gb355, 0, none⟩ (.int .i64 t349)).setCell ⟨gb355, 1, none⟩ (.int .i64 t350)).setCell ⟨gb355, 2, none⟩ (.int .i64 t351)) = w9 at HO0_0 HO354 BK348 BK355 HB ⊢
 replace HO0_0 := am (Kd.V_drew HO0_0.out)
 replace HO354 := am (Kd.S_drew HO354.out)
 replace BK348 := am (blk_drew BK348.out)
 replace BK355 := am (blk_drew BK355.out)
 replace HB := am (below_drew1 HB.out)
 obtain ⟨Ao11, co11, eo11⟩ := Kd.S_slice HO354.out
 (first | subst eo11 | (injection eo11 with f1_ f2_ f3_; have f4_ := f1_.symm; have f5_ := f3_.symm; clear f1_ f2_ f3_; subst f4_; subst f5_))
 refine start_ (n := 9) (S := fun w' => w'.cell? ⟨gb348, 0, none⟩ = some (.slice A0_0 l0_0.length c0_0) ∧ w'.cell? ⟨gb355, 0, none⟩ = some (.int .i64 t349) ∧ w'.cell? ⟨gb355, 1, none⟩ = some (.int .i64 t350) ∧ w'.cell? ⟨gb355, 2, none⟩ = some (.int .i64 t351)) (ds := []) (bv 9 0) (by kernel_rfl) rfl (by kernel_rfl) ⟨bc BK348 0, bc BK355 0, bc BK355 1, bc BK355 2⟩ (fun hHeld => ?_); refine with_tabW impl_known.tab2 impl_known.bits2 (fun HT_ HW_ => ?_)
 generalize w9.drew = w10 at HO0_0 HO354 BK348 BK355 HB hHeld ⊢
 refine pu 1 12 9 2 HT_ ?_
 refine pu 4 15 9 18 HT_ ?_
 refine tk 0 11 9 19 HT_ HW_ hHeld ?_
 refine pu 2 13 9 23 HT_ ?_
 refine tk 5 16 9 55 HT_ HW_ hHeld ?_
 refine pu 6 17 9 119 HT_ ?_
 refine on 3 (some 14) 9 127 HT_ fun K hK => ?_
 refine box_step ?hg (N := 14) ?hd (cs := #[.slice A0_0 l0_0.length c0_0, .slice Ao11 t352.length co11]) (t := 92) ?hr ?_; (case hd => rfl); (case hg => rfl); (case hr => exact gs)
 intro gb356 hg w12 hbox hb
 have n0_ := am (Kd.V_below (Kd.V_elderB (kV HO0_0) gb356 (Nat.le_of_eq hg.symm)) hb)
 have n1_ := am (Kd.S_below (kS HO354) hb)
 have n2_ := bb BK348 hb
 have n3_ := bb BK355 hb
 have n4_ := am (below_step (bw HB) hb)
 have n5_ := am (hbox)
 have n6_ := gw hg HB
 have n7_ := gw hg HB
 have n8_ := am ((by rw [hg]; exact Nat.ne_of_lt (blk_lt (g := gb348) (o := .cells #[.slice A0_0 l0_0.length c0_0] 30 (0, 0)) (bp BK348)) : gb348 ≠ gb356))
 have n9_ := am ((by rw [hg]; exact Nat.ne_of_gt (blk_lt (g := gb348) (o := .cells #[.slice A0_0 l0_0.length c0_0] 30 (0, 0)) (bp BK348)) : gb356 ≠ gb348))
 have n10_ := am ((by rw [hg]; exact Nat.ne_of_lt (blk_lt (g := gb355) (o := .cells #[.int .i64 t349, .int .i64 t350, .int .i64 t351] 84 (0, 0)) (bp BK355)) : gb355 ≠ gb356))
 have n11_ := am ((by rw [hg]; exact Nat.ne_of_gt (blk_lt (g := gb355) (o := .cells #[.int .i64 t349, .int .i64 t350, .int .i64 t351] 84 (0, 0)) (bp BK355)) : gb356 ≠ gb355))
 clear HO0_0
 clear HO354
 clear BK348
 clear BK355
 clear HB
 have HO0_0 := n0_
 have HO354 := n1_
 have BK348 := n2_
 have BK355 := n3_
 have HB := n4_
 have BK356 := n5_
 have GW356 := n6_
 have GE356 := n7_
 have NB348_356 := n8_
 have NB356_348 := n9_
 have NB355_356 := n10_
 have NB356_355 := n11_
 clear n0_ n1_ n2_ n3_ n4_ n5_ n6_ n7_ n8_ n9_ n10_ n11_
 clear hb hbox hg
 refine hK.out _ _ ⟨bc BK348 0, bc BK355 0, bc BK355 1, bc BK355 2⟩ (fun hHeld => ?_)
 clear hK K
 refine nm (some 14) ?_
 refine pu 7 2 9 255 HT_ ?_
 refine pu 8 3 9 511 HT_ ?_
 refine done_ (done_of HT_.out (by kernel_rfl)) ?_
 try go_wp2
 go_ret2
 exact ⟨_, _, gb356, er, by (with_reducible repeat (first | apply Kd.V_alloc | apply Kd.V_drewN | apply Kd.V_drew)); exact Kd.V_mono HO0_0.out (fun _ hk => ⟨hk.1.1, hk.1.2.1⟩), kS HO354, (bp BK356), GW356.out, bw HB⟩

def impl_prog_code.f (l0_0 : List (S100)) (l0_1 : List (List Int)) (a1 : Int) : Option ((List (S102))) := if 0 ≤ a1 then (if a1 < (l0_0.length : Int) then (some ((rd_T100 l0_0 a1).f2)) else (none)) else (none)
theorem impl_prog_code.calls (g0_ : Nat) (P0_0_ : Nat → Prop) (A0_0 : Option Addr) (c0_0 : Nat) (l0_0 : List (S100)) (A0_1 : Option Addr) (c0_1 : Nat) (l0_1 : List (List Int)) (a1 : Int) (r : List (S102)) (w : World) (hp0 : w.heap[g0_]? = some (.cells #[.slice A0_0 l0_0.length c0_0, .slice A0_1 l0_1.length c0_1] 92 (0, 0))) (hs0_0 : Kd.V k100 100 w w.heap.size (fun k_ => P0_0_ k_) (.slice A0_0 l0_0.length c0_0) l0_0) (hr0_1 : Kd.C (Kd.slice 2 (Kd.int .i64)) w A0_1 l0_1.length l0_1) (hc0_1 : l0_1.length ≤ c0_1) (h : impl_prog_code.f l0_0 l0_1 a1 = some r) :
  Calls Try.prog 127 #[.pointer (some ⟨g0_, 0, none⟩), .int .i64 a1] w fun e w' => ∃ v0_ : Value, e = .returned (v0_) ∧ Kd.V k102 102 w' w.heap.size (fun k_ => (P0_0_ k_ ∨ w.heap.size ≤ k_)) v0_ r ∧ Below w.heap.size w w' := by
 have HP0_ := am hp0
 clear hp0
 have HO0_0 := am (show Kd.V k100 100 w w.heap.size (fun k_ => (P0_0_ k_ ∨ w.heap.size ≤ k_)) (.slice A0_0 l0_0.length c0_0) l0_0 from Kd.V_mono hs0_0 (fun k_ hk => .inl hk))
 have HR0_1 := am hr0_1
 have HC0_1 := am hc0_1
 clear hr0_1 hc0_1
 have HB := am (Below.refl w.heap.size w)
 have H : (if 0 ≤ a1 then (if a1 < (l0_0.length : Int) then (some ((rd_T100 l0_0 a1).f2)) else (none)) else (none)) = some r := h
 clear h
 refine iM H ?_; clear H; intro c3b0 H
 refine iM H ?_; clear H; intro c4b0 H
 obtain rfl := Option.some.inj H
 have hcz5 := bK w HP0_
 have hfz5 := bF HP0_
 have p357 : 0 ≤ (a1 : Int) := of_decide_eq_true as1
 have q357 : a1 < (l0_0.length : Int) := of_decide_eq_true as1
 obtain ⟨ad357, A357_2, c357_2, e357, hx357_0, hx357_1, hx357_2, hl357_2, hi357_2⟩ := at_T100 (Kd.V_reads' HO0_0.out).2.2 a1 p357 q357
 cases e357
 obtain ⟨ce357, hce357, hMe357, hcc357⟩ := Kd.V_get HO0_0.out z100 a1 p357 (by first | exact q357 | exact of_decide_eq_true as1 | (have e_ := (Kd.V_reads' HO0_0.out).1; omega))
 obtain ⟨ua357_2, uc357_2, rfl, ul357_2, ge357_2⟩ := k100_openF hMe357
 have hv357_2 := hcc357 2 _ rfl
 rw [add_field _ _ 2 (by omega)] at hv357_2
 replace hv357_2 := Option.some.inj (hv357_2.symm.trans hx357_2)
 injection hv357_2 with hva_ hvn_ hvc_
 rw [hva_] at ge357_2
 rw [hvc_] at ul357_2
 have HL357_2 := am (show Kd.V k102 102 _ w.heap.size _ _ ((rd_T100 l0_0 a1).f2) from Kd.V_mk ul357_2 ge357_2)
 clear hva_ hvn_ hvc_ ge357_2 ul357_2
 clear hcc357 hce357
 have HR357_2 := am hi357_2
 have HC357_2 := am hl357_2
 clear hi357_2 hl357_2
 replace p357 := eq_true p357
 replace q357 := eq_true q357
 go_enter Try.func127, Try.ntmps127
 go_wp2
 go_ret
 exact ⟨_, er, kV HL357_2, bw HB⟩

def impl_prog_at.f (l0_0 : List (S100)) (l0_1 : List (List Int)) (a1 : Int) (a2 : Int) : Option (Int × Int) := if 0 ≤ a1 then (if a1 < (l0_0.length : Int) then (if 0 ≤ a2 then (if a2 < (((rd_T100 l0_0 a1).f2).length : Int) then (some ((rd_T102 ((rd_T100 l0_0 a1).f2) a2).f0, (rd_T102 ((rd_T100 l0_0 a1).f2) a2).f1)) else (none)) else (none)) else (none)) else (none)
theorem impl_prog_at.calls (g0_ : Nat) (A0_0 : Option Addr) (c0_0 : Nat) (l0_0 : List (S100)) (A0_1 : Option Addr) (c0_1 : Nat) (l0_1 : List (List Int)) (a1 : Int) (a2 : Int) (r1 : Int) (r2 : Int) (w : World) (hp0 : w.heap[g0_]? = some (.cells #[.slice A0_0 l0_0.length c0_0, .slice A0_1 l0_1.length c0_1] 92 (0, 0))) (hr0_0 : Kd.C k100 w A0_0 l0_0.length l0_0) (hc0_0 : l0_0.length ≤ c0_0) (hr0_1 : Kd.C (Kd.slice 2 (Kd.int .i64)) w A0_1 l0_1.length l0_1) (hc0_1 : l0_1.length ≤ c0_1) (h : impl_prog_at.f l0_0 l0_1 a1 a2 = some (r1, r2)) :
  Calls Try.prog 141 #[.pointer (some ⟨g0_, 0, none⟩), .int .i64 a1, .int .i64 a2] w fun e w' => e = .returned (.agg #[.int .i64 r1, .int .i64 r2]) ∧ Below w.heap.size w w' := by
 have hu102 := Try.underlying102
 have HP0_ := am hp0
 clear hp0
 have HR0_0 := am hr0_0
 have HC0_0 := am hc0_0
 clear hr0_0 hc0_0
 have HR0_1 := am hr0_1
 have HC0_1 := am hc0_1
 clear hr0_1 hc0_1
 have HB := am (Below.refl w.heap.size w)
 have H : (if 0 ≤ a1 then (if a1 < (l0_0.length : Int) then (if 0 ≤ a2 then (if a2 < (((rd_T100 l0_0 a1).f2).length : Int) then (some ((rd_T102 ((rd_T100 l0_0 a1).f2) a2).f0, (rd_T102 ((rd_T100 l0_0 a1).f2) a2).f1)) else (none)) else (none)) else (none)) else (none)) = some (r1, r2) := h
 clear h
 refine iM H ?_; clear H; intro c4b0 H
 refine iM H ?_; clear H; intro c5b0 H
 refine iM H ?_; clear H; intro c6b0 H
 refine iM H ?_; clear H; intro c7b0 H
 simp only [Option.some.injEq, Prod.mk.injEq] at H
 obtain ⟨rfl, rfl⟩ := H
 go_enter Try.func141, Try.ntmps141
 go_wp2_with (first | ((with_reducible refine gd 6 rfl ?_); refine bX 6 #[.int .i64 0, .int .i64 0] 102 HB ?_; clear HB; intro gb358 w8 hg hb BK358 GW358 HB; obtain ⟨NB0_358, NB358_0, HP0_⟩ := b3 hg HP0_ hb; clear hb hg; have hnb9 := NB0_358.out; have hnc9 := NB358_0.out; have hcz10 := bK w8 HP0_; have hfz10 := bF HP0_; have p359 : 0 ≤ (a1 : Int) := of_decide_eq_true as1; have q359 : a1 < (l0_0.length : Int) := of_decide_eq_true as1; obtain ⟨ad359, A359_2, c359_2, e359, hx359_0, hx359_1, hx359_2, hl359_2, hi359_2⟩ := at_T100 HR0_0.out a1 p359 q359; cases e359; replace hx359_0 := cl HB hx359_0; replace hx359_1 := cl HB hx359_1; replace hx359_2 := cl HB hx359_2; have HR359_2 := am hi359_2; have HC359_2 := am hl359_2; clear hi359_2 hl359_2; replace p359 := eq_true p359; replace q359 := eq_true q359; have p360 : 0 ≤ (a2 : Int) := of_decide_eq_true as1; have q360 : a2 < (((rd_T100 l0_0 a1).f2).length : Int) := of_decide_eq_true as1; obtain ⟨ad360, e360, hx360_0, hx360_1⟩ := at_T102 HR359_2.out a2 p360 q360; cases e360; replace hx360_0 := cl HB hx360_0; replace hx360_1 := cl HB hx360_1; replace p360 := eq_true p360; replace q360 := eq_true q360; have hcz11 := bK w8 BK358; have hfz11 := bF BK358))
 refine bodyPost_ret (results_cell_row rfl _ _ gb358 102 #[.int .i64 ((rd_T102 ((rd_T100 l0_0 a1).f2) a2).f0), .int .i64 ((rd_T102 ((rd_T100 l0_0 a1).f2) a2).f1)] (0, 0) _ rfl (bt BK358) Try.underlying102 rfl (by kernel_rfl)) rfl ?_
 exact ⟨er, bw HB⟩

end Go.Proofs.Ytbmjmaahcaoajaa.QFnExactSeenRight
