import Derived.Test.YtmfhmfhkknijeaaCFnExactAsmRightx0
import Derived.Test.YtmfhmfhkknijeaaCFnExactAsmRightx12
import Derived.Test.YtmfhmfhkknijeaaCFnExactAsmRightx14
namespace Go.Proofs.Ytmfhmfhkknijeaa.QFnExactAsmRight
open Go.RowKit Go.Proofs.YtmfhmfhkknijeaaW
open PrintWords PrintLast PrintMore PrintShort
attribute [local go_sem] max2_int min2_int max_two min_two max_three min_three max_four min_four   -- for this text's walks alone
set_option linter.unusedVariables false
set_option maxHeartbeats 8000000
set_option maxRecDepth 100000
set_option linter.unusedSimpArgs false

mutual
def impl_verify.j0 : Nat → Bool → List (S50) → Option (Int × Int × Int × (List (List Int)))
 | 0, _, _ => none
 | k + 1, x21, x416000 => if x21 = true then (some (0, 0, 1, ([] : List (List Int)))) else (impl_verify.l0 k ([] : List (List Int)) x416000 (x416000.length : Int) 0 x416000)
def impl_verify.l0 : Nat → List (List Int) → List (S50) → Int → Int → List (S50) → Option (Int × Int × Int × (List (List Int)))
 | 0, _, _, _, _, _ => none
 | k + 1, x4, x24, x25, x26, x416000 => if x26 < x25 then (if 0 ≤ x26 then (if x26 < (x24.length : Int) then ((impl_in.f ((rd_T50 x24 x26).f0) 0 4).bind fun t419 => (if t419 = true then ((impl_in.f ((rd_T50 x24 x26).f1) ((rd_T50 x24 x26).f0) 8).bind fun t420 => (if t420 = true then ((impl_in.f (((rd_T50 x24 x26).f2).length : Int) 1 60).bind fun t421 => (impl_verify.j2 k x4 x26 x24 x25 x26 (!t421) x416000 ((rd_T50 x24 x26).f0) ((rd_T50 x24 x26).f1) ((rd_T50 x24 x26).f2))) else (impl_verify.j2 k x4 x26 x24 x25 x26 true x416000 ((rd_T50 x24 x26).f0) ((rd_T50 x24 x26).f1) ((rd_T50 x24 x26).f2)))) else (impl_verify.j2 k x4 x26 x24 x25 x26 true x416000 ((rd_T50 x24 x26).f0) ((rd_T50 x24 x26).f1) ((rd_T50 x24 x26).f2)))) else (none)) else (none)) else (some (0, 0, 0, x4))
def impl_verify.j2 : Nat → List (List Int) → Int → List (S50) → Int → Int → Bool → List (S50) → Int → Int → List (S88) → Option (Int × Int × Int × (List (List Int)))
 | 0, _, _, _, _, _, _, _, _, _, _ => none
 | k + 1, x4, x5, x24, x25, x26, x49, x416000, x419000, x419001, x419002 => if x49 = true then (some (x5, 0, 1, ([] : List (List Int)))) else (impl_verify.l1 k x4 x5 x24 x25 x26 x419002 (x419002.length : Int) 0 x416000)
def impl_verify.l1 : Nat → List (List Int) → Int → List (S50) → Int → Int → List (S88) → Int → Int → List (S50) → Option (Int × Int × Int × (List (List Int)))
 | 0, _, _, _, _, _, _, _, _, _ => none
 | k + 1, x4, x5, x24, x25, x26, x53, x54, x55, x416000 => if x55 < x54 then (if 0 ≤ x55 then (if x55 < (x53.length : Int) then ((impl_InsRight.f k x416000 x5 ((rd_T88 x53 x55).f0) ((rd_T88 x53 x55).f1)).bind fun t424 => (if t424 = true then (impl_verify.l1 k x4 x5 x24 x25 x26 x53 x54 (wrap64 (x55 + 1)) x416000) else (some (x5, x55, 1, ([] : List (List Int)))))) else (none)) else (none)) else ((impl_heightsOf.f k x416000 x5).bind fun bt425 => (if bt425.2.2 = 0 then (if x4.length < 5864062014805 then (impl_verify.l0 k (x4 ++ [bt425.1]) x24 x25 (wrap64 (x26 + 1)) x416000) else (none)) else (some (x5, bt425.2.1, bt425.2.2, ([] : List (List Int))))))
end
def impl_verify.f (k : Nat) (l0_0 : List (S50)) : Option (Int × Int × Int × (List (List Int))) := if (l0_0.length : Int) < 1 then (impl_verify.j0 k true l0_0) else (impl_verify.j0 k (decide ((l0_0.length : Int) > 6)) l0_0)
theorem impl_verify.mono_l : ∀ k, (∀ y0 y1, LeO (impl_verify.j0 k y0 y1) (impl_verify.j0 (k + 1) y0 y1)) ∧ (∀ y0 y1 y2 y3 y4, LeO (impl_verify.l0 k y0 y1 y2 y3 y4) (impl_verify.l0 (k + 1) y0 y1 y2 y3 y4)) ∧ (∀ y0 y1 y2 y3 y4 y5 y6 y7 y8 y9, LeO (impl_verify.j2 k y0 y1 y2 y3 y4 y5 y6 y7 y8 y9) (impl_verify.j2 (k + 1) y0 y1 y2 y3 y4 y5 y6 y7 y8 y9)) ∧ (∀ y0 y1 y2 y3 y4 y5 y6 y7 y8, LeO (impl_verify.l1 k y0 y1 y2 y3 y4 y5 y6 y7 y8) (impl_verify.l1 (k + 1) y0 y1 y2 y3 y4 y5 y6 y7 y8))
 | 0 => ⟨fun _ _ r h => by simp [impl_verify.j0] at h, fun _ _ _ _ _ r h => by simp [impl_verify.l0] at h, fun _ _ _ _ _ _ _ _ _ _ r h => by simp [impl_verify.j2] at h, fun _ _ _ _ _ _ _ _ _ r h => by simp [impl_verify.l1] at h⟩
 | k + 1 => by
  obtain ⟨ih0, ih1, ih2, ih3⟩ := impl_verify.mono_l k
  refine ⟨?_, ?_, ?_, ?_⟩
  ·intro y0 y1
   unfold impl_verify.j0
   with_reducible repeat' first | exact ih0 .. | exact ih1 .. | exact ih2 .. | exact ih3 .. | exact impl_InsRight.mono .. | exact impl_heightsOf.mono .. | exact LeO.refl _ | exact LeO.none _ | refine LeO.ite ?_ ?_ | refine LeO.bind ?_ (fun _ => ?_)
  ·intro y0 y1 y2 y3 y4
   unfold impl_verify.l0
   with_reducible repeat' first | exact ih0 .. | exact ih1 .. | exact ih2 .. | exact ih3 .. | exact impl_InsRight.mono .. | exact impl_heightsOf.mono .. | exact LeO.refl _ | exact LeO.none _ | refine LeO.ite ?_ ?_ | refine LeO.bind ?_ (fun _ => ?_)
  ·intro y0 y1 y2 y3 y4 y5 y6 y7 y8 y9
   unfold impl_verify.j2
   with_reducible repeat' first | exact ih0 .. | exact ih1 .. | exact ih2 .. | exact ih3 .. | exact impl_InsRight.mono .. | exact impl_heightsOf.mono .. | exact LeO.refl _ | exact LeO.none _ | refine LeO.ite ?_ ?_ | refine LeO.bind ?_ (fun _ => ?_)
  ·intro y0 y1 y2 y3 y4 y5 y6 y7 y8
   unfold impl_verify.l1
   with_reducible repeat' first | exact ih0 .. | exact ih1 .. | exact ih2 .. | exact ih3 .. | exact impl_InsRight.mono .. | exact impl_heightsOf.mono .. | exact LeO.refl _ | exact LeO.none _ | refine LeO.ite ?_ ?_ | refine LeO.bind ?_ (fun _ => ?_)
theorem impl_verify.mono : ∀ a0 k, LeO (impl_verify.f k a0) (impl_verify.f (k + 1) a0) := by
 intro a0 k
 obtain ⟨ih0, ih1, ih2, ih3⟩ := impl_verify.mono_l k
 unfold impl_verify.f
 with_reducible repeat' first | exact ih0 .. | exact ih1 .. | exact ih2 .. | exact ih3 .. | exact impl_InsRight.mono .. | exact impl_heightsOf.mono .. | exact LeO.refl _ | exact LeO.none _ | refine LeO.ite ?_ ?_ | refine LeO.bind ?_ (fun _ => ?_)
theorem impl_verify.calls (k : Nat) (A0_0 : Option Addr) (c0_0 : Nat) (l0_0 : List (S50)) (r1 : Int) (r2 : Int) (r3 : Int) (r4 : List (List Int)) (w : World) (hr0_0 : Kd.C k50 w A0_0 l0_0.length l0_0) (hc0_0 : l0_0.length ≤ c0_0) (h : impl_verify.f k l0_0 = some (r1, r2, r3, r4)) :
  Calls Try.prog 41 #[.agg #[.slice A0_0 l0_0.length c0_0]] w fun e w' => ∃ v3_ : Value, e = .returned (.tuple #[.agg #[.int .i64 r1, .int .i64 r2, .int .i64 r3], v3_]) ∧ Kd.S (Kd.slice 2 (Kd.int .i64)) 51 w' w.heap.size (fun _ => True) v3_ r4 ∧ Below w.heap.size w w' := by
 have hu34 := Try.underlying34
 have hu53 := Try.underlying53
 have hu50 := Try.underlying50
 have hu88 := Try.underlying88
 have HR0_0 := am hr0_0
 have HC0_0 := am hc0_0
 clear hr0_0 hc0_0
 have HB := am (Below.refl w.heap.size w)
 have H : (if (l0_0.length : Int) < 1 then (impl_verify.j0 k true l0_0) else (impl_verify.j0 k (decide ((l0_0.length : Int) > 6)) l0_0)) = some (r1, r2, r3, r4) := h
 clear h
 have HC2 := am H
 clear H
 go_enter Try.func41, Try.ntmps41
 go_upto_region 1 with (first | ((with_reducible refine gate_dst (N := 1) rfl ?_); (try (refine gate_guard (by rfl) ?_; dsimp only)); refine box_event ?hg (N := 1) ?hd (cs := #[.slice A0_0 l0_0.length c0_0]) (t := 34) ?hr ?_; (case hd => rfl); (case hg => rfl); (case hr => exact gs); intro gb415 hg w3 hbox hb; have BK415 := am (hbox); have GW415 := gw hg HB; replace HB := bs HB hb; clear hb hbox hg) | ((with_reducible refine gate_dst (N := 2) rfl ?_); (try (refine gate_guard (by rfl) ?_; dsimp only)); refine box_event ?hg (N := 2) ?hd (cs := #[.int .i64 0, .int .i64 0, .int .i64 0]) (t := 53) ?hr ?_; (case hd => rfl); (case hg => rfl); (case hr => exact gs); intro gb416 hg w4 hbox hb; have BK416 := am (hbox); have GW416 := gw hg HB; replace HB := bs HB hb; obtain ⟨NB415_416, NB416_415, BK415⟩ := b3 hg BK415 hb; clear hb hbox hg))
 (try simp only [Act.put, sa, sz, ss])
 go_cut [21] (fun v21 wc => ∃ (kq : Nat) (x21_1 : Bool), v21 = .bool x21_1 ∧ Aside0 (impl_verify.j0 kq x21_1 l0_0 = some (r1, r2, r3, r4)) ∧ Aside0 (kq ≤ k) ∧ Aside0 (wc.heap[gb415]? = some (.cells #[(.slice A0_0 l0_0.length c0_0)] 34 (0, 0))) ∧ Aside0 (wc.heap[gb416]? = some (.cells #[.int .i64 0, .int .i64 0, .int .i64 0] 53 (0, 0))) ∧ Aside0 (Below w.heap.size w wc))
 case first =>
  have H := HC2.out
  clear HC2
  refine qI H ?_ ?_ <;> clear H <;> intro c5b0 H
  ·have c5 := of_decide_eq_true c5b0
   have c5b1 : decide (l0_0.length < 1) = true := decide_eq_true (by omega)
   clear c5
   (first | rw [c5b0] | (simp only [i64_w, i32_w]; rw [c5b0]) | skip)
   have H' := am H
   clear H
   have hnb6 := NB415_416.out
   have hnc6 := NB416_415.out
   have hcz7 := bK w4 BK415
   have hfz7 := bF BK415
   go_wp2
   go_meet
   case rel => exact ⟨_, (true), dr, H', ⟨lk0⟩, ⟨bp BK415⟩, ⟨bp BK416⟩, ⟨bw HB⟩⟩
  have c5 := of_decide_eq_false c5b0
  have c5b1 : decide (l0_0.length < 1) = false := decide_eq_false (by omega)
  clear c5
  (first | rw [c5b0] | (simp only [i64_w, i32_w]; rw [c5b0]) | skip)
  have H' := am H
  clear H
  have hnb8 := NB415_416.out
  have hnc8 := NB416_415.out
  have hcz9 := bK w4 BK415
  have hfz9 := bF BK415
  go_wp2
  go_meet
  case rel => exact ⟨_, (decide ((l0_0.length : Int) > 6)), dr, H', ⟨lk0⟩, ⟨bp BK415⟩, ⟨bp BK416⟩, ⟨bw HB⟩⟩
 clear HC2
 (try clear p2); (try clear c4); (try clear c5); (try clear c5b0); (try clear c5b1); (try clear c6); (try clear c8); (try clear hcz7); (try clear hcz9); (try clear hfz7); (try clear hfz9)
 obtain ⟨kq, x21_1, rfl, HA, HJ1, BK415, BK416, HB⟩ := hcut
 rcases kq with _ | kj1
 ·exact absurd HA.out (by simp [impl_verify.j0])
 have H := HA.out
 clear HA
 simp only [impl_verify.j0] at H
 refine qT H ?_ ?_ <;> clear H <;> intro c10 H <;> subst c10
 ·simp only [Option.some.injEq, Prod.mk.injEq] at H
  obtain ⟨rfl, rfl, rfl, rfl⟩ := H
  have hnb11 := NB416_415.out
  have hnc11 := NB415_416.out
  have hcz12 := bK wc BK416
  have hfz12 := bF BK416
  go_wp2
  refine bodyPost_ret (results_ct rfl _ _ gb416 53 #[.int .i64 0, .int .i64 0, .int .i64 1] (0, 0) _ rfl (bt BK416) Try.underlying53 rfl (by kernel_rfl)) rfl ?_
  exact ⟨_, er, by first | exact Kd.S_nil _ _ _ _ _ | exact Kd.N_nil _ _ _ _ _ | exact Kd.V_nil _ _ _ _ _ | exact Kd.Q_nil _ _ _ _ _ | exact Kd.R_nil _ _ _ _ _, bw HB⟩
 have H' := am H
 clear H
 have hnb13 := NB415_416.out
 have hnc13 := NB416_415.out
 have hcz14 := bK wc BK415
 have hfz14 := bF BK415
 go_wp2
 go_loopg [4, 26] kj1 (fun kq v4 v26 w' => ∃ (x4_2 : List (List Int)) (x26_2 : Int) (x417000_2 : Int) (x417001_2 : Int) (x417002_2 : Int), v26 = .int .i64 x26_2 ∧ Aside0 (impl_verify.l0 kq x4_2 l0_0 (l0_0.length : Int) x26_2 l0_0 = some (r1, r2, r3, r4)) ∧ Aside0 (kq ≤ kj1) ∧ Aside0 (Kd.S (Kd.slice 2 (Kd.int .i64)) 51 w' w.heap.size (fun _ => True) v4 x4_2) ∧ Aside0 (w'.heap[gb415]? = some (.cells #[(.slice A0_0 l0_0.length c0_0)] 34 (0, 0))) ∧ Aside0 (w'.heap[gb416]? = some (.cells #[.int .i64 x417000_2, .int .i64 x417001_2, .int .i64 x417002_2] 53 (0, 0))) ∧ Aside0 (Below w.heap.size w w'))
 case atStart => exact ⟨(([] : List (List Int))), (0), (0), (0), (0), dr, H', ⟨Nat.le_refl _⟩, ⟨by first | exact Kd.S_nil _ _ _ _ _ | exact Kd.N_nil _ _ _ _ _ | exact Kd.V_nil _ _ _ _ _ | exact Kd.Q_nil _ _ _ _ _ | exact Kd.R_nil _ _ _ _ _⟩, ⟨bp BK415⟩, ⟨bp BK416⟩, ⟨bw HB⟩⟩
 clear H'
 (try clear c1); (try clear c10); (try clear c11); (try clear c13); (try clear hcz12); (try clear hcz14); (try clear hfz12); (try clear hfz14)
 obtain ⟨x4_2, x26_2, x417000_2, x417001_2, x417002_2, rfl, HA, HK2, HO_4, BK415, BK416, HB⟩ := hrel
 rcases gk with _ | k2
 ·exact absurd HA.out (by simp [impl_verify.l0])
 have H := HA.out
 clear HA
 simp only [impl_verify.l0] at H
 by_cases c15 : x26_2 < (l0_0.length : Int)
 ·rw [if_pos c15] at H
  have c15b0 := decide_eq_true c15
  clear c15
  refine iN H ?_; clear H; intro c16 H
  have c16b0 := decide_eq_true c16
  clear c16
  refine iN H ?_; clear H; intro c17 H
  have c17b0 := decide_eq_true c17
  clear c17
  have HC18 := am H
  clear H
  have p417 : 0 ≤ (x26_2 : Int) := of_decide_eq_true as1
  have q417 : x26_2 < (l0_0.length : Int) := of_decide_eq_true as1
  obtain ⟨ad417, A417_2, c417_2, e417, hx417_0, hx417_1, hx417_2, hl417_2, hi417_2⟩ := at_T50 HR0_0.out x26_2 p417 q417
  cases e417
  replace hx417_0 := cl HB hx417_0
  replace hx417_1 := cl HB hx417_1
  replace hx417_2 := cl HB hx417_2
  have HR417_2 := am hi417_2
  have HC417_2 := am hl417_2
  clear hi417_2 hl417_2
  replace p417 := eq_true p417
  replace q417 := eq_true q417
  go_upto_region 7 with (first | ((with_reducible refine gate_dst (N := 6) rfl ?_); (try (refine gate_guard (by rfl) ?_; dsimp only)); refine box_event ?hg (N := 6) ?hd (cs := #[.int .i64 0, .int .i64 0, .slice none 0 0]) (t := 50) ?hr ?_; (case hd => rfl); (case hg => rfl); (case hr => exact gs); intro gb418 hg w19 hbox hb; replace HO_4 := am (Kd.S_below (kS HO_4) hb); have BK418 := am (hbox); have GW418 := gw hg HB; replace HB := bs HB hb; obtain ⟨NB415_418, NB418_415, BK415⟩ := b3 hg BK415 hb; obtain ⟨NB416_418, NB418_416, BK416⟩ := b3 hg BK416 hb; clear hb hbox hg; have hnb20 := NB418_415.out; have hnc20 := NB415_418.out; have hnb21 := NB418_416.out; have hnc21 := NB416_418.out; have hcz22 := bK w19 BK418; have hfz22 := bF BK418))
  (try simp only [Act.put, sa, sz, ss])
  go_cut [49] (fun v49 wc => ∃ (kq : Nat) (x49_17 : Bool), v49 = .bool x49_17 ∧ Aside0 (impl_verify.j2 kq x4_2 x26_2 l0_0 (l0_0.length : Int) x26_2 x49_17 l0_0 ((rd_T50 l0_0 x26_2).f0) ((rd_T50 l0_0 x26_2).f1) ((rd_T50 l0_0 x26_2).f2) = some (r1, r2, r3, r4)) ∧ Aside0 (kq ≤ k2) ∧ Aside0 (Kd.S (Kd.slice 2 (Kd.int .i64)) 51 wc w.heap.size (fun _ => True) u4 x4_2) ∧ Aside0 (wc.heap[gb415]? = some (.cells #[(.slice (some ad417) l0_0.length c0_0)] 34 (0, 0))) ∧ Aside0 (wc.heap[gb416]? = some (.cells #[.int .i64 x417000_2, .int .i64 x417001_2, .int .i64 x417002_2] 53 (0, 0))) ∧ Aside0 (wc.heap[gb418]? = some (.cells #[.int .i64 ((rd_T50 l0_0 x26_2).f0), .int .i64 ((rd_T50 l0_0 x26_2).f1), (.slice A417_2 ((rd_T50 l0_0 x26_2).f2).length c417_2)] 50 (0, 0))) ∧ Aside0 (Below w.heap.size w wc))
  case first =>
   have H := HC18.out
   clear HC18
   refine be H ?_; clear H; intro t419 A23 H
   refine qT H ?_ ?_ <;> clear H <;> intro c24 H <;> subst c24
   ·refine be H ?_; clear H; intro t420 A25 H
    refine qT H ?_ ?_ <;> clear H <;> intro c26 H <;> subst c26
    ·refine be H ?_; clear H; intro t421 A27 H
     have H' := am H
     clear H
     have hnb28 := NB418_415.out
     have hnc28 := NB415_418.out
     have hnb29 := NB418_416.out
     have hnc29 := NB416_418.out
     have hcz30 := bK w19 BK418
     have hfz30 := bF BK418
     go_wp2_with (first | ((with_reducible refine gate_callee (f := 59) rfl ?_); refine goesL_ (some 33) rfl rfl Try.func59 (by kernel_rfl) rfl #[.int .i64 ((rd_T50 l0_0 x26_2).f0), .int .i64 0, .int .i64 4] rfl gl ?_; (with_reducible refine (impl_in.calls ((rd_T50 l0_0 x26_2).f0) 0 4 true _ A23.out).mono ?_); rintro e w' ⟨rfl, ⟨nd, rfl⟩⟩; refine ⟨_, rfl, ?_⟩) | (go_at_call 59; (with_reducible refine (impl_in.calls ((rd_T50 l0_0 x26_2).f1) ((rd_T50 l0_0 x26_2).f0) 8 true _ A25.out).mono ?_); rintro e w' ⟨rfl, ⟨nd, rfl⟩⟩) | (go_at_call 59; (with_reducible refine (impl_in.calls (((rd_T50 l0_0 x26_2).f2).length : Int) 1 60 t421 _ A27.out).mono ?_); rintro e w' ⟨rfl, ⟨nd, rfl⟩⟩))
     go_meet
     case rel => exact ⟨_, (!t421), dr, H', ⟨lk2 HJ1 HK2⟩, ⟨by (with_reducible repeat (first | apply Kd.S_alloc | apply Kd.S_drewN | apply Kd.S_drew)); exact Kd.S_mono (Kd.S_far (p := ⟨gb418, 2, none⟩) (Kd.S_far (p := ⟨gb418, 1, none⟩) (Kd.S_far (p := ⟨gb418, 0, none⟩) (Kd.S_types HO_4.out BK418.out (by decide)) (fun _ hk => hk.2) (.int .i64 ((rd_T50 l0_0 x26_2).f0))) (fun _ hk => hk.2) (.int .i64 ((rd_T50 l0_0 x26_2).f1))) (fun _ hk => hk.2) (.slice A417_2 ((rd_T50 l0_0 x26_2).f2).length c417_2)) (fun _ hk => trivial)⟩, ⟨by (with_reducible repeat (first | apply dN | apply dW | apply dA)); refine blk_far ?_ NB415_418.out _; (with_reducible repeat (first | apply dN | apply dW | apply dA)); refine blk_far ?_ NB415_418.out _; (with_reducible repeat (first | apply dN | apply dW | apply dA)); refine blk_far ?_ NB415_418.out _; exact bp BK415⟩, ⟨by (with_reducible repeat (first | apply dN | apply dW | apply dA)); refine blk_far ?_ NB416_418.out _; (with_reducible repeat (first | apply dN | apply dW | apply dA)); refine blk_far ?_ NB416_418.out _; (with_reducible repeat (first | apply dN | apply dW | apply dA)); refine blk_far ?_ NB416_418.out _; exact bp BK416⟩, ⟨by (with_reducible repeat (first | apply dN | apply dW | apply dA)); refine blk_put (cs := #[.int .i64 ((rd_T50 l0_0 x26_2).f0), .int .i64 ((rd_T50 l0_0 x26_2).f1), .slice none 0 0]) ?_ 2 _ rfl; (with_reducible repeat (first | apply dN | apply dW | apply dA)); refine blk_put (cs := #[.int .i64 ((rd_T50 l0_0 x26_2).f0), .int .i64 0, .slice none 0 0]) ?_ 1 _ rfl; (with_reducible repeat (first | apply dN | apply dW | apply dA)); refine blk_put (cs := #[.int .i64 0, .int .i64 0, .slice none 0 0]) ?_ 0 _ rfl; exact bp BK418⟩, ⟨bw HB⟩⟩
    have H' := am H
    clear H
    have hnb31 := NB418_415.out
    have hnc31 := NB415_418.out
    have hnb32 := NB418_416.out
    have hnc32 := NB416_418.out
    have hcz33 := bK w19 BK418
    have hfz33 := bF BK418
    go_wp2_with (first | ((with_reducible refine gate_callee (f := 59) rfl ?_); refine goesL_ (some 33) rfl rfl Try.func59 (by kernel_rfl) rfl #[.int .i64 ((rd_T50 l0_0 x26_2).f0), .int .i64 0, .int .i64 4] rfl gl ?_; (with_reducible refine (impl_in.calls ((rd_T50 l0_0 x26_2).f0) 0 4 true _ A23.out).mono ?_); rintro e w' ⟨rfl, ⟨nd, rfl⟩⟩; refine ⟨_, rfl, ?_⟩) | (go_at_call 59; (with_reducible refine (impl_in.calls ((rd_T50 l0_0 x26_2).f1) ((rd_T50 l0_0 x26_2).f0) 8 false _ A25.out).mono ?_); rintro e w' ⟨rfl, ⟨nd, rfl⟩⟩))
    go_meet
    case rel => exact ⟨_, (true), dr, H', ⟨lk2 HJ1 HK2⟩, ⟨by (with_reducible repeat (first | apply Kd.S_alloc | apply Kd.S_drewN | apply Kd.S_drew)); exact Kd.S_mono (Kd.S_far (p := ⟨gb418, 2, none⟩) (Kd.S_far (p := ⟨gb418, 1, none⟩) (Kd.S_far (p := ⟨gb418, 0, none⟩) (Kd.S_types HO_4.out BK418.out (by decide)) (fun _ hk => hk.2) (.int .i64 ((rd_T50 l0_0 x26_2).f0))) (fun _ hk => hk.2) (.int .i64 ((rd_T50 l0_0 x26_2).f1))) (fun _ hk => hk.2) (.slice A417_2 ((rd_T50 l0_0 x26_2).f2).length c417_2)) (fun _ hk => trivial)⟩, ⟨by (with_reducible repeat (first | apply dN | apply dW | apply dA)); refine blk_far ?_ NB415_418.out _; (with_reducible repeat (first | apply dN | apply dW | apply dA)); refine blk_far ?_ NB415_418.out _; (with_reducible repeat (first | apply dN | apply dW | apply dA)); refine blk_far ?_ NB415_418.out _; exact bp BK415⟩, ⟨by (with_reducible repeat (first | apply dN | apply dW | apply dA)); refine blk_far ?_ NB416_418.out _; (with_reducible repeat (first | apply dN | apply dW | apply dA)); refine blk_far ?_ NB416_418.out _; (with_reducible repeat (first | apply dN | apply dW | apply dA)); refine blk_far ?_ NB416_418.out _; exact bp BK416⟩, ⟨by (with_reducible repeat (first | apply dN | apply dW | apply dA)); refine blk_put (cs := #[.int .i64 ((rd_T50 l0_0 x26_2).f0), .int .i64 ((rd_T50 l0_0 x26_2).f1), .slice none 0 0]) ?_ 2 _ rfl; (with_reducible repeat (first | apply dN | apply dW | apply dA)); refine blk_put (cs := #[.int .i64 ((rd_T50 l0_0 x26_2).f0), .int .i64 0, .slice none 0 0]) ?_ 1 _ rfl; (with_reducible repeat (first | apply dN | apply dW | apply dA)); refine blk_put (cs := #[.int .i64 0, .int .i64 0, .slice none 0 0]) ?_ 0 _ rfl; exact bp BK418⟩, ⟨bw HB⟩⟩
   have H' := am H
   clear H
   have hnb34 := NB418_415.out
   have hnc34 := NB415_418.out
   have hnb35 := NB418_416.out
   have hnc35 := NB416_418.out
   have hcz36 := bK w19 BK418
   have hfz36 := bF BK418
   go_wp2_with (first | ((with_reducible refine gate_callee (f := 59) rfl ?_); refine goesL_ (some 33) rfl rfl Try.func59 (by kernel_rfl) rfl #[.int .i64 ((rd_T50 l0_0 x26_2).f0), .int .i64 0, .int .i64 4] rfl gl ?_; (with_reducible refine (impl_in.calls ((rd_T50 l0_0 x26_2).f0) 0 4 false _ A23.out).mono ?_); rintro e w' ⟨rfl, ⟨nd, rfl⟩⟩; refine ⟨_, rfl, ?_⟩))
   go_meet
   case rel => exact ⟨_, (true), dr, H', ⟨lk2 HJ1 HK2⟩, ⟨by (with_reducible repeat (first | apply Kd.S_alloc | apply Kd.S_drewN | apply Kd.S_drew)); exact Kd.S_mono (Kd.S_far (p := ⟨gb418, 2, none⟩) (Kd.S_far (p := ⟨gb418, 1, none⟩) (Kd.S_far (p := ⟨gb418, 0, none⟩) (Kd.S_types HO_4.out BK418.out (by decide)) (fun _ hk => hk.2) (.int .i64 ((rd_T50 l0_0 x26_2).f0))) (fun _ hk => hk.2) (.int .i64 ((rd_T50 l0_0 x26_2).f1))) (fun _ hk => hk.2) (.slice A417_2 ((rd_T50 l0_0 x26_2).f2).length c417_2)) (fun _ hk => trivial)⟩, ⟨by (with_reducible repeat (first | apply dN | apply dW | apply dA)); refine blk_far ?_ NB415_418.out _; (with_reducible repeat (first | apply dN | apply dW | apply dA)); refine blk_far ?_ NB415_418.out _; (with_reducible repeat (first | apply dN | apply dW | apply dA)); refine blk_far ?_ NB415_418.out _; exact bp BK415⟩, ⟨by (with_reducible repeat (first | apply dN | apply dW | apply dA)); refine blk_far ?_ NB416_418.out _; (with_reducible repeat (first | apply dN | apply dW | apply dA)); refine blk_far ?_ NB416_418.out _; (with_reducible repeat (first | apply dN | apply dW | apply dA)); refine blk_far ?_ NB416_418.out _; exact bp BK416⟩, ⟨by (with_reducible repeat (first | apply dN | apply dW | apply dA)); refine blk_put (cs := #[.int .i64 ((rd_T50 l0_0 x26_2).f0), .int .i64 ((rd_T50 l0_0 x26_2).f1), .slice none 0 0]) ?_ 2 _ rfl; (with_reducible repeat (first | apply dN | apply dW | apply dA)); refine blk_put (cs := #[.int .i64 ((rd_T50 l0_0 x26_2).f0), .int .i64 0, .slice none 0 0]) ?_ 1 _ rfl; (with_reducible repeat (first | apply dN | apply dW | apply dA)); refine blk_put (cs := #[.int .i64 0, .int .i64 0, .slice none 0 0]) ?_ 0 _ rfl; exact bp BK418⟩, ⟨bw HB⟩⟩
  clear HC18
  (try clear c2); (try clear c3); (try clear p4); (try clear q4); (try clear hx4); (try clear c15); (try clear c15b0); (try clear c16); (try clear c16b0); (try clear c17); (try clear c17b0); (try clear c20); (try clear c21); (try clear c24); (try clear c26); (try clear c28); (try clear c29); (try clear c31); (try clear c32); (try clear c34); (try clear c35); (try clear hcz22); (try clear hcz30); (try clear hcz33); (try clear hcz36); (try clear hfz22); (try clear hfz30); (try clear hfz33); (try clear hfz36); (try clear hx417_0); (try clear hx417_1); (try clear hx417_2); (try clear p417); (try clear q417)
  obtain ⟨kq, x49_17, rfl, HA, HJ17, HO_4, BK415, BK416, BK418, HB⟩ := hcut
  rcases kq with _ | kj17
  ·exact absurd HA.out (by simp [impl_verify.j2])
  have H := HA.out
  clear HA
  simp only [impl_verify.j2] at H
  refine qT H ?_ ?_ <;> clear H <;> intro c37 H <;> subst c37
  ·simp only [Option.some.injEq, Prod.mk.injEq] at H
   obtain ⟨rfl, rfl, rfl, rfl⟩ := H
   have hnb38 := NB416_415.out
   have hnc38 := NB415_416.out
   have hnb39 := NB416_418.out
   have hnc39 := NB418_416.out
   have hcz40 := bK wc BK416
   have hfz40 := bF BK416
   go_wp2
   refine bodyPost_ret (results_ct rfl _ _ gb416 53 #[.int .i64 x26_2, .int .i64 0, .int .i64 1] (0, 0) _ rfl (bt BK416) Try.underlying53 rfl (by kernel_rfl)) rfl ?_
   exact ⟨_, er, by first | exact Kd.S_nil _ _ _ _ _ | exact Kd.N_nil _ _ _ _ _ | exact Kd.V_nil _ _ _ _ _ | exact Kd.Q_nil _ _ _ _ _ | exact Kd.R_nil _ _ _ _ _, bw HB⟩
  have H' := am H
  clear H
  have hnb41 := NB418_415.out
  have hnc41 := NB415_418.out
  have hnb42 := NB418_416.out
  have hnc42 := NB416_418.out
  have hcz43 := bK wc BK418
  have hfz43 := bF BK418
  go_wp2
  go_loopg [55] kj17 (fun kq v55 w' => ∃ (x55_4 : Int) (x417000_4 : Int) (x417001_4 : Int) (x417002_4 : Int), v55 = .int .i64 x55_4 ∧ Aside0 (impl_verify.l1 kq x4_2 x26_2 l0_0 (l0_0.length : Int) x26_2 ((rd_T50 l0_0 x26_2).f2) (((rd_T50 l0_0 x26_2).f2).length : Int) x55_4 l0_0 = some (r1, r2, r3, r4)) ∧ Aside0 (kq ≤ kj17) ∧ Aside0 (Kd.S (Kd.slice 2 (Kd.int .i64)) 51 w' w.heap.size (fun _ => True) u4 x4_2) ∧ Aside0 (w'.heap[gb415]? = some (.cells #[(.slice (some ad417) l0_0.length c0_0)] 34 (0, 0))) ∧ Aside0 (w'.heap[gb416]? = some (.cells #[.int .i64 x417000_4, .int .i64 x417001_4, .int .i64 x417002_4] 53 (0, 0))) ∧ Aside0 (w'.heap[gb418]? = some (.cells #[.int .i64 ((rd_T50 l0_0 x26_2).f0), .int .i64 ((rd_T50 l0_0 x26_2).f1), (.slice A417_2 ((rd_T50 l0_0 x26_2).f2).length c417_2)] 50 (0, 0))) ∧ Aside0 (Below w.heap.size w w'))
  case atStart => exact ⟨(0), (x417000_2), (x417001_2), (x417002_2), dr, H', ⟨Nat.le_refl _⟩, ⟨kS HO_4⟩, ⟨bp BK415⟩, ⟨bp BK416⟩, ⟨bp BK418⟩, ⟨bw HB⟩⟩
  clear H'
  (try clear c37); (try clear c38); (try clear c39); (try clear c41); (try clear p41); (try clear q41); (try clear hx41); (try clear c42); (try clear hcz40); (try clear hcz43); (try clear hfz40); (try clear hfz43)
  obtain ⟨x55_4, x417000_4, x417001_4, x417002_4, rfl, HA, HK4, HO_4, BK415, BK416, BK418, HB⟩ := hrel
  rcases gk with _ | k4
  ·exact absurd HA.out (by simp [impl_verify.l1])
  have H := HA.out
  clear HA
  simp only [impl_verify.l1] at H
  refine qI H ?_ ?_ <;> clear H <;> intro c44b0 H
  ·refine iM H ?_; clear H; intro c45b0 H
   refine iM H ?_; clear H; intro c46b0 H
   refine be H ?_; clear H; intro t424 A47 H
   have HC48 := am H
   clear H
   have p422 : 0 ≤ (x55_4 : Int) := of_decide_eq_true as1
   have q422 : x55_4 < (((rd_T50 l0_0 x26_2).f2).length : Int) := of_decide_eq_true as1
   obtain ⟨ad422, e422, hx422_0, hx422_1⟩ := at_T88 HR417_2.out x55_4 p422 q422
   cases e422
   replace hx422_0 := cl HB hx422_0
   replace hx422_1 := cl HB hx422_1
   replace p422 := eq_true p422
   replace q422 := eq_true q422
   go_upto_if 64 with (first | ((with_reducible refine gate_dst (N := 8) rfl ?_); (try (refine gate_guard (by rfl) ?_; dsimp only)); refine box_event ?hg (N := 8) ?hd (cs := #[.int .i64 0, .int .i64 0]) (t := 88) ?hr ?_; (case hd => rfl); (case hg => rfl); (case hr => exact gs); intro gb423 hg w49 hbox hb; replace HO_4 := am (Kd.S_below (kS HO_4) hb); have BK423 := am (hbox); have GW423 := gw hg HB; replace HB := bs HB hb; obtain ⟨NB415_423, NB423_415, BK415⟩ := b3 hg BK415 hb; obtain ⟨NB416_423, NB423_416, BK416⟩ := b3 hg BK416 hb; obtain ⟨NB418_423, NB423_418, BK418⟩ := b3 hg BK418 hb; clear hb hbox hg; have hnb50 := NB423_415.out; have hnc50 := NB415_423.out; have hnb51 := NB423_416.out; have hnc51 := NB416_423.out; have hnb52 := NB423_418.out; have hnc52 := NB418_423.out; have hcz53 := bK w49 BK423; have hfz53 := bF BK423; have hnb54 := NB415_416.out; have hnc54 := NB416_415.out; have hnb55 := NB415_418.out; have hnc55 := NB418_415.out; have hcz56 := bK w49 BK415; have hfz56 := bF BK415) | ((with_reducible refine gk 60 rfl ?_); refine gB 60 (some 63) Try.func60 #[.agg #[.slice (some ad417) l0_0.length c0_0], .int .i64 x26_2, .agg #[.int .i64 ((rd_T88 ((rd_T50 l0_0 x26_2).f2) x55_4).f0), .int .i64 ((rd_T88 ((rd_T50 l0_0 x26_2).f2) x55_4).f1)]] (impl_InsRight.calls k4 _ _ l0_0 x26_2 ((rd_T88 ((rd_T50 l0_0 x26_2).f2) x55_4).f0) ((rd_T88 ((rd_T50 l0_0 x26_2).f2) x55_4).f1) t424 _ (Kd.C_below HR0_0.out (bw HB)) HC0_0.out A47.out) ?_; intro w57 hb; replace HO_4 := am (Kd.S_below (by (with_reducible repeat (first | apply Kd.S_alloc | apply Kd.S_drewN | apply Kd.S_drew)); exact (Kd.S_mono (Kd.S_far (p := ⟨gb423, 1, none⟩) (Kd.S_far (p := ⟨gb423, 0, none⟩) (Kd.S_types HO_4.out BK423.out (by decide)) (fun _ hk => hk.2) (.int .i64 ((rd_T88 ((rd_T50 l0_0 x26_2).f2) x55_4).f0))) (fun _ hk => hk.2) (.int .i64 ((rd_T88 ((rd_T50 l0_0 x26_2).f2) x55_4).f1))) (fun _ h_ => h_.1))) hb); replace BK415 := bb2 BK415 hb; replace BK416 := bb2 BK416 hb; replace BK418 := bb2 BK418 hb; replace BK423 := bo #[.int .i64 ((rd_T88 ((rd_T50 l0_0 x26_2).f2) x55_4).f0), .int .i64 ((rd_T88 ((rd_T50 l0_0 x26_2).f2) x55_4).f1)] BK423 hb; replace HB := bs HB hb; clear hb))
   (try simp only [Act.put, sa, sz, ss])
   have H := HC48.out
   clear HC48
   refine qT H ?_ ?_ <;> clear H <;> intro c58 H <;> subst c58
   ·have H' := am H
    clear H
    go_wp2
    go_roundg k4
    case measure => have := HJ1.out; have := HK2.out; have := HJ17.out; have := HK4.out; omega
    case rel => exact ⟨(wrap64 (x55_4 + 1)), (x417000_4), (x417001_4), (x417002_4), dr, H', ⟨by have := HJ1.out; have := HK2.out; have := HJ17.out; have := HK4.out; omega⟩, ⟨kS HO_4⟩, ⟨bp BK415⟩, ⟨bp BK416⟩, ⟨bp BK418⟩, ⟨bw HB⟩⟩
   simp only [Option.some.injEq, Prod.mk.injEq] at H
   obtain ⟨rfl, rfl, rfl, rfl⟩ := H
   have hnb59 := NB416_415.out
   have hnc59 := NB415_416.out
   have hnb60 := NB416_418.out
   have hnc60 := NB418_416.out
   have hnb61 := NB416_423.out
   have hnc61 := NB423_416.out
   have hcz62 := bK w57 BK416
   have hfz62 := bF BK416
   go_wp2
   refine bodyPost_ret (results_ct rfl _ _ gb416 53 #[.int .i64 x26_2, .int .i64 x55_4, .int .i64 1] (0, 0) _ rfl (bt BK416) Try.underlying53 rfl (by kernel_rfl)) rfl ?_
   exact ⟨_, er, by first | exact Kd.S_nil _ _ _ _ _ | exact Kd.N_nil _ _ _ _ _ | exact Kd.V_nil _ _ _ _ _ | exact Kd.Q_nil _ _ _ _ _ | exact Kd.R_nil _ _ _ _ _, bw HB⟩
  replace H := Option.bind_eq_some_iff.mp H
  obtain ⟨⟨t425, t428, t429⟩, A630, H⟩ := H
  replace H : (if t429 = 0 then (if x4_2.length < 5864062014805 then (impl_verify.l0 k4 (x4_2 ++ [t425]) l0_0 (l0_0.length : Int) (wrap64 (x26_2 + 1)) l0_0) else (none)) else (some (x26_2, t428, t429, ([] : List (List Int))))) = some (r1, r2, r3, r4) := H
  have A63 := am A630
  clear A630
  have HC64 := am H
  clear H
  have hnb65 := NB415_416.out
  have hnc65 := NB416_415.out
  have hnb66 := NB415_418.out
  have hnc66 := NB418_415.out
  have hcz67 := bK wr BK415
  have hfz67 := bF BK415
  go_upto_if 77 with (first | ((with_reducible refine gk 61 rfl ?_); refine gC 61 (some 72) Try.func61 #[.agg #[.slice (some ad417) l0_0.length c0_0], .int .i64 x26_2] ((impl_heightsOf.calls k4 _ _ l0_0 x26_2 t425 t428 t429 _ (cc (Kd.C_below HR0_0.out HB.out)) HC0_0.out A63.out).mono ?_); rintro e w68 ⟨v426, rfl, ho0, hb⟩; refine ⟨_, rfl, ?_⟩; replace HO_4 := am (Kd.S_elder' (kS HO_4) (Kd.R_base ho0) hb); have HO427 := am (Kd.R_lower ho0 (below_size (bw HB))); replace BK415 := bb BK415 hb; replace BK416 := bb BK416 hb; replace BK418 := bb BK418 hb; replace HB := bs HB hb; clear hb; (try clear ho0)))
  (try simp only [Act.put, sa, sz, ss])
  have H := HC64.out
  clear HC64
  refine qE H ?_ ?_ <;> clear H
  ·intro c69b0 c69b1 H
   (first | rw [c69b0] | (simp only [i64_w, i32_w]; rw [c69b0]) | skip)
   refine iN H ?_; clear H; intro c70 H
   have LMc70 := am c70
   clear c70
   obtain ⟨y430, hy430⟩ : ∃ y_ : List (List Int), y_ = (x4_2 ++ [t425]) := ⟨_, rfl⟩
   replace H : (impl_verify.l0 k4 y430 l0_0 (l0_0.length : Int) (wrap64 (x26_2 + 1)) l0_0) = some (r1, r2, r3, r4) := by first | (rw [hy430]; with_reducible exact H) | (have H2_ := (Option.bind_some _ _).symm.trans H; rw [hy430]; with_reducible exact H2_) | (have H2_ := (Option.bind_some _ _).symm.trans H; with_reducible exact H2_) | with_reducible exact H | (rw [hy430]; exact H) | exact H
   have Ny430 := am hy430
   clear hy430
   have H' := am H
   clear H
   obtain ⟨Ao72, co72, eo72⟩ := Kd.R_slice HO427.out
   subst eo72
   go_wp2_with (first | ((with_reducible refine gate_builtin (b := .append) (xs := #[.tmp 82, .tmp 84]) rfl ?_); (try (refine gate_guard (by rfl) ?_; dsimp only)); at_builtin; refine Kd.S_append (Kd.slice 2 (Kd.int .i64)) (w0 := w) w.heap.size rfl (.tmp 82) (.tmp 84) 97 51 (.slice none 0 0) 24 rfl Try.underlying97 info51 rfl (by decide) (by omega) u4 x4_2 t425 [.slice Ao72 t425.length co72] (fun _ => True) (fun k_ => some k_ = (.slice Ao72 t425.length co72 : Value).ownBlock) rfl rfl ?aP (fun k_ hk_ => ((Kd.R_mono (ok' := fun k_ => ((fun _ => True)) k_ ∧ some k_ ≠ (u4 : Value).ownBlock) (Kd.R_apart' (HO427.out) (Kd.S_typed HO_4.out) (by decide)) (fun k_ hk => ⟨trivial, hk.2⟩))).1 k_ hk_.symm) ?aF ?aO ?aB ?aS ?aL ?_; (case aP => exact Kd.M_row (Kd.R_mono (Kd.R_tight rfl (Kd.R_mono (ok' := fun k_ => ((fun _ => True)) k_ ∧ some k_ ≠ (u4 : Value).ownBlock) (Kd.R_apart' (HO427.out) (Kd.S_typed HO_4.out) (by decide)) (fun k_ hk => ⟨trivial, hk.2⟩))) (fun _ h_ => h_))); (case aB => exact (bw HB)); (case aF => exact (fun _ _ => trivial)); (case aO => exact (by (with_reducible repeat (first | apply Kd.S_alloc | apply Kd.S_drewN | apply Kd.S_drew)); exact Kd.S_mono HO_4.out (fun k_ hk => ⟨trivial, fun e_ => hk.2 e_⟩))); (case aS => exact (below_size (bw HB))); (case aL => have := LMc70.out; omega); intro v431 w71 ho hb hg hat; rw [← Ny430.out] at ho; replace BK415 := bg BK415 hg (Kd.S_ne HO_4.out BK415.out (by decide)); replace BK416 := bg BK416 hg (Kd.S_ne HO_4.out BK416.out (by decide)); replace BK418 := bg BK418 hg (Kd.S_ne HO_4.out BK418.out (by decide)); replace HB := am (hb); have HO432 := am (ho); clear HO_4; clear HO427; clear ho hb hg hat))
   go_roundg k4
   case measure => have := HJ1.out; have := HK2.out; have := HJ17.out; have := HK4.out; omega
   case rel => exact ⟨(y430), (wrap64 (x26_2 + 1)), (x417000_4), (x417001_4), (x417002_4), dr, H', ⟨by have := HJ1.out; have := HK2.out; have := HJ17.out; have := HK4.out; omega⟩, ⟨kS HO432⟩, ⟨bp BK415⟩, ⟨bp BK416⟩, ⟨bw HB⟩⟩
  intro c69 c69b0 c69b1 H
  (first | rw [c69b0] | (simp only [i64_w, i32_w]; rw [c69b0]) | skip)
  simp only [Option.some.injEq, Prod.mk.injEq] at H
  obtain ⟨rfl, rfl, rfl, rfl⟩ := H
  have hnb73 := NB416_415.out
  have hnc73 := NB415_416.out
  have hnb74 := NB416_418.out
  have hnc74 := NB418_416.out
  have hcz75 := bK w68 BK416
  have hfz75 := bF BK416
  go_wp2
  refine bodyPost_ret (results_ct rfl _ _ gb416 53 #[.int .i64 x26_2, .int .i64 t428, .int .i64 t429] (0, 0) _ rfl (bt BK416) Try.underlying53 rfl (by kernel_rfl)) rfl ?_
  exact ⟨_, er, by first | exact Kd.S_nil _ _ _ _ _ | exact Kd.N_nil _ _ _ _ _ | exact Kd.V_nil _ _ _ _ _ | exact Kd.Q_nil _ _ _ _ _ | exact Kd.R_nil _ _ _ _ _, bw HB⟩
 rw [if_neg c15] at H
 have c15b0 := decide_eq_false c15
 clear c15
 simp only [Option.some.injEq, Prod.mk.injEq] at H
 obtain ⟨rfl, rfl, rfl, rfl⟩ := H
 have hnb76 := NB416_415.out
 have hnc76 := NB415_416.out
 have hcz77 := bK wr BK416
 have hfz77 := bF BK416
 go_wp2
 refine bodyPost_ret (results_ct rfl _ _ gb416 53 #[.int .i64 0, .int .i64 0, .int .i64 0] (0, 0) _ rfl (bt BK416) Try.underlying53 rfl (by kernel_rfl)) rfl ?_
 exact ⟨_, er, by (with_reducible repeat (first | apply Kd.S_alloc | apply Kd.S_drewN | apply Kd.S_drew)); exact Kd.S_mono (Kd.S_far (p := ⟨gb416, 2, none⟩) (Kd.S_far (p := ⟨gb416, 1, none⟩) (Kd.S_far (p := ⟨gb416, 0, none⟩) (Kd.S_types HO_4.out BK416.out (by decide)) (fun _ hk => hk.2) (.int .i64 0)) (fun _ hk => hk.2) (.int .i64 0)) (fun _ hk => hk.2) (.int .i64 0)) (fun _ hk => trivial), bw HB⟩

def impl_known.f (k : Nat) (l0_0 : List (S50)) : Option ((List (S50)) × (List (List Int)) × Bool) := (impl_verify.f k l0_0).bind fun bt434 => (some (l0_0, bt434.2.2.2, (bt434.2.2.1 == 0)))
theorem impl_known.mono : ∀ a0 k, LeO (impl_known.f k a0) (impl_known.f (k + 1) a0) := by
 intro a0 k
 unfold impl_known.f
 with_reducible repeat' first | exact impl_verify.mono .. | exact LeO.refl _ | exact LeO.none _ | refine LeO.ite ?_ ?_ | refine LeO.bind ?_ (fun _ => ?_)
def impl_known.T2 : Bool × List (List Nat × List Nat) := (true, [([], []), ([], []), ([0, 1], [0, 1]), ([2], [2]), ([], []), ([4], [4]), ([5], [5]), ([3, 0, 1, 2, 3], [3]), ([6, 7, 0, 1, 2, 3, 4, 5, 6, 7], [6])])
def impl_known.B2 : List Nat := [0, 0, 3, 7, 0, 16, 48, 15, 255]
theorem impl_known.tab2 : rtab .any (opsOf Try.f22 2) = impl_known.T2 := by kernel_rfl
theorem impl_known.bits2 : waitsOk impl_known.T2.2 impl_known.B2 = true := by kernel_rfl
theorem impl_known.calls (k : Nat) (P0_0_ : Nat → Prop) (A0_0 : Option Addr) (c0_0 : Nat) (l0_0 : List (S50)) (r1 : List (S50)) (r2 : List (List Int)) (r3 : Bool) (w : World) (hs0_0 : Kd.V k50 50 w w.heap.size (fun k_ => P0_0_ k_) (.slice A0_0 l0_0.length c0_0) l0_0) (h : impl_known.f k l0_0 = some (r1, r2, r3)) :
  Calls Try.prog 22 #[.agg #[.slice A0_0 l0_0.length c0_0]] w fun e w' => ∃ v0_ v1_ : Value, ∃ g_ : Nat, e = .returned (.tuple #[.pointer (some ⟨g_, 0, none⟩), .bool r3]) ∧ Kd.V k50 50 w' w.heap.size (fun k_ => (P0_0_ k_ ∨ w.heap.size ≤ k_) ∧ some k_ ≠ (v1_ : Value).ownBlock) v0_ r1 ∧ Kd.S (Kd.slice 2 (Kd.int .i64)) 51 w' w.heap.size (fun k_ => (w.heap.size ≤ k_)) v1_ r2 ∧ w'.heap[g_]? = some (.cells #[v0_, v1_] 101 (0, 0)) ∧ w.heap.size ≤ g_ ∧ Below w.heap.size w w' := by
 have hu34 := Try.underlying34
 have hu53 := Try.underlying53
 have hu101 := Try.underlying101
 have HO0_0 := am (show Kd.V k50 50 w w.heap.size (fun k_ => (P0_0_ k_ ∨ w.heap.size ≤ k_)) (.slice A0_0 l0_0.length c0_0) l0_0 from Kd.V_mono hs0_0 (fun k_ hk => .inl hk))
 have HB := am (Below.refl w.heap.size w)
 have H : ((impl_verify.f k l0_0).bind fun bt434 => (some (l0_0, bt434.2.2.2, (bt434.2.2.1 == 0)))) = some (r1, r2, r3) := h
 clear h
 replace H := Option.bind_eq_some_iff.mp H
 obtain ⟨⟨t434, t435, t436, t437⟩, A20, H⟩ := H
 replace H : (some (l0_0, t437, (t436 == 0))) = some (r1, r2, r3) := H
 have A2 := am A20
 clear A20
 simp only [Option.some.injEq, Prod.mk.injEq] at H
 obtain ⟨rfl, rfl, rfl⟩ := H
 go_enter Try.func22, Try.ntmps22
 try go_wp2_with (first | ((with_reducible refine gd 1 rfl ?_); refine bX 1 #[.slice A0_0 l0_0.length c0_0] 34 HB ?_; clear HB; intro gb433 w3 hg hb BK433 GW433 HB; replace HO0_0 := am (Kd.V_below (Kd.V_elderB (kV HO0_0) gb433 (Nat.le_of_eq hg.symm)) hb); clear hb hg; have hcz4 := bK w3 BK433; have hfz4 := bF BK433) | ((with_reducible refine gk 41 rfl ?_); refine gC 41 (some 8) Try.func41 #[.agg #[.slice A0_0 l0_0.length c0_0]] ((impl_verify.calls k _ _ l0_0 t434 t435 t436 t437 _ (cc (Kd.V_reads' HO0_0.out).2.2) ((Kd.V_reads' HO0_0.out).2.1) A2.out).mono ?_); rintro e w5 ⟨v438, rfl, ho0, hb⟩; refine ⟨_, rfl, ?_⟩; replace HO0_0 := am (Kd.V_elder' (kV HO0_0) (Kd.S_base ho0) hb); have HO439 := am (Kd.S_lower (Kd.S_newM (M := fun k_ => (w.heap.size ≤ k_)) ho0 (below_size (bw HB)) (fun k_ h_ => h_)) (below_size (bw HB))); replace BK433 := bb BK433 hb; replace HB := bs HB hb; clear hb; (try clear ho0)) | ((with_reducible refine gd 4 rfl ?_); refine bX 4 #[.int .i64 0, .int .i64 0, .int .i64 0] 53 HB ?_; clear HB; intro gb440 w6 hg hb BK440 GW440 HB; replace HO0_0 := am (Kd.V_below (Kd.V_elderB (kV HO0_0) gb440 (Nat.le_of_eq hg.symm)) hb); replace HO439 := am (Kd.S_below (kS HO439) hb); obtain ⟨NB433_440, NB440_433, BK433⟩ := b3 hg BK433 hb; clear hb hg; have hnb7 := NB440_433.out; have hnc7 := NB433_440.out; have hcz8 := bK w6 BK440; have hfz8 := bF BK440))
 replace HO0_0 : Aside0 (Kd.V k50 50 (((w6.setCell ⟨gb440, 0, none⟩ (.int .i64 t434)).setCell ⟨gb440, 1, none⟩ (.int .i64 t435)).setCell ⟨gb440, 2, none⟩ (.int .i64 t436)) w.heap.size (fun k_ => (P0_0_ k_ ∨ w.heap.size ≤ k_) ∧ some k_ ≠ (v438 : Value).ownBlock ∧ k_ ≠ gb433 ∧ k_ ≠ gb440) (.slice A0_0 l0_0.length c0_0) l0_0) := ⟨by (with_reducible repeat (first | apply Kd.V_alloc | apply Kd.V_drewN | apply Kd.V_drew)); exact Kd.V_mono (Kd.V_far (p := ⟨gb440, 2, none⟩) (Kd.V_far (p := ⟨gb440, 1, none⟩) (Kd.V_far (p := ⟨gb440, 0, none⟩) (Kd.V_mono HO0_0.out (fun k_ hk => (⟨hk, hk.2⟩ : _ ∧ k_ ≠ gb440))) (fun _ hk => hk.2) (.int .i64 t434)) (fun _ hk => hk.2) (.int .i64 t435)) (fun _ hk => hk.2) (.int .i64 t436)) (fun _ hk => ⟨hk.1.1.1.1, ⟨hk.1.1.2, ⟨hk.1.1.1.2, hk.1.2⟩⟩⟩)⟩
 replace HO439 : Aside0 (Kd.S (Kd.slice 2 (Kd.int .i64)) 51 (((w6.setCell ⟨gb440, 0, none⟩ (.int .i64 t434)).setCell ⟨gb440, 1, none⟩ (.int .i64 t435)).setCell ⟨gb440, 2, none⟩ (.int .i64 t436)) w.heap.size (fun k_ => (w.heap.size ≤ k_)) v438 t437) := ⟨by (with_reducible repeat (first | apply Kd.S_alloc | apply Kd.S_drewN | apply Kd.S_drew)); exact Kd.S_mono (Kd.S_far (p := ⟨gb440, 2, none⟩) (Kd.S_far (p := ⟨gb440, 1, none⟩) (Kd.S_far (p := ⟨gb440, 0, none⟩) (Kd.S_types HO439.out BK440.out (by decide)) (fun _ hk => hk.2) (.int .i64 t434)) (fun _ hk => hk.2) (.int .i64 t435)) (fun _ hk => hk.2) (.int .i64 t436)) (fun _ hk => hk.1.1)⟩
 replace BK433 : Aside0 ((((w6.setCell ⟨gb440, 0, none⟩ (.int .i64 t434)).setCell ⟨gb440, 1, none⟩ (.int .i64 t435)).setCell ⟨gb440, 2, none⟩ (.int .i64 t436)).heap[gb433]? = some (.cells #[.slice A0_0 l0_0.length c0_0] 34 (0, 0))) := ⟨by (with_reducible repeat (first | apply dN | apply dW | apply dA)); refine blk_far ?_ NB433_440.out _; (with_reducible repeat (first | apply dN | apply dW | apply dA)); refine blk_far ?_ NB433_440.out _; (with_reducible repeat (first | apply dN | apply dW | apply dA)); refine blk_far ?_ NB433_440.out _; exact bp BK433⟩
 replace BK440 : Aside0 ((((w6.setCell ⟨gb440, 0, none⟩ (.int .i64 t434)).setCell ⟨gb440, 1, none⟩ (.int .i64 t435)).setCell ⟨gb440, 2, none⟩ (.int .i64 t436)).heap[gb440]? = some (.cells #[.int .i64 t434, .int .i64 t435, .int .i64 t436] 53 (0, 0))) := ⟨by (with_reducible repeat (first | apply dN | apply dW | apply dA)); refine blk_put (cs := #[.int .i64 t434, .int .i64 t435, .int .i64 0]) ?_ 2 _ rfl; (with_reducible repeat (first | apply dN | apply dW | apply dA)); refine blk_put (cs := #[.int .i64 t434, .int .i64 0, .int .i64 0]) ?_ 1 _ rfl; (with_reducible repeat (first | apply dN | apply dW | apply dA)); refine blk_put (cs := #[.int .i64 0, .int .i64 0, .int .i64 0]) ?_ 0 _ rfl; exact bp BK440⟩
 replace HB : Aside0 (Below w.heap.size w (((w6.setCell ⟨gb440, 0, none⟩ (.int .i64 t434)).setCell ⟨gb440, 1, none⟩ (.int .i64 t435)).setCell ⟨gb440, 2, none⟩ (.int .i64 t436))) := ⟨bw HB⟩
 generalize (((w6.setCell ⟨gb440, 0, none⟩ (.int .i64 t434)).setCell ⟨gb440, 1, none⟩ (.int .i64 t435)).setCell ⟨gb440, 2, none⟩ (.int .i64 t436)) = w9 at HO0_0 HO439 BK433 BK440 HB ⊢
 replace HO0_0 := am (Kd.V_drew HO0_0.out)
 replace HO439 := am (Kd.S_drew HO439.out)
 replace BK433 := am (blk_drew BK433.out)
 replace BK440 := am (blk_drew BK440.out)
 replace HB := am (below_drew1 HB.out)
 obtain ⟨Ao11, co11, eo11⟩ := Kd.S_slice HO439.out
 (first | subst eo11 | (injection eo11 with f1_ f2_ f3_; have f4_ := f1_.symm; have f5_ := f3_.symm; clear f1_ f2_ f3_; subst f4_; subst f5_))
 refine start_ (n := 9) (S := fun w' => w'.cell? ⟨gb433, 0, none⟩ = some (.slice A0_0 l0_0.length c0_0) ∧ w'.cell? ⟨gb440, 0, none⟩ = some (.int .i64 t434) ∧ w'.cell? ⟨gb440, 1, none⟩ = some (.int .i64 t435) ∧ w'.cell? ⟨gb440, 2, none⟩ = some (.int .i64 t436)) (ds := []) (bv 9 0) (by kernel_rfl) rfl (by kernel_rfl) ⟨bc BK433 0, bc BK440 0, bc BK440 1, bc BK440 2⟩ (fun hHeld => ?_); refine with_tabW impl_known.tab2 impl_known.bits2 (fun HT_ HW_ => ?_)
 generalize w9.drew = w10 at HO0_0 HO439 BK433 BK440 HB hHeld ⊢
 refine pu 1 12 9 2 HT_ ?_
 refine pu 4 15 9 18 HT_ ?_
 refine tk 0 11 9 19 HT_ HW_ hHeld ?_
 refine pu 2 13 9 23 HT_ ?_
 refine tk 5 16 9 55 HT_ HW_ hHeld ?_
 refine pu 6 17 9 119 HT_ ?_
 refine on 3 (some 14) 9 127 HT_ fun K hK => ?_
 refine box_step ?hg (N := 14) ?hd (cs := #[.slice A0_0 l0_0.length c0_0, .slice Ao11 t437.length co11]) (t := 101) ?hr ?_; (case hd => rfl); (case hg => rfl); (case hr => exact gs)
 intro gb441 hg w12 hbox hb
 have n0_ := am (Kd.V_below (Kd.V_elderB (kV HO0_0) gb441 (Nat.le_of_eq hg.symm)) hb)
 have n1_ := am (Kd.S_below (kS HO439) hb)
 have n2_ := bb BK433 hb
 have n3_ := bb BK440 hb
 have n4_ := am (below_step (bw HB) hb)
 have n5_ := am (hbox)
 have n6_ := gw hg HB
 have n7_ := gw hg HB
 have n8_ := am ((by rw [hg]; exact Nat.ne_of_lt (blk_lt (g := gb433) (o := .cells #[.slice A0_0 l0_0.length c0_0] 34 (0, 0)) (bp BK433)) : gb433 ≠ gb441))
 have n9_ := am ((by rw [hg]; exact Nat.ne_of_gt (blk_lt (g := gb433) (o := .cells #[.slice A0_0 l0_0.length c0_0] 34 (0, 0)) (bp BK433)) : gb441 ≠ gb433))
 have n10_ := am ((by rw [hg]; exact Nat.ne_of_lt (blk_lt (g := gb440) (o := .cells #[.int .i64 t434, .int .i64 t435, .int .i64 t436] 53 (0, 0)) (bp BK440)) : gb440 ≠ gb441))
 have n11_ := am ((by rw [hg]; exact Nat.ne_of_gt (blk_lt (g := gb440) (o := .cells #[.int .i64 t434, .int .i64 t435, .int .i64 t436] 53 (0, 0)) (bp BK440)) : gb441 ≠ gb440))
 clear HO0_0
 clear HO439
 clear BK433
 clear BK440
 clear HB
 have HO0_0 := n0_
 have HO439 := n1_
 have BK433 := n2_
 have BK440 := n3_
 have HB := n4_
 have BK441 := n5_
 have GW441 := n6_
 have GE441 := n7_
 have NB433_441 := n8_
 have NB441_433 := n9_
 have NB440_441 := n10_
 have NB441_440 := n11_
 clear n0_ n1_ n2_ n3_ n4_ n5_ n6_ n7_ n8_ n9_ n10_ n11_
 clear hb hbox hg
 refine hK.out _ _ ⟨bc BK433 0, bc BK440 0, bc BK440 1, bc BK440 2⟩ (fun hHeld => ?_)
 clear hK K
 refine nm (some 14) ?_
 refine pu 7 2 9 255 HT_ ?_
 refine pu 8 3 9 511 HT_ ?_
 refine done_ (done_of HT_.out (by kernel_rfl)) ?_
 try go_wp2
 go_ret2
 exact ⟨_, _, gb441, er, by (with_reducible repeat (first | apply Kd.V_alloc | apply Kd.V_drewN | apply Kd.V_drew)); exact Kd.V_mono HO0_0.out (fun _ hk => ⟨hk.1.1, hk.1.2.1⟩), kS HO439, (bp BK441), GW441.out, bw HB⟩

def impl_prog_code.f (l0_0 : List (S50)) (l0_1 : List (List Int)) (a1 : Int) : Option ((List (S88))) := if 0 ≤ a1 then (if a1 < (l0_0.length : Int) then (some ((rd_T50 l0_0 a1).f2)) else (none)) else (none)
theorem impl_prog_code.calls (g0_ : Nat) (P0_0_ : Nat → Prop) (A0_0 : Option Addr) (c0_0 : Nat) (l0_0 : List (S50)) (A0_1 : Option Addr) (c0_1 : Nat) (l0_1 : List (List Int)) (a1 : Int) (r : List (S88)) (w : World) (hp0 : w.heap[g0_]? = some (.cells #[.slice A0_0 l0_0.length c0_0, .slice A0_1 l0_1.length c0_1] 101 (0, 0))) (hs0_0 : Kd.V k50 50 w w.heap.size (fun k_ => P0_0_ k_) (.slice A0_0 l0_0.length c0_0) l0_0) (hr0_1 : Kd.C (Kd.slice 2 (Kd.int .i64)) w A0_1 l0_1.length l0_1) (hc0_1 : l0_1.length ≤ c0_1) (h : impl_prog_code.f l0_0 l0_1 a1 = some r) :
  Calls Try.prog 43 #[.pointer (some ⟨g0_, 0, none⟩), .int .i64 a1] w fun e w' => ∃ v0_ : Value, e = .returned (v0_) ∧ Kd.V k88 88 w' w.heap.size (fun k_ => (P0_0_ k_ ∨ w.heap.size ≤ k_)) v0_ r ∧ Below w.heap.size w w' := by
 have HP0_ := am hp0
 clear hp0
 have HO0_0 := am (show Kd.V k50 50 w w.heap.size (fun k_ => (P0_0_ k_ ∨ w.heap.size ≤ k_)) (.slice A0_0 l0_0.length c0_0) l0_0 from Kd.V_mono hs0_0 (fun k_ hk => .inl hk))
 have HR0_1 := am hr0_1
 have HC0_1 := am hc0_1
 clear hr0_1 hc0_1
 have HB := am (Below.refl w.heap.size w)
 have H : (if 0 ≤ a1 then (if a1 < (l0_0.length : Int) then (some ((rd_T50 l0_0 a1).f2)) else (none)) else (none)) = some r := h
 clear h
 refine iM H ?_; clear H; intro c3b0 H
 refine iM H ?_; clear H; intro c4b0 H
 obtain rfl := Option.some.inj H
 have hcz5 := bK w HP0_
 have hfz5 := bF HP0_
 have p442 : 0 ≤ (a1 : Int) := of_decide_eq_true as1
 have q442 : a1 < (l0_0.length : Int) := of_decide_eq_true as1
 obtain ⟨ad442, A442_2, c442_2, e442, hx442_0, hx442_1, hx442_2, hl442_2, hi442_2⟩ := at_T50 (Kd.V_reads' HO0_0.out).2.2 a1 p442 q442
 cases e442
 obtain ⟨ce442, hce442, hMe442, hcc442⟩ := Kd.V_get HO0_0.out z50 a1 p442 (by first | exact q442 | exact of_decide_eq_true as1 | (have e_ := (Kd.V_reads' HO0_0.out).1; omega))
 obtain ⟨ua442_2, uc442_2, rfl, ul442_2, ge442_2⟩ := k50_openF hMe442
 have hv442_2 := hcc442 2 _ rfl
 rw [add_field _ _ 2 (by omega)] at hv442_2
 replace hv442_2 := Option.some.inj (hv442_2.symm.trans hx442_2)
 injection hv442_2 with hva_ hvn_ hvc_
 rw [hva_] at ge442_2
 rw [hvc_] at ul442_2
 have HL442_2 := am (show Kd.V k88 88 _ w.heap.size _ _ ((rd_T50 l0_0 a1).f2) from Kd.V_mk ul442_2 ge442_2)
 clear hva_ hvn_ hvc_ ge442_2 ul442_2
 clear hcc442 hce442
 have HR442_2 := am hi442_2
 have HC442_2 := am hl442_2
 clear hi442_2 hl442_2
 replace p442 := eq_true p442
 replace q442 := eq_true q442
 go_enter Try.func43, Try.ntmps43
 go_wp2
 go_ret
 exact ⟨_, er, kV HL442_2, bw HB⟩

end Go.Proofs.Ytmfhmfhkknijeaa.QFnExactAsmRight
