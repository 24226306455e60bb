import Derived.Test.YthdfokebbcheoaaCFnExactPlainSizex0
import Derived.Test.YthdfokebbcheoaaCFnExactPlainSizex8
import Derived.Test.YthdfokebbcheoaaCFnExactPlainSizex9
import Derived.Test.YthdfokebbcheoaaCFnExactPlainSizex11
namespace Go.Proofs.Ythdfokebbcheoaa.QFnExactPlainSize
open Go.RowKit Go.Proofs.YthdfokebbcheoaaW
open PrintWords PrintLast PrintMore PrintShort PrintIsh
attribute [local go_sem] max2_int min2_int max_two min_two max_three min_three max_four min_four   -- for this text's walks alone
set_option linter.unusedVariables false
set_option maxHeartbeats 8000000
set_option maxRecDepth 100000
set_option linter.unusedSimpArgs false

mutual
def impl_verify.j0 : Nat → Bool → List (S93) → Option (Int × Int × Int × (List (List Int)))
 | 0, _, _ => none
 | k + 1, x21, x380000 => if x21 = true then (some (0, 0, 1, ([] : List (List Int)))) else (impl_verify.l0 k ([] : List (List Int)) x380000 (x380000.length : Int) 0 x380000)
def impl_verify.l0 : Nat → List (List Int) → List (S93) → Int → Int → List (S93) → Option (Int × Int × Int × (List (List Int)))
 | 0, _, _, _, _, _ => none
 | k + 1, x4, x24, x25, x26, x380000 => if x26 < x25 then (if 0 ≤ x26 then (if x26 < (x24.length : Int) then ((impl_in.f ((rd_T93 x24 x26).f0) 0 4).bind fun t383 => (if t383 = true then ((impl_in.f ((rd_T93 x24 x26).f1) ((rd_T93 x24 x26).f0) 8).bind fun t384 => (if t384 = true then ((impl_in.f (((rd_T93 x24 x26).f2).length : Int) 1 60).bind fun t385 => (impl_verify.j2 k x4 x26 x24 x25 x26 (!t385) x380000 ((rd_T93 x24 x26).f0) ((rd_T93 x24 x26).f1) ((rd_T93 x24 x26).f2))) else (impl_verify.j2 k x4 x26 x24 x25 x26 true x380000 ((rd_T93 x24 x26).f0) ((rd_T93 x24 x26).f1) ((rd_T93 x24 x26).f2)))) else (impl_verify.j2 k x4 x26 x24 x25 x26 true x380000 ((rd_T93 x24 x26).f0) ((rd_T93 x24 x26).f1) ((rd_T93 x24 x26).f2)))) else (none)) else (none)) else (some (0, 0, 0, x4))
def impl_verify.j2 : Nat → List (List Int) → Int → List (S93) → Int → Int → Bool → List (S93) → Int → Int → List (S99) → Option (Int × Int × Int × (List (List Int)))
 | 0, _, _, _, _, _, _, _, _, _, _ => none
 | k + 1, x4, x5, x24, x25, x26, x49, x380000, x383000, x383001, x383002 => if x49 = true then (some (x5, 0, 1, ([] : List (List Int)))) else (impl_verify.l1 k x4 x5 x24 x25 x26 x383002 (x383002.length : Int) 0 x380000)
def impl_verify.l1 : Nat → List (List Int) → Int → List (S93) → Int → Int → List (S99) → Int → Int → List (S93) → Option (Int × Int × Int × (List (List Int)))
 | 0, _, _, _, _, _, _, _, _, _ => none
 | k + 1, x4, x5, x24, x25, x26, x53, x54, x55, x380000 => if x55 < x54 then (if 0 ≤ x55 then (if x55 < (x53.length : Int) then ((impl_InsRight.f k x380000 x5 ((rd_T99 x53 x55).f0) ((rd_T99 x53 x55).f1)).bind fun t388 => (if t388 = true then (impl_verify.l1 k x4 x5 x24 x25 x26 x53 x54 (wrap64 (x55 + 1)) x380000) else (some (x5, x55, 1, ([] : List (List Int)))))) else (none)) else (none)) else ((impl_heightsOf.f k x380000 x5).bind fun bt389 => (if bt389.2.2 = 0 then (if x4.length < 5864062014805 then (impl_verify.l0 k (x4 ++ [bt389.1]) x24 x25 (wrap64 (x26 + 1)) x380000) else (none)) else (some (x5, bt389.2.1, bt389.2.2, ([] : List (List Int))))))
end
def impl_verify.f (k : Nat) (l0_0 : List (S93)) : Option (Int × Int × Int × (List (List Int))) := if (l0_0.length : Int) < 1 then (impl_verify.j0 k true l0_0) else (impl_verify.j0 k (decide ((l0_0.length : Int) > 6)) l0_0)
theorem impl_verify.mono_l : ∀ k, (∀ y0 y1, LeO (impl_verify.j0 k y0 y1) (impl_verify.j0 (k + 1) y0 y1)) ∧ (∀ y0 y1 y2 y3 y4, LeO (impl_verify.l0 k y0 y1 y2 y3 y4) (impl_verify.l0 (k + 1) y0 y1 y2 y3 y4)) ∧ (∀ y0 y1 y2 y3 y4 y5 y6 y7 y8 y9, LeO (impl_verify.j2 k y0 y1 y2 y3 y4 y5 y6 y7 y8 y9) (impl_verify.j2 (k + 1) y0 y1 y2 y3 y4 y5 y6 y7 y8 y9)) ∧ (∀ y0 y1 y2 y3 y4 y5 y6 y7 y8, LeO (impl_verify.l1 k y0 y1 y2 y3 y4 y5 y6 y7 y8) (impl_verify.l1 (k + 1) y0 y1 y2 y3 y4 y5 y6 y7 y8))
 | 0 => ⟨fun _ _ r h => by simp [impl_verify.j0] at h, fun _ _ _ _ _ r h => by simp [impl_verify.l0] at h, fun _ _ _ _ _ _ _ _ _ _ r h => by simp [impl_verify.j2] at h, fun _ _ _ _ _ _ _ _ _ r h => by simp [impl_verify.l1] at h⟩
 | k + 1 => by
  obtain ⟨ih0, ih1, ih2, ih3⟩ := impl_verify.mono_l k
  refine ⟨?_, ?_, ?_, ?_⟩
  ·intro y0 y1
   unfold impl_verify.j0
   with_reducible repeat' first | exact ih0 .. | exact ih1 .. | exact ih2 .. | exact ih3 .. | exact impl_InsRight.mono .. | exact impl_heightsOf.mono .. | exact LeO.refl _ | exact LeO.none _ | refine LeO.ite ?_ ?_ | refine LeO.bind ?_ (fun _ => ?_)
  ·intro y0 y1 y2 y3 y4
   unfold impl_verify.l0
   with_reducible repeat' first | exact ih0 .. | exact ih1 .. | exact ih2 .. | exact ih3 .. | exact impl_InsRight.mono .. | exact impl_heightsOf.mono .. | exact LeO.refl _ | exact LeO.none _ | refine LeO.ite ?_ ?_ | refine LeO.bind ?_ (fun _ => ?_)
  ·intro y0 y1 y2 y3 y4 y5 y6 y7 y8 y9
   unfold impl_verify.j2
   with_reducible repeat' first | exact ih0 .. | exact ih1 .. | exact ih2 .. | exact ih3 .. | exact impl_InsRight.mono .. | exact impl_heightsOf.mono .. | exact LeO.refl _ | exact LeO.none _ | refine LeO.ite ?_ ?_ | refine LeO.bind ?_ (fun _ => ?_)
  ·intro y0 y1 y2 y3 y4 y5 y6 y7 y8
   unfold impl_verify.l1
   with_reducible repeat' first | exact ih0 .. | exact ih1 .. | exact ih2 .. | exact ih3 .. | exact impl_InsRight.mono .. | exact impl_heightsOf.mono .. | exact LeO.refl _ | exact LeO.none _ | refine LeO.ite ?_ ?_ | refine LeO.bind ?_ (fun _ => ?_)
theorem impl_verify.mono : ∀ a0 k, LeO (impl_verify.f k a0) (impl_verify.f (k + 1) a0) := by
 intro a0 k
 obtain ⟨ih0, ih1, ih2, ih3⟩ := impl_verify.mono_l k
 unfold impl_verify.f
 with_reducible repeat' first | exact ih0 .. | exact ih1 .. | exact ih2 .. | exact ih3 .. | exact impl_InsRight.mono .. | exact impl_heightsOf.mono .. | exact LeO.refl _ | exact LeO.none _ | refine LeO.ite ?_ ?_ | refine LeO.bind ?_ (fun _ => ?_)
theorem impl_verify.calls (k : Nat) (A0_0 : Option Addr) (c0_0 : Nat) (l0_0 : List (S93)) (r1 : Int) (r2 : Int) (r3 : Int) (r4 : List (List Int)) (w : World) (hr0_0 : Kd.C k93 w A0_0 l0_0.length l0_0) (hc0_0 : l0_0.length ≤ c0_0) (h : impl_verify.f k l0_0 = some (r1, r2, r3, r4)) :
  Calls Try.prog 125 #[.agg #[.slice A0_0 l0_0.length c0_0]] w fun e w' => ∃ v3_ : Value, e = .returned (.tuple #[.agg #[.int .i64 r1, .int .i64 r2, .int .i64 r3], v3_]) ∧ Kd.S (Kd.slice 2 (Kd.int .i64)) 41 w' w.heap.size (fun _ => True) v3_ r4 ∧ Below w.heap.size w w' := by
 have hu29 := Try.underlying29
 have hu88 := Try.underlying88
 have hu93 := Try.underlying93
 have hu99 := Try.underlying99
 have HR0_0 := am hr0_0
 have HC0_0 := am hc0_0
 clear hr0_0 hc0_0
 have HB := am (Below.refl w.heap.size w)
 have H : (if (l0_0.length : Int) < 1 then (impl_verify.j0 k true l0_0) else (impl_verify.j0 k (decide ((l0_0.length : Int) > 6)) l0_0)) = some (r1, r2, r3, r4) := h
 clear h
 have HC2 := am H
 clear H
 go_enter Try.func125, Try.ntmps125
 go_upto_region 1 with (first | ((with_reducible refine gate_dst (N := 1) rfl ?_); (try (refine gate_guard (by rfl) ?_; dsimp only)); refine box_event ?hg (N := 1) ?hd (cs := #[.slice A0_0 l0_0.length c0_0]) (t := 29) ?hr ?_; (case hd => rfl); (case hg => rfl); (case hr => exact gs); intro gb379 hg w3 hbox hb; have BK379 := am (hbox); have GW379 := gw hg HB; replace HB := bs HB hb; clear hb hbox hg) | ((with_reducible refine gate_dst (N := 2) rfl ?_); (try (refine gate_guard (by rfl) ?_; dsimp only)); refine box_event ?hg (N := 2) ?hd (cs := #[.int .i64 0, .int .i64 0, .int .i64 0]) (t := 88) ?hr ?_; (case hd => rfl); (case hg => rfl); (case hr => exact gs); intro gb380 hg w4 hbox hb; have BK380 := am (hbox); have GW380 := gw hg HB; replace HB := bs HB hb; obtain ⟨NB379_380, NB380_379, BK379⟩ := b3 hg BK379 hb; clear hb hbox hg))
 (try simp only [Act.put, sa, sz, ss])
 go_cut [21] (fun v21 wc => ∃ (kq : Nat) (x21_1 : Bool), v21 = .bool x21_1 ∧ Aside0 (impl_verify.j0 kq x21_1 l0_0 = some (r1, r2, r3, r4)) ∧ Aside0 (kq ≤ k) ∧ Aside0 (wc.heap[gb379]? = some (.cells #[(.slice A0_0 l0_0.length c0_0)] 29 (0, 0))) ∧ Aside0 (wc.heap[gb380]? = some (.cells #[.int .i64 0, .int .i64 0, .int .i64 0] 88 (0, 0))) ∧ Aside0 (Below w.heap.size w wc))
 case first =>
  have H := HC2.out
  clear HC2
  refine qI H ?_ ?_ <;> clear H <;> intro c5b0 H
  ·have c5 := of_decide_eq_true c5b0
   have c5b1 : decide (l0_0.length < 1) = true := decide_eq_true (by omega)
   clear c5
   (first | rw [c5b0] | (simp only [i64_w, i32_w]; rw [c5b0]) | skip)
   have H' := am H
   clear H
   have hnb6 := NB379_380.out
   have hnc6 := NB380_379.out
   have hcz7 := bK w4 BK379
   have hfz7 := bF BK379
   go_wp2
   go_meet
   case rel => exact ⟨_, (true), dr, H', ⟨lk0⟩, ⟨bp BK379⟩, ⟨bp BK380⟩, ⟨bw HB⟩⟩
  have c5 := of_decide_eq_false c5b0
  have c5b1 : decide (l0_0.length < 1) = false := decide_eq_false (by omega)
  clear c5
  (first | rw [c5b0] | (simp only [i64_w, i32_w]; rw [c5b0]) | skip)
  have H' := am H
  clear H
  have hnb8 := NB379_380.out
  have hnc8 := NB380_379.out
  have hcz9 := bK w4 BK379
  have hfz9 := bF BK379
  go_wp2
  go_meet
  case rel => exact ⟨_, (decide ((l0_0.length : Int) > 6)), dr, H', ⟨lk0⟩, ⟨bp BK379⟩, ⟨bp BK380⟩, ⟨bw HB⟩⟩
 clear HC2
 (try clear c1); (try clear p2); (try clear c5); (try clear c5b0); (try clear c5b1); (try clear c6); (try clear c8); (try clear hcz7); (try clear hcz9); (try clear hfz7); (try clear hfz9)
 obtain ⟨kq, x21_1, rfl, HA, HJ1, BK379, BK380, HB⟩ := hcut
 rcases kq with _ | kj1
 ·exact absurd HA.out (by simp [impl_verify.j0])
 have H := HA.out
 clear HA
 simp only [impl_verify.j0] at H
 refine qT H ?_ ?_ <;> clear H <;> intro c10 H <;> subst c10
 ·simp only [Option.some.injEq, Prod.mk.injEq] at H
  obtain ⟨rfl, rfl, rfl, rfl⟩ := H
  have hnb11 := NB380_379.out
  have hnc11 := NB379_380.out
  have hcz12 := bK wc BK380
  have hfz12 := bF BK380
  go_wp2
  refine bodyPost_ret (results_ct rfl _ _ gb380 88 #[.int .i64 0, .int .i64 0, .int .i64 1] (0, 0) _ rfl (bt BK380) Try.underlying88 rfl (by kernel_rfl)) rfl ?_
  exact ⟨_, er, by first | exact Kd.S_nil _ _ _ _ _ | exact Kd.N_nil _ _ _ _ _ | exact Kd.V_nil _ _ _ _ _ | exact Kd.Q_nil _ _ _ _ _ | exact Kd.R_nil _ _ _ _ _, bw HB⟩
 have H' := am H
 clear H
 have hnb13 := NB379_380.out
 have hnc13 := NB380_379.out
 have hcz14 := bK wc BK379
 have hfz14 := bF BK379
 go_wp2
 go_loopg [4, 26] kj1 (fun kq v4 v26 w' => ∃ (x4_2 : List (List Int)) (x26_2 : Int) (x381000_2 : Int) (x381001_2 : Int) (x381002_2 : Int), v26 = .int .i64 x26_2 ∧ Aside0 (impl_verify.l0 kq x4_2 l0_0 (l0_0.length : Int) x26_2 l0_0 = some (r1, r2, r3, r4)) ∧ Aside0 (kq ≤ kj1) ∧ Aside0 (Kd.S (Kd.slice 2 (Kd.int .i64)) 41 w' w.heap.size (fun _ => True) v4 x4_2) ∧ Aside0 (w'.heap[gb379]? = some (.cells #[(.slice A0_0 l0_0.length c0_0)] 29 (0, 0))) ∧ Aside0 (w'.heap[gb380]? = some (.cells #[.int .i64 x381000_2, .int .i64 x381001_2, .int .i64 x381002_2] 88 (0, 0))) ∧ Aside0 (Below w.heap.size w w'))
 case atStart => exact ⟨(([] : List (List Int))), (0), (0), (0), (0), dr, H', ⟨Nat.le_refl _⟩, ⟨by first | exact Kd.S_nil _ _ _ _ _ | exact Kd.N_nil _ _ _ _ _ | exact Kd.V_nil _ _ _ _ _ | exact Kd.Q_nil _ _ _ _ _ | exact Kd.R_nil _ _ _ _ _⟩, ⟨bp BK379⟩, ⟨bp BK380⟩, ⟨bw HB⟩⟩
 clear H'
 (try clear c10); (try clear c11); (try clear c12); (try clear c13); (try clear hcz12); (try clear hcz14); (try clear hfz12); (try clear hfz14)
 obtain ⟨x4_2, x26_2, x381000_2, x381001_2, x381002_2, rfl, HA, HK2, HO_4, BK379, BK380, HB⟩ := hrel
 rcases gk with _ | k2
 ·exact absurd HA.out (by simp [impl_verify.l0])
 have H := HA.out
 clear HA
 simp only [impl_verify.l0] at H
 by_cases c15 : x26_2 < (l0_0.length : Int)
 ·rw [if_pos c15] at H
  have c15b0 := decide_eq_true c15
  clear c15
  refine iN H ?_; clear H; intro c16 H
  have c16b0 := decide_eq_true c16
  clear c16
  refine iN H ?_; clear H; intro c17 H
  have c17b0 := decide_eq_true c17
  clear c17
  have HC18 := am H
  clear H
  have p381 : 0 ≤ (x26_2 : Int) := of_decide_eq_true as1
  have q381 : x26_2 < (l0_0.length : Int) := of_decide_eq_true as1
  obtain ⟨ad381, A381_2, c381_2, e381, hx381_0, hx381_1, hx381_2, hl381_2, hi381_2⟩ := at_T93 HR0_0.out x26_2 p381 q381
  cases e381
  replace hx381_0 := cl HB hx381_0
  replace hx381_1 := cl HB hx381_1
  replace hx381_2 := cl HB hx381_2
  have HR381_2 := am hi381_2
  have HC381_2 := am hl381_2
  clear hi381_2 hl381_2
  replace p381 := eq_true p381
  replace q381 := eq_true q381
  go_upto_region 7 with (first | ((with_reducible refine gate_dst (N := 6) rfl ?_); (try (refine gate_guard (by rfl) ?_; dsimp only)); refine box_event ?hg (N := 6) ?hd (cs := #[.int .i64 0, .int .i64 0, .slice none 0 0]) (t := 93) ?hr ?_; (case hd => rfl); (case hg => rfl); (case hr => exact gs); intro gb382 hg w19 hbox hb; replace HO_4 := am (Kd.S_below (kS HO_4) hb); have BK382 := am (hbox); have GW382 := gw hg HB; replace HB := bs HB hb; obtain ⟨NB379_382, NB382_379, BK379⟩ := b3 hg BK379 hb; obtain ⟨NB380_382, NB382_380, BK380⟩ := b3 hg BK380 hb; clear hb hbox hg; have hnb20 := NB382_379.out; have hnc20 := NB379_382.out; have hnb21 := NB382_380.out; have hnc21 := NB380_382.out; have hcz22 := bK w19 BK382; have hfz22 := bF BK382))
  (try simp only [Act.put, sa, sz, ss])
  go_cut [49] (fun v49 wc => ∃ (kq : Nat) (x49_17 : Bool), v49 = .bool x49_17 ∧ Aside0 (impl_verify.j2 kq x4_2 x26_2 l0_0 (l0_0.length : Int) x26_2 x49_17 l0_0 ((rd_T93 l0_0 x26_2).f0) ((rd_T93 l0_0 x26_2).f1) ((rd_T93 l0_0 x26_2).f2) = some (r1, r2, r3, r4)) ∧ Aside0 (kq ≤ k2) ∧ Aside0 (Kd.S (Kd.slice 2 (Kd.int .i64)) 41 wc w.heap.size (fun _ => True) u4 x4_2) ∧ Aside0 (wc.heap[gb379]? = some (.cells #[(.slice (some ad381) l0_0.length c0_0)] 29 (0, 0))) ∧ Aside0 (wc.heap[gb380]? = some (.cells #[.int .i64 x381000_2, .int .i64 x381001_2, .int .i64 x381002_2] 88 (0, 0))) ∧ Aside0 (wc.heap[gb382]? = some (.cells #[.int .i64 ((rd_T93 l0_0 x26_2).f0), .int .i64 ((rd_T93 l0_0 x26_2).f1), (.slice A381_2 ((rd_T93 l0_0 x26_2).f2).length c381_2)] 93 (0, 0))) ∧ Aside0 (Below w.heap.size w wc))
  case first =>
   have H := HC18.out
   clear HC18
   refine be H ?_; clear H; intro t383 A23 H
   refine qT H ?_ ?_ <;> clear H <;> intro c24 H <;> subst c24
   ·refine be H ?_; clear H; intro t384 A25 H
    refine qT H ?_ ?_ <;> clear H <;> intro c26 H <;> subst c26
    ·refine be H ?_; clear H; intro t385 A27 H
     have H' := am H
     clear H
     have hnb28 := NB382_379.out
     have hnc28 := NB379_382.out
     have hnb29 := NB382_380.out
     have hnc29 := NB380_382.out
     have hcz30 := bK w19 BK382
     have hfz30 := bF BK382
     go_wp2_with (first | ((with_reducible refine gate_callee (f := 59) rfl ?_); refine goesL_ (some 33) rfl rfl Try.func59 (by kernel_rfl) rfl #[.int .i64 ((rd_T93 l0_0 x26_2).f0), .int .i64 0, .int .i64 4] rfl gl ?_; (with_reducible refine (impl_in.calls ((rd_T93 l0_0 x26_2).f0) 0 4 true _ A23.out).mono ?_); rintro e w' ⟨rfl, ⟨nd, rfl⟩⟩; refine ⟨_, rfl, ?_⟩) | (go_at_call 59; (with_reducible refine (impl_in.calls ((rd_T93 l0_0 x26_2).f1) ((rd_T93 l0_0 x26_2).f0) 8 true _ A25.out).mono ?_); rintro e w' ⟨rfl, ⟨nd, rfl⟩⟩) | (go_at_call 59; (with_reducible refine (impl_in.calls (((rd_T93 l0_0 x26_2).f2).length : Int) 1 60 t385 _ A27.out).mono ?_); rintro e w' ⟨rfl, ⟨nd, rfl⟩⟩))
     go_meet
     case rel => exact ⟨_, (!t385), dr, H', ⟨lk2 HJ1 HK2⟩, ⟨by (with_reducible repeat (first | apply Kd.S_alloc | apply Kd.S_drewN | apply Kd.S_drew)); exact Kd.S_mono (Kd.S_far (p := ⟨gb382, 2, none⟩) (Kd.S_far (p := ⟨gb382, 1, none⟩) (Kd.S_far (p := ⟨gb382, 0, none⟩) (Kd.S_types HO_4.out BK382.out (by decide)) (fun _ hk => hk.2) (.int .i64 ((rd_T93 l0_0 x26_2).f0))) (fun _ hk => hk.2) (.int .i64 ((rd_T93 l0_0 x26_2).f1))) (fun _ hk => hk.2) (.slice A381_2 ((rd_T93 l0_0 x26_2).f2).length c381_2)) (fun _ hk => trivial)⟩, ⟨by (with_reducible repeat (first | apply dN | apply dW | apply dA)); refine blk_far ?_ NB379_382.out _; (with_reducible repeat (first | apply dN | apply dW | apply dA)); refine blk_far ?_ NB379_382.out _; (with_reducible repeat (first | apply dN | apply dW | apply dA)); refine blk_far ?_ NB379_382.out _; exact bp BK379⟩, ⟨by (with_reducible repeat (first | apply dN | apply dW | apply dA)); refine blk_far ?_ NB380_382.out _; (with_reducible repeat (first | apply dN | apply dW | apply dA)); refine blk_far ?_ NB380_382.out _; (with_reducible repeat (first | apply dN | apply dW | apply dA)); refine blk_far ?_ NB380_382.out _; exact bp BK380⟩, ⟨by (with_reducible repeat (first | apply dN | apply dW | apply dA)); refine blk_put (cs := #[.int .i64 ((rd_T93 l0_0 x26_2).f0), .int .i64 ((rd_T93 l0_0 x26_2).f1), .slice none 0 0]) ?_ 2 _ rfl; (with_reducible repeat (first | apply dN | apply dW | apply dA)); refine blk_put (cs := #[.int .i64 ((rd_T93 l0_0 x26_2).f0), .int .i64 0, .slice none 0 0]) ?_ 1 _ rfl; (with_reducible repeat (first | apply dN | apply dW | apply dA)); refine blk_put (cs := #[.int .i64 0, .int .i64 0, .slice none 0 0]) ?_ 0 _ rfl; exact bp BK382⟩, ⟨bw HB⟩⟩
    have H' := am H
    clear H
    have hnb31 := NB382_379.out
    have hnc31 := NB379_382.out
    have hnb32 := NB382_380.out
    have hnc32 := NB380_382.out
    have hcz33 := bK w19 BK382
    have hfz33 := bF BK382
    go_wp2_with (first | ((with_reducible refine gate_callee (f := 59) rfl ?_); refine goesL_ (some 33) rfl rfl Try.func59 (by kernel_rfl) rfl #[.int .i64 ((rd_T93 l0_0 x26_2).f0), .int .i64 0, .int .i64 4] rfl gl ?_; (with_reducible refine (impl_in.calls ((rd_T93 l0_0 x26_2).f0) 0 4 true _ A23.out).mono ?_); rintro e w' ⟨rfl, ⟨nd, rfl⟩⟩; refine ⟨_, rfl, ?_⟩) | (go_at_call 59; (with_reducible refine (impl_in.calls ((rd_T93 l0_0 x26_2).f1) ((rd_T93 l0_0 x26_2).f0) 8 false _ A25.out).mono ?_); rintro e w' ⟨rfl, ⟨nd, rfl⟩⟩))
    go_meet
    case rel => exact ⟨_, (true), dr, H', ⟨lk2 HJ1 HK2⟩, ⟨by (with_reducible repeat (first | apply Kd.S_alloc | apply Kd.S_drewN | apply Kd.S_drew)); exact Kd.S_mono (Kd.S_far (p := ⟨gb382, 2, none⟩) (Kd.S_far (p := ⟨gb382, 1, none⟩) (Kd.S_far (p := ⟨gb382, 0, none⟩) (Kd.S_types HO_4.out BK382.out (by decide)) (fun _ hk => hk.2) (.int .i64 ((rd_T93 l0_0 x26_2).f0))) (fun _ hk => hk.2) (.int .i64 ((rd_T93 l0_0 x26_2).f1))) (fun _ hk => hk.2) (.slice A381_2 ((rd_T93 l0_0 x26_2).f2).length c381_2)) (fun _ hk => trivial)⟩, ⟨by (with_reducible repeat (first | apply dN | apply dW | apply dA)); refine blk_far ?_ NB379_382.out _; (with_reducible repeat (first | apply dN | apply dW | apply dA)); refine blk_far ?_ NB379_382.out _; (with_reducible repeat (first | apply dN | apply dW | apply dA)); refine blk_far ?_ NB379_382.out _; exact bp BK379⟩, ⟨by (with_reducible repeat (first | apply dN | apply dW | apply dA)); refine blk_far ?_ NB380_382.out _; (with_reducible repeat (first | apply dN | apply dW | apply dA)); refine blk_far ?_ NB380_382.out _; (with_reducible repeat (first | apply dN | apply dW | apply dA)); refine blk_far ?_ NB380_382.out _; exact bp BK380⟩, ⟨by (with_reducible repeat (first | apply dN | apply dW | apply dA)); refine blk_put (cs := #[.int .i64 ((rd_T93 l0_0 x26_2).f0), .int .i64 ((rd_T93 l0_0 x26_2).f1), .slice none 0 0]) ?_ 2 _ rfl; (with_reducible repeat (first | apply dN | apply dW | apply dA)); refine blk_put (cs := #[.int .i64 ((rd_T93 l0_0 x26_2).f0), .int .i64 0, .slice none 0 0]) ?_ 1 _ rfl; (with_reducible repeat (first | apply dN | apply dW | apply dA)); refine blk_put (cs := #[.int .i64 0, .int .i64 0, .slice none 0 0]) ?_ 0 _ rfl; exact bp BK382⟩, ⟨bw HB⟩⟩
   have H' := am H
   clear H
   have hnb34 := NB382_379.out
   have hnc34 := NB379_382.out
   have hnb35 := NB382_380.out
   have hnc35 := NB380_382.out
   have hcz36 := bK w19 BK382
   have hfz36 := bF BK382
   go_wp2_with (first | ((with_reducible refine gate_callee (f := 59) rfl ?_); refine goesL_ (some 33) rfl rfl Try.func59 (by kernel_rfl) rfl #[.int .i64 ((rd_T93 l0_0 x26_2).f0), .int .i64 0, .int .i64 4] rfl gl ?_; (with_reducible refine (impl_in.calls ((rd_T93 l0_0 x26_2).f0) 0 4 false _ A23.out).mono ?_); rintro e w' ⟨rfl, ⟨nd, rfl⟩⟩; refine ⟨_, rfl, ?_⟩))
   go_meet
   case rel => exact ⟨_, (true), dr, H', ⟨lk2 HJ1 HK2⟩, ⟨by (with_reducible repeat (first | apply Kd.S_alloc | apply Kd.S_drewN | apply Kd.S_drew)); exact Kd.S_mono (Kd.S_far (p := ⟨gb382, 2, none⟩) (Kd.S_far (p := ⟨gb382, 1, none⟩) (Kd.S_far (p := ⟨gb382, 0, none⟩) (Kd.S_types HO_4.out BK382.out (by decide)) (fun _ hk => hk.2) (.int .i64 ((rd_T93 l0_0 x26_2).f0))) (fun _ hk => hk.2) (.int .i64 ((rd_T93 l0_0 x26_2).f1))) (fun _ hk => hk.2) (.slice A381_2 ((rd_T93 l0_0 x26_2).f2).length c381_2)) (fun _ hk => trivial)⟩, ⟨by (with_reducible repeat (first | apply dN | apply dW | apply dA)); refine blk_far ?_ NB379_382.out _; (with_reducible repeat (first | apply dN | apply dW | apply dA)); refine blk_far ?_ NB379_382.out _; (with_reducible repeat (first | apply dN | apply dW | apply dA)); refine blk_far ?_ NB379_382.out _; exact bp BK379⟩, ⟨by (with_reducible repeat (first | apply dN | apply dW | apply dA)); refine blk_far ?_ NB380_382.out _; (with_reducible repeat (first | apply dN | apply dW | apply dA)); refine blk_far ?_ NB380_382.out _; (with_reducible repeat (first | apply dN | apply dW | apply dA)); refine blk_far ?_ NB380_382.out _; exact bp BK380⟩, ⟨by (with_reducible repeat (first | apply dN | apply dW | apply dA)); refine blk_put (cs := #[.int .i64 ((rd_T93 l0_0 x26_2).f0), .int .i64 ((rd_T93 l0_0 x26_2).f1), .slice none 0 0]) ?_ 2 _ rfl; (with_reducible repeat (first | apply dN | apply dW | apply dA)); refine blk_put (cs := #[.int .i64 ((rd_T93 l0_0 x26_2).f0), .int .i64 0, .slice none 0 0]) ?_ 1 _ rfl; (with_reducible repeat (first | apply dN | apply dW | apply dA)); refine blk_put (cs := #[.int .i64 0, .int .i64 0, .slice none 0 0]) ?_ 0 _ rfl; exact bp BK382⟩, ⟨bw HB⟩⟩
  clear HC18
  (try clear c2); (try clear c3); (try clear p3); (try clear q3); (try clear hx3); (try clear c15); (try clear c15b0); (try clear c16); (try clear c16b0); (try clear c17); (try clear c17b0); (try clear c20); (try clear c21); (try clear c24); (try clear c26); (try clear c28); (try clear c29); (try clear c31); (try clear c32); (try clear c34); (try clear c35); (try clear hcz22); (try clear hcz30); (try clear hcz33); (try clear hcz36); (try clear hfz22); (try clear hfz30); (try clear hfz33); (try clear hfz36); (try clear hx381_0); (try clear hx381_1); (try clear hx381_2); (try clear p381); (try clear q381)
  obtain ⟨kq, x49_17, rfl, HA, HJ17, HO_4, BK379, BK380, BK382, HB⟩ := hcut
  rcases kq with _ | kj17
  ·exact absurd HA.out (by simp [impl_verify.j2])
  have H := HA.out
  clear HA
  simp only [impl_verify.j2] at H
  refine qT H ?_ ?_ <;> clear H <;> intro c37 H <;> subst c37
  ·simp only [Option.some.injEq, Prod.mk.injEq] at H
   obtain ⟨rfl, rfl, rfl, rfl⟩ := H
   have hnb38 := NB380_379.out
   have hnc38 := NB379_380.out
   have hnb39 := NB380_382.out
   have hnc39 := NB382_380.out
   have hcz40 := bK wc BK380
   have hfz40 := bF BK380
   go_wp2
   refine bodyPost_ret (results_ct rfl _ _ gb380 88 #[.int .i64 x26_2, .int .i64 0, .int .i64 1] (0, 0) _ rfl (bt BK380) Try.underlying88 rfl (by kernel_rfl)) rfl ?_
   exact ⟨_, er, by first | exact Kd.S_nil _ _ _ _ _ | exact Kd.N_nil _ _ _ _ _ | exact Kd.V_nil _ _ _ _ _ | exact Kd.Q_nil _ _ _ _ _ | exact Kd.R_nil _ _ _ _ _, bw HB⟩
  have H' := am H
  clear H
  have hnb41 := NB382_379.out
  have hnc41 := NB379_382.out
  have hnb42 := NB382_380.out
  have hnc42 := NB380_382.out
  have hcz43 := bK wc BK382
  have hfz43 := bF BK382
  go_wp2
  go_loopg [55] kj17 (fun kq v55 w' => ∃ (x55_4 : Int) (x381000_4 : Int) (x381001_4 : Int) (x381002_4 : Int), v55 = .int .i64 x55_4 ∧ Aside0 (impl_verify.l1 kq x4_2 x26_2 l0_0 (l0_0.length : Int) x26_2 ((rd_T93 l0_0 x26_2).f2) (((rd_T93 l0_0 x26_2).f2).length : Int) x55_4 l0_0 = some (r1, r2, r3, r4)) ∧ Aside0 (kq ≤ kj17) ∧ Aside0 (Kd.S (Kd.slice 2 (Kd.int .i64)) 41 w' w.heap.size (fun _ => True) u4 x4_2) ∧ Aside0 (w'.heap[gb379]? = some (.cells #[(.slice (some ad381) l0_0.length c0_0)] 29 (0, 0))) ∧ Aside0 (w'.heap[gb380]? = some (.cells #[.int .i64 x381000_4, .int .i64 x381001_4, .int .i64 x381002_4] 88 (0, 0))) ∧ Aside0 (w'.heap[gb382]? = some (.cells #[.int .i64 ((rd_T93 l0_0 x26_2).f0), .int .i64 ((rd_T93 l0_0 x26_2).f1), (.slice A381_2 ((rd_T93 l0_0 x26_2).f2).length c381_2)] 93 (0, 0))) ∧ Aside0 (Below w.heap.size w w'))
  case atStart => exact ⟨(0), (x381000_2), (x381001_2), (x381002_2), dr, H', ⟨Nat.le_refl _⟩, ⟨kS HO_4⟩, ⟨bp BK379⟩, ⟨bp BK380⟩, ⟨bp BK382⟩, ⟨bw HB⟩⟩
  clear H'
  (try clear c4); (try clear c37); (try clear c38); (try clear p38); (try clear q38); (try clear hx38); (try clear c39); (try clear c41); (try clear c42); (try clear hcz40); (try clear hcz43); (try clear hfz40); (try clear hfz43)
  obtain ⟨x55_4, x381000_4, x381001_4, x381002_4, rfl, HA, HK4, HO_4, BK379, BK380, BK382, HB⟩ := hrel
  rcases gk with _ | k4
  ·exact absurd HA.out (by simp [impl_verify.l1])
  have H := HA.out
  clear HA
  simp only [impl_verify.l1] at H
  refine qI H ?_ ?_ <;> clear H <;> intro c44b0 H
  ·refine iM H ?_; clear H; intro c45b0 H
   refine iM H ?_; clear H; intro c46b0 H
   refine be H ?_; clear H; intro t388 A47 H
   have HC48 := am H
   clear H
   have p386 : 0 ≤ (x55_4 : Int) := of_decide_eq_true as1
   have q386 : x55_4 < (((rd_T93 l0_0 x26_2).f2).length : Int) := of_decide_eq_true as1
   obtain ⟨ad386, e386, hx386_0, hx386_1⟩ := at_T99 HR381_2.out x55_4 p386 q386
   cases e386
   replace hx386_0 := cl HB hx386_0
   replace hx386_1 := cl HB hx386_1
   replace p386 := eq_true p386
   replace q386 := eq_true q386
   go_upto_if 64 with (first | ((with_reducible refine gate_dst (N := 8) rfl ?_); (try (refine gate_guard (by rfl) ?_; dsimp only)); refine box_event ?hg (N := 8) ?hd (cs := #[.int .i64 0, .int .i64 0]) (t := 99) ?hr ?_; (case hd => rfl); (case hg => rfl); (case hr => exact gs); intro gb387 hg w49 hbox hb; replace HO_4 := am (Kd.S_below (kS HO_4) hb); have BK387 := am (hbox); have GW387 := gw hg HB; replace HB := bs HB hb; obtain ⟨NB379_387, NB387_379, BK379⟩ := b3 hg BK379 hb; obtain ⟨NB380_387, NB387_380, BK380⟩ := b3 hg BK380 hb; obtain ⟨NB382_387, NB387_382, BK382⟩ := b3 hg BK382 hb; clear hb hbox hg; have hnb50 := NB387_379.out; have hnc50 := NB379_387.out; have hnb51 := NB387_380.out; have hnc51 := NB380_387.out; have hnb52 := NB387_382.out; have hnc52 := NB382_387.out; have hcz53 := bK w49 BK387; have hfz53 := bF BK387; have hnb54 := NB379_380.out; have hnc54 := NB380_379.out; have hnb55 := NB379_382.out; have hnc55 := NB382_379.out; have hcz56 := bK w49 BK379; have hfz56 := bF BK379) | ((with_reducible refine gk 140 rfl ?_); refine gB 140 (some 63) Try.func140 #[.agg #[.slice (some ad381) l0_0.length c0_0], .int .i64 x26_2, .agg #[.int .i64 ((rd_T99 ((rd_T93 l0_0 x26_2).f2) x55_4).f0), .int .i64 ((rd_T99 ((rd_T93 l0_0 x26_2).f2) x55_4).f1)]] (impl_InsRight.calls k4 _ _ l0_0 x26_2 ((rd_T99 ((rd_T93 l0_0 x26_2).f2) x55_4).f0) ((rd_T99 ((rd_T93 l0_0 x26_2).f2) x55_4).f1) t388 _ (Kd.C_below HR0_0.out (bw HB)) HC0_0.out A47.out) ?_; intro w57 hb; replace HO_4 := am (Kd.S_below (by (with_reducible repeat (first | apply Kd.S_alloc | apply Kd.S_drewN | apply Kd.S_drew)); exact (Kd.S_mono (Kd.S_far (p := ⟨gb387, 1, none⟩) (Kd.S_far (p := ⟨gb387, 0, none⟩) (Kd.S_types HO_4.out BK387.out (by decide)) (fun _ hk => hk.2) (.int .i64 ((rd_T99 ((rd_T93 l0_0 x26_2).f2) x55_4).f0))) (fun _ hk => hk.2) (.int .i64 ((rd_T99 ((rd_T93 l0_0 x26_2).f2) x55_4).f1))) (fun _ h_ => h_.1))) hb); replace BK379 := bb2 BK379 hb; replace BK380 := bb2 BK380 hb; replace BK382 := bb2 BK382 hb; replace BK387 := bo #[.int .i64 ((rd_T99 ((rd_T93 l0_0 x26_2).f2) x55_4).f0), .int .i64 ((rd_T99 ((rd_T93 l0_0 x26_2).f2) x55_4).f1)] BK387 hb; replace HB := bs HB hb; clear hb))
   (try simp only [Act.put, sa, sz, ss])
   have H := HC48.out
   clear HC48
   refine qT H ?_ ?_ <;> clear H <;> intro c58 H <;> subst c58
   ·have H' := am H
    clear H
    go_wp2
    go_roundg k4
    case measure => have := HJ1.out; have := HK2.out; have := HJ17.out; have := HK4.out; omega
    case rel => exact ⟨(wrap64 (x55_4 + 1)), (x381000_4), (x381001_4), (x381002_4), dr, H', ⟨by have := HJ1.out; have := HK2.out; have := HJ17.out; have := HK4.out; omega⟩, ⟨kS HO_4⟩, ⟨bp BK379⟩, ⟨bp BK380⟩, ⟨bp BK382⟩, ⟨bw HB⟩⟩
   simp only [Option.some.injEq, Prod.mk.injEq] at H
   obtain ⟨rfl, rfl, rfl, rfl⟩ := H
   have hnb59 := NB380_379.out
   have hnc59 := NB379_380.out
   have hnb60 := NB380_382.out
   have hnc60 := NB382_380.out
   have hnb61 := NB380_387.out
   have hnc61 := NB387_380.out
   have hcz62 := bK w57 BK380
   have hfz62 := bF BK380
   go_wp2
   refine bodyPost_ret (results_ct rfl _ _ gb380 88 #[.int .i64 x26_2, .int .i64 x55_4, .int .i64 1] (0, 0) _ rfl (bt BK380) Try.underlying88 rfl (by kernel_rfl)) rfl ?_
   exact ⟨_, er, by first | exact Kd.S_nil _ _ _ _ _ | exact Kd.N_nil _ _ _ _ _ | exact Kd.V_nil _ _ _ _ _ | exact Kd.Q_nil _ _ _ _ _ | exact Kd.R_nil _ _ _ _ _, bw HB⟩
  replace H := Option.bind_eq_some_iff.mp H
  obtain ⟨⟨t389, t392, t393⟩, A630, H⟩ := H
  replace H : (if t393 = 0 then (if x4_2.length < 5864062014805 then (impl_verify.l0 k4 (x4_2 ++ [t389]) l0_0 (l0_0.length : Int) (wrap64 (x26_2 + 1)) l0_0) else (none)) else (some (x26_2, t392, t393, ([] : List (List Int))))) = some (r1, r2, r3, r4) := H
  have A63 := am A630
  clear A630
  have HC64 := am H
  clear H
  have hnb65 := NB379_380.out
  have hnc65 := NB380_379.out
  have hnb66 := NB379_382.out
  have hnc66 := NB382_379.out
  have hcz67 := bK wr BK379
  have hfz67 := bF BK379
  go_upto_if 77 with (first | ((with_reducible refine gk 141 rfl ?_); refine gC 141 (some 72) Try.func141 #[.agg #[.slice (some ad381) l0_0.length c0_0], .int .i64 x26_2] ((impl_heightsOf.calls k4 _ _ l0_0 x26_2 t389 t392 t393 _ (cc (Kd.C_below HR0_0.out HB.out)) HC0_0.out A63.out).mono ?_); rintro e w68 ⟨v390, rfl, ho0, hb⟩; refine ⟨_, rfl, ?_⟩; replace HO_4 := am (Kd.S_elder' (kS HO_4) (Kd.R_base ho0) hb); have HO391 := am (Kd.R_lower ho0 (below_size (bw HB))); replace BK379 := bb BK379 hb; replace BK380 := bb BK380 hb; replace BK382 := bb BK382 hb; replace HB := bs HB hb; clear hb; (try clear ho0)))
  (try simp only [Act.put, sa, sz, ss])
  have H := HC64.out
  clear HC64
  refine qE H ?_ ?_ <;> clear H
  ·intro c69b0 c69b1 H
   (first | rw [c69b0] | (simp only [i64_w, i32_w]; rw [c69b0]) | skip)
   refine iN H ?_; clear H; intro c70 H
   have LMc70 := am c70
   clear c70
   obtain ⟨y394, hy394⟩ : ∃ y_ : List (List Int), y_ = (x4_2 ++ [t389]) := ⟨_, rfl⟩
   replace H : (impl_verify.l0 k4 y394 l0_0 (l0_0.length : Int) (wrap64 (x26_2 + 1)) l0_0) = some (r1, r2, r3, r4) := by first | (rw [hy394]; with_reducible exact H) | (have H2_ := (Option.bind_some _ _).symm.trans H; rw [hy394]; with_reducible exact H2_) | (have H2_ := (Option.bind_some _ _).symm.trans H; with_reducible exact H2_) | with_reducible exact H | (rw [hy394]; exact H) | exact H
   have Ny394 := am hy394
   clear hy394
   have H' := am H
   clear H
   obtain ⟨Ao72, co72, eo72⟩ := Kd.R_slice HO391.out
   subst eo72
   go_wp2_with (first | ((with_reducible refine gate_builtin (b := .append) (xs := #[.tmp 82, .tmp 84]) rfl ?_); (try (refine gate_guard (by rfl) ?_; dsimp only)); at_builtin; refine Kd.S_append (Kd.slice 2 (Kd.int .i64)) (w0 := w) w.heap.size rfl (.tmp 82) (.tmp 84) 43 41 (.slice none 0 0) 24 rfl Try.underlying43 info41 rfl (by decide) (by omega) u4 x4_2 t389 [.slice Ao72 t389.length co72] (fun _ => True) (fun k_ => some k_ = (.slice Ao72 t389.length co72 : Value).ownBlock) rfl rfl ?aP (fun k_ hk_ => ((Kd.R_mono (ok' := fun k_ => ((fun _ => True)) k_ ∧ some k_ ≠ (u4 : Value).ownBlock) (Kd.R_apart' (HO391.out) (Kd.S_typed HO_4.out) (by decide)) (fun k_ hk => ⟨trivial, hk.2⟩))).1 k_ hk_.symm) ?aF ?aO ?aB ?aS ?aL ?_; (case aP => exact Kd.M_row (Kd.R_mono (Kd.R_tight rfl (Kd.R_mono (ok' := fun k_ => ((fun _ => True)) k_ ∧ some k_ ≠ (u4 : Value).ownBlock) (Kd.R_apart' (HO391.out) (Kd.S_typed HO_4.out) (by decide)) (fun k_ hk => ⟨trivial, hk.2⟩))) (fun _ h_ => h_))); (case aB => exact (bw HB)); (case aF => exact (fun _ _ => trivial)); (case aO => exact (by (with_reducible repeat (first | apply Kd.S_alloc | apply Kd.S_drewN | apply Kd.S_drew)); exact Kd.S_mono HO_4.out (fun k_ hk => ⟨trivial, fun e_ => hk.2 e_⟩))); (case aS => exact (below_size (bw HB))); (case aL => have := LMc70.out; omega); intro v395 w71 ho hb hg hat; rw [← Ny394.out] at ho; replace BK379 := bg BK379 hg (Kd.S_ne HO_4.out BK379.out (by decide)); replace BK380 := bg BK380 hg (Kd.S_ne HO_4.out BK380.out (by decide)); replace BK382 := bg BK382 hg (Kd.S_ne HO_4.out BK382.out (by decide)); replace HB := am (hb); have HO396 := am (ho); clear HO_4; clear HO391; clear ho hb hg hat))
   go_roundg k4
   case measure => have := HJ1.out; have := HK2.out; have := HJ17.out; have := HK4.out; omega
   case rel => exact ⟨(y394), (wrap64 (x26_2 + 1)), (x381000_4), (x381001_4), (x381002_4), dr, H', ⟨by have := HJ1.out; have := HK2.out; have := HJ17.out; have := HK4.out; omega⟩, ⟨kS HO396⟩, ⟨bp BK379⟩, ⟨bp BK380⟩, ⟨bw HB⟩⟩
  intro c69 c69b0 c69b1 H
  (first | rw [c69b0] | (simp only [i64_w, i32_w]; rw [c69b0]) | skip)
  simp only [Option.some.injEq, Prod.mk.injEq] at H
  obtain ⟨rfl, rfl, rfl, rfl⟩ := H
  have hnb73 := NB380_379.out
  have hnc73 := NB379_380.out
  have hnb74 := NB380_382.out
  have hnc74 := NB382_380.out
  have hcz75 := bK w68 BK380
  have hfz75 := bF BK380
  go_wp2
  refine bodyPost_ret (results_ct rfl _ _ gb380 88 #[.int .i64 x26_2, .int .i64 t392, .int .i64 t393] (0, 0) _ rfl (bt BK380) Try.underlying88 rfl (by kernel_rfl)) rfl ?_
  exact ⟨_, er, by first | exact Kd.S_nil _ _ _ _ _ | exact Kd.N_nil _ _ _ _ _ | exact Kd.V_nil _ _ _ _ _ | exact Kd.Q_nil _ _ _ _ _ | exact Kd.R_nil _ _ _ _ _, bw HB⟩
 rw [if_neg c15] at H
 have c15b0 := decide_eq_false c15
 clear c15
 simp only [Option.some.injEq, Prod.mk.injEq] at H
 obtain ⟨rfl, rfl, rfl, rfl⟩ := H
 have hnb76 := NB380_379.out
 have hnc76 := NB379_380.out
 have hcz77 := bK wr BK380
 have hfz77 := bF BK380
 go_wp2
 refine bodyPost_ret (results_ct rfl _ _ gb380 88 #[.int .i64 0, .int .i64 0, .int .i64 0] (0, 0) _ rfl (bt BK380) Try.underlying88 rfl (by kernel_rfl)) rfl ?_
 exact ⟨_, er, by (with_reducible repeat (first | apply Kd.S_alloc | apply Kd.S_drewN | apply Kd.S_drew)); exact Kd.S_mono (Kd.S_far (p := ⟨gb380, 2, none⟩) (Kd.S_far (p := ⟨gb380, 1, none⟩) (Kd.S_far (p := ⟨gb380, 0, none⟩) (Kd.S_types HO_4.out BK380.out (by decide)) (fun _ hk => hk.2) (.int .i64 0)) (fun _ hk => hk.2) (.int .i64 0)) (fun _ hk => hk.2) (.int .i64 0)) (fun _ hk => trivial), bw HB⟩

def impl_known.f (k : Nat) (l0_0 : List (S93)) : Option ((List (S93)) × (List (List Int)) × Bool) := (impl_verify.f k l0_0).bind fun bt398 => (some (l0_0, bt398.2.2.2, (bt398.2.2.1 == 0)))
theorem impl_known.mono : ∀ a0 k, LeO (impl_known.f k a0) (impl_known.f (k + 1) a0) := by
 intro a0 k
 unfold impl_known.f
 with_reducible repeat' first | exact impl_verify.mono .. | exact LeO.refl _ | exact LeO.none _ | refine LeO.ite ?_ ?_ | refine LeO.bind ?_ (fun _ => ?_)
def impl_known.T2 : Bool × List (List Nat × List Nat) := (true, [([], []), ([], []), ([0, 1], [0, 1]), ([2], [2]), ([], []), ([4], [4]), ([5], [5]), ([3, 0, 1, 2, 3], [3]), ([6, 7, 0, 1, 2, 3, 4, 5, 6, 7], [6])])
def impl_known.B2 : List Nat := [0, 0, 3, 7, 0, 16, 48, 15, 255]
theorem impl_known.tab2 : rtab .any (opsOf Try.f89 2) = impl_known.T2 := by kernel_rfl
theorem impl_known.bits2 : waitsOk impl_known.T2.2 impl_known.B2 = true := by kernel_rfl
theorem impl_known.calls (k : Nat) (P0_0_ : Nat → Prop) (A0_0 : Option Addr) (c0_0 : Nat) (l0_0 : List (S93)) (r1 : List (S93)) (r2 : List (List Int)) (r3 : Bool) (w : World) (hs0_0 : Kd.V k93 93 w w.heap.size (fun k_ => P0_0_ k_) (.slice A0_0 l0_0.length c0_0) l0_0) (h : impl_known.f k l0_0 = some (r1, r2, r3)) :
  Calls Try.prog 89 #[.agg #[.slice A0_0 l0_0.length c0_0]] w fun e w' => ∃ v0_ v1_ : Value, ∃ g_ : Nat, e = .returned (.tuple #[.pointer (some ⟨g_, 0, none⟩), .bool r3]) ∧ Kd.V k93 93 w' w.heap.size (fun k_ => (P0_0_ k_ ∨ w.heap.size ≤ k_) ∧ some k_ ≠ (v1_ : Value).ownBlock) v0_ r1 ∧ Kd.S (Kd.slice 2 (Kd.int .i64)) 41 w' w.heap.size (fun k_ => (w.heap.size ≤ k_)) v1_ r2 ∧ w'.heap[g_]? = some (.cells #[v0_, v1_] 144 (0, 0)) ∧ w.heap.size ≤ g_ ∧ Below w.heap.size w w' := by
 have hu29 := Try.underlying29
 have hu88 := Try.underlying88
 have hu144 := Try.underlying144
 have HO0_0 := am (show Kd.V k93 93 w w.heap.size (fun k_ => (P0_0_ k_ ∨ w.heap.size ≤ k_)) (.slice A0_0 l0_0.length c0_0) l0_0 from Kd.V_mono hs0_0 (fun k_ hk => .inl hk))
 have HB := am (Below.refl w.heap.size w)
 have H : ((impl_verify.f k l0_0).bind fun bt398 => (some (l0_0, bt398.2.2.2, (bt398.2.2.1 == 0)))) = some (r1, r2, r3) := h
 clear h
 replace H := Option.bind_eq_some_iff.mp H
 obtain ⟨⟨t398, t399, t400, t401⟩, A20, H⟩ := H
 replace H : (some (l0_0, t401, (t400 == 0))) = some (r1, r2, r3) := H
 have A2 := am A20
 clear A20
 simp only [Option.some.injEq, Prod.mk.injEq] at H
 obtain ⟨rfl, rfl, rfl⟩ := H
 go_enter Try.func89, Try.ntmps89
 try go_wp2_with (first | ((with_reducible refine gd 1 rfl ?_); refine bX 1 #[.slice A0_0 l0_0.length c0_0] 29 HB ?_; clear HB; intro gb397 w3 hg hb BK397 GW397 HB; replace HO0_0 := am (Kd.V_below (Kd.V_elderB (kV HO0_0) gb397 (Nat.le_of_eq hg.symm)) hb); clear hb hg; have hcz4 := bK w3 BK397; have hfz4 := bF BK397) | ((with_reducible refine gk 125 rfl ?_); refine gC 125 (some 8) Try.func125 #[.agg #[.slice A0_0 l0_0.length c0_0]] ((impl_verify.calls k _ _ l0_0 t398 t399 t400 t401 _ (cc (Kd.V_reads' HO0_0.out).2.2) ((Kd.V_reads' HO0_0.out).2.1) A2.out).mono ?_); rintro e w5 ⟨v402, rfl, ho0, hb⟩; refine ⟨_, rfl, ?_⟩; replace HO0_0 := am (Kd.V_elder' (kV HO0_0) (Kd.S_base ho0) hb); have HO403 := am (Kd.S_lower (Kd.S_newM (M := fun k_ => (w.heap.size ≤ k_)) ho0 (below_size (bw HB)) (fun k_ h_ => h_)) (below_size (bw HB))); replace BK397 := bb BK397 hb; replace HB := bs HB hb; clear hb; (try clear ho0)) | ((with_reducible refine gd 4 rfl ?_); refine bX 4 #[.int .i64 0, .int .i64 0, .int .i64 0] 88 HB ?_; clear HB; intro gb404 w6 hg hb BK404 GW404 HB; replace HO0_0 := am (Kd.V_below (Kd.V_elderB (kV HO0_0) gb404 (Nat.le_of_eq hg.symm)) hb); replace HO403 := am (Kd.S_below (kS HO403) hb); obtain ⟨NB397_404, NB404_397, BK397⟩ := b3 hg BK397 hb; clear hb hg; have hnb7 := NB404_397.out; have hnc7 := NB397_404.out; have hcz8 := bK w6 BK404; have hfz8 := bF BK404))
 replace HO0_0 : Aside0 (Kd.V k93 93 (((w6.setCell ⟨gb404, 0, none⟩ (.int .i64 t398)).setCell ⟨gb404, 1, none⟩ (.int .i64 t399)).setCell ⟨gb404, 2, none⟩ (.int .i64 t400)) w.heap.size (fun k_ => (P0_0_ k_ ∨ w.heap.size ≤ k_) ∧ some k_ ≠ (v402 : Value).ownBlock ∧ k_ ≠ gb397 ∧ k_ ≠ gb404) (.slice A0_0 l0_0.length c0_0) l0_0) := ⟨by (with_reducible repeat (first | apply Kd.V_alloc | apply Kd.V_drewN | apply Kd.V_drew)); exact Kd.V_mono (Kd.V_far (p := ⟨gb404, 2, none⟩) (Kd.V_far (p := ⟨gb404, 1, none⟩) (Kd.V_far (p := ⟨gb404, 0, none⟩) (Kd.V_mono HO0_0.out (fun k_ hk => (⟨hk, hk.2⟩ : _ ∧ k_ ≠ gb404))) (fun _ hk => hk.2) (.int .i64 t398)) (fun _ hk => hk.2) (.int .i64 t399)) (fun _ hk => hk.2) (.int .i64 t400)) (fun _ hk => ⟨hk.1.1.1.1, ⟨hk.1.1.2, ⟨hk.1.1.1.2, hk.1.2⟩⟩⟩)⟩
 replace HO403 : Aside0 (Kd.S (Kd.slice 2 (Kd.int .i64)) 41 (((w6.setCell ⟨gb404, 0, none⟩ (.int .i64 t398)).setCell ⟨gb404, 1, none⟩ (.int .i64 t399)).setCell ⟨gb404, 2, none⟩ (.int .i64 t400)) w.heap.size (fun k_ => (w.heap.size ≤ k_)) v402 t401) := ⟨by (with_reducible repeat (first | apply Kd.S_alloc | apply Kd.S_drewN | apply Kd.S_drew)); exact Kd.S_mono (Kd.S_far (p := ⟨gb404, 2, none⟩) (Kd.S_far (p := ⟨gb404, 1, none⟩) (Kd.S_far (p := ⟨gb404, 0, none⟩) (Kd.S_types HO403.out BK404.out (by decide)) (fun _ hk => hk.2) (.int .i64 t398)) (fun _ hk => hk.2) (.int .i64 t399)) (fun _ hk => hk.2) (.int .i64 t400)) (fun _ hk => hk.1.1)⟩
 replace BK397 : Aside0 ((((w6.setCell ⟨gb404, 0, none⟩ (.int .i64 t398)).setCell ⟨gb404, 1, none⟩ (.int .i64 t399)).setCell ⟨gb404, 2, none⟩ (.int .i64 t400)).heap[gb397]? = some (.cells #[.slice A0_0 l0_0.length c0_0] 29 (0, 0))) := ⟨by (with_reducible repeat (first | apply dN | apply dW | apply dA)); refine blk_far ?_ NB397_404.out _; (with_reducible repeat (first | apply dN | apply dW | apply dA)); refine blk_far ?_ NB397_404.out _; (with_reducible repeat (first | apply dN | apply dW | apply dA)); refine blk_far ?_ NB397_404.out _; exact bp BK397⟩
 replace BK404 : Aside0 ((((w6.setCell ⟨gb404, 0, none⟩ (.int .i64 t398)).setCell ⟨gb404, 1, none⟩ (.int .i64 t399)).setCell ⟨gb404, 2, none⟩ (.int .i64 t400)).heap[gb404]? = some (.cells #[.int .i64 t398, .int .i64 t399, .int .i64 t400] 88 (0, 0))) := ⟨by (with_reducible repeat (first | apply dN | apply dW | apply dA)); refine blk_put (cs := #[.int .i64 t398, .int .i64 t399, .int .i64 0]) ?_ 2 _ rfl; (with_reducible repeat (first | apply dN | apply dW | apply dA)); refine blk_put (cs := #[.int .i64 t398, .int .i64 0, .int .i64 0]) ?_ 1 _ rfl; (with_reducible repeat (first | apply dN | apply dW | apply dA)); refine blk_put (cs := #[.int .i64 0, .int .i64 0, .int .i64 0]) ?_ 0 _ rfl; exact bp BK404⟩
 replace HB : Aside0 (Below w.heap.size w (((w6.setCell ⟨gb404, 0, none⟩ (.int .i64 t398)).setCell ⟨gb404, 1, none⟩ (.int .i64 t399)).setCell ⟨gb404, 2, none⟩ (.int .i64 t400))) := ⟨bw HB⟩
 generalize (((w6.setCell ⟨gb404, 0, none⟩ (.int .i64 t398)).setCell ⟨gb404, 1, none⟩ (.int .i64 t399)).setCell ⟨gb404, 2, none⟩ (.int .i64 t400)) = w9 at HO0_0 HO403 BK397 BK404 HB ⊢
 replace HO0_0 := am (Kd.V_drew HO0_0.out)
 replace HO403 := am (Kd.S_drew HO403.out)
 replace BK397 := am (blk_drew BK397.out)
 replace BK404 := am (blk_drew BK404.out)
 replace HB := am (below_drew1 HB.out)
 obtain ⟨Ao11, co11, eo11⟩ := Kd.S_slice HO403.out
 (first | subst eo11 | (injection eo11 with f1_ f2_ f3_; have f4_ := f1_.symm; have f5_ := f3_.symm; clear f1_ f2_ f3_; subst f4_; subst f5_))
 refine start_ (n := 9) (S := fun w' => w'.cell? ⟨gb397, 0, none⟩ = some (.slice A0_0 l0_0.length c0_0) ∧ w'.cell? ⟨gb404, 0, none⟩ = some (.int .i64 t398) ∧ w'.cell? ⟨gb404, 1, none⟩ = some (.int .i64 t399) ∧ w'.cell? ⟨gb404, 2, none⟩ = some (.int .i64 t400)) (ds := []) (bv 9 0) (by kernel_rfl) rfl (by kernel_rfl) ⟨bc BK397 0, bc BK404 0, bc BK404 1, bc BK404 2⟩ (fun hHeld => ?_); refine with_tabW impl_known.tab2 impl_known.bits2 (fun HT_ HW_ => ?_)
 generalize w9.drew = w10 at HO0_0 HO403 BK397 BK404 HB hHeld ⊢
 refine pu 1 12 9 2 HT_ ?_
 refine pu 4 15 9 18 HT_ ?_
 refine tk 0 11 9 19 HT_ HW_ hHeld ?_
 refine pu 2 13 9 23 HT_ ?_
 refine tk 5 16 9 55 HT_ HW_ hHeld ?_
 refine pu 6 17 9 119 HT_ ?_
 refine on 3 (some 14) 9 127 HT_ fun K hK => ?_
 refine box_step ?hg (N := 14) ?hd (cs := #[.slice A0_0 l0_0.length c0_0, .slice Ao11 t401.length co11]) (t := 144) ?hr ?_; (case hd => rfl); (case hg => rfl); (case hr => exact gs)
 intro gb405 hg w12 hbox hb
 have n0_ := am (Kd.V_below (Kd.V_elderB (kV HO0_0) gb405 (Nat.le_of_eq hg.symm)) hb)
 have n1_ := am (Kd.S_below (kS HO403) hb)
 have n2_ := bb BK397 hb
 have n3_ := bb BK404 hb
 have n4_ := am (below_step (bw HB) hb)
 have n5_ := am (hbox)
 have n6_ := gw hg HB
 have n7_ := gw hg HB
 have n8_ := am ((by rw [hg]; exact Nat.ne_of_lt (blk_lt (g := gb397) (o := .cells #[.slice A0_0 l0_0.length c0_0] 29 (0, 0)) (bp BK397)) : gb397 ≠ gb405))
 have n9_ := am ((by rw [hg]; exact Nat.ne_of_gt (blk_lt (g := gb397) (o := .cells #[.slice A0_0 l0_0.length c0_0] 29 (0, 0)) (bp BK397)) : gb405 ≠ gb397))
 have n10_ := am ((by rw [hg]; exact Nat.ne_of_lt (blk_lt (g := gb404) (o := .cells #[.int .i64 t398, .int .i64 t399, .int .i64 t400] 88 (0, 0)) (bp BK404)) : gb404 ≠ gb405))
 have n11_ := am ((by rw [hg]; exact Nat.ne_of_gt (blk_lt (g := gb404) (o := .cells #[.int .i64 t398, .int .i64 t399, .int .i64 t400] 88 (0, 0)) (bp BK404)) : gb405 ≠ gb404))
 clear HO0_0
 clear HO403
 clear BK397
 clear BK404
 clear HB
 have HO0_0 := n0_
 have HO403 := n1_
 have BK397 := n2_
 have BK404 := n3_
 have HB := n4_
 have BK405 := n5_
 have GW405 := n6_
 have GE405 := n7_
 have NB397_405 := n8_
 have NB405_397 := n9_
 have NB404_405 := n10_
 have NB405_404 := n11_
 clear n0_ n1_ n2_ n3_ n4_ n5_ n6_ n7_ n8_ n9_ n10_ n11_
 clear hb hbox hg
 refine hK.out _ _ ⟨bc BK397 0, bc BK404 0, bc BK404 1, bc BK404 2⟩ (fun hHeld => ?_)
 clear hK K
 refine nm (some 14) ?_
 refine pu 7 2 9 255 HT_ ?_
 refine pu 8 3 9 511 HT_ ?_
 refine done_ (done_of HT_.out (by kernel_rfl)) ?_
 try go_wp2
 go_ret2
 exact ⟨_, _, gb405, er, by (with_reducible repeat (first | apply Kd.V_alloc | apply Kd.V_drewN | apply Kd.V_drew)); exact Kd.V_mono HO0_0.out (fun _ hk => ⟨hk.1.1, hk.1.2.1⟩), kS HO403, (bp BK405), GW405.out, bw HB⟩

def impl_knownFunc.f (k : Nat) (l0_0 : List (S93)) (a1 : Int) : Option ((List (S93)) × (List (List Int)) × Bool) := (impl_known.f k l0_0).bind fun bt407 => (if bt407.2.2 = true then ((impl_hasFunc.f l0_0 a1).bind fun t415 => (some (bt407.1, bt407.2.1, t415))) else (some (bt407.1, bt407.2.1, false)))
theorem impl_knownFunc.mono : ∀ a0 a1 k, LeO (impl_knownFunc.f k a0 a1) (impl_knownFunc.f (k + 1) a0 a1) := by
 intro a0 a1 k
 unfold impl_knownFunc.f
 with_reducible repeat' first | exact impl_known.mono .. | exact LeO.refl _ | exact LeO.none _ | refine LeO.ite ?_ ?_ | refine LeO.bind ?_ (fun _ => ?_)
theorem impl_knownFunc.calls (k : Nat) (P0_0_ : Nat → Prop) (A0_0 : Option Addr) (c0_0 : Nat) (l0_0 : List (S93)) (a1 : Int) (r1 : List (S93)) (r2 : List (List Int)) (r3 : Bool) (w : World) (hs0_0 : Kd.V k93 93 w w.heap.size (fun k_ => P0_0_ k_) (.slice A0_0 l0_0.length c0_0) l0_0) (h : impl_knownFunc.f k l0_0 a1 = some (r1, r2, r3)) :
  Calls Try.prog 42 #[.agg #[.slice A0_0 l0_0.length c0_0], .int .i64 a1] w fun e w' => ∃ v0_ v1_ : Value, ∃ g_ : Nat, e = .returned (.tuple #[.pointer (some ⟨g_, 0, none⟩), .bool r3]) ∧ Kd.V k93 93 w' w.heap.size (fun k_ => (P0_0_ k_ ∨ w.heap.size ≤ k_) ∧ some k_ ≠ (v1_ : Value).ownBlock) v0_ r1 ∧ Kd.S (Kd.slice 2 (Kd.int .i64)) 41 w' w.heap.size (fun k_ => (w.heap.size ≤ k_)) v1_ r2 ∧ w'.heap[g_]? = some (.cells #[v0_, v1_] 144 (0, 0)) ∧ w.heap.size ≤ g_ ∧ Below w.heap.size w w' := by
 have hu29 := Try.underlying29
 have HO0_0 := am (show Kd.V k93 93 w w.heap.size (fun k_ => (P0_0_ k_ ∨ w.heap.size ≤ k_)) (.slice A0_0 l0_0.length c0_0) l0_0 from Kd.V_mono hs0_0 (fun k_ hk => .inl hk))
 have HB := am (Below.refl w.heap.size w)
 have H : ((impl_known.f k l0_0).bind fun bt407 => (if bt407.2.2 = true then ((impl_hasFunc.f l0_0 a1).bind fun t415 => (some (bt407.1, bt407.2.1, t415))) else (some (bt407.1, bt407.2.1, false)))) = some (r1, r2, r3) := h
 clear h
 replace H := Option.bind_eq_some_iff.mp H
 obtain ⟨⟨t407, t410, t414⟩, A30, H⟩ := H
 replace H : (if t414 = true then ((impl_hasFunc.f l0_0 a1).bind fun t415 => (some (t407, t410, t415))) else (some (t407, t410, false))) = some (r1, r2, r3) := H
 have A3 := am A30
 clear A30
 refine qT H ?_ ?_ <;> clear H <;> intro c4 H <;> subst c4
 ·refine be H ?_; clear H; intro t415 A5 H
  simp only [Option.some.injEq, Prod.mk.injEq] at H
  obtain ⟨rfl, rfl, rfl⟩ := H
  go_enter Try.func42, Try.ntmps42
  go_wp2_with (first | ((with_reducible refine gd 2 rfl ?_); refine bX 2 #[.slice A0_0 l0_0.length c0_0] 29 HB ?_; clear HB; intro gb406 w6 hg hb BK406 GW406 HB; replace HO0_0 := am (Kd.V_below (Kd.V_elderB (kV HO0_0) gb406 (Nat.le_of_eq hg.symm)) hb); clear hb hg; have hcz7 := bK w6 BK406; have hfz7 := bF BK406) | ((with_reducible refine gk 89 rfl ?_); refine gC 89 (some 10) Try.func89 #[.agg #[.slice A0_0 l0_0.length c0_0]] ((impl_known.calls k (fun k_ => ((P0_0_ k_ ∨ w.heap.size ≤ k_) ∧ k_ ≠ gb406)) _ _ l0_0 t407 t410 true _ HO0_0.out A3.out).mono ?_); rintro e w8 ⟨v408, v411, gb413, rfl, ho0, ho1, hbx, hgx, hb⟩; refine ⟨_, rfl, ?_⟩; replace HO0_0 := am (Kd.V_elder' (kV HO0_0) (Kd.S_base ho1) hb); have HO409 := am (Kd.V_lower (Kd.V_mono (ok' := fun k_ => (P0_0_ k_ ∨ w.heap.size ≤ k_) ∧ some k_ ≠ (v411 : Value).ownBlock ∧ k_ ≠ gb406) ho0 (fun k_ hk_ => ⟨Or.elim hk_.1 (fun hs_ => hs_.1) (fun hn_ => (.inr (Nat.le_trans (below_size (bw HB)) hn_))), hk_.2, Or.elim hk_.1 (fun hs_ => hs_.2) (fun hn_ => (Kd.freshB (g := gb406) (o := .cells #[.slice A0_0 l0_0.length c0_0] 29 (0, 0)) (bp BK406) k_ hn_))⟩)) (below_size (bw HB))); have HO412 := am (Kd.S_lower (Kd.S_newM (M := fun k_ => (w.heap.size ≤ k_)) (Kd.S_mono (ok' := fun k_ => True) ho1 (fun _ hk_ => trivial)) (below_size (bw HB)) (fun k_ h_ => h_)) (below_size (bw HB))); have BK413 := am (hbx); have GW413 := am ((Nat.le_trans (below_size (bw HB)) hgx)); have GE413 := am ((Nat.le_trans (below_size (bw HB)) hgx)); have NB406_413 := am ((Nat.ne_of_lt (Nat.lt_of_lt_of_le (blk_lt (g := gb406) (o := .cells #[.slice A0_0 l0_0.length c0_0] 29 (0, 0)) (bp BK406)) hgx) : gb406 ≠ gb413)); have NB413_406 := am ((Nat.ne_of_gt (Nat.lt_of_lt_of_le (blk_lt (g := gb406) (o := .cells #[.slice A0_0 l0_0.length c0_0] 29 (0, 0)) (bp BK406)) hgx) : gb413 ≠ gb406)); replace BK406 := bb BK406 hb; replace HB := bs HB hb; clear hb; (try clear ho0); (try clear ho1); (try clear hbx); (try clear hgx); have hnb9 := NB406_413.out; have hnc9 := NB413_406.out; have hcz10 := bK w8 BK406; have hfz10 := bF BK406) | (go_at_call 90; refine (impl_hasFunc.calls _ _ l0_0 a1 t415 _ (cc (Kd.V_reads' HO0_0.out).2.2) ((Kd.V_reads' HO0_0.out).2.1) A5.out).mono ?_; rintro e w11 ⟨rfl, hb⟩; replace HO0_0 := am (Kd.V_below (kV HO0_0) hb); replace HO409 := am (Kd.V_below (kV HO409) hb); replace HO412 := am (Kd.S_below (kS HO412) hb); replace BK406 := bb BK406 hb; replace BK413 := bb BK413 hb; replace HB := bs HB hb; clear hb))
  go_ret2
  exact ⟨_, _, gb413, er, by (with_reducible repeat (first | apply Kd.V_alloc | apply Kd.V_drewN | apply Kd.V_drew)); exact Kd.V_mono HO409.out (fun _ hk => ⟨hk.1, hk.2.1⟩), by (with_reducible repeat (first | apply Kd.S_alloc | apply Kd.S_drewN | apply Kd.S_drew)); exact Kd.S_mono HO412.out (fun _ hk => hk.1), (bp BK413), GW413.out, bw HB⟩
 simp only [Option.some.injEq, Prod.mk.injEq] at H
 obtain ⟨rfl, rfl, rfl⟩ := H
 go_enter Try.func42, Try.ntmps42
 go_wp2_with (first | ((with_reducible refine gd 2 rfl ?_); refine bX 2 #[.slice A0_0 l0_0.length c0_0] 29 HB ?_; clear HB; intro gb406 w12 hg hb BK406 GW406 HB; replace HO0_0 := am (Kd.V_below (Kd.V_elderB (kV HO0_0) gb406 (Nat.le_of_eq hg.symm)) hb); clear hb hg; have hcz13 := bK w12 BK406; have hfz13 := bF BK406) | ((with_reducible refine gk 89 rfl ?_); refine gC 89 (some 10) Try.func89 #[.agg #[.slice A0_0 l0_0.length c0_0]] ((impl_known.calls k (fun k_ => ((P0_0_ k_ ∨ w.heap.size ≤ k_) ∧ k_ ≠ gb406)) _ _ l0_0 t407 t410 false _ HO0_0.out A3.out).mono ?_); rintro e w14 ⟨v408, v411, gb413, rfl, ho0, ho1, hbx, hgx, hb⟩; refine ⟨_, rfl, ?_⟩; replace HO0_0 := am (Kd.V_elder' (kV HO0_0) (Kd.S_base ho1) hb); have HO409 := am (Kd.V_lower (Kd.V_mono (ok' := fun k_ => (P0_0_ k_ ∨ w.heap.size ≤ k_) ∧ some k_ ≠ (v411 : Value).ownBlock ∧ k_ ≠ gb406) ho0 (fun k_ hk_ => ⟨Or.elim hk_.1 (fun hs_ => hs_.1) (fun hn_ => (.inr (Nat.le_trans (below_size (bw HB)) hn_))), hk_.2, Or.elim hk_.1 (fun hs_ => hs_.2) (fun hn_ => (Kd.freshB (g := gb406) (o := .cells #[.slice A0_0 l0_0.length c0_0] 29 (0, 0)) (bp BK406) k_ hn_))⟩)) (below_size (bw HB))); have HO412 := am (Kd.S_lower (Kd.S_newM (M := fun k_ => (w.heap.size ≤ k_)) (Kd.S_mono (ok' := fun k_ => True) ho1 (fun _ hk_ => trivial)) (below_size (bw HB)) (fun k_ h_ => h_)) (below_size (bw HB))); have BK413 := am (hbx); have GW413 := am ((Nat.le_trans (below_size (bw HB)) hgx)); have GE413 := am ((Nat.le_trans (below_size (bw HB)) hgx)); have NB406_413 := am ((Nat.ne_of_lt (Nat.lt_of_lt_of_le (blk_lt (g := gb406) (o := .cells #[.slice A0_0 l0_0.length c0_0] 29 (0, 0)) (bp BK406)) hgx) : gb406 ≠ gb413)); have NB413_406 := am ((Nat.ne_of_gt (Nat.lt_of_lt_of_le (blk_lt (g := gb406) (o := .cells #[.slice A0_0 l0_0.length c0_0] 29 (0, 0)) (bp BK406)) hgx) : gb413 ≠ gb406)); replace BK406 := bb BK406 hb; replace HB := bs HB hb; clear hb; (try clear ho0); (try clear ho1); (try clear hbx); (try clear hgx)))
 go_ret2
 exact ⟨_, _, gb413, er, by (with_reducible repeat (first | apply Kd.V_alloc | apply Kd.V_drewN | apply Kd.V_drew)); exact Kd.V_mono HO409.out (fun _ hk => ⟨hk.1, hk.2.1⟩), by (with_reducible repeat (first | apply Kd.S_alloc | apply Kd.S_drewN | apply Kd.S_drew)); exact Kd.S_mono HO412.out (fun _ hk => hk.1), (bp BK413), GW413.out, bw HB⟩

end Go.Proofs.Ythdfokebbcheoaa.QFnExactPlainSize
