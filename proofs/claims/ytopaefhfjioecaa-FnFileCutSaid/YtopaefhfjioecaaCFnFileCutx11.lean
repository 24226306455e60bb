import Derived.Test.YtopaefhfjioecaaCFnFileCutx0
import Derived.Test.YtopaefhfjioecaaCFnFileCutx8
import Derived.Test.YtopaefhfjioecaaCFnFileCutx10
namespace Go.Proofs.Ytopaefhfjioecaa.QFnFileCut
open Go.RowKit Go.Proofs.YtopaefhfjioecaaW
open PrintWords PrintLast PrintMore PrintShort
attribute [local go_sem] max2_int min2_int max_two min_two max_three min_three max_four min_four   -- for this text's walks alone
set_option linter.unusedVariables false
set_option maxHeartbeats 8000000
set_option maxRecDepth 100000
set_option linter.unusedSimpArgs false

mutual
def impl_verify.j0 : Nat → Bool → List (S35) → Option (Int × Int × Int × (List (List Int)))
 | 0, _, _ => none
 | k + 1, x21, x367000 => if x21 = true then (some (0, 0, 1, ([] : List (List Int)))) else (impl_verify.l0 k ([] : List (List Int)) x367000 (x367000.length : Int) 0 x367000)
def impl_verify.l0 : Nat → List (List Int) → List (S35) → Int → Int → List (S35) → Option (Int × Int × Int × (List (List Int)))
 | 0, _, _, _, _, _ => none
 | k + 1, x4, x24, x25, x26, x367000 => if x26 < x25 then (if 0 ≤ x26 then (if x26 < (x24.length : Int) then ((impl_in.f ((rd_T35 x24 x26).f0) 0 4).bind fun t370 => (if t370 = true then ((impl_in.f ((rd_T35 x24 x26).f1) ((rd_T35 x24 x26).f0) 8).bind fun t371 => (if t371 = true then ((impl_in.f (((rd_T35 x24 x26).f2).length : Int) 1 60).bind fun t372 => (impl_verify.j2 k x4 x26 x24 x25 x26 (!t372) x367000 ((rd_T35 x24 x26).f0) ((rd_T35 x24 x26).f1) ((rd_T35 x24 x26).f2))) else (impl_verify.j2 k x4 x26 x24 x25 x26 true x367000 ((rd_T35 x24 x26).f0) ((rd_T35 x24 x26).f1) ((rd_T35 x24 x26).f2)))) else (impl_verify.j2 k x4 x26 x24 x25 x26 true x367000 ((rd_T35 x24 x26).f0) ((rd_T35 x24 x26).f1) ((rd_T35 x24 x26).f2)))) else (none)) else (none)) else (some (0, 0, 0, x4))
def impl_verify.j2 : Nat → List (List Int) → Int → List (S35) → Int → Int → Bool → List (S35) → Int → Int → List (S38) → Option (Int × Int × Int × (List (List Int)))
 | 0, _, _, _, _, _, _, _, _, _, _ => none
 | k + 1, x4, x5, x24, x25, x26, x49, x367000, x370000, x370001, x370002 => if x49 = true then (some (x5, 0, 1, ([] : List (List Int)))) else (impl_verify.l1 k x4 x5 x24 x25 x26 x370002 (x370002.length : Int) 0 x367000)
def impl_verify.l1 : Nat → List (List Int) → Int → List (S35) → Int → Int → List (S38) → Int → Int → List (S35) → Option (Int × Int × Int × (List (List Int)))
 | 0, _, _, _, _, _, _, _, _, _ => none
 | k + 1, x4, x5, x24, x25, x26, x53, x54, x55, x367000 => if x55 < x54 then (if 0 ≤ x55 then (if x55 < (x53.length : Int) then ((impl_InsRight.f k x367000 x5 ((rd_T38 x53 x55).f0) ((rd_T38 x53 x55).f1)).bind fun t375 => (if t375 = true then (impl_verify.l1 k x4 x5 x24 x25 x26 x53 x54 (wrap64 (x55 + 1)) x367000) else (some (x5, x55, 1, ([] : List (List Int)))))) else (none)) else (none)) else ((impl_heightsOf.f k x367000 x5).bind fun bt376 => (if bt376.2.2 = 0 then (if x4.length < 5864062014805 then (impl_verify.l0 k (x4 ++ [bt376.1]) x24 x25 (wrap64 (x26 + 1)) x367000) else (none)) else (some (x5, bt376.2.1, bt376.2.2, ([] : List (List Int))))))
end
def impl_verify.f (k : Nat) (l0_0 : List (S35)) : Option (Int × Int × Int × (List (List Int))) := if (l0_0.length : Int) < 1 then (impl_verify.j0 k true l0_0) else (impl_verify.j0 k (decide ((l0_0.length : Int) > 6)) l0_0)
theorem impl_verify.mono_l : ∀ k, (∀ y0 y1, LeO (impl_verify.j0 k y0 y1) (impl_verify.j0 (k + 1) y0 y1)) ∧ (∀ y0 y1 y2 y3 y4, LeO (impl_verify.l0 k y0 y1 y2 y3 y4) (impl_verify.l0 (k + 1) y0 y1 y2 y3 y4)) ∧ (∀ y0 y1 y2 y3 y4 y5 y6 y7 y8 y9, LeO (impl_verify.j2 k y0 y1 y2 y3 y4 y5 y6 y7 y8 y9) (impl_verify.j2 (k + 1) y0 y1 y2 y3 y4 y5 y6 y7 y8 y9)) ∧ (∀ y0 y1 y2 y3 y4 y5 y6 y7 y8, LeO (impl_verify.l1 k y0 y1 y2 y3 y4 y5 y6 y7 y8) (impl_verify.l1 (k + 1) y0 y1 y2 y3 y4 y5 y6 y7 y8))
 | 0 => ⟨fun _ _ r h => by simp [impl_verify.j0] at h, fun _ _ _ _ _ r h => by simp [impl_verify.l0] at h, fun _ _ _ _ _ _ _ _ _ _ r h => by simp [impl_verify.j2] at h, fun _ _ _ _ _ _ _ _ _ r h => by simp [impl_verify.l1] at h⟩
 | k + 1 => by
  obtain ⟨ih0, ih1, ih2, ih3⟩ := impl_verify.mono_l k
  refine ⟨?_, ?_, ?_, ?_⟩
  ·intro y0 y1
   unfold impl_verify.j0
   with_reducible repeat' first | exact ih0 .. | exact ih1 .. | exact ih2 .. | exact ih3 .. | exact impl_InsRight.mono .. | exact impl_heightsOf.mono .. | exact LeO.refl _ | exact LeO.none _ | refine LeO.ite ?_ ?_ | refine LeO.bind ?_ (fun _ => ?_)
  ·intro y0 y1 y2 y3 y4
   unfold impl_verify.l0
   with_reducible repeat' first | exact ih0 .. | exact ih1 .. | exact ih2 .. | exact ih3 .. | exact impl_InsRight.mono .. | exact impl_heightsOf.mono .. | exact LeO.refl _ | exact LeO.none _ | refine LeO.ite ?_ ?_ | refine LeO.bind ?_ (fun _ => ?_)
  ·intro y0 y1 y2 y3 y4 y5 y6 y7 y8 y9
   unfold impl_verify.j2
   with_reducible repeat' first | exact ih0 .. | exact ih1 .. | exact ih2 .. | exact ih3 .. | exact impl_InsRight.mono .. | exact impl_heightsOf.mono .. | exact LeO.refl _ | exact LeO.none _ | refine LeO.ite ?_ ?_ | refine LeO.bind ?_ (fun _ => ?_)
  ·intro y0 y1 y2 y3 y4 y5 y6 y7 y8
   unfold impl_verify.l1
   with_reducible repeat' first | exact ih0 .. | exact ih1 .. | exact ih2 .. | exact ih3 .. | exact impl_InsRight.mono .. | exact impl_heightsOf.mono .. | exact LeO.refl _ | exact LeO.none _ | refine LeO.ite ?_ ?_ | refine LeO.bind ?_ (fun _ => ?_)
theorem impl_verify.mono : ∀ a0 k, LeO (impl_verify.f k a0) (impl_verify.f (k + 1) a0) := by
 intro a0 k
 obtain ⟨ih0, ih1, ih2, ih3⟩ := impl_verify.mono_l k
 unfold impl_verify.f
 with_reducible repeat' first | exact ih0 .. | exact ih1 .. | exact ih2 .. | exact ih3 .. | exact impl_InsRight.mono .. | exact impl_heightsOf.mono .. | exact LeO.refl _ | exact LeO.none _ | refine LeO.ite ?_ ?_ | refine LeO.bind ?_ (fun _ => ?_)
theorem impl_verify.calls (k : Nat) (A0_0 : Option Addr) (c0_0 : Nat) (l0_0 : List (S35)) (r1 : Int) (r2 : Int) (r3 : Int) (r4 : List (List Int)) (w : World) (hr0_0 : Kd.C k35 w A0_0 l0_0.length l0_0) (hc0_0 : l0_0.length ≤ c0_0) (h : impl_verify.f k l0_0 = some (r1, r2, r3, r4)) :
  Calls Try.prog 34 #[.agg #[.slice A0_0 l0_0.length c0_0]] w fun e w' => ∃ v3_ : Value, e = .returned (.tuple #[.agg #[.int .i64 r1, .int .i64 r2, .int .i64 r3], v3_]) ∧ Kd.S (Kd.slice 2 (Kd.int .i64)) 31 w' w.heap.size (fun _ => True) v3_ r4 ∧ Below w.heap.size w w' := by
 have hu25 := Try.underlying25
 have hu29 := Try.underlying29
 have hu35 := Try.underlying35
 have hu38 := Try.underlying38
 have HR0_0 := am hr0_0
 have HC0_0 := am hc0_0
 clear hr0_0 hc0_0
 have HB := am (Below.refl w.heap.size w)
 have H : (if (l0_0.length : Int) < 1 then (impl_verify.j0 k true l0_0) else (impl_verify.j0 k (decide ((l0_0.length : Int) > 6)) l0_0)) = some (r1, r2, r3, r4) := h
 clear h
 have HC2 := am H
 clear H
 go_enter Try.func34, Try.ntmps34
 go_upto_region 1 with (first | ((with_reducible refine gate_dst (N := 1) rfl ?_); (try (refine gate_guard (by rfl) ?_; dsimp only)); refine box_event ?hg (N := 1) ?hd (cs := #[.slice A0_0 l0_0.length c0_0]) (t := 25) ?hr ?_; (case hd => rfl); (case hg => rfl); (case hr => exact gs); intro gb366 hg w3 hbox hb; have BK366 := am (hbox); have GW366 := gw hg HB; replace HB := bs HB hb; clear hb hbox hg) | ((with_reducible refine gate_dst (N := 2) rfl ?_); (try (refine gate_guard (by rfl) ?_; dsimp only)); refine box_event ?hg (N := 2) ?hd (cs := #[.int .i64 0, .int .i64 0, .int .i64 0]) (t := 29) ?hr ?_; (case hd => rfl); (case hg => rfl); (case hr => exact gs); intro gb367 hg w4 hbox hb; have BK367 := am (hbox); have GW367 := gw hg HB; replace HB := bs HB hb; obtain ⟨NB366_367, NB367_366, BK366⟩ := b3 hg BK366 hb; clear hb hbox hg))
 (try simp only [Act.put, sa, sz, ss])
 go_cut [21] (fun v21 wc => ∃ (kq : Nat) (x21_1 : Bool), v21 = .bool x21_1 ∧ Aside0 (impl_verify.j0 kq x21_1 l0_0 = some (r1, r2, r3, r4)) ∧ Aside0 (kq ≤ k) ∧ Aside0 (wc.heap[gb366]? = some (.cells #[(.slice A0_0 l0_0.length c0_0)] 25 (0, 0))) ∧ Aside0 (wc.heap[gb367]? = some (.cells #[.int .i64 0, .int .i64 0, .int .i64 0] 29 (0, 0))) ∧ Aside0 (Below w.heap.size w wc))
 case first =>
  have H := HC2.out
  clear HC2
  refine qI H ?_ ?_ <;> clear H <;> intro c5b0 H
  ·have c5 := of_decide_eq_true c5b0
   have c5b1 : decide (l0_0.length < 1) = true := decide_eq_true (by omega)
   clear c5
   (first | rw [c5b0] | (simp only [i64_w, i32_w]; rw [c5b0]) | skip)
   have H' := am H
   clear H
   have hnb6 := NB366_367.out
   have hnc6 := NB367_366.out
   have hcz7 := bK w4 BK366
   have hfz7 := bF BK366
   go_wp2
   go_meet
   case rel => exact ⟨_, (true), dr, H', ⟨lk0⟩, ⟨bp BK366⟩, ⟨bp BK367⟩, ⟨bw HB⟩⟩
  have c5 := of_decide_eq_false c5b0
  have c5b1 : decide (l0_0.length < 1) = false := decide_eq_false (by omega)
  clear c5
  (first | rw [c5b0] | (simp only [i64_w, i32_w]; rw [c5b0]) | skip)
  have H' := am H
  clear H
  have hnb8 := NB366_367.out
  have hnc8 := NB367_366.out
  have hcz9 := bK w4 BK366
  have hfz9 := bF BK366
  go_wp2
  go_meet
  case rel => exact ⟨_, (decide ((l0_0.length : Int) > 6)), dr, H', ⟨lk0⟩, ⟨bp BK366⟩, ⟨bp BK367⟩, ⟨bw HB⟩⟩
 clear HC2
 (try clear p2); (try clear c3); (try clear c5); (try clear c5b0); (try clear c5b1); (try clear c6); (try clear c8); (try clear hcz7); (try clear hcz9); (try clear hfz7); (try clear hfz9)
 obtain ⟨kq, x21_1, rfl, HA, HJ1, BK366, BK367, HB⟩ := hcut
 rcases kq with _ | kj1
 ·exact absurd HA.out (by simp [impl_verify.j0])
 have H := HA.out
 clear HA
 simp only [impl_verify.j0] at H
 refine qT H ?_ ?_ <;> clear H <;> intro c10 H <;> subst c10
 ·simp only [Option.some.injEq, Prod.mk.injEq] at H
  obtain ⟨rfl, rfl, rfl, rfl⟩ := H
  have hnb11 := NB367_366.out
  have hnc11 := NB366_367.out
  have hcz12 := bK wc BK367
  have hfz12 := bF BK367
  go_wp2
  refine bodyPost_ret (results_ct rfl _ _ gb367 29 #[.int .i64 0, .int .i64 0, .int .i64 1] (0, 0) _ rfl (bt BK367) Try.underlying29 rfl (by kernel_rfl)) rfl ?_
  exact ⟨_, er, by first | exact Kd.S_nil _ _ _ _ _ | exact Kd.N_nil _ _ _ _ _ | exact Kd.V_nil _ _ _ _ _ | exact Kd.Q_nil _ _ _ _ _ | exact Kd.R_nil _ _ _ _ _, bw HB⟩
 have H' := am H
 clear H
 have hnb13 := NB366_367.out
 have hnc13 := NB367_366.out
 have hcz14 := bK wc BK366
 have hfz14 := bF BK366
 go_wp2
 go_loopg [4, 26] kj1 (fun kq v4 v26 w' => ∃ (x4_2 : List (List Int)) (x26_2 : Int) (x368000_2 : Int) (x368001_2 : Int) (x368002_2 : Int), v26 = .int .i64 x26_2 ∧ Aside0 (impl_verify.l0 kq x4_2 l0_0 (l0_0.length : Int) x26_2 l0_0 = some (r1, r2, r3, r4)) ∧ Aside0 (kq ≤ kj1) ∧ Aside0 (Kd.S (Kd.slice 2 (Kd.int .i64)) 31 w' w.heap.size (fun _ => True) v4 x4_2) ∧ Aside0 (w'.heap[gb366]? = some (.cells #[(.slice A0_0 l0_0.length c0_0)] 25 (0, 0))) ∧ Aside0 (w'.heap[gb367]? = some (.cells #[.int .i64 x368000_2, .int .i64 x368001_2, .int .i64 x368002_2] 29 (0, 0))) ∧ Aside0 (Below w.heap.size w w'))
 case atStart => exact ⟨(([] : List (List Int))), (0), (0), (0), (0), dr, H', ⟨Nat.le_refl _⟩, ⟨by first | exact Kd.S_nil _ _ _ _ _ | exact Kd.N_nil _ _ _ _ _ | exact Kd.V_nil _ _ _ _ _ | exact Kd.Q_nil _ _ _ _ _ | exact Kd.R_nil _ _ _ _ _⟩, ⟨bp BK366⟩, ⟨bp BK367⟩, ⟨bw HB⟩⟩
 clear H'
 (try clear c1); (try clear c10); (try clear c11); (try clear c13); (try clear hcz12); (try clear hcz14); (try clear hfz12); (try clear hfz14)
 obtain ⟨x4_2, x26_2, x368000_2, x368001_2, x368002_2, rfl, HA, HK2, HO_4, BK366, BK367, HB⟩ := hrel
 rcases gk with _ | k2
 ·exact absurd HA.out (by simp [impl_verify.l0])
 have H := HA.out
 clear HA
 simp only [impl_verify.l0] at H
 by_cases c15 : x26_2 < (l0_0.length : Int)
 ·rw [if_pos c15] at H
  have c15b0 := decide_eq_true c15
  clear c15
  refine iN H ?_; clear H; intro c16 H
  have c16b0 := decide_eq_true c16
  clear c16
  refine iN H ?_; clear H; intro c17 H
  have c17b0 := decide_eq_true c17
  clear c17
  have HC18 := am H
  clear H
  have p368 : 0 ≤ (x26_2 : Int) := of_decide_eq_true as1
  have q368 : x26_2 < (l0_0.length : Int) := of_decide_eq_true as1
  obtain ⟨ad368, A368_2, c368_2, e368, hx368_0, hx368_1, hx368_2, hl368_2, hi368_2⟩ := at_T35 HR0_0.out x26_2 p368 q368
  cases e368
  replace hx368_0 := cl HB hx368_0
  replace hx368_1 := cl HB hx368_1
  replace hx368_2 := cl HB hx368_2
  have HR368_2 := am hi368_2
  have HC368_2 := am hl368_2
  clear hi368_2 hl368_2
  replace p368 := eq_true p368
  replace q368 := eq_true q368
  go_upto_region 7 with (first | ((with_reducible refine gate_dst (N := 6) rfl ?_); (try (refine gate_guard (by rfl) ?_; dsimp only)); refine box_event ?hg (N := 6) ?hd (cs := #[.int .i64 0, .int .i64 0, .slice none 0 0]) (t := 35) ?hr ?_; (case hd => rfl); (case hg => rfl); (case hr => exact gs); intro gb369 hg w19 hbox hb; replace HO_4 := am (Kd.S_below (kS HO_4) hb); have BK369 := am (hbox); have GW369 := gw hg HB; replace HB := bs HB hb; obtain ⟨NB366_369, NB369_366, BK366⟩ := b3 hg BK366 hb; obtain ⟨NB367_369, NB369_367, BK367⟩ := b3 hg BK367 hb; clear hb hbox hg; have hnb20 := NB369_366.out; have hnc20 := NB366_369.out; have hnb21 := NB369_367.out; have hnc21 := NB367_369.out; have hcz22 := bK w19 BK369; have hfz22 := bF BK369))
  (try simp only [Act.put, sa, sz, ss])
  go_cut [49] (fun v49 wc => ∃ (kq : Nat) (x49_17 : Bool), v49 = .bool x49_17 ∧ Aside0 (impl_verify.j2 kq x4_2 x26_2 l0_0 (l0_0.length : Int) x26_2 x49_17 l0_0 ((rd_T35 l0_0 x26_2).f0) ((rd_T35 l0_0 x26_2).f1) ((rd_T35 l0_0 x26_2).f2) = some (r1, r2, r3, r4)) ∧ Aside0 (kq ≤ k2) ∧ Aside0 (Kd.S (Kd.slice 2 (Kd.int .i64)) 31 wc w.heap.size (fun _ => True) u4 x4_2) ∧ Aside0 (wc.heap[gb366]? = some (.cells #[(.slice (some ad368) l0_0.length c0_0)] 25 (0, 0))) ∧ Aside0 (wc.heap[gb367]? = some (.cells #[.int .i64 x368000_2, .int .i64 x368001_2, .int .i64 x368002_2] 29 (0, 0))) ∧ Aside0 (wc.heap[gb369]? = some (.cells #[.int .i64 ((rd_T35 l0_0 x26_2).f0), .int .i64 ((rd_T35 l0_0 x26_2).f1), (.slice A368_2 ((rd_T35 l0_0 x26_2).f2).length c368_2)] 35 (0, 0))) ∧ Aside0 (Below w.heap.size w wc))
  case first =>
   have H := HC18.out
   clear HC18
   refine be H ?_; clear H; intro t370 A23 H
   refine qT H ?_ ?_ <;> clear H <;> intro c24 H <;> subst c24
   ·refine be H ?_; clear H; intro t371 A25 H
    refine qT H ?_ ?_ <;> clear H <;> intro c26 H <;> subst c26
    ·refine be H ?_; clear H; intro t372 A27 H
     have H' := am H
     clear H
     have hnb28 := NB369_366.out
     have hnc28 := NB366_369.out
     have hnb29 := NB369_367.out
     have hnc29 := NB367_369.out
     have hcz30 := bK w19 BK369
     have hfz30 := bF BK369
     go_wp2_with (first | ((with_reducible refine gate_callee (f := 71) rfl ?_); refine goesL_ (some 33) rfl rfl Try.func71 (by kernel_rfl) rfl #[.int .i64 ((rd_T35 l0_0 x26_2).f0), .int .i64 0, .int .i64 4] rfl gl ?_; (with_reducible refine (impl_in.calls ((rd_T35 l0_0 x26_2).f0) 0 4 true _ A23.out).mono ?_); rintro e w' ⟨rfl, ⟨nd, rfl⟩⟩; refine ⟨_, rfl, ?_⟩) | (go_at_call 71; (with_reducible refine (impl_in.calls ((rd_T35 l0_0 x26_2).f1) ((rd_T35 l0_0 x26_2).f0) 8 true _ A25.out).mono ?_); rintro e w' ⟨rfl, ⟨nd, rfl⟩⟩) | (go_at_call 71; (with_reducible refine (impl_in.calls (((rd_T35 l0_0 x26_2).f2).length : Int) 1 60 t372 _ A27.out).mono ?_); rintro e w' ⟨rfl, ⟨nd, rfl⟩⟩))
     go_meet
     case rel => exact ⟨_, (!t372), dr, H', ⟨lk2 HJ1 HK2⟩, ⟨by (with_reducible repeat (first | apply Kd.S_alloc | apply Kd.S_drewN | apply Kd.S_drew)); exact Kd.S_mono (Kd.S_far (p := ⟨gb369, 2, none⟩) (Kd.S_far (p := ⟨gb369, 1, none⟩) (Kd.S_far (p := ⟨gb369, 0, none⟩) (Kd.S_types HO_4.out BK369.out (by decide)) (fun _ hk => hk.2) (.int .i64 ((rd_T35 l0_0 x26_2).f0))) (fun _ hk => hk.2) (.int .i64 ((rd_T35 l0_0 x26_2).f1))) (fun _ hk => hk.2) (.slice A368_2 ((rd_T35 l0_0 x26_2).f2).length c368_2)) (fun _ hk => trivial)⟩, ⟨by (with_reducible repeat (first | apply dN | apply dW | apply dA)); refine blk_far ?_ NB366_369.out _; (with_reducible repeat (first | apply dN | apply dW | apply dA)); refine blk_far ?_ NB366_369.out _; (with_reducible repeat (first | apply dN | apply dW | apply dA)); refine blk_far ?_ NB366_369.out _; exact bp BK366⟩, ⟨by (with_reducible repeat (first | apply dN | apply dW | apply dA)); refine blk_far ?_ NB367_369.out _; (with_reducible repeat (first | apply dN | apply dW | apply dA)); refine blk_far ?_ NB367_369.out _; (with_reducible repeat (first | apply dN | apply dW | apply dA)); refine blk_far ?_ NB367_369.out _; exact bp BK367⟩, ⟨by (with_reducible repeat (first | apply dN | apply dW | apply dA)); refine blk_put (cs := #[.int .i64 ((rd_T35 l0_0 x26_2).f0), .int .i64 ((rd_T35 l0_0 x26_2).f1), .slice none 0 0]) ?_ 2 _ rfl; (with_reducible repeat (first | apply dN | apply dW | apply dA)); refine blk_put (cs := #[.int .i64 ((rd_T35 l0_0 x26_2).f0), .int .i64 0, .slice none 0 0]) ?_ 1 _ rfl; (with_reducible repeat (first | apply dN | apply dW | apply dA)); refine blk_put (cs := #[.int .i64 0, .int .i64 0, .slice none 0 0]) ?_ 0 _ rfl; exact bp BK369⟩, ⟨bw HB⟩⟩
    have H' := am H
    clear H
    have hnb31 := NB369_366.out
    have hnc31 := NB366_369.out
    have hnb32 := NB369_367.out
    have hnc32 := NB367_369.out
    have hcz33 := bK w19 BK369
    have hfz33 := bF BK369
    go_wp2_with (first | ((with_reducible refine gate_callee (f := 71) rfl ?_); refine goesL_ (some 33) rfl rfl Try.func71 (by kernel_rfl) rfl #[.int .i64 ((rd_T35 l0_0 x26_2).f0), .int .i64 0, .int .i64 4] rfl gl ?_; (with_reducible refine (impl_in.calls ((rd_T35 l0_0 x26_2).f0) 0 4 true _ A23.out).mono ?_); rintro e w' ⟨rfl, ⟨nd, rfl⟩⟩; refine ⟨_, rfl, ?_⟩) | (go_at_call 71; (with_reducible refine (impl_in.calls ((rd_T35 l0_0 x26_2).f1) ((rd_T35 l0_0 x26_2).f0) 8 false _ A25.out).mono ?_); rintro e w' ⟨rfl, ⟨nd, rfl⟩⟩))
    go_meet
    case rel => exact ⟨_, (true), dr, H', ⟨lk2 HJ1 HK2⟩, ⟨by (with_reducible repeat (first | apply Kd.S_alloc | apply Kd.S_drewN | apply Kd.S_drew)); exact Kd.S_mono (Kd.S_far (p := ⟨gb369, 2, none⟩) (Kd.S_far (p := ⟨gb369, 1, none⟩) (Kd.S_far (p := ⟨gb369, 0, none⟩) (Kd.S_types HO_4.out BK369.out (by decide)) (fun _ hk => hk.2) (.int .i64 ((rd_T35 l0_0 x26_2).f0))) (fun _ hk => hk.2) (.int .i64 ((rd_T35 l0_0 x26_2).f1))) (fun _ hk => hk.2) (.slice A368_2 ((rd_T35 l0_0 x26_2).f2).length c368_2)) (fun _ hk => trivial)⟩, ⟨by (with_reducible repeat (first | apply dN | apply dW | apply dA)); refine blk_far ?_ NB366_369.out _; (with_reducible repeat (first | apply dN | apply dW | apply dA)); refine blk_far ?_ NB366_369.out _; (with_reducible repeat (first | apply dN | apply dW | apply dA)); refine blk_far ?_ NB366_369.out _; exact bp BK366⟩, ⟨by (with_reducible repeat (first | apply dN | apply dW | apply dA)); refine blk_far ?_ NB367_369.out _; (with_reducible repeat (first | apply dN | apply dW | apply dA)); refine blk_far ?_ NB367_369.out _; (with_reducible repeat (first | apply dN | apply dW | apply dA)); refine blk_far ?_ NB367_369.out _; exact bp BK367⟩, ⟨by (with_reducible repeat (first | apply dN | apply dW | apply dA)); refine blk_put (cs := #[.int .i64 ((rd_T35 l0_0 x26_2).f0), .int .i64 ((rd_T35 l0_0 x26_2).f1), .slice none 0 0]) ?_ 2 _ rfl; (with_reducible repeat (first | apply dN | apply dW | apply dA)); refine blk_put (cs := #[.int .i64 ((rd_T35 l0_0 x26_2).f0), .int .i64 0, .slice none 0 0]) ?_ 1 _ rfl; (with_reducible repeat (first | apply dN | apply dW | apply dA)); refine blk_put (cs := #[.int .i64 0, .int .i64 0, .slice none 0 0]) ?_ 0 _ rfl; exact bp BK369⟩, ⟨bw HB⟩⟩
   have H' := am H
   clear H
   have hnb34 := NB369_366.out
   have hnc34 := NB366_369.out
   have hnb35 := NB369_367.out
   have hnc35 := NB367_369.out
   have hcz36 := bK w19 BK369
   have hfz36 := bF BK369
   go_wp2_with (first | ((with_reducible refine gate_callee (f := 71) rfl ?_); refine goesL_ (some 33) rfl rfl Try.func71 (by kernel_rfl) rfl #[.int .i64 ((rd_T35 l0_0 x26_2).f0), .int .i64 0, .int .i64 4] rfl gl ?_; (with_reducible refine (impl_in.calls ((rd_T35 l0_0 x26_2).f0) 0 4 false _ A23.out).mono ?_); rintro e w' ⟨rfl, ⟨nd, rfl⟩⟩; refine ⟨_, rfl, ?_⟩))
   go_meet
   case rel => exact ⟨_, (true), dr, H', ⟨lk2 HJ1 HK2⟩, ⟨by (with_reducible repeat (first | apply Kd.S_alloc | apply Kd.S_drewN | apply Kd.S_drew)); exact Kd.S_mono (Kd.S_far (p := ⟨gb369, 2, none⟩) (Kd.S_far (p := ⟨gb369, 1, none⟩) (Kd.S_far (p := ⟨gb369, 0, none⟩) (Kd.S_types HO_4.out BK369.out (by decide)) (fun _ hk => hk.2) (.int .i64 ((rd_T35 l0_0 x26_2).f0))) (fun _ hk => hk.2) (.int .i64 ((rd_T35 l0_0 x26_2).f1))) (fun _ hk => hk.2) (.slice A368_2 ((rd_T35 l0_0 x26_2).f2).length c368_2)) (fun _ hk => trivial)⟩, ⟨by (with_reducible repeat (first | apply dN | apply dW | apply dA)); refine blk_far ?_ NB366_369.out _; (with_reducible repeat (first | apply dN | apply dW | apply dA)); refine blk_far ?_ NB366_369.out _; (with_reducible repeat (first | apply dN | apply dW | apply dA)); refine blk_far ?_ NB366_369.out _; exact bp BK366⟩, ⟨by (with_reducible repeat (first | apply dN | apply dW | apply dA)); refine blk_far ?_ NB367_369.out _; (with_reducible repeat (first | apply dN | apply dW | apply dA)); refine blk_far ?_ NB367_369.out _; (with_reducible repeat (first | apply dN | apply dW | apply dA)); refine blk_far ?_ NB367_369.out _; exact bp BK367⟩, ⟨by (with_reducible repeat (first | apply dN | apply dW | apply dA)); refine blk_put (cs := #[.int .i64 ((rd_T35 l0_0 x26_2).f0), .int .i64 ((rd_T35 l0_0 x26_2).f1), .slice none 0 0]) ?_ 2 _ rfl; (with_reducible repeat (first | apply dN | apply dW | apply dA)); refine blk_put (cs := #[.int .i64 ((rd_T35 l0_0 x26_2).f0), .int .i64 0, .slice none 0 0]) ?_ 1 _ rfl; (with_reducible repeat (first | apply dN | apply dW | apply dA)); refine blk_put (cs := #[.int .i64 0, .int .i64 0, .slice none 0 0]) ?_ 0 _ rfl; exact bp BK369⟩, ⟨bw HB⟩⟩
  clear HC18
  (try clear c2); (try clear p3); (try clear q3); (try clear hx3); (try clear c7); (try clear c15); (try clear c15b0); (try clear c16); (try clear c16b0); (try clear c17); (try clear c17b0); (try clear c20); (try clear c21); (try clear c24); (try clear c26); (try clear c28); (try clear c29); (try clear c31); (try clear c32); (try clear c34); (try clear c35); (try clear c36); (try clear p36); (try clear q36); (try clear hx36); (try clear hcz22); (try clear hcz30); (try clear hcz33); (try clear hcz36); (try clear hfz22); (try clear hfz30); (try clear hfz33); (try clear hfz36); (try clear hx368_0); (try clear hx368_1); (try clear hx368_2); (try clear p368); (try clear q368)
  obtain ⟨kq, x49_17, rfl, HA, HJ17, HO_4, BK366, BK367, BK369, HB⟩ := hcut
  rcases kq with _ | kj17
  ·exact absurd HA.out (by simp [impl_verify.j2])
  have H := HA.out
  clear HA
  simp only [impl_verify.j2] at H
  refine qT H ?_ ?_ <;> clear H <;> intro c37 H <;> subst c37
  ·simp only [Option.some.injEq, Prod.mk.injEq] at H
   obtain ⟨rfl, rfl, rfl, rfl⟩ := H
   have hnb38 := NB367_366.out
   have hnc38 := NB366_367.out
   have hnb39 := NB367_369.out
   have hnc39 := NB369_367.out
   have hcz40 := bK wc BK367
   have hfz40 := bF BK367
   go_wp2
   refine bodyPost_ret (results_ct rfl _ _ gb367 29 #[.int .i64 x26_2, .int .i64 0, .int .i64 1] (0, 0) _ rfl (bt BK367) Try.underlying29 rfl (by kernel_rfl)) rfl ?_
   exact ⟨_, er, by first | exact Kd.S_nil _ _ _ _ _ | exact Kd.N_nil _ _ _ _ _ | exact Kd.V_nil _ _ _ _ _ | exact Kd.Q_nil _ _ _ _ _ | exact Kd.R_nil _ _ _ _ _, bw HB⟩
  have H' := am H
  clear H
  have hnb41 := NB369_366.out
  have hnc41 := NB366_369.out
  have hnb42 := NB369_367.out
  have hnc42 := NB367_369.out
  have hcz43 := bK wc BK369
  have hfz43 := bF BK369
  go_wp2
  go_loopg [55] kj17 (fun kq v55 w' => ∃ (x55_4 : Int) (x368000_4 : Int) (x368001_4 : Int) (x368002_4 : Int), v55 = .int .i64 x55_4 ∧ Aside0 (impl_verify.l1 kq x4_2 x26_2 l0_0 (l0_0.length : Int) x26_2 ((rd_T35 l0_0 x26_2).f2) (((rd_T35 l0_0 x26_2).f2).length : Int) x55_4 l0_0 = some (r1, r2, r3, r4)) ∧ Aside0 (kq ≤ kj17) ∧ Aside0 (Kd.S (Kd.slice 2 (Kd.int .i64)) 31 w' w.heap.size (fun _ => True) u4 x4_2) ∧ Aside0 (w'.heap[gb366]? = some (.cells #[(.slice (some ad368) l0_0.length c0_0)] 25 (0, 0))) ∧ Aside0 (w'.heap[gb367]? = some (.cells #[.int .i64 x368000_4, .int .i64 x368001_4, .int .i64 x368002_4] 29 (0, 0))) ∧ Aside0 (w'.heap[gb369]? = some (.cells #[.int .i64 ((rd_T35 l0_0 x26_2).f0), .int .i64 ((rd_T35 l0_0 x26_2).f1), (.slice A368_2 ((rd_T35 l0_0 x26_2).f2).length c368_2)] 35 (0, 0))) ∧ Aside0 (Below w.heap.size w w'))
  case atStart => exact ⟨(0), (x368000_2), (x368001_2), (x368002_2), dr, H', ⟨Nat.le_refl _⟩, ⟨kS HO_4⟩, ⟨bp BK366⟩, ⟨bp BK367⟩, ⟨bp BK369⟩, ⟨bw HB⟩⟩
  clear H'
  (try clear c4); (try clear c37); (try clear c38); (try clear c39); (try clear c41); (try clear c42); (try clear hcz40); (try clear hcz43); (try clear hfz40); (try clear hfz43)
  obtain ⟨x55_4, x368000_4, x368001_4, x368002_4, rfl, HA, HK4, HO_4, BK366, BK367, BK369, HB⟩ := hrel
  rcases gk with _ | k4
  ·exact absurd HA.out (by simp [impl_verify.l1])
  have H := HA.out
  clear HA
  simp only [impl_verify.l1] at H
  refine qI H ?_ ?_ <;> clear H <;> intro c44b0 H
  ·refine iM H ?_; clear H; intro c45b0 H
   refine iM H ?_; clear H; intro c46b0 H
   refine be H ?_; clear H; intro t375 A47 H
   have HC48 := am H
   clear H
   have p373 : 0 ≤ (x55_4 : Int) := of_decide_eq_true as1
   have q373 : x55_4 < (((rd_T35 l0_0 x26_2).f2).length : Int) := of_decide_eq_true as1
   obtain ⟨ad373, e373, hx373_0, hx373_1⟩ := at_T38 HR368_2.out x55_4 p373 q373
   cases e373
   replace hx373_0 := cl HB hx373_0
   replace hx373_1 := cl HB hx373_1
   replace p373 := eq_true p373
   replace q373 := eq_true q373
   go_upto_if 64 with (first | ((with_reducible refine gate_dst (N := 8) rfl ?_); (try (refine gate_guard (by rfl) ?_; dsimp only)); refine box_event ?hg (N := 8) ?hd (cs := #[.int .i64 0, .int .i64 0]) (t := 38) ?hr ?_; (case hd => rfl); (case hg => rfl); (case hr => exact gs); intro gb374 hg w49 hbox hb; replace HO_4 := am (Kd.S_below (kS HO_4) hb); have BK374 := am (hbox); have GW374 := gw hg HB; replace HB := bs HB hb; obtain ⟨NB366_374, NB374_366, BK366⟩ := b3 hg BK366 hb; obtain ⟨NB367_374, NB374_367, BK367⟩ := b3 hg BK367 hb; obtain ⟨NB369_374, NB374_369, BK369⟩ := b3 hg BK369 hb; clear hb hbox hg; have hnb50 := NB374_366.out; have hnc50 := NB366_374.out; have hnb51 := NB374_367.out; have hnc51 := NB367_374.out; have hnb52 := NB374_369.out; have hnc52 := NB369_374.out; have hcz53 := bK w49 BK374; have hfz53 := bF BK374; have hnb54 := NB366_367.out; have hnc54 := NB367_366.out; have hnb55 := NB366_369.out; have hnc55 := NB369_366.out; have hcz56 := bK w49 BK366; have hfz56 := bF BK366) | ((with_reducible refine gk 75 rfl ?_); refine gB 75 (some 63) Try.func75 #[.agg #[.slice (some ad368) l0_0.length c0_0], .int .i64 x26_2, .agg #[.int .i64 ((rd_T38 ((rd_T35 l0_0 x26_2).f2) x55_4).f0), .int .i64 ((rd_T38 ((rd_T35 l0_0 x26_2).f2) x55_4).f1)]] (impl_InsRight.calls k4 _ _ l0_0 x26_2 ((rd_T38 ((rd_T35 l0_0 x26_2).f2) x55_4).f0) ((rd_T38 ((rd_T35 l0_0 x26_2).f2) x55_4).f1) t375 _ (Kd.C_below HR0_0.out (bw HB)) HC0_0.out A47.out) ?_; intro w57 hb; replace HO_4 := am (Kd.S_below (by (with_reducible repeat (first | apply Kd.S_alloc | apply Kd.S_drewN | apply Kd.S_drew)); exact (Kd.S_mono (Kd.S_far (p := ⟨gb374, 1, none⟩) (Kd.S_far (p := ⟨gb374, 0, none⟩) (Kd.S_types HO_4.out BK374.out (by decide)) (fun _ hk => hk.2) (.int .i64 ((rd_T38 ((rd_T35 l0_0 x26_2).f2) x55_4).f0))) (fun _ hk => hk.2) (.int .i64 ((rd_T38 ((rd_T35 l0_0 x26_2).f2) x55_4).f1))) (fun _ h_ => h_.1))) hb); replace BK366 := bb2 BK366 hb; replace BK367 := bb2 BK367 hb; replace BK369 := bb2 BK369 hb; replace BK374 := bo #[.int .i64 ((rd_T38 ((rd_T35 l0_0 x26_2).f2) x55_4).f0), .int .i64 ((rd_T38 ((rd_T35 l0_0 x26_2).f2) x55_4).f1)] BK374 hb; replace HB := bs HB hb; clear hb))
   (try simp only [Act.put, sa, sz, ss])
   have H := HC48.out
   clear HC48
   refine qT H ?_ ?_ <;> clear H <;> intro c58 H <;> subst c58
   ·have H' := am H
    clear H
    go_wp2
    go_roundg k4
    case measure => have := HJ1.out; have := HK2.out; have := HJ17.out; have := HK4.out; omega
    case rel => exact ⟨(wrap64 (x55_4 + 1)), (x368000_4), (x368001_4), (x368002_4), dr, H', ⟨by have := HJ1.out; have := HK2.out; have := HJ17.out; have := HK4.out; omega⟩, ⟨kS HO_4⟩, ⟨bp BK366⟩, ⟨bp BK367⟩, ⟨bp BK369⟩, ⟨bw HB⟩⟩
   simp only [Option.some.injEq, Prod.mk.injEq] at H
   obtain ⟨rfl, rfl, rfl, rfl⟩ := H
   have hnb59 := NB367_366.out
   have hnc59 := NB366_367.out
   have hnb60 := NB367_369.out
   have hnc60 := NB369_367.out
   have hnb61 := NB367_374.out
   have hnc61 := NB374_367.out
   have hcz62 := bK w57 BK367
   have hfz62 := bF BK367
   go_wp2
   refine bodyPost_ret (results_ct rfl _ _ gb367 29 #[.int .i64 x26_2, .int .i64 x55_4, .int .i64 1] (0, 0) _ rfl (bt BK367) Try.underlying29 rfl (by kernel_rfl)) rfl ?_
   exact ⟨_, er, by first | exact Kd.S_nil _ _ _ _ _ | exact Kd.N_nil _ _ _ _ _ | exact Kd.V_nil _ _ _ _ _ | exact Kd.Q_nil _ _ _ _ _ | exact Kd.R_nil _ _ _ _ _, bw HB⟩
  replace H := Option.bind_eq_some_iff.mp H
  obtain ⟨⟨t376, t379, t380⟩, A630, H⟩ := H
  replace H : (if t380 = 0 then (if x4_2.length < 5864062014805 then (impl_verify.l0 k4 (x4_2 ++ [t376]) l0_0 (l0_0.length : Int) (wrap64 (x26_2 + 1)) l0_0) else (none)) else (some (x26_2, t379, t380, ([] : List (List Int))))) = some (r1, r2, r3, r4) := H
  have A63 := am A630
  clear A630
  have HC64 := am H
  clear H
  have hnb65 := NB366_367.out
  have hnc65 := NB367_366.out
  have hnb66 := NB366_369.out
  have hnc66 := NB369_366.out
  have hcz67 := bK wr BK366
  have hfz67 := bF BK366
  go_upto_if 77 with (first | ((with_reducible refine gk 76 rfl ?_); refine gC 76 (some 72) Try.func76 #[.agg #[.slice (some ad368) l0_0.length c0_0], .int .i64 x26_2] ((impl_heightsOf.calls k4 _ _ l0_0 x26_2 t376 t379 t380 _ (cc (Kd.C_below HR0_0.out HB.out)) HC0_0.out A63.out).mono ?_); rintro e w68 ⟨v377, rfl, ho0, hb⟩; refine ⟨_, rfl, ?_⟩; replace HO_4 := am (Kd.S_elder' (kS HO_4) (Kd.R_base ho0) hb); have HO378 := am (Kd.R_lower ho0 (below_size (bw HB))); replace BK366 := bb BK366 hb; replace BK367 := bb BK367 hb; replace BK369 := bb BK369 hb; replace HB := bs HB hb; clear hb; (try clear ho0)))
  (try simp only [Act.put, sa, sz, ss])
  have H := HC64.out
  clear HC64
  refine qE H ?_ ?_ <;> clear H
  ·intro c69b0 c69b1 H
   (first | rw [c69b0] | (simp only [i64_w, i32_w]; rw [c69b0]) | skip)
   refine iN H ?_; clear H; intro c70 H
   have LMc70 := am c70
   clear c70
   obtain ⟨y381, hy381⟩ : ∃ y_ : List (List Int), y_ = (x4_2 ++ [t376]) := ⟨_, rfl⟩
   replace H : (impl_verify.l0 k4 y381 l0_0 (l0_0.length : Int) (wrap64 (x26_2 + 1)) l0_0) = some (r1, r2, r3, r4) := by first | (rw [hy381]; with_reducible exact H) | (have H2_ := (Option.bind_some _ _).symm.trans H; rw [hy381]; with_reducible exact H2_) | (have H2_ := (Option.bind_some _ _).symm.trans H; with_reducible exact H2_) | with_reducible exact H | (rw [hy381]; exact H) | exact H
   have Ny381 := am hy381
   clear hy381
   have H' := am H
   clear H
   obtain ⟨Ao72, co72, eo72⟩ := Kd.R_slice HO378.out
   subst eo72
   go_wp2_with (first | ((with_reducible refine gate_builtin (b := .append) (xs := #[.tmp 82, .tmp 84]) rfl ?_); (try (refine gate_guard (by rfl) ?_; dsimp only)); at_builtin; refine Kd.S_append (Kd.slice 2 (Kd.int .i64)) (w0 := w) w.heap.size rfl (.tmp 82) (.tmp 84) 60 31 (.slice none 0 0) 24 rfl Try.underlying60 info31 rfl (by decide) (by omega) u4 x4_2 t376 [.slice Ao72 t376.length co72] (fun _ => True) (fun k_ => some k_ = (.slice Ao72 t376.length co72 : Value).ownBlock) rfl rfl ?aP (fun k_ hk_ => ((Kd.R_mono (ok' := fun k_ => ((fun _ => True)) k_ ∧ some k_ ≠ (u4 : Value).ownBlock) (Kd.R_apart' (HO378.out) (Kd.S_typed HO_4.out) (by decide)) (fun k_ hk => ⟨trivial, hk.2⟩))).1 k_ hk_.symm) ?aF ?aO ?aB ?aS ?aL ?_; (case aP => exact Kd.M_row (Kd.R_mono (Kd.R_tight rfl (Kd.R_mono (ok' := fun k_ => ((fun _ => True)) k_ ∧ some k_ ≠ (u4 : Value).ownBlock) (Kd.R_apart' (HO378.out) (Kd.S_typed HO_4.out) (by decide)) (fun k_ hk => ⟨trivial, hk.2⟩))) (fun _ h_ => h_))); (case aB => exact (bw HB)); (case aF => exact (fun _ _ => trivial)); (case aO => exact (by (with_reducible repeat (first | apply Kd.S_alloc | apply Kd.S_drewN | apply Kd.S_drew)); exact Kd.S_mono HO_4.out (fun k_ hk => ⟨trivial, fun e_ => hk.2 e_⟩))); (case aS => exact (below_size (bw HB))); (case aL => have := LMc70.out; omega); intro v382 w71 ho hb hg hat; rw [← Ny381.out] at ho; replace BK366 := bg BK366 hg (Kd.S_ne HO_4.out BK366.out (by decide)); replace BK367 := bg BK367 hg (Kd.S_ne HO_4.out BK367.out (by decide)); replace BK369 := bg BK369 hg (Kd.S_ne HO_4.out BK369.out (by decide)); replace HB := am (hb); have HO383 := am (ho); clear HO_4; clear HO378; clear ho hb hg hat))
   go_roundg k4
   case measure => have := HJ1.out; have := HK2.out; have := HJ17.out; have := HK4.out; omega
   case rel => exact ⟨(y381), (wrap64 (x26_2 + 1)), (x368000_4), (x368001_4), (x368002_4), dr, H', ⟨by have := HJ1.out; have := HK2.out; have := HJ17.out; have := HK4.out; omega⟩, ⟨kS HO383⟩, ⟨bp BK366⟩, ⟨bp BK367⟩, ⟨bw HB⟩⟩
  intro c69 c69b0 c69b1 H
  (first | rw [c69b0] | (simp only [i64_w, i32_w]; rw [c69b0]) | skip)
  simp only [Option.some.injEq, Prod.mk.injEq] at H
  obtain ⟨rfl, rfl, rfl, rfl⟩ := H
  have hnb73 := NB367_366.out
  have hnc73 := NB366_367.out
  have hnb74 := NB367_369.out
  have hnc74 := NB369_367.out
  have hcz75 := bK w68 BK367
  have hfz75 := bF BK367
  go_wp2
  refine bodyPost_ret (results_ct rfl _ _ gb367 29 #[.int .i64 x26_2, .int .i64 t379, .int .i64 t380] (0, 0) _ rfl (bt BK367) Try.underlying29 rfl (by kernel_rfl)) rfl ?_
  exact ⟨_, er, by first | exact Kd.S_nil _ _ _ _ _ | exact Kd.N_nil _ _ _ _ _ | exact Kd.V_nil _ _ _ _ _ | exact Kd.Q_nil _ _ _ _ _ | exact Kd.R_nil _ _ _ _ _, bw HB⟩
 rw [if_neg c15] at H
 have c15b0 := decide_eq_false c15
 clear c15
 simp only [Option.some.injEq, Prod.mk.injEq] at H
 obtain ⟨rfl, rfl, rfl, rfl⟩ := H
 have hnb76 := NB367_366.out
 have hnc76 := NB366_367.out
 have hcz77 := bK wr BK367
 have hfz77 := bF BK367
 go_wp2
 refine bodyPost_ret (results_ct rfl _ _ gb367 29 #[.int .i64 0, .int .i64 0, .int .i64 0] (0, 0) _ rfl (bt BK367) Try.underlying29 rfl (by kernel_rfl)) rfl ?_
 exact ⟨_, er, by (with_reducible repeat (first | apply Kd.S_alloc | apply Kd.S_drewN | apply Kd.S_drew)); exact Kd.S_mono (Kd.S_far (p := ⟨gb367, 2, none⟩) (Kd.S_far (p := ⟨gb367, 1, none⟩) (Kd.S_far (p := ⟨gb367, 0, none⟩) (Kd.S_types HO_4.out BK367.out (by decide)) (fun _ hk => hk.2) (.int .i64 0)) (fun _ hk => hk.2) (.int .i64 0)) (fun _ hk => hk.2) (.int .i64 0)) (fun _ hk => trivial), bw HB⟩

def impl_Verify.f (k : Nat) (l0_0 : List (S35)) : Option (Int × Int × Int) := (impl_verify.f k l0_0).bind fun bt386 => (some (bt386.1, bt386.2.1, bt386.2.2.1))
theorem impl_Verify.mono : ∀ a0 k, LeO (impl_Verify.f k a0) (impl_Verify.f (k + 1) a0) := by
 intro a0 k
 unfold impl_Verify.f
 with_reducible repeat' first | exact impl_verify.mono .. | exact LeO.refl _ | exact LeO.none _ | refine LeO.ite ?_ ?_ | refine LeO.bind ?_ (fun _ => ?_)
theorem impl_Verify.calls (k : Nat) (A0_0 : Option Addr) (c0_0 : Nat) (l0_0 : List (S35)) (r1 : Int) (r2 : Int) (r3 : Int) (w : World) (hr0_0 : Kd.C k35 w A0_0 l0_0.length l0_0) (hc0_0 : l0_0.length ≤ c0_0) (h : impl_Verify.f k l0_0 = some (r1, r2, r3)) :
  Calls Try.prog 10 #[.agg #[.slice A0_0 l0_0.length c0_0]] w fun e w' => e = .returned (.agg #[.int .i64 r1, .int .i64 r2, .int .i64 r3]) ∧ Below w.heap.size w w' := by
 have hu25 := Try.underlying25
 have hu29 := Try.underlying29
 have HR0_0 := am hr0_0
 have HC0_0 := am hc0_0
 clear hr0_0 hc0_0
 have HB := am (Below.refl w.heap.size w)
 have H : ((impl_verify.f k l0_0).bind fun bt386 => (some (bt386.1, bt386.2.1, bt386.2.2.1))) = some (r1, r2, r3) := h
 clear h
 replace H := Option.bind_eq_some_iff.mp H
 obtain ⟨⟨t386, t387, t388, t389⟩, A20, H⟩ := H
 replace H : (some (t386, t387, t388)) = some (r1, r2, r3) := H
 have A2 := am A20
 clear A20
 simp only [Option.some.injEq, Prod.mk.injEq] at H
 obtain ⟨rfl, rfl, rfl⟩ := H
 go_enter Try.func10, Try.ntmps10
 go_wp2_with (first | ((with_reducible refine gd 1 rfl ?_); refine bX 1 #[.slice A0_0 l0_0.length c0_0] 25 HB ?_; clear HB; intro gb384 w3 hg hb BK384 GW384 HB; clear hb hg) | ((with_reducible refine gd 2 rfl ?_); refine bX 2 #[.int .i64 0, .int .i64 0, .int .i64 0] 29 HB ?_; clear HB; intro gb385 w4 hg hb BK385 GW385 HB; obtain ⟨NB384_385, NB385_384, BK384⟩ := b3 hg BK384 hb; clear hb hg; have hnb5 := NB384_385.out; have hnc5 := NB385_384.out; have hcz6 := bK w4 BK384; have hfz6 := bF BK384) | ((with_reducible refine gk 34 rfl ?_); refine gC 34 (some 7) Try.func34 #[.agg #[.slice A0_0 l0_0.length c0_0]] ((impl_verify.calls k _ _ l0_0 t386 t387 t388 t389 _ (cc (Kd.C_below HR0_0.out HB.out)) HC0_0.out A2.out).mono ?_); rintro e w7 ⟨v390, rfl, ho0, hb⟩; refine ⟨_, rfl, ?_⟩; have HO391 := am (Kd.S_lower ho0 (below_size (bw HB))); replace BK384 := bb BK384 hb; replace BK385 := bb BK385 hb; replace HB := bs HB hb; clear hb; (try clear ho0)) | ((with_reducible refine gd 3 rfl ?_); refine bX 3 #[.int .i64 0, .int .i64 0, .int .i64 0] 29 HB ?_; clear HB; intro gb392 w8 hg hb BK392 GW392 HB; replace HO391 := am (Kd.S_below (kS HO391) hb); obtain ⟨NB384_392, NB392_384, BK384⟩ := b3 hg BK384 hb; obtain ⟨NB385_392, NB392_385, BK385⟩ := b3 hg BK385 hb; clear hb hg; have hnb9 := NB392_384.out; have hnc9 := NB384_392.out; have hnb10 := NB392_385.out; have hnc10 := NB385_392.out; have hcz11 := bK w8 BK392; have hfz11 := bF BK392; have hcz12 := bK w8 BK385; have hfz12 := bF BK385))
 refine bodyPost_ret (results_cell_row rfl _ _ gb385 29 #[.int .i64 t386, .int .i64 t387, .int .i64 t388] (0, 0) _ rfl (bt BK385) Try.underlying29 rfl (by kernel_rfl)) rfl ?_
 exact ⟨er, bw HB⟩

/-- A state of type 79 at block g of W; what its slices lead to came in by w0. -/
def IsS79 (w0 W : World) (g : Nat) (f0 : ByteArray) (f1 : Int) (f2 : Int) (f3 : Int) : Prop := W.heap[g]? = some (.cells #[.string f0, .int .i64 f1, .int .i64 f2, .int .i64 f3] 79 (0, 0)) ∧ w0.heap.size ≤ g
theorem IsS79.grown {w0 W : World} {g : Nat} {f0 : ByteArray} {f1 : Int} {f2 : Int} {f3 : Int} {W1 : World} {row : Option Nat} (h : IsS79 w0 W g f0 f1 f2 f3) (hw : W.grownBy W1 row) (hne : some g ≠ row) : IsS79 w0 W1 g f0 f1 f2 f3 := by
 obtain ⟨hb, hg⟩ := h
 exact ⟨blk_grown hb hw hne, hg⟩
theorem IsS79.own_neN {w0 W : World} {g : Nat} {f0 : ByteArray} {f1 : Int} {f2 : Int} {f3 : Int} {α : Type} {d : Kd α} {e : Nat} {base : Nat} {ok : Nat → Prop} {v : Value} {xs : List α} (h : IsS79 w0 W g f0 f1 f2 f3) (ho : Kd.N d e W base ok v xs) (ht : e ≠ 79) : some g ≠ v.ownBlock := by
 obtain ⟨hb, hg⟩ := h
 exact Kd.N_ne ho hb ht
theorem IsS79.fresh {w0 W : World} {g : Nat} {f0 : ByteArray} {f1 : Int} {f2 : Int} {f3 : Int} (h : IsS79 w0 W g f0 f1 f2 f3) : ∀ k, W.heap.size ≤ k → k ≠ g := by
 obtain ⟨hb, hg⟩ := h
 exact Kd.freshB hb
theorem IsS79.kept {w0 W : World} {g : Nat} {f0 : ByteArray} {f1 : Int} {f2 : Int} {f3 : Int} {W1 : World} {S : Nat → Prop} (h : IsS79 w0 W g f0 f1 f2 f3) (hk : Kept W W1 S) (hne : ¬ S g) : IsS79 w0 W1 g f0 f1 f2 f3 := by
 obtain ⟨hb, hg⟩ := h
 exact ⟨blk_kept hb hk hne, hg⟩
theorem IsS79.below {w0 W : World} {g : Nat} {f0 : ByteArray} {f1 : Int} {f2 : Int} {f3 : Int} {W1 : World} (h : IsS79 w0 W g f0 f1 f2 f3) (hw : Below W.heap.size W W1) : IsS79 w0 W1 g f0 f1 f2 f3 := h.grown (grown_of_below hw none) (by simp)
theorem IsS79.alloc {w0 W : World} {g : Nat} {f0 : ByteArray} {f1 : Int} {f2 : Int} {f3 : Int} (h : IsS79 w0 W g f0 f1 f2 f3) (o : Obj) : IsS79 w0 (W.alloc o) g f0 f1 f2 f3 := h.below (below_alloc (Below.refl _ _) o)
theorem IsS79.drewN {w0 W : World} {g : Nat} {f0 : ByteArray} {f1 : Int} {f2 : Int} {f3 : Int} (h : IsS79 w0 W g f0 f1 f2 f3) (m : Nat) : IsS79 w0 (W.drewN m) g f0 f1 f2 f3 := h
theorem IsS79.drew {w0 W : World} {g : Nat} {f0 : ByteArray} {f1 : Int} {f2 : Int} {f3 : Int} (h : IsS79 w0 W g f0 f1 f2 f3) : IsS79 w0 W.drew g f0 f1 f2 f3 := h
theorem IsS79.at_ {w0 W : World} {g : Nat} {f0 : ByteArray} {f1 : Int} {f2 : Int} {f3 : Int} {w' : World} {m : Nat} (hq : W.drewN m = w') (h : IsS79 w0 W g f0 f1 f2 f3) : IsS79 w0 w' g f0 f1 f2 f3 := by subst hq; exact IsS79.drewN h m
theorem IsS79.apart {w0 W : World} {g : Nat} {f0 : ByteArray} {f1 : Int} {f2 : Int} {f3 : Int} {α : Type} {d : Kd α} {e : Nat} {base : Nat} {ok : Nat → Prop} {v : Value} {xs : List α} (h : IsS79 w0 W g f0 f1 f2 f3) (ho : d.R e W base ok v xs) (ht : ∀ q, q ∈ e :: d.E → q ≠ 79) : d.R e W base (fun k => ok k ∧ k ≠ g) v xs := by
 obtain ⟨hb, hg⟩ := h
 exact Kd.R_types ho hb ht
theorem IsS79.own_ne {w0 W : World} {g : Nat} {f0 : ByteArray} {f1 : Int} {f2 : Int} {f3 : Int} {α : Type} {d : Kd α} {e : Nat} {base : Nat} {ok : Nat → Prop} {v : Value} {xs : List α} (h : IsS79 w0 W g f0 f1 f2 f3) (ho : d.R e W base ok v xs) (ht : e ≠ 79) : some g ≠ v.ownBlock := by
 obtain ⟨hb, hg⟩ := h
 exact Kd.R_ne ho hb ht
theorem IsS79.apartQ {w0 W : World} {g : Nat} {f0 : ByteArray} {f1 : Int} {f2 : Int} {f3 : Int} {α : Type} {d : Kd α} {e : Nat} {base : Nat} {ok : Nat → Prop} {v : Value} {xs : List α} (h : IsS79 w0 W g f0 f1 f2 f3) (ho : d.Q e W base ok v xs) (ht : ∀ q, q ∈ e :: d.E → q ≠ 79) : d.Q e W base (fun k => ok k ∧ k ≠ g) v xs := by
 obtain ⟨hb, hg⟩ := h
 exact Kd.Q_types ho hb ht
theorem IsS79.own_neQ {w0 W : World} {g : Nat} {f0 : ByteArray} {f1 : Int} {f2 : Int} {f3 : Int} {α : Type} {d : Kd α} {e : Nat} {base : Nat} {ok : Nat → Prop} {v : Value} {xs : List α} (h : IsS79 w0 W g f0 f1 f2 f3) (ho : d.Q e W base ok v xs) (ht : e ≠ 79) : some g ≠ v.ownBlock := by
 obtain ⟨hb, hg⟩ := h
 exact Kd.Q_ne ho hb ht
theorem IsS79.apartS {w0 W : World} {g : Nat} {f0 : ByteArray} {f1 : Int} {f2 : Int} {f3 : Int} {α : Type} {d : Kd α} {e : Nat} {base : Nat} {ok : Nat → Prop} {v : Value} {xs : List α} (h : IsS79 w0 W g f0 f1 f2 f3) (ho : d.S e W base ok v xs) (ht : ∀ q, q ∈ e :: d.E → q ≠ 79) : d.S e W base (fun k => ok k ∧ k ≠ g) v xs := by
 obtain ⟨hb, hg⟩ := h
 exact Kd.S_types ho hb ht
theorem IsS79.own_neS {w0 W : World} {g : Nat} {f0 : ByteArray} {f1 : Int} {f2 : Int} {f3 : Int} {α : Type} {d : Kd α} {e : Nat} {base : Nat} {ok : Nat → Prop} {v : Value} {xs : List α} (h : IsS79 w0 W g f0 f1 f2 f3) (ho : d.S e W base ok v xs) (ht : e ≠ 79) : some g ≠ v.ownBlock := by
 obtain ⟨hb, hg⟩ := h
 exact Kd.S_ne ho hb ht
theorem IsS79.lt {w0 W : World} {g : Nat} {f0 : ByteArray} {f1 : Int} {f2 : Int} {f3 : Int} (h : IsS79 w0 W g f0 f1 f2 f3) : g < W.heap.size := by
 obtain ⟨hb, hg⟩ := h
 exact blk_lt hb
theorem IsS79.ge {w0 W : World} {g : Nat} {f0 : ByteArray} {f1 : Int} {f2 : Int} {f3 : Int} (h : IsS79 w0 W g f0 f1 f2 f3) : w0.heap.size ≤ g := by
 obtain ⟨hb, hg⟩ := h
 exact hg
theorem IsS79.ne_blk {w0 W : World} {g : Nat} {f0 : ByteArray} {f1 : Int} {f2 : Int} {f3 : Int} {a : Nat} {cs : Array Value} {t : TypeId} {fr : Nat × Nat} (h : IsS79 w0 W g f0 f1 f2 f3) (hb2 : W.heap[a]? = some (.cells cs t fr)) (ht : t ≠ 79) : g ≠ a := by
 obtain ⟨hb, hg⟩ := h
 rintro rfl
 rw [hb] at hb2
 injection hb2 with hb2
 injection hb2 with _ ht2
 exact ht ht2.symm
theorem IsS79.far {w0 W : World} {g : Nat} {f0 : ByteArray} {f1 : Int} {f2 : Int} {f3 : Int} {p : Addr} (h : IsS79 w0 W g f0 f1 f2 f3) (hne : g ≠ p.block) (u : Value) : IsS79 w0 (W.setCell p u) g f0 f1 f2 f3 := by
 obtain ⟨hb, hg⟩ := h
 exact ⟨blk_far hb hne u, hg⟩
theorem cellS79_0 {W : World} {g : Nat} {f0 : ByteArray} {f1 : Int} {f2 : Int} {f3 : Int} (h : W.heap[g]? = some (.cells #[.string f0, .int .i64 f1, .int .i64 f2, .int .i64 f3] 79 (0, 0))) : W.cell? ⟨g, 0, none⟩ = some (.string f0) := (blk_cell h 0).trans rfl
theorem IsS79.set_0 {w0 W : World} {g : Nat} {f0 : ByteArray} {f1 : Int} {f2 : Int} {f3 : Int} (h : IsS79 w0 W g f0 f1 f2 f3) (x : ByteArray) : IsS79 w0 (W.setCell ⟨g, 0, none⟩ (.string x)) g x f1 f2 f3 := by
 obtain ⟨hb, hg⟩ := h
 exact ⟨by simpa using blk_set hb 0 (.string x), hg⟩
theorem cellS79_1 {W : World} {g : Nat} {f0 : ByteArray} {f1 : Int} {f2 : Int} {f3 : Int} (h : W.heap[g]? = some (.cells #[.string f0, .int .i64 f1, .int .i64 f2, .int .i64 f3] 79 (0, 0))) : W.cell? ⟨g, 1, none⟩ = some (.int .i64 f1) := (blk_cell h 1).trans rfl
theorem IsS79.set_1 {w0 W : World} {g : Nat} {f0 : ByteArray} {f1 : Int} {f2 : Int} {f3 : Int} (h : IsS79 w0 W g f0 f1 f2 f3) (x : Int) : IsS79 w0 (W.setCell ⟨g, 1, none⟩ (.int .i64 x)) g f0 x f2 f3 := by
 obtain ⟨hb, hg⟩ := h
 exact ⟨by simpa using blk_set hb 1 (.int .i64 x), hg⟩
theorem cellS79_2 {W : World} {g : Nat} {f0 : ByteArray} {f1 : Int} {f2 : Int} {f3 : Int} (h : W.heap[g]? = some (.cells #[.string f0, .int .i64 f1, .int .i64 f2, .int .i64 f3] 79 (0, 0))) : W.cell? ⟨g, 2, none⟩ = some (.int .i64 f2) := (blk_cell h 2).trans rfl
theorem IsS79.set_2 {w0 W : World} {g : Nat} {f0 : ByteArray} {f1 : Int} {f2 : Int} {f3 : Int} (h : IsS79 w0 W g f0 f1 f2 f3) (x : Int) : IsS79 w0 (W.setCell ⟨g, 2, none⟩ (.int .i64 x)) g f0 f1 x f3 := by
 obtain ⟨hb, hg⟩ := h
 exact ⟨by simpa using blk_set hb 2 (.int .i64 x), hg⟩
theorem cellS79_3 {W : World} {g : Nat} {f0 : ByteArray} {f1 : Int} {f2 : Int} {f3 : Int} (h : W.heap[g]? = some (.cells #[.string f0, .int .i64 f1, .int .i64 f2, .int .i64 f3] 79 (0, 0))) : W.cell? ⟨g, 3, none⟩ = some (.int .i64 f3) := (blk_cell h 3).trans rfl
theorem IsS79.set_3 {w0 W : World} {g : Nat} {f0 : ByteArray} {f1 : Int} {f2 : Int} {f3 : Int} (h : IsS79 w0 W g f0 f1 f2 f3) (x : Int) : IsS79 w0 (W.setCell ⟨g, 3, none⟩ (.int .i64 x)) g f0 f1 f2 x := by
 obtain ⟨hb, hg⟩ := h
 exact ⟨by simpa using blk_set hb 3 (.int .i64 x), hg⟩
theorem IsS79.new (w0 W : World) (f0 : ByteArray) (f1 : Int) (f2 : Int) (f3 : Int) (hB : Below w0.heap.size w0 W) : IsS79 w0 (W.alloc (.cells #[.string f0, .int .i64 f1, .int .i64 f2, .int .i64 f3] 79)) W.heap.size f0 f1 f2 f3 := ⟨by simpa using heap_alloc_new W _, hB.size⟩

def impl_reader_fault.f (s0_0 : ByteArray) (s0_1 : Int) (s0_2 : Int) (s0_3 : Int) (a1 : Int) (a2 : Int) : Option (ByteArray × Int × Int × Int) := if s0_3 = 0 then (some (s0_0, s0_1, a1, a2)) else (some (s0_0, s0_1, s0_2, s0_3))
theorem impl_reader_fault.calls (g : Nat) (s0_0 : ByteArray) (s0_1 : Int) (s0_2 : Int) (s0_3 : Int) (a1 : Int) (a2 : Int) (r1 : ByteArray) (r2 : Int) (r3 : Int) (r4 : Int) (w0 w : World) (hI : IsS79 w0 w g s0_0 s0_1 s0_2 s0_3) (hB : Below w0.heap.size w0 w) (h : impl_reader_fault.f s0_0 s0_1 s0_2 s0_3 a1 a2 = some (r1, r2, r3, r4)) :
  Calls Try.prog 49 #[.pointer (some ⟨g, 0, none⟩), .int .i64 a1, .int .i64 a2] w fun e w' => e = .returned (.tuple #[]) ∧ IsS79 w0 w' g r1 r2 r3 r4 ∧ Below w0.heap.size w0 w' ∧ KeepBut w w' g none := by
 have HI0 := am hI
 have HK := am (KeepBut.refl w g none)
 have HL := am hB.size
 clear hI
 have HW0 := am hB.size
 have HB := am hB
 clear hB
 have H : (if s0_3 = 0 then (some (s0_0, s0_1, a1, a2)) else (some (s0_0, s0_1, s0_2, s0_3))) = some (r1, r2, r3, r4) := h
 clear h
 refine qE H ?_ ?_ <;> clear H
 ·intro c4b0 c4b1 H
  simp only [Option.some.injEq, Prod.mk.injEq] at H
  obtain ⟨rfl, rfl, rfl, rfl⟩ := H
  obtain ⟨HGz5, hgz5⟩ := HI0.out
  have hcz5_0 := cellS79_0 HGz5
  have hcz5_1 := cellS79_1 HGz5
  have hcz5_2 := cellS79_2 HGz5
  have hcz5_3 := cellS79_3 HGz5
  have hfz5_0 := blk_frozen HGz5 0
  have hfz5_1 := blk_frozen HGz5 1
  have hfz5_2 := blk_frozen HGz5 2
  have hfz5_3 := blk_frozen HGz5 3
  clear HGz5 hgz5
  go_enter Try.func49, Try.ntmps49
  go_wp2
  first | go_end0 | ((try simp only [Exit.inBlock, Exit.then]); refine bodyPost_ret (results_none rfl _ _ _) rfl ?_)
  exact ⟨er, by repeat (first | (with_reducible first | exact HI0.out | apply IsS79.alloc | apply IsS79.drewN | apply IsS79.drew | apply IsS79.set_0 | apply IsS79.set_1 | apply IsS79.set_2 | apply IsS79.set_3) | exact HI0.out), by repeat (first | (with_reducible first | exact HB.out | apply below_alloc | apply pw_below_drewN | apply below_drew1 | refine below_set ?_ (IsS79.ge HI0.out)) | exact HB.out), by repeat (first | (with_reducible first | exact HK.out | apply KeepBut.set_ | apply keep_drewN | apply keep_drew | apply keep_alloc) | exact HK.out)⟩
 intro c4 c4b0 c4b1 H
 simp only [Option.some.injEq, Prod.mk.injEq] at H
 obtain ⟨rfl, rfl, rfl, rfl⟩ := H
 obtain ⟨HGz6, hgz6⟩ := HI0.out
 have hcz6_0 := cellS79_0 HGz6
 have hcz6_1 := cellS79_1 HGz6
 have hcz6_2 := cellS79_2 HGz6
 have hcz6_3 := cellS79_3 HGz6
 have hfz6_0 := blk_frozen HGz6 0
 have hfz6_1 := blk_frozen HGz6 1
 have hfz6_2 := blk_frozen HGz6 2
 have hfz6_3 := blk_frozen HGz6 3
 clear HGz6 hgz6
 go_enter Try.func49, Try.ntmps49
 go_wp2
 first | go_end0 | ((try simp only [Exit.inBlock, Exit.then]); refine bodyPost_ret (results_none rfl _ _ _) rfl ?_)
 exact ⟨er, by repeat (first | (with_reducible first | exact HI0.out | apply IsS79.alloc | apply IsS79.drewN | apply IsS79.drew | apply IsS79.set_0 | apply IsS79.set_1 | apply IsS79.set_2 | apply IsS79.set_3) | exact HI0.out), by repeat (first | (with_reducible first | exact HB.out | apply below_alloc | apply pw_below_drewN | apply below_drew1 | refine below_set ?_ (IsS79.ge HI0.out)) | exact HB.out), by repeat (first | (with_reducible first | exact HK.out | apply KeepBut.set_ | apply keep_drewN | apply keep_drew | apply keep_alloc) | exact HK.out)⟩

end Go.Proofs.Ytopaefhfjioecaa.QFnFileCut
