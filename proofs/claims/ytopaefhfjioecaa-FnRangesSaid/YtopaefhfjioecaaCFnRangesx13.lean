import Derived.Test.YtopaefhfjioecaaCFnRangesx0
import Derived.Test.YtopaefhfjioecaaCFnRangesx10
import Derived.Test.YtopaefhfjioecaaCFnRangesx12
namespace Go.Proofs.Ytopaefhfjioecaa.QFnRanges
open Go.RowKit Go.Proofs.YtopaefhfjioecaaW
open PrintWords PrintLast PrintMore PrintShort
attribute [local go_sem] max2_int min2_int max_two min_two max_three min_three max_four min_four   -- for this text's walks alone
set_option linter.unusedVariables false
set_option maxHeartbeats 8000000
set_option maxRecDepth 100000
set_option linter.unusedSimpArgs false

mutual
def impl_verify.j0 : Nat → Bool → List (S35) → Option (Int × Int × Int × (List (List Int)))
 | 0, _, _ => none
 | k + 1, x21, x386000 => if x21 = true then (some (0, 0, 1, ([] : List (List Int)))) else (impl_verify.l0 k ([] : List (List Int)) x386000 (x386000.length : Int) 0 x386000)
def impl_verify.l0 : Nat → List (List Int) → List (S35) → Int → Int → List (S35) → Option (Int × Int × Int × (List (List Int)))
 | 0, _, _, _, _, _ => none
 | k + 1, x4, x24, x25, x26, x386000 => if x26 < x25 then (if 0 ≤ x26 then (if x26 < (x24.length : Int) then ((impl_in.f ((rd_T35 x24 x26).f0) 0 4).bind fun t389 => (if t389 = true then ((impl_in.f ((rd_T35 x24 x26).f1) ((rd_T35 x24 x26).f0) 8).bind fun t390 => (if t390 = true then ((impl_in.f (((rd_T35 x24 x26).f2).length : Int) 1 60).bind fun t391 => (impl_verify.j2 k x4 x26 x24 x25 x26 (!t391) x386000 ((rd_T35 x24 x26).f0) ((rd_T35 x24 x26).f1) ((rd_T35 x24 x26).f2))) else (impl_verify.j2 k x4 x26 x24 x25 x26 true x386000 ((rd_T35 x24 x26).f0) ((rd_T35 x24 x26).f1) ((rd_T35 x24 x26).f2)))) else (impl_verify.j2 k x4 x26 x24 x25 x26 true x386000 ((rd_T35 x24 x26).f0) ((rd_T35 x24 x26).f1) ((rd_T35 x24 x26).f2)))) else (none)) else (none)) else (some (0, 0, 0, x4))
def impl_verify.j2 : Nat → List (List Int) → Int → List (S35) → Int → Int → Bool → List (S35) → Int → Int → List (S38) → Option (Int × Int × Int × (List (List Int)))
 | 0, _, _, _, _, _, _, _, _, _, _ => none
 | k + 1, x4, x5, x24, x25, x26, x49, x386000, x389000, x389001, x389002 => if x49 = true then (some (x5, 0, 1, ([] : List (List Int)))) else (impl_verify.l1 k x4 x5 x24 x25 x26 x389002 (x389002.length : Int) 0 x386000)
def impl_verify.l1 : Nat → List (List Int) → Int → List (S35) → Int → Int → List (S38) → Int → Int → List (S35) → Option (Int × Int × Int × (List (List Int)))
 | 0, _, _, _, _, _, _, _, _, _ => none
 | k + 1, x4, x5, x24, x25, x26, x53, x54, x55, x386000 => if x55 < x54 then (if 0 ≤ x55 then (if x55 < (x53.length : Int) then ((impl_InsRight.f k x386000 x5 ((rd_T38 x53 x55).f0) ((rd_T38 x53 x55).f1)).bind fun t394 => (if t394 = true then (impl_verify.l1 k x4 x5 x24 x25 x26 x53 x54 (wrap64 (x55 + 1)) x386000) else (some (x5, x55, 1, ([] : List (List Int)))))) else (none)) else (none)) else ((impl_heightsOf.f k x386000 x5).bind fun bt395 => (if bt395.2.2 = 0 then (if x4.length < 5864062014805 then (impl_verify.l0 k (x4 ++ [bt395.1]) x24 x25 (wrap64 (x26 + 1)) x386000) else (none)) else (some (x5, bt395.2.1, bt395.2.2, ([] : List (List Int))))))
end
def impl_verify.f (k : Nat) (l0_0 : List (S35)) : Option (Int × Int × Int × (List (List Int))) := if (l0_0.length : Int) < 1 then (impl_verify.j0 k true l0_0) else (impl_verify.j0 k (decide ((l0_0.length : Int) > 6)) l0_0)
theorem impl_verify.mono_l : ∀ k, (∀ y0 y1, LeO (impl_verify.j0 k y0 y1) (impl_verify.j0 (k + 1) y0 y1)) ∧ (∀ y0 y1 y2 y3 y4, LeO (impl_verify.l0 k y0 y1 y2 y3 y4) (impl_verify.l0 (k + 1) y0 y1 y2 y3 y4)) ∧ (∀ y0 y1 y2 y3 y4 y5 y6 y7 y8 y9, LeO (impl_verify.j2 k y0 y1 y2 y3 y4 y5 y6 y7 y8 y9) (impl_verify.j2 (k + 1) y0 y1 y2 y3 y4 y5 y6 y7 y8 y9)) ∧ (∀ y0 y1 y2 y3 y4 y5 y6 y7 y8, LeO (impl_verify.l1 k y0 y1 y2 y3 y4 y5 y6 y7 y8) (impl_verify.l1 (k + 1) y0 y1 y2 y3 y4 y5 y6 y7 y8))
 | 0 => ⟨fun _ _ r h => by simp [impl_verify.j0] at h, fun _ _ _ _ _ r h => by simp [impl_verify.l0] at h, fun _ _ _ _ _ _ _ _ _ _ r h => by simp [impl_verify.j2] at h, fun _ _ _ _ _ _ _ _ _ r h => by simp [impl_verify.l1] at h⟩
 | k + 1 => by
  obtain ⟨ih0, ih1, ih2, ih3⟩ := impl_verify.mono_l k
  refine ⟨?_, ?_, ?_, ?_⟩
  ·intro y0 y1
   unfold impl_verify.j0
   with_reducible repeat' first | exact ih0 .. | exact ih1 .. | exact ih2 .. | exact ih3 .. | exact impl_InsRight.mono .. | exact impl_heightsOf.mono .. | exact LeO.refl _ | exact LeO.none _ | refine LeO.ite ?_ ?_ | refine LeO.bind ?_ (fun _ => ?_)
  ·intro y0 y1 y2 y3 y4
   unfold impl_verify.l0
   with_reducible repeat' first | exact ih0 .. | exact ih1 .. | exact ih2 .. | exact ih3 .. | exact impl_InsRight.mono .. | exact impl_heightsOf.mono .. | exact LeO.refl _ | exact LeO.none _ | refine LeO.ite ?_ ?_ | refine LeO.bind ?_ (fun _ => ?_)
  ·intro y0 y1 y2 y3 y4 y5 y6 y7 y8 y9
   unfold impl_verify.j2
   with_reducible repeat' first | exact ih0 .. | exact ih1 .. | exact ih2 .. | exact ih3 .. | exact impl_InsRight.mono .. | exact impl_heightsOf.mono .. | exact LeO.refl _ | exact LeO.none _ | refine LeO.ite ?_ ?_ | refine LeO.bind ?_ (fun _ => ?_)
  ·intro y0 y1 y2 y3 y4 y5 y6 y7 y8
   unfold impl_verify.l1
   with_reducible repeat' first | exact ih0 .. | exact ih1 .. | exact ih2 .. | exact ih3 .. | exact impl_InsRight.mono .. | exact impl_heightsOf.mono .. | exact LeO.refl _ | exact LeO.none _ | refine LeO.ite ?_ ?_ | refine LeO.bind ?_ (fun _ => ?_)
theorem impl_verify.mono : ∀ a0 k, LeO (impl_verify.f k a0) (impl_verify.f (k + 1) a0) := by
 intro a0 k
 obtain ⟨ih0, ih1, ih2, ih3⟩ := impl_verify.mono_l k
 unfold impl_verify.f
 with_reducible repeat' first | exact ih0 .. | exact ih1 .. | exact ih2 .. | exact ih3 .. | exact impl_InsRight.mono .. | exact impl_heightsOf.mono .. | exact LeO.refl _ | exact LeO.none _ | refine LeO.ite ?_ ?_ | refine LeO.bind ?_ (fun _ => ?_)
theorem impl_verify.calls (k : Nat) (A0_0 : Option Addr) (c0_0 : Nat) (l0_0 : List (S35)) (r1 : Int) (r2 : Int) (r3 : Int) (r4 : List (List Int)) (w : World) (hr0_0 : Kd.C k35 w A0_0 l0_0.length l0_0) (hc0_0 : l0_0.length ≤ c0_0) (h : impl_verify.f k l0_0 = some (r1, r2, r3, r4)) :
  Calls Try.prog 34 #[.agg #[.slice A0_0 l0_0.length c0_0]] w fun e w' => ∃ v3_ : Value, e = .returned (.tuple #[.agg #[.int .i64 r1, .int .i64 r2, .int .i64 r3], v3_]) ∧ Kd.S (Kd.slice 2 (Kd.int .i64)) 31 w' w.heap.size (fun _ => True) v3_ r4 ∧ Below w.heap.size w w' := by
 have hu25 := Try.underlying25
 have hu29 := Try.underlying29
 have hu35 := Try.underlying35
 have hu38 := Try.underlying38
 have HR0_0 := am hr0_0
 have HC0_0 := am hc0_0
 clear hr0_0 hc0_0
 have HB := am (Below.refl w.heap.size w)
 have H : (if (l0_0.length : Int) < 1 then (impl_verify.j0 k true l0_0) else (impl_verify.j0 k (decide ((l0_0.length : Int) > 6)) l0_0)) = some (r1, r2, r3, r4) := h
 clear h
 have HC2 := am H
 clear H
 go_enter Try.func34, Try.ntmps34
 go_upto_region 1 with (first | ((with_reducible refine gate_dst (N := 1) rfl ?_); (try (refine gate_guard (by rfl) ?_; dsimp only)); refine box_event ?hg (N := 1) ?hd (cs := #[.slice A0_0 l0_0.length c0_0]) (t := 25) ?hr ?_; (case hd => rfl); (case hg => rfl); (case hr => exact gs); intro gb385 hg w3 hbox hb; have BK385 := am (hbox); have GW385 := gw hg HB; replace HB := bs HB hb; clear hb hbox hg) | ((with_reducible refine gate_dst (N := 2) rfl ?_); (try (refine gate_guard (by rfl) ?_; dsimp only)); refine box_event ?hg (N := 2) ?hd (cs := #[.int .i64 0, .int .i64 0, .int .i64 0]) (t := 29) ?hr ?_; (case hd => rfl); (case hg => rfl); (case hr => exact gs); intro gb386 hg w4 hbox hb; have BK386 := am (hbox); have GW386 := gw hg HB; replace HB := bs HB hb; obtain ⟨NB385_386, NB386_385, BK385⟩ := b3 hg BK385 hb; clear hb hbox hg))
 (try simp only [Act.put, sa, sz, ss])
 go_cut [21] (fun v21 wc => ∃ (kq : Nat) (x21_1 : Bool), v21 = .bool x21_1 ∧ Aside0 (impl_verify.j0 kq x21_1 l0_0 = some (r1, r2, r3, r4)) ∧ Aside0 (kq ≤ k) ∧ Aside0 (wc.heap[gb385]? = some (.cells #[(.slice A0_0 l0_0.length c0_0)] 25 (0, 0))) ∧ Aside0 (wc.heap[gb386]? = some (.cells #[.int .i64 0, .int .i64 0, .int .i64 0] 29 (0, 0))) ∧ Aside0 (Below w.heap.size w wc))
 case first =>
  have H := HC2.out
  clear HC2
  refine qI H ?_ ?_ <;> clear H <;> intro c5b0 H
  ·have c5 := of_decide_eq_true c5b0
   have c5b1 : decide (l0_0.length < 1) = true := decide_eq_true (by omega)
   clear c5
   (first | rw [c5b0] | (simp only [i64_w, i32_w]; rw [c5b0]) | skip)
   have H' := am H
   clear H
   have hnb6 := NB385_386.out
   have hnc6 := NB386_385.out
   have hcz7 := bK w4 BK385
   have hfz7 := bF BK385
   go_wp2
   go_meet
   case rel => exact ⟨_, (true), dr, H', ⟨lk0⟩, ⟨bp BK385⟩, ⟨bp BK386⟩, ⟨bw HB⟩⟩
  have c5 := of_decide_eq_false c5b0
  have c5b1 : decide (l0_0.length < 1) = false := decide_eq_false (by omega)
  clear c5
  (first | rw [c5b0] | (simp only [i64_w, i32_w]; rw [c5b0]) | skip)
  have H' := am H
  clear H
  have hnb8 := NB385_386.out
  have hnc8 := NB386_385.out
  have hcz9 := bK w4 BK385
  have hfz9 := bF BK385
  go_wp2
  go_meet
  case rel => exact ⟨_, (decide ((l0_0.length : Int) > 6)), dr, H', ⟨lk0⟩, ⟨bp BK385⟩, ⟨bp BK386⟩, ⟨bw HB⟩⟩
 clear HC2
 (try clear p2); (try clear c3); (try clear c5); (try clear c5b0); (try clear c5b1); (try clear c6); (try clear c8); (try clear hcz7); (try clear hcz9); (try clear hfz7); (try clear hfz9)
 obtain ⟨kq, x21_1, rfl, HA, HJ1, BK385, BK386, HB⟩ := hcut
 rcases kq with _ | kj1
 ·exact absurd HA.out (by simp [impl_verify.j0])
 have H := HA.out
 clear HA
 simp only [impl_verify.j0] at H
 refine qT H ?_ ?_ <;> clear H <;> intro c10 H <;> subst c10
 ·simp only [Option.some.injEq, Prod.mk.injEq] at H
  obtain ⟨rfl, rfl, rfl, rfl⟩ := H
  have hnb11 := NB386_385.out
  have hnc11 := NB385_386.out
  have hcz12 := bK wc BK386
  have hfz12 := bF BK386
  go_wp2
  refine bodyPost_ret (results_ct rfl _ _ gb386 29 #[.int .i64 0, .int .i64 0, .int .i64 1] (0, 0) _ rfl (bt BK386) Try.underlying29 rfl (by kernel_rfl)) rfl ?_
  exact ⟨_, er, by first | exact Kd.S_nil _ _ _ _ _ | exact Kd.N_nil _ _ _ _ _ | exact Kd.V_nil _ _ _ _ _ | exact Kd.Q_nil _ _ _ _ _ | exact Kd.R_nil _ _ _ _ _, bw HB⟩
 have H' := am H
 clear H
 have hnb13 := NB385_386.out
 have hnc13 := NB386_385.out
 have hcz14 := bK wc BK385
 have hfz14 := bF BK385
 go_wp2
 go_loopg [4, 26] kj1 (fun kq v4 v26 w' => ∃ (x4_2 : List (List Int)) (x26_2 : Int) (x387000_2 : Int) (x387001_2 : Int) (x387002_2 : Int), v26 = .int .i64 x26_2 ∧ Aside0 (impl_verify.l0 kq x4_2 l0_0 (l0_0.length : Int) x26_2 l0_0 = some (r1, r2, r3, r4)) ∧ Aside0 (kq ≤ kj1) ∧ Aside0 (Kd.S (Kd.slice 2 (Kd.int .i64)) 31 w' w.heap.size (fun _ => True) v4 x4_2) ∧ Aside0 (w'.heap[gb385]? = some (.cells #[(.slice A0_0 l0_0.length c0_0)] 25 (0, 0))) ∧ Aside0 (w'.heap[gb386]? = some (.cells #[.int .i64 x387000_2, .int .i64 x387001_2, .int .i64 x387002_2] 29 (0, 0))) ∧ Aside0 (Below w.heap.size w w'))
 case atStart => exact ⟨(([] : List (List Int))), (0), (0), (0), (0), dr, H', ⟨Nat.le_refl _⟩, ⟨by first | exact Kd.S_nil _ _ _ _ _ | exact Kd.N_nil _ _ _ _ _ | exact Kd.V_nil _ _ _ _ _ | exact Kd.Q_nil _ _ _ _ _ | exact Kd.R_nil _ _ _ _ _⟩, ⟨bp BK385⟩, ⟨bp BK386⟩, ⟨bw HB⟩⟩
 clear H'
 (try clear c1); (try clear c10); (try clear c11); (try clear c13); (try clear hcz12); (try clear hcz14); (try clear hfz12); (try clear hfz14)
 obtain ⟨x4_2, x26_2, x387000_2, x387001_2, x387002_2, rfl, HA, HK2, HO_4, BK385, BK386, HB⟩ := hrel
 rcases gk with _ | k2
 ·exact absurd HA.out (by simp [impl_verify.l0])
 have H := HA.out
 clear HA
 simp only [impl_verify.l0] at H
 by_cases c15 : x26_2 < (l0_0.length : Int)
 ·rw [if_pos c15] at H
  have c15b0 := decide_eq_true c15
  clear c15
  refine iN H ?_; clear H; intro c16 H
  have c16b0 := decide_eq_true c16
  clear c16
  refine iN H ?_; clear H; intro c17 H
  have c17b0 := decide_eq_true c17
  clear c17
  have HC18 := am H
  clear H
  have p387 : 0 ≤ (x26_2 : Int) := of_decide_eq_true as1
  have q387 : x26_2 < (l0_0.length : Int) := of_decide_eq_true as1
  obtain ⟨ad387, A387_2, c387_2, e387, hx387_0, hx387_1, hx387_2, hl387_2, hi387_2⟩ := at_T35 HR0_0.out x26_2 p387 q387
  cases e387
  replace hx387_0 := cl HB hx387_0
  replace hx387_1 := cl HB hx387_1
  replace hx387_2 := cl HB hx387_2
  have HR387_2 := am hi387_2
  have HC387_2 := am hl387_2
  clear hi387_2 hl387_2
  replace p387 := eq_true p387
  replace q387 := eq_true q387
  go_upto_region 7 with (first | ((with_reducible refine gate_dst (N := 6) rfl ?_); (try (refine gate_guard (by rfl) ?_; dsimp only)); refine box_event ?hg (N := 6) ?hd (cs := #[.int .i64 0, .int .i64 0, .slice none 0 0]) (t := 35) ?hr ?_; (case hd => rfl); (case hg => rfl); (case hr => exact gs); intro gb388 hg w19 hbox hb; replace HO_4 := am (Kd.S_below (kS HO_4) hb); have BK388 := am (hbox); have GW388 := gw hg HB; replace HB := bs HB hb; obtain ⟨NB385_388, NB388_385, BK385⟩ := b3 hg BK385 hb; obtain ⟨NB386_388, NB388_386, BK386⟩ := b3 hg BK386 hb; clear hb hbox hg; have hnb20 := NB388_385.out; have hnc20 := NB385_388.out; have hnb21 := NB388_386.out; have hnc21 := NB386_388.out; have hcz22 := bK w19 BK388; have hfz22 := bF BK388))
  (try simp only [Act.put, sa, sz, ss])
  go_cut [49] (fun v49 wc => ∃ (kq : Nat) (x49_17 : Bool), v49 = .bool x49_17 ∧ Aside0 (impl_verify.j2 kq x4_2 x26_2 l0_0 (l0_0.length : Int) x26_2 x49_17 l0_0 ((rd_T35 l0_0 x26_2).f0) ((rd_T35 l0_0 x26_2).f1) ((rd_T35 l0_0 x26_2).f2) = some (r1, r2, r3, r4)) ∧ Aside0 (kq ≤ k2) ∧ Aside0 (Kd.S (Kd.slice 2 (Kd.int .i64)) 31 wc w.heap.size (fun _ => True) u4 x4_2) ∧ Aside0 (wc.heap[gb385]? = some (.cells #[(.slice (some ad387) l0_0.length c0_0)] 25 (0, 0))) ∧ Aside0 (wc.heap[gb386]? = some (.cells #[.int .i64 x387000_2, .int .i64 x387001_2, .int .i64 x387002_2] 29 (0, 0))) ∧ Aside0 (wc.heap[gb388]? = some (.cells #[.int .i64 ((rd_T35 l0_0 x26_2).f0), .int .i64 ((rd_T35 l0_0 x26_2).f1), (.slice A387_2 ((rd_T35 l0_0 x26_2).f2).length c387_2)] 35 (0, 0))) ∧ Aside0 (Below w.heap.size w wc))
  case first =>
   have H := HC18.out
   clear HC18
   refine be H ?_; clear H; intro t389 A23 H
   refine qT H ?_ ?_ <;> clear H <;> intro c24 H <;> subst c24
   ·refine be H ?_; clear H; intro t390 A25 H
    refine qT H ?_ ?_ <;> clear H <;> intro c26 H <;> subst c26
    ·refine be H ?_; clear H; intro t391 A27 H
     have H' := am H
     clear H
     have hnb28 := NB388_385.out
     have hnc28 := NB385_388.out
     have hnb29 := NB388_386.out
     have hnc29 := NB386_388.out
     have hcz30 := bK w19 BK388
     have hfz30 := bF BK388
     go_wp2_with (first | ((with_reducible refine gate_callee (f := 71) rfl ?_); refine goesL_ (some 33) rfl rfl Try.func71 (by kernel_rfl) rfl #[.int .i64 ((rd_T35 l0_0 x26_2).f0), .int .i64 0, .int .i64 4] rfl gl ?_; (with_reducible refine (impl_in.calls ((rd_T35 l0_0 x26_2).f0) 0 4 true _ A23.out).mono ?_); rintro e w' ⟨rfl, ⟨nd, rfl⟩⟩; refine ⟨_, rfl, ?_⟩) | (go_at_call 71; (with_reducible refine (impl_in.calls ((rd_T35 l0_0 x26_2).f1) ((rd_T35 l0_0 x26_2).f0) 8 true _ A25.out).mono ?_); rintro e w' ⟨rfl, ⟨nd, rfl⟩⟩) | (go_at_call 71; (with_reducible refine (impl_in.calls (((rd_T35 l0_0 x26_2).f2).length : Int) 1 60 t391 _ A27.out).mono ?_); rintro e w' ⟨rfl, ⟨nd, rfl⟩⟩))
     go_meet
     case rel => exact ⟨_, (!t391), dr, H', ⟨lk2 HJ1 HK2⟩, ⟨by (with_reducible repeat (first | apply Kd.S_alloc | apply Kd.S_drewN | apply Kd.S_drew)); exact Kd.S_mono (Kd.S_far (p := ⟨gb388, 2, none⟩) (Kd.S_far (p := ⟨gb388, 1, none⟩) (Kd.S_far (p := ⟨gb388, 0, none⟩) (Kd.S_types HO_4.out BK388.out (by decide)) (fun _ hk => hk.2) (.int .i64 ((rd_T35 l0_0 x26_2).f0))) (fun _ hk => hk.2) (.int .i64 ((rd_T35 l0_0 x26_2).f1))) (fun _ hk => hk.2) (.slice A387_2 ((rd_T35 l0_0 x26_2).f2).length c387_2)) (fun _ hk => trivial)⟩, ⟨by (with_reducible repeat (first | apply dN | apply dW | apply dA)); refine blk_far ?_ NB385_388.out _; (with_reducible repeat (first | apply dN | apply dW | apply dA)); refine blk_far ?_ NB385_388.out _; (with_reducible repeat (first | apply dN | apply dW | apply dA)); refine blk_far ?_ NB385_388.out _; exact bp BK385⟩, ⟨by (with_reducible repeat (first | apply dN | apply dW | apply dA)); refine blk_far ?_ NB386_388.out _; (with_reducible repeat (first | apply dN | apply dW | apply dA)); refine blk_far ?_ NB386_388.out _; (with_reducible repeat (first | apply dN | apply dW | apply dA)); refine blk_far ?_ NB386_388.out _; exact bp BK386⟩, ⟨by (with_reducible repeat (first | apply dN | apply dW | apply dA)); refine blk_put (cs := #[.int .i64 ((rd_T35 l0_0 x26_2).f0), .int .i64 ((rd_T35 l0_0 x26_2).f1), .slice none 0 0]) ?_ 2 _ rfl; (with_reducible repeat (first | apply dN | apply dW | apply dA)); refine blk_put (cs := #[.int .i64 ((rd_T35 l0_0 x26_2).f0), .int .i64 0, .slice none 0 0]) ?_ 1 _ rfl; (with_reducible repeat (first | apply dN | apply dW | apply dA)); refine blk_put (cs := #[.int .i64 0, .int .i64 0, .slice none 0 0]) ?_ 0 _ rfl; exact bp BK388⟩, ⟨bw HB⟩⟩
    have H' := am H
    clear H
    have hnb31 := NB388_385.out
    have hnc31 := NB385_388.out
    have hnb32 := NB388_386.out
    have hnc32 := NB386_388.out
    have hcz33 := bK w19 BK388
    have hfz33 := bF BK388
    go_wp2_with (first | ((with_reducible refine gate_callee (f := 71) rfl ?_); refine goesL_ (some 33) rfl rfl Try.func71 (by kernel_rfl) rfl #[.int .i64 ((rd_T35 l0_0 x26_2).f0), .int .i64 0, .int .i64 4] rfl gl ?_; (with_reducible refine (impl_in.calls ((rd_T35 l0_0 x26_2).f0) 0 4 true _ A23.out).mono ?_); rintro e w' ⟨rfl, ⟨nd, rfl⟩⟩; refine ⟨_, rfl, ?_⟩) | (go_at_call 71; (with_reducible refine (impl_in.calls ((rd_T35 l0_0 x26_2).f1) ((rd_T35 l0_0 x26_2).f0) 8 false _ A25.out).mono ?_); rintro e w' ⟨rfl, ⟨nd, rfl⟩⟩))
    go_meet
    case rel => exact ⟨_, (true), dr, H', ⟨lk2 HJ1 HK2⟩, ⟨by (with_reducible repeat (first | apply Kd.S_alloc | apply Kd.S_drewN | apply Kd.S_drew)); exact Kd.S_mono (Kd.S_far (p := ⟨gb388, 2, none⟩) (Kd.S_far (p := ⟨gb388, 1, none⟩) (Kd.S_far (p := ⟨gb388, 0, none⟩) (Kd.S_types HO_4.out BK388.out (by decide)) (fun _ hk => hk.2) (.int .i64 ((rd_T35 l0_0 x26_2).f0))) (fun _ hk => hk.2) (.int .i64 ((rd_T35 l0_0 x26_2).f1))) (fun _ hk => hk.2) (.slice A387_2 ((rd_T35 l0_0 x26_2).f2).length c387_2)) (fun _ hk => trivial)⟩, ⟨by (with_reducible repeat (first | apply dN | apply dW | apply dA)); refine blk_far ?_ NB385_388.out _; (with_reducible repeat (first | apply dN | apply dW | apply dA)); refine blk_far ?_ NB385_388.out _; (with_reducible repeat (first | apply dN | apply dW | apply dA)); refine blk_far ?_ NB385_388.out _; exact bp BK385⟩, ⟨by (with_reducible repeat (first | apply dN | apply dW | apply dA)); refine blk_far ?_ NB386_388.out _; (with_reducible repeat (first | apply dN | apply dW | apply dA)); refine blk_far ?_ NB386_388.out _; (with_reducible repeat (first | apply dN | apply dW | apply dA)); refine blk_far ?_ NB386_388.out _; exact bp BK386⟩, ⟨by (with_reducible repeat (first | apply dN | apply dW | apply dA)); refine blk_put (cs := #[.int .i64 ((rd_T35 l0_0 x26_2).f0), .int .i64 ((rd_T35 l0_0 x26_2).f1), .slice none 0 0]) ?_ 2 _ rfl; (with_reducible repeat (first | apply dN | apply dW | apply dA)); refine blk_put (cs := #[.int .i64 ((rd_T35 l0_0 x26_2).f0), .int .i64 0, .slice none 0 0]) ?_ 1 _ rfl; (with_reducible repeat (first | apply dN | apply dW | apply dA)); refine blk_put (cs := #[.int .i64 0, .int .i64 0, .slice none 0 0]) ?_ 0 _ rfl; exact bp BK388⟩, ⟨bw HB⟩⟩
   have H' := am H
   clear H
   have hnb34 := NB388_385.out
   have hnc34 := NB385_388.out
   have hnb35 := NB388_386.out
   have hnc35 := NB386_388.out
   have hcz36 := bK w19 BK388
   have hfz36 := bF BK388
   go_wp2_with (first | ((with_reducible refine gate_callee (f := 71) rfl ?_); refine goesL_ (some 33) rfl rfl Try.func71 (by kernel_rfl) rfl #[.int .i64 ((rd_T35 l0_0 x26_2).f0), .int .i64 0, .int .i64 4] rfl gl ?_; (with_reducible refine (impl_in.calls ((rd_T35 l0_0 x26_2).f0) 0 4 false _ A23.out).mono ?_); rintro e w' ⟨rfl, ⟨nd, rfl⟩⟩; refine ⟨_, rfl, ?_⟩))
   go_meet
   case rel => exact ⟨_, (true), dr, H', ⟨lk2 HJ1 HK2⟩, ⟨by (with_reducible repeat (first | apply Kd.S_alloc | apply Kd.S_drewN | apply Kd.S_drew)); exact Kd.S_mono (Kd.S_far (p := ⟨gb388, 2, none⟩) (Kd.S_far (p := ⟨gb388, 1, none⟩) (Kd.S_far (p := ⟨gb388, 0, none⟩) (Kd.S_types HO_4.out BK388.out (by decide)) (fun _ hk => hk.2) (.int .i64 ((rd_T35 l0_0 x26_2).f0))) (fun _ hk => hk.2) (.int .i64 ((rd_T35 l0_0 x26_2).f1))) (fun _ hk => hk.2) (.slice A387_2 ((rd_T35 l0_0 x26_2).f2).length c387_2)) (fun _ hk => trivial)⟩, ⟨by (with_reducible repeat (first | apply dN | apply dW | apply dA)); refine blk_far ?_ NB385_388.out _; (with_reducible repeat (first | apply dN | apply dW | apply dA)); refine blk_far ?_ NB385_388.out _; (with_reducible repeat (first | apply dN | apply dW | apply dA)); refine blk_far ?_ NB385_388.out _; exact bp BK385⟩, ⟨by (with_reducible repeat (first | apply dN | apply dW | apply dA)); refine blk_far ?_ NB386_388.out _; (with_reducible repeat (first | apply dN | apply dW | apply dA)); refine blk_far ?_ NB386_388.out _; (with_reducible repeat (first | apply dN | apply dW | apply dA)); refine blk_far ?_ NB386_388.out _; exact bp BK386⟩, ⟨by (with_reducible repeat (first | apply dN | apply dW | apply dA)); refine blk_put (cs := #[.int .i64 ((rd_T35 l0_0 x26_2).f0), .int .i64 ((rd_T35 l0_0 x26_2).f1), .slice none 0 0]) ?_ 2 _ rfl; (with_reducible repeat (first | apply dN | apply dW | apply dA)); refine blk_put (cs := #[.int .i64 ((rd_T35 l0_0 x26_2).f0), .int .i64 0, .slice none 0 0]) ?_ 1 _ rfl; (with_reducible repeat (first | apply dN | apply dW | apply dA)); refine blk_put (cs := #[.int .i64 0, .int .i64 0, .slice none 0 0]) ?_ 0 _ rfl; exact bp BK388⟩, ⟨bw HB⟩⟩
  clear HC18
  (try clear c2); (try clear p3); (try clear q3); (try clear hx3); (try clear c7); (try clear c15); (try clear c15b0); (try clear c16); (try clear c16b0); (try clear c17); (try clear c17b0); (try clear c20); (try clear c21); (try clear c24); (try clear c26); (try clear c28); (try clear c29); (try clear c31); (try clear c32); (try clear c34); (try clear c35); (try clear hcz22); (try clear hcz30); (try clear hcz33); (try clear hcz36); (try clear hfz22); (try clear hfz30); (try clear hfz33); (try clear hfz36); (try clear hx387_0); (try clear hx387_1); (try clear hx387_2); (try clear p387); (try clear q387)
  obtain ⟨kq, x49_17, rfl, HA, HJ17, HO_4, BK385, BK386, BK388, HB⟩ := hcut
  rcases kq with _ | kj17
  ·exact absurd HA.out (by simp [impl_verify.j2])
  have H := HA.out
  clear HA
  simp only [impl_verify.j2] at H
  refine qT H ?_ ?_ <;> clear H <;> intro c37 H <;> subst c37
  ·simp only [Option.some.injEq, Prod.mk.injEq] at H
   obtain ⟨rfl, rfl, rfl, rfl⟩ := H
   have hnb38 := NB386_385.out
   have hnc38 := NB385_386.out
   have hnb39 := NB386_388.out
   have hnc39 := NB388_386.out
   have hcz40 := bK wc BK386
   have hfz40 := bF BK386
   go_wp2
   refine bodyPost_ret (results_ct rfl _ _ gb386 29 #[.int .i64 x26_2, .int .i64 0, .int .i64 1] (0, 0) _ rfl (bt BK386) Try.underlying29 rfl (by kernel_rfl)) rfl ?_
   exact ⟨_, er, by first | exact Kd.S_nil _ _ _ _ _ | exact Kd.N_nil _ _ _ _ _ | exact Kd.V_nil _ _ _ _ _ | exact Kd.Q_nil _ _ _ _ _ | exact Kd.R_nil _ _ _ _ _, bw HB⟩
  have H' := am H
  clear H
  have hnb41 := NB388_385.out
  have hnc41 := NB385_388.out
  have hnb42 := NB388_386.out
  have hnc42 := NB386_388.out
  have hcz43 := bK wc BK388
  have hfz43 := bF BK388
  go_wp2
  go_loopg [55] kj17 (fun kq v55 w' => ∃ (x55_4 : Int) (x387000_4 : Int) (x387001_4 : Int) (x387002_4 : Int), v55 = .int .i64 x55_4 ∧ Aside0 (impl_verify.l1 kq x4_2 x26_2 l0_0 (l0_0.length : Int) x26_2 ((rd_T35 l0_0 x26_2).f2) (((rd_T35 l0_0 x26_2).f2).length : Int) x55_4 l0_0 = some (r1, r2, r3, r4)) ∧ Aside0 (kq ≤ kj17) ∧ Aside0 (Kd.S (Kd.slice 2 (Kd.int .i64)) 31 w' w.heap.size (fun _ => True) u4 x4_2) ∧ Aside0 (w'.heap[gb385]? = some (.cells #[(.slice (some ad387) l0_0.length c0_0)] 25 (0, 0))) ∧ Aside0 (w'.heap[gb386]? = some (.cells #[.int .i64 x387000_4, .int .i64 x387001_4, .int .i64 x387002_4] 29 (0, 0))) ∧ Aside0 (w'.heap[gb388]? = some (.cells #[.int .i64 ((rd_T35 l0_0 x26_2).f0), .int .i64 ((rd_T35 l0_0 x26_2).f1), (.slice A387_2 ((rd_T35 l0_0 x26_2).f2).length c387_2)] 35 (0, 0))) ∧ Aside0 (Below w.heap.size w w'))
  case atStart => exact ⟨(0), (x387000_2), (x387001_2), (x387002_2), dr, H', ⟨Nat.le_refl _⟩, ⟨kS HO_4⟩, ⟨bp BK385⟩, ⟨bp BK386⟩, ⟨bp BK388⟩, ⟨bw HB⟩⟩
  clear H'
  (try clear c4); (try clear c37); (try clear c38); (try clear p38); (try clear q38); (try clear hx38); (try clear c39); (try clear c41); (try clear c42); (try clear hcz40); (try clear hcz43); (try clear hfz40); (try clear hfz43)
  obtain ⟨x55_4, x387000_4, x387001_4, x387002_4, rfl, HA, HK4, HO_4, BK385, BK386, BK388, HB⟩ := hrel
  rcases gk with _ | k4
  ·exact absurd HA.out (by simp [impl_verify.l1])
  have H := HA.out
  clear HA
  simp only [impl_verify.l1] at H
  refine qI H ?_ ?_ <;> clear H <;> intro c44b0 H
  ·refine iM H ?_; clear H; intro c45b0 H
   refine iM H ?_; clear H; intro c46b0 H
   refine be H ?_; clear H; intro t394 A47 H
   have HC48 := am H
   clear H
   have p392 : 0 ≤ (x55_4 : Int) := of_decide_eq_true as1
   have q392 : x55_4 < (((rd_T35 l0_0 x26_2).f2).length : Int) := of_decide_eq_true as1
   obtain ⟨ad392, e392, hx392_0, hx392_1⟩ := at_T38 HR387_2.out x55_4 p392 q392
   cases e392
   replace hx392_0 := cl HB hx392_0
   replace hx392_1 := cl HB hx392_1
   replace p392 := eq_true p392
   replace q392 := eq_true q392
   go_upto_if 64 with (first | ((with_reducible refine gate_dst (N := 8) rfl ?_); (try (refine gate_guard (by rfl) ?_; dsimp only)); refine box_event ?hg (N := 8) ?hd (cs := #[.int .i64 0, .int .i64 0]) (t := 38) ?hr ?_; (case hd => rfl); (case hg => rfl); (case hr => exact gs); intro gb393 hg w49 hbox hb; replace HO_4 := am (Kd.S_below (kS HO_4) hb); have BK393 := am (hbox); have GW393 := gw hg HB; replace HB := bs HB hb; obtain ⟨NB385_393, NB393_385, BK385⟩ := b3 hg BK385 hb; obtain ⟨NB386_393, NB393_386, BK386⟩ := b3 hg BK386 hb; obtain ⟨NB388_393, NB393_388, BK388⟩ := b3 hg BK388 hb; clear hb hbox hg; have hnb50 := NB393_385.out; have hnc50 := NB385_393.out; have hnb51 := NB393_386.out; have hnc51 := NB386_393.out; have hnb52 := NB393_388.out; have hnc52 := NB388_393.out; have hcz53 := bK w49 BK393; have hfz53 := bF BK393; have hnb54 := NB385_386.out; have hnc54 := NB386_385.out; have hnb55 := NB385_388.out; have hnc55 := NB388_385.out; have hcz56 := bK w49 BK385; have hfz56 := bF BK385) | ((with_reducible refine gk 75 rfl ?_); refine gB 75 (some 63) Try.func75 #[.agg #[.slice (some ad387) l0_0.length c0_0], .int .i64 x26_2, .agg #[.int .i64 ((rd_T38 ((rd_T35 l0_0 x26_2).f2) x55_4).f0), .int .i64 ((rd_T38 ((rd_T35 l0_0 x26_2).f2) x55_4).f1)]] (impl_InsRight.calls k4 _ _ l0_0 x26_2 ((rd_T38 ((rd_T35 l0_0 x26_2).f2) x55_4).f0) ((rd_T38 ((rd_T35 l0_0 x26_2).f2) x55_4).f1) t394 _ (Kd.C_below HR0_0.out (bw HB)) HC0_0.out A47.out) ?_; intro w57 hb; replace HO_4 := am (Kd.S_below (by (with_reducible repeat (first | apply Kd.S_alloc | apply Kd.S_drewN | apply Kd.S_drew)); exact (Kd.S_mono (Kd.S_far (p := ⟨gb393, 1, none⟩) (Kd.S_far (p := ⟨gb393, 0, none⟩) (Kd.S_types HO_4.out BK393.out (by decide)) (fun _ hk => hk.2) (.int .i64 ((rd_T38 ((rd_T35 l0_0 x26_2).f2) x55_4).f0))) (fun _ hk => hk.2) (.int .i64 ((rd_T38 ((rd_T35 l0_0 x26_2).f2) x55_4).f1))) (fun _ h_ => h_.1))) hb); replace BK385 := bb2 BK385 hb; replace BK386 := bb2 BK386 hb; replace BK388 := bb2 BK388 hb; replace BK393 := bo #[.int .i64 ((rd_T38 ((rd_T35 l0_0 x26_2).f2) x55_4).f0), .int .i64 ((rd_T38 ((rd_T35 l0_0 x26_2).f2) x55_4).f1)] BK393 hb; replace HB := bs HB hb; clear hb))
   (try simp only [Act.put, sa, sz, ss])
   have H := HC48.out
   clear HC48
   refine qT H ?_ ?_ <;> clear H <;> intro c58 H <;> subst c58
   ·have H' := am H
    clear H
    go_wp2
    go_roundg k4
    case measure => have := HJ1.out; have := HK2.out; have := HJ17.out; have := HK4.out; omega
    case rel => exact ⟨(wrap64 (x55_4 + 1)), (x387000_4), (x387001_4), (x387002_4), dr, H', ⟨by have := HJ1.out; have := HK2.out; have := HJ17.out; have := HK4.out; omega⟩, ⟨kS HO_4⟩, ⟨bp BK385⟩, ⟨bp BK386⟩, ⟨bp BK388⟩, ⟨bw HB⟩⟩
   simp only [Option.some.injEq, Prod.mk.injEq] at H
   obtain ⟨rfl, rfl, rfl, rfl⟩ := H
   have hnb59 := NB386_385.out
   have hnc59 := NB385_386.out
   have hnb60 := NB386_388.out
   have hnc60 := NB388_386.out
   have hnb61 := NB386_393.out
   have hnc61 := NB393_386.out
   have hcz62 := bK w57 BK386
   have hfz62 := bF BK386
   go_wp2
   refine bodyPost_ret (results_ct rfl _ _ gb386 29 #[.int .i64 x26_2, .int .i64 x55_4, .int .i64 1] (0, 0) _ rfl (bt BK386) Try.underlying29 rfl (by kernel_rfl)) rfl ?_
   exact ⟨_, er, by first | exact Kd.S_nil _ _ _ _ _ | exact Kd.N_nil _ _ _ _ _ | exact Kd.V_nil _ _ _ _ _ | exact Kd.Q_nil _ _ _ _ _ | exact Kd.R_nil _ _ _ _ _, bw HB⟩
  replace H := Option.bind_eq_some_iff.mp H
  obtain ⟨⟨t395, t398, t399⟩, A630, H⟩ := H
  replace H : (if t399 = 0 then (if x4_2.length < 5864062014805 then (impl_verify.l0 k4 (x4_2 ++ [t395]) l0_0 (l0_0.length : Int) (wrap64 (x26_2 + 1)) l0_0) else (none)) else (some (x26_2, t398, t399, ([] : List (List Int))))) = some (r1, r2, r3, r4) := H
  have A63 := am A630
  clear A630
  have HC64 := am H
  clear H
  have hnb65 := NB385_386.out
  have hnc65 := NB386_385.out
  have hnb66 := NB385_388.out
  have hnc66 := NB388_385.out
  have hcz67 := bK wr BK385
  have hfz67 := bF BK385
  go_upto_if 77 with (first | ((with_reducible refine gk 76 rfl ?_); refine gC 76 (some 72) Try.func76 #[.agg #[.slice (some ad387) l0_0.length c0_0], .int .i64 x26_2] ((impl_heightsOf.calls k4 _ _ l0_0 x26_2 t395 t398 t399 _ (cc (Kd.C_below HR0_0.out HB.out)) HC0_0.out A63.out).mono ?_); rintro e w68 ⟨v396, rfl, ho0, hb⟩; refine ⟨_, rfl, ?_⟩; replace HO_4 := am (Kd.S_elder' (kS HO_4) (Kd.R_base ho0) hb); have HO397 := am (Kd.R_lower ho0 (below_size (bw HB))); replace BK385 := bb BK385 hb; replace BK386 := bb BK386 hb; replace BK388 := bb BK388 hb; replace HB := bs HB hb; clear hb; (try clear ho0)))
  (try simp only [Act.put, sa, sz, ss])
  have H := HC64.out
  clear HC64
  refine qE H ?_ ?_ <;> clear H
  ·intro c69b0 c69b1 H
   (first | rw [c69b0] | (simp only [i64_w, i32_w]; rw [c69b0]) | skip)
   refine iN H ?_; clear H; intro c70 H
   have LMc70 := am c70
   clear c70
   obtain ⟨y400, hy400⟩ : ∃ y_ : List (List Int), y_ = (x4_2 ++ [t395]) := ⟨_, rfl⟩
   replace H : (impl_verify.l0 k4 y400 l0_0 (l0_0.length : Int) (wrap64 (x26_2 + 1)) l0_0) = some (r1, r2, r3, r4) := by first | (rw [hy400]; with_reducible exact H) | (have H2_ := (Option.bind_some _ _).symm.trans H; rw [hy400]; with_reducible exact H2_) | (have H2_ := (Option.bind_some _ _).symm.trans H; with_reducible exact H2_) | with_reducible exact H | (rw [hy400]; exact H) | exact H
   have Ny400 := am hy400
   clear hy400
   have H' := am H
   clear H
   obtain ⟨Ao72, co72, eo72⟩ := Kd.R_slice HO397.out
   subst eo72
   go_wp2_with (first | ((with_reducible refine gate_builtin (b := .append) (xs := #[.tmp 82, .tmp 84]) rfl ?_); (try (refine gate_guard (by rfl) ?_; dsimp only)); at_builtin; refine Kd.S_append (Kd.slice 2 (Kd.int .i64)) (w0 := w) w.heap.size rfl (.tmp 82) (.tmp 84) 60 31 (.slice none 0 0) 24 rfl Try.underlying60 info31 rfl (by decide) (by omega) u4 x4_2 t395 [.slice Ao72 t395.length co72] (fun _ => True) (fun k_ => some k_ = (.slice Ao72 t395.length co72 : Value).ownBlock) rfl rfl ?aP (fun k_ hk_ => ((Kd.R_mono (ok' := fun k_ => ((fun _ => True)) k_ ∧ some k_ ≠ (u4 : Value).ownBlock) (Kd.R_apart' (HO397.out) (Kd.S_typed HO_4.out) (by decide)) (fun k_ hk => ⟨trivial, hk.2⟩))).1 k_ hk_.symm) ?aF ?aO ?aB ?aS ?aL ?_; (case aP => exact Kd.M_row (Kd.R_mono (Kd.R_tight rfl (Kd.R_mono (ok' := fun k_ => ((fun _ => True)) k_ ∧ some k_ ≠ (u4 : Value).ownBlock) (Kd.R_apart' (HO397.out) (Kd.S_typed HO_4.out) (by decide)) (fun k_ hk => ⟨trivial, hk.2⟩))) (fun _ h_ => h_))); (case aB => exact (bw HB)); (case aF => exact (fun _ _ => trivial)); (case aO => exact (by (with_reducible repeat (first | apply Kd.S_alloc | apply Kd.S_drewN | apply Kd.S_drew)); exact Kd.S_mono HO_4.out (fun k_ hk => ⟨trivial, fun e_ => hk.2 e_⟩))); (case aS => exact (below_size (bw HB))); (case aL => have := LMc70.out; omega); intro v401 w71 ho hb hg hat; rw [← Ny400.out] at ho; replace BK385 := bg BK385 hg (Kd.S_ne HO_4.out BK385.out (by decide)); replace BK386 := bg BK386 hg (Kd.S_ne HO_4.out BK386.out (by decide)); replace BK388 := bg BK388 hg (Kd.S_ne HO_4.out BK388.out (by decide)); replace HB := am (hb); have HO402 := am (ho); clear HO_4; clear HO397; clear ho hb hg hat))
   go_roundg k4
   case measure => have := HJ1.out; have := HK2.out; have := HJ17.out; have := HK4.out; omega
   case rel => exact ⟨(y400), (wrap64 (x26_2 + 1)), (x387000_4), (x387001_4), (x387002_4), dr, H', ⟨by have := HJ1.out; have := HK2.out; have := HJ17.out; have := HK4.out; omega⟩, ⟨kS HO402⟩, ⟨bp BK385⟩, ⟨bp BK386⟩, ⟨bw HB⟩⟩
  intro c69 c69b0 c69b1 H
  (first | rw [c69b0] | (simp only [i64_w, i32_w]; rw [c69b0]) | skip)
  simp only [Option.some.injEq, Prod.mk.injEq] at H
  obtain ⟨rfl, rfl, rfl, rfl⟩ := H
  have hnb73 := NB386_385.out
  have hnc73 := NB385_386.out
  have hnb74 := NB386_388.out
  have hnc74 := NB388_386.out
  have hcz75 := bK w68 BK386
  have hfz75 := bF BK386
  go_wp2
  refine bodyPost_ret (results_ct rfl _ _ gb386 29 #[.int .i64 x26_2, .int .i64 t398, .int .i64 t399] (0, 0) _ rfl (bt BK386) Try.underlying29 rfl (by kernel_rfl)) rfl ?_
  exact ⟨_, er, by first | exact Kd.S_nil _ _ _ _ _ | exact Kd.N_nil _ _ _ _ _ | exact Kd.V_nil _ _ _ _ _ | exact Kd.Q_nil _ _ _ _ _ | exact Kd.R_nil _ _ _ _ _, bw HB⟩
 rw [if_neg c15] at H
 have c15b0 := decide_eq_false c15
 clear c15
 simp only [Option.some.injEq, Prod.mk.injEq] at H
 obtain ⟨rfl, rfl, rfl, rfl⟩ := H
 have hnb76 := NB386_385.out
 have hnc76 := NB385_386.out
 have hcz77 := bK wr BK386
 have hfz77 := bF BK386
 go_wp2
 refine bodyPost_ret (results_ct rfl _ _ gb386 29 #[.int .i64 0, .int .i64 0, .int .i64 0] (0, 0) _ rfl (bt BK386) Try.underlying29 rfl (by kernel_rfl)) rfl ?_
 exact ⟨_, er, by (with_reducible repeat (first | apply Kd.S_alloc | apply Kd.S_drewN | apply Kd.S_drew)); exact Kd.S_mono (Kd.S_far (p := ⟨gb386, 2, none⟩) (Kd.S_far (p := ⟨gb386, 1, none⟩) (Kd.S_far (p := ⟨gb386, 0, none⟩) (Kd.S_types HO_4.out BK386.out (by decide)) (fun _ hk => hk.2) (.int .i64 0)) (fun _ hk => hk.2) (.int .i64 0)) (fun _ hk => hk.2) (.int .i64 0)) (fun _ hk => trivial), bw HB⟩

def impl_known.f (k : Nat) (l0_0 : List (S35)) : Option ((List (S35)) × (List (List Int)) × Bool) := (impl_verify.f k l0_0).bind fun bt404 => (some (l0_0, bt404.2.2.2, (bt404.2.2.1 == 0)))
theorem impl_known.mono : ∀ a0 k, LeO (impl_known.f k a0) (impl_known.f (k + 1) a0) := by
 intro a0 k
 unfold impl_known.f
 with_reducible repeat' first | exact impl_verify.mono .. | exact LeO.refl _ | exact LeO.none _ | refine LeO.ite ?_ ?_ | refine LeO.bind ?_ (fun _ => ?_)
def impl_known.T2 : Bool × List (List Nat × List Nat) := (true, [([], []), ([], []), ([0, 1], [0, 1]), ([2], [2]), ([], []), ([4], [4]), ([5], [5]), ([3, 0, 1, 2, 3], [3]), ([6, 7, 0, 1, 2, 3, 4, 5, 6, 7], [6])])
def impl_known.B2 : List Nat := [0, 0, 3, 7, 0, 16, 48, 15, 255]
theorem impl_known.tab2 : rtab .any (opsOf Try.f51 2) = impl_known.T2 := by kernel_rfl
theorem impl_known.bits2 : waitsOk impl_known.T2.2 impl_known.B2 = true := by kernel_rfl
theorem impl_known.calls (k : Nat) (P0_0_ : Nat → Prop) (A0_0 : Option Addr) (c0_0 : Nat) (l0_0 : List (S35)) (r1 : List (S35)) (r2 : List (List Int)) (r3 : Bool) (w : World) (hs0_0 : Kd.V k35 35 w w.heap.size (fun k_ => P0_0_ k_) (.slice A0_0 l0_0.length c0_0) l0_0) (h : impl_known.f k l0_0 = some (r1, r2, r3)) :
  Calls Try.prog 51 #[.agg #[.slice A0_0 l0_0.length c0_0]] w fun e w' => ∃ v0_ v1_ : Value, ∃ g_ : Nat, e = .returned (.tuple #[.pointer (some ⟨g_, 0, none⟩), .bool r3]) ∧ Kd.V k35 35 w' w.heap.size (fun k_ => (P0_0_ k_ ∨ w.heap.size ≤ k_) ∧ some k_ ≠ (v1_ : Value).ownBlock) v0_ r1 ∧ Kd.S (Kd.slice 2 (Kd.int .i64)) 31 w' w.heap.size (fun k_ => (w.heap.size ≤ k_)) v1_ r2 ∧ w'.heap[g_]? = some (.cells #[v0_, v1_] 67 (0, 0)) ∧ w.heap.size ≤ g_ ∧ Below w.heap.size w w' := by
 have hu25 := Try.underlying25
 have hu29 := Try.underlying29
 have hu67 := Try.underlying67
 have HO0_0 := am (show Kd.V k35 35 w w.heap.size (fun k_ => (P0_0_ k_ ∨ w.heap.size ≤ k_)) (.slice A0_0 l0_0.length c0_0) l0_0 from Kd.V_mono hs0_0 (fun k_ hk => .inl hk))
 have HB := am (Below.refl w.heap.size w)
 have H : ((impl_verify.f k l0_0).bind fun bt404 => (some (l0_0, bt404.2.2.2, (bt404.2.2.1 == 0)))) = some (r1, r2, r3) := h
 clear h
 replace H := Option.bind_eq_some_iff.mp H
 obtain ⟨⟨t404, t405, t406, t407⟩, A20, H⟩ := H
 replace H : (some (l0_0, t407, (t406 == 0))) = some (r1, r2, r3) := H
 have A2 := am A20
 clear A20
 simp only [Option.some.injEq, Prod.mk.injEq] at H
 obtain ⟨rfl, rfl, rfl⟩ := H
 go_enter Try.func51, Try.ntmps51
 try go_wp2_with (first | ((with_reducible refine gd 1 rfl ?_); refine bX 1 #[.slice A0_0 l0_0.length c0_0] 25 HB ?_; clear HB; intro gb403 w3 hg hb BK403 GW403 HB; replace HO0_0 := am (Kd.V_below (Kd.V_elderB (kV HO0_0) gb403 (Nat.le_of_eq hg.symm)) hb); clear hb hg; have hcz4 := bK w3 BK403; have hfz4 := bF BK403) | ((with_reducible refine gk 34 rfl ?_); refine gC 34 (some 8) Try.func34 #[.agg #[.slice A0_0 l0_0.length c0_0]] ((impl_verify.calls k _ _ l0_0 t404 t405 t406 t407 _ (cc (Kd.V_reads' HO0_0.out).2.2) ((Kd.V_reads' HO0_0.out).2.1) A2.out).mono ?_); rintro e w5 ⟨v408, rfl, ho0, hb⟩; refine ⟨_, rfl, ?_⟩; replace HO0_0 := am (Kd.V_elder' (kV HO0_0) (Kd.S_base ho0) hb); have HO409 := am (Kd.S_lower (Kd.S_newM (M := fun k_ => (w.heap.size ≤ k_)) ho0 (below_size (bw HB)) (fun k_ h_ => h_)) (below_size (bw HB))); replace BK403 := bb BK403 hb; replace HB := bs HB hb; clear hb; (try clear ho0)) | ((with_reducible refine gd 4 rfl ?_); refine bX 4 #[.int .i64 0, .int .i64 0, .int .i64 0] 29 HB ?_; clear HB; intro gb410 w6 hg hb BK410 GW410 HB; replace HO0_0 := am (Kd.V_below (Kd.V_elderB (kV HO0_0) gb410 (Nat.le_of_eq hg.symm)) hb); replace HO409 := am (Kd.S_below (kS HO409) hb); obtain ⟨NB403_410, NB410_403, BK403⟩ := b3 hg BK403 hb; clear hb hg; have hnb7 := NB410_403.out; have hnc7 := NB403_410.out; have hcz8 := bK w6 BK410; have hfz8 := bF BK410))
 replace HO0_0 : Aside0 (Kd.V k35 35 (((w6.setCell ⟨gb410, 0, none⟩ (.int .i64 t404)).setCell ⟨gb410, 1, none⟩ (.int .i64 t405)).setCell ⟨gb410, 2, none⟩ (.int .i64 t406)) w.heap.size (fun k_ => (P0_0_ k_ ∨ w.heap.size ≤ k_) ∧ some k_ ≠ (v408 : Value).ownBlock ∧ k_ ≠ gb403 ∧ k_ ≠ gb410) (.slice A0_0 l0_0.length c0_0) l0_0) := ⟨by (with_reducible repeat (first | apply Kd.V_alloc | apply Kd.V_drewN | apply Kd.V_drew)); exact Kd.V_mono (Kd.V_far (p := ⟨gb410, 2, none⟩) (Kd.V_far (p := ⟨gb410, 1, none⟩) (Kd.V_far (p := ⟨gb410, 0, none⟩) (Kd.V_mono HO0_0.out (fun k_ hk => (⟨hk, hk.2⟩ : _ ∧ k_ ≠ gb410))) (fun _ hk => hk.2) (.int .i64 t404)) (fun _ hk => hk.2) (.int .i64 t405)) (fun _ hk => hk.2) (.int .i64 t406)) (fun _ hk => ⟨hk.1.1.1.1, ⟨hk.1.1.2, ⟨hk.1.1.1.2, hk.1.2⟩⟩⟩)⟩
 replace HO409 : Aside0 (Kd.S (Kd.slice 2 (Kd.int .i64)) 31 (((w6.setCell ⟨gb410, 0, none⟩ (.int .i64 t404)).setCell ⟨gb410, 1, none⟩ (.int .i64 t405)).setCell ⟨gb410, 2, none⟩ (.int .i64 t406)) w.heap.size (fun k_ => (w.heap.size ≤ k_)) v408 t407) := ⟨by (with_reducible repeat (first | apply Kd.S_alloc | apply Kd.S_drewN | apply Kd.S_drew)); exact Kd.S_mono (Kd.S_far (p := ⟨gb410, 2, none⟩) (Kd.S_far (p := ⟨gb410, 1, none⟩) (Kd.S_far (p := ⟨gb410, 0, none⟩) (Kd.S_types HO409.out BK410.out (by decide)) (fun _ hk => hk.2) (.int .i64 t404)) (fun _ hk => hk.2) (.int .i64 t405)) (fun _ hk => hk.2) (.int .i64 t406)) (fun _ hk => hk.1.1)⟩
 replace BK403 : Aside0 ((((w6.setCell ⟨gb410, 0, none⟩ (.int .i64 t404)).setCell ⟨gb410, 1, none⟩ (.int .i64 t405)).setCell ⟨gb410, 2, none⟩ (.int .i64 t406)).heap[gb403]? = some (.cells #[.slice A0_0 l0_0.length c0_0] 25 (0, 0))) := ⟨by (with_reducible repeat (first | apply dN | apply dW | apply dA)); refine blk_far ?_ NB403_410.out _; (with_reducible repeat (first | apply dN | apply dW | apply dA)); refine blk_far ?_ NB403_410.out _; (with_reducible repeat (first | apply dN | apply dW | apply dA)); refine blk_far ?_ NB403_410.out _; exact bp BK403⟩
 replace BK410 : Aside0 ((((w6.setCell ⟨gb410, 0, none⟩ (.int .i64 t404)).setCell ⟨gb410, 1, none⟩ (.int .i64 t405)).setCell ⟨gb410, 2, none⟩ (.int .i64 t406)).heap[gb410]? = some (.cells #[.int .i64 t404, .int .i64 t405, .int .i64 t406] 29 (0, 0))) := ⟨by (with_reducible repeat (first | apply dN | apply dW | apply dA)); refine blk_put (cs := #[.int .i64 t404, .int .i64 t405, .int .i64 0]) ?_ 2 _ rfl; (with_reducible repeat (first | apply dN | apply dW | apply dA)); refine blk_put (cs := #[.int .i64 t404, .int .i64 0, .int .i64 0]) ?_ 1 _ rfl; (with_reducible repeat (first | apply dN | apply dW | apply dA)); refine blk_put (cs := #[.int .i64 0, .int .i64 0, .int .i64 0]) ?_ 0 _ rfl; exact bp BK410⟩
 replace HB : Aside0 (Below w.heap.size w (((w6.setCell ⟨gb410, 0, none⟩ (.int .i64 t404)).setCell ⟨gb410, 1, none⟩ (.int .i64 t405)).setCell ⟨gb410, 2, none⟩ (.int .i64 t406))) := ⟨bw HB⟩
 generalize (((w6.setCell ⟨gb410, 0, none⟩ (.int .i64 t404)).setCell ⟨gb410, 1, none⟩ (.int .i64 t405)).setCell ⟨gb410, 2, none⟩ (.int .i64 t406)) = w9 at HO0_0 HO409 BK403 BK410 HB ⊢
 replace HO0_0 := am (Kd.V_drew HO0_0.out)
 replace HO409 := am (Kd.S_drew HO409.out)
 replace BK403 := am (blk_drew BK403.out)
 replace BK410 := am (blk_drew BK410.out)
 replace HB := am (below_drew1 HB.out)
 obtain ⟨Ao11, co11, eo11⟩ := Kd.S_slice HO409.out
 (first | subst eo11 | (injection eo11 with f1_ f2_ f3_; have f4_ := f1_.symm; have f5_ := f3_.symm; clear f1_ f2_ f3_; subst f4_; subst f5_))
 refine start_ (n := 9) (S := fun w' => w'.cell? ⟨gb403, 0, none⟩ = some (.slice A0_0 l0_0.length c0_0) ∧ w'.cell? ⟨gb410, 0, none⟩ = some (.int .i64 t404) ∧ w'.cell? ⟨gb410, 1, none⟩ = some (.int .i64 t405) ∧ w'.cell? ⟨gb410, 2, none⟩ = some (.int .i64 t406)) (ds := []) (bv 9 0) (by kernel_rfl) rfl (by kernel_rfl) ⟨bc BK403 0, bc BK410 0, bc BK410 1, bc BK410 2⟩ (fun hHeld => ?_); refine with_tabW impl_known.tab2 impl_known.bits2 (fun HT_ HW_ => ?_)
 generalize w9.drew = w10 at HO0_0 HO409 BK403 BK410 HB hHeld ⊢
 refine pu 1 12 9 2 HT_ ?_
 refine pu 4 15 9 18 HT_ ?_
 refine tk 0 11 9 19 HT_ HW_ hHeld ?_
 refine pu 2 13 9 23 HT_ ?_
 refine tk 5 16 9 55 HT_ HW_ hHeld ?_
 refine pu 6 17 9 119 HT_ ?_
 refine on 3 (some 14) 9 127 HT_ fun K hK => ?_
 refine box_step ?hg (N := 14) ?hd (cs := #[.slice A0_0 l0_0.length c0_0, .slice Ao11 t407.length co11]) (t := 67) ?hr ?_; (case hd => rfl); (case hg => rfl); (case hr => exact gs)
 intro gb411 hg w12 hbox hb
 have n0_ := am (Kd.V_below (Kd.V_elderB (kV HO0_0) gb411 (Nat.le_of_eq hg.symm)) hb)
 have n1_ := am (Kd.S_below (kS HO409) hb)
 have n2_ := bb BK403 hb
 have n3_ := bb BK410 hb
 have n4_ := am (below_step (bw HB) hb)
 have n5_ := am (hbox)
 have n6_ := gw hg HB
 have n7_ := gw hg HB
 have n8_ := am ((by rw [hg]; exact Nat.ne_of_lt (blk_lt (g := gb403) (o := .cells #[.slice A0_0 l0_0.length c0_0] 25 (0, 0)) (bp BK403)) : gb403 ≠ gb411))
 have n9_ := am ((by rw [hg]; exact Nat.ne_of_gt (blk_lt (g := gb403) (o := .cells #[.slice A0_0 l0_0.length c0_0] 25 (0, 0)) (bp BK403)) : gb411 ≠ gb403))
 have n10_ := am ((by rw [hg]; exact Nat.ne_of_lt (blk_lt (g := gb410) (o := .cells #[.int .i64 t404, .int .i64 t405, .int .i64 t406] 29 (0, 0)) (bp BK410)) : gb410 ≠ gb411))
 have n11_ := am ((by rw [hg]; exact Nat.ne_of_gt (blk_lt (g := gb410) (o := .cells #[.int .i64 t404, .int .i64 t405, .int .i64 t406] 29 (0, 0)) (bp BK410)) : gb411 ≠ gb410))
 clear HO0_0
 clear HO409
 clear BK403
 clear BK410
 clear HB
 have HO0_0 := n0_
 have HO409 := n1_
 have BK403 := n2_
 have BK410 := n3_
 have HB := n4_
 have BK411 := n5_
 have GW411 := n6_
 have GE411 := n7_
 have NB403_411 := n8_
 have NB411_403 := n9_
 have NB410_411 := n10_
 have NB411_410 := n11_
 clear n0_ n1_ n2_ n3_ n4_ n5_ n6_ n7_ n8_ n9_ n10_ n11_
 clear hb hbox hg
 refine hK.out _ _ ⟨bc BK403 0, bc BK410 0, bc BK410 1, bc BK410 2⟩ (fun hHeld => ?_)
 clear hK K
 refine nm (some 14) ?_
 refine pu 7 2 9 255 HT_ ?_
 refine pu 8 3 9 511 HT_ ?_
 refine done_ (done_of HT_.out (by kernel_rfl)) ?_
 try go_wp2
 go_ret2
 exact ⟨_, _, gb411, er, by (with_reducible repeat (first | apply Kd.V_alloc | apply Kd.V_drewN | apply Kd.V_drew)); exact Kd.V_mono HO0_0.out (fun _ hk => ⟨hk.1.1, hk.1.2.1⟩), kS HO409, (bp BK411), GW411.out, bw HB⟩

def impl_knownFunc.f (k : Nat) (l0_0 : List (S35)) (a1 : Int) : Option ((List (S35)) × (List (List Int)) × Bool) := (impl_known.f k l0_0).bind fun bt413 => (if bt413.2.2 = true then ((impl_hasFunc.f l0_0 a1).bind fun t421 => (some (bt413.1, bt413.2.1, t421))) else (some (bt413.1, bt413.2.1, false)))
theorem impl_knownFunc.mono : ∀ a0 a1 k, LeO (impl_knownFunc.f k a0 a1) (impl_knownFunc.f (k + 1) a0 a1) := by
 intro a0 a1 k
 unfold impl_knownFunc.f
 with_reducible repeat' first | exact impl_known.mono .. | exact LeO.refl _ | exact LeO.none _ | refine LeO.ite ?_ ?_ | refine LeO.bind ?_ (fun _ => ?_)
theorem impl_knownFunc.calls (k : Nat) (P0_0_ : Nat → Prop) (A0_0 : Option Addr) (c0_0 : Nat) (l0_0 : List (S35)) (a1 : Int) (r1 : List (S35)) (r2 : List (List Int)) (r3 : Bool) (w : World) (hs0_0 : Kd.V k35 35 w w.heap.size (fun k_ => P0_0_ k_) (.slice A0_0 l0_0.length c0_0) l0_0) (h : impl_knownFunc.f k l0_0 a1 = some (r1, r2, r3)) :
  Calls Try.prog 35 #[.agg #[.slice A0_0 l0_0.length c0_0], .int .i64 a1] w fun e w' => ∃ v0_ v1_ : Value, ∃ g_ : Nat, e = .returned (.tuple #[.pointer (some ⟨g_, 0, none⟩), .bool r3]) ∧ Kd.V k35 35 w' w.heap.size (fun k_ => (P0_0_ k_ ∨ w.heap.size ≤ k_) ∧ some k_ ≠ (v1_ : Value).ownBlock) v0_ r1 ∧ Kd.S (Kd.slice 2 (Kd.int .i64)) 31 w' w.heap.size (fun k_ => (w.heap.size ≤ k_)) v1_ r2 ∧ w'.heap[g_]? = some (.cells #[v0_, v1_] 67 (0, 0)) ∧ w.heap.size ≤ g_ ∧ Below w.heap.size w w' := by
 have hu25 := Try.underlying25
 have HO0_0 := am (show Kd.V k35 35 w w.heap.size (fun k_ => (P0_0_ k_ ∨ w.heap.size ≤ k_)) (.slice A0_0 l0_0.length c0_0) l0_0 from Kd.V_mono hs0_0 (fun k_ hk => .inl hk))
 have HB := am (Below.refl w.heap.size w)
 have H : ((impl_known.f k l0_0).bind fun bt413 => (if bt413.2.2 = true then ((impl_hasFunc.f l0_0 a1).bind fun t421 => (some (bt413.1, bt413.2.1, t421))) else (some (bt413.1, bt413.2.1, false)))) = some (r1, r2, r3) := h
 clear h
 replace H := Option.bind_eq_some_iff.mp H
 obtain ⟨⟨t413, t416, t420⟩, A30, H⟩ := H
 replace H : (if t420 = true then ((impl_hasFunc.f l0_0 a1).bind fun t421 => (some (t413, t416, t421))) else (some (t413, t416, false))) = some (r1, r2, r3) := H
 have A3 := am A30
 clear A30
 refine qT H ?_ ?_ <;> clear H <;> intro c4 H <;> subst c4
 ·refine be H ?_; clear H; intro t421 A5 H
  simp only [Option.some.injEq, Prod.mk.injEq] at H
  obtain ⟨rfl, rfl, rfl⟩ := H
  go_enter Try.func35, Try.ntmps35
  go_wp2_with (first | ((with_reducible refine gd 2 rfl ?_); refine bX 2 #[.slice A0_0 l0_0.length c0_0] 25 HB ?_; clear HB; intro gb412 w6 hg hb BK412 GW412 HB; replace HO0_0 := am (Kd.V_below (Kd.V_elderB (kV HO0_0) gb412 (Nat.le_of_eq hg.symm)) hb); clear hb hg; have hcz7 := bK w6 BK412; have hfz7 := bF BK412) | ((with_reducible refine gk 51 rfl ?_); refine gC 51 (some 10) Try.func51 #[.agg #[.slice A0_0 l0_0.length c0_0]] ((impl_known.calls k (fun k_ => ((P0_0_ k_ ∨ w.heap.size ≤ k_) ∧ k_ ≠ gb412)) _ _ l0_0 t413 t416 true _ HO0_0.out A3.out).mono ?_); rintro e w8 ⟨v414, v417, gb419, rfl, ho0, ho1, hbx, hgx, hb⟩; refine ⟨_, rfl, ?_⟩; replace HO0_0 := am (Kd.V_elder' (kV HO0_0) (Kd.S_base ho1) hb); have HO415 := am (Kd.V_lower (Kd.V_mono (ok' := fun k_ => (P0_0_ k_ ∨ w.heap.size ≤ k_) ∧ some k_ ≠ (v417 : Value).ownBlock ∧ k_ ≠ gb412) ho0 (fun k_ hk_ => ⟨Or.elim hk_.1 (fun hs_ => hs_.1) (fun hn_ => (.inr (Nat.le_trans (below_size (bw HB)) hn_))), hk_.2, Or.elim hk_.1 (fun hs_ => hs_.2) (fun hn_ => (Kd.freshB (g := gb412) (o := .cells #[.slice A0_0 l0_0.length c0_0] 25 (0, 0)) (bp BK412) k_ hn_))⟩)) (below_size (bw HB))); have HO418 := am (Kd.S_lower (Kd.S_newM (M := fun k_ => (w.heap.size ≤ k_)) (Kd.S_mono (ok' := fun k_ => True) ho1 (fun _ hk_ => trivial)) (below_size (bw HB)) (fun k_ h_ => h_)) (below_size (bw HB))); have BK419 := am (hbx); have GW419 := am ((Nat.le_trans (below_size (bw HB)) hgx)); have GE419 := am ((Nat.le_trans (below_size (bw HB)) hgx)); have NB412_419 := am ((Nat.ne_of_lt (Nat.lt_of_lt_of_le (blk_lt (g := gb412) (o := .cells #[.slice A0_0 l0_0.length c0_0] 25 (0, 0)) (bp BK412)) hgx) : gb412 ≠ gb419)); have NB419_412 := am ((Nat.ne_of_gt (Nat.lt_of_lt_of_le (blk_lt (g := gb412) (o := .cells #[.slice A0_0 l0_0.length c0_0] 25 (0, 0)) (bp BK412)) hgx) : gb419 ≠ gb412)); replace BK412 := bb BK412 hb; replace HB := bs HB hb; clear hb; (try clear ho0); (try clear ho1); (try clear hbx); (try clear hgx); have hnb9 := NB412_419.out; have hnc9 := NB419_412.out; have hcz10 := bK w8 BK412; have hfz10 := bF BK412) | (go_at_call 38; refine (impl_hasFunc.calls _ _ l0_0 a1 t421 _ (cc (Kd.V_reads' HO0_0.out).2.2) ((Kd.V_reads' HO0_0.out).2.1) A5.out).mono ?_; rintro e w11 ⟨rfl, hb⟩; replace HO0_0 := am (Kd.V_below (kV HO0_0) hb); replace HO415 := am (Kd.V_below (kV HO415) hb); replace HO418 := am (Kd.S_below (kS HO418) hb); replace BK412 := bb BK412 hb; replace BK419 := bb BK419 hb; replace HB := bs HB hb; clear hb))
  go_ret2
  exact ⟨_, _, gb419, er, by (with_reducible repeat (first | apply Kd.V_alloc | apply Kd.V_drewN | apply Kd.V_drew)); exact Kd.V_mono HO415.out (fun _ hk => ⟨hk.1, hk.2.1⟩), by (with_reducible repeat (first | apply Kd.S_alloc | apply Kd.S_drewN | apply Kd.S_drew)); exact Kd.S_mono HO418.out (fun _ hk => hk.1), (bp BK419), GW419.out, bw HB⟩
 simp only [Option.some.injEq, Prod.mk.injEq] at H
 obtain ⟨rfl, rfl, rfl⟩ := H
 go_enter Try.func35, Try.ntmps35
 go_wp2_with (first | ((with_reducible refine gd 2 rfl ?_); refine bX 2 #[.slice A0_0 l0_0.length c0_0] 25 HB ?_; clear HB; intro gb412 w12 hg hb BK412 GW412 HB; replace HO0_0 := am (Kd.V_below (Kd.V_elderB (kV HO0_0) gb412 (Nat.le_of_eq hg.symm)) hb); clear hb hg; have hcz13 := bK w12 BK412; have hfz13 := bF BK412) | ((with_reducible refine gk 51 rfl ?_); refine gC 51 (some 10) Try.func51 #[.agg #[.slice A0_0 l0_0.length c0_0]] ((impl_known.calls k (fun k_ => ((P0_0_ k_ ∨ w.heap.size ≤ k_) ∧ k_ ≠ gb412)) _ _ l0_0 t413 t416 false _ HO0_0.out A3.out).mono ?_); rintro e w14 ⟨v414, v417, gb419, rfl, ho0, ho1, hbx, hgx, hb⟩; refine ⟨_, rfl, ?_⟩; replace HO0_0 := am (Kd.V_elder' (kV HO0_0) (Kd.S_base ho1) hb); have HO415 := am (Kd.V_lower (Kd.V_mono (ok' := fun k_ => (P0_0_ k_ ∨ w.heap.size ≤ k_) ∧ some k_ ≠ (v417 : Value).ownBlock ∧ k_ ≠ gb412) ho0 (fun k_ hk_ => ⟨Or.elim hk_.1 (fun hs_ => hs_.1) (fun hn_ => (.inr (Nat.le_trans (below_size (bw HB)) hn_))), hk_.2, Or.elim hk_.1 (fun hs_ => hs_.2) (fun hn_ => (Kd.freshB (g := gb412) (o := .cells #[.slice A0_0 l0_0.length c0_0] 25 (0, 0)) (bp BK412) k_ hn_))⟩)) (below_size (bw HB))); have HO418 := am (Kd.S_lower (Kd.S_newM (M := fun k_ => (w.heap.size ≤ k_)) (Kd.S_mono (ok' := fun k_ => True) ho1 (fun _ hk_ => trivial)) (below_size (bw HB)) (fun k_ h_ => h_)) (below_size (bw HB))); have BK419 := am (hbx); have GW419 := am ((Nat.le_trans (below_size (bw HB)) hgx)); have GE419 := am ((Nat.le_trans (below_size (bw HB)) hgx)); have NB412_419 := am ((Nat.ne_of_lt (Nat.lt_of_lt_of_le (blk_lt (g := gb412) (o := .cells #[.slice A0_0 l0_0.length c0_0] 25 (0, 0)) (bp BK412)) hgx) : gb412 ≠ gb419)); have NB419_412 := am ((Nat.ne_of_gt (Nat.lt_of_lt_of_le (blk_lt (g := gb412) (o := .cells #[.slice A0_0 l0_0.length c0_0] 25 (0, 0)) (bp BK412)) hgx) : gb419 ≠ gb412)); replace BK412 := bb BK412 hb; replace HB := bs HB hb; clear hb; (try clear ho0); (try clear ho1); (try clear hbx); (try clear hgx)))
 go_ret2
 exact ⟨_, _, gb419, er, by (with_reducible repeat (first | apply Kd.V_alloc | apply Kd.V_drewN | apply Kd.V_drew)); exact Kd.V_mono HO415.out (fun _ hk => ⟨hk.1, hk.2.1⟩), by (with_reducible repeat (first | apply Kd.S_alloc | apply Kd.S_drewN | apply Kd.S_drew)); exact Kd.S_mono HO418.out (fun _ hk => hk.1), (bp BK419), GW419.out, bw HB⟩

def impl_prog_code.f (l0_0 : List (S35)) (l0_1 : List (List Int)) (a1 : Int) : Option ((List (S38))) := if 0 ≤ a1 then (if a1 < (l0_0.length : Int) then (some ((rd_T35 l0_0 a1).f2)) else (none)) else (none)
theorem impl_prog_code.calls (g0_ : Nat) (P0_0_ : Nat → Prop) (A0_0 : Option Addr) (c0_0 : Nat) (l0_0 : List (S35)) (A0_1 : Option Addr) (c0_1 : Nat) (l0_1 : List (List Int)) (a1 : Int) (r : List (S38)) (w : World) (hp0 : w.heap[g0_]? = some (.cells #[.slice A0_0 l0_0.length c0_0, .slice A0_1 l0_1.length c0_1] 67 (0, 0))) (hs0_0 : Kd.V k35 35 w w.heap.size (fun k_ => P0_0_ k_) (.slice A0_0 l0_0.length c0_0) l0_0) (hr0_1 : Kd.C (Kd.slice 2 (Kd.int .i64)) w A0_1 l0_1.length l0_1) (hc0_1 : l0_1.length ≤ c0_1) (h : impl_prog_code.f l0_0 l0_1 a1 = some r) :
  Calls Try.prog 77 #[.pointer (some ⟨g0_, 0, none⟩), .int .i64 a1] w fun e w' => ∃ v0_ : Value, e = .returned (v0_) ∧ Kd.V k38 38 w' w.heap.size (fun k_ => (P0_0_ k_ ∨ w.heap.size ≤ k_)) v0_ r ∧ Below w.heap.size w w' := by
 have HP0_ := am hp0
 clear hp0
 have HO0_0 := am (show Kd.V k35 35 w w.heap.size (fun k_ => (P0_0_ k_ ∨ w.heap.size ≤ k_)) (.slice A0_0 l0_0.length c0_0) l0_0 from Kd.V_mono hs0_0 (fun k_ hk => .inl hk))
 have HR0_1 := am hr0_1
 have HC0_1 := am hc0_1
 clear hr0_1 hc0_1
 have HB := am (Below.refl w.heap.size w)
 have H : (if 0 ≤ a1 then (if a1 < (l0_0.length : Int) then (some ((rd_T35 l0_0 a1).f2)) else (none)) else (none)) = some r := h
 clear h
 refine iM H ?_; clear H; intro c3b0 H
 refine iM H ?_; clear H; intro c4b0 H
 obtain rfl := Option.some.inj H
 have hcz5 := bK w HP0_
 have hfz5 := bF HP0_
 have p422 : 0 ≤ (a1 : Int) := of_decide_eq_true as1
 have q422 : a1 < (l0_0.length : Int) := of_decide_eq_true as1
 obtain ⟨ad422, A422_2, c422_2, e422, hx422_0, hx422_1, hx422_2, hl422_2, hi422_2⟩ := at_T35 (Kd.V_reads' HO0_0.out).2.2 a1 p422 q422
 cases e422
 obtain ⟨ce422, hce422, hMe422, hcc422⟩ := Kd.V_get HO0_0.out z35 a1 p422 (by first | exact q422 | exact of_decide_eq_true as1 | (have e_ := (Kd.V_reads' HO0_0.out).1; omega))
 obtain ⟨ua422_2, uc422_2, rfl, ul422_2, ge422_2⟩ := k35_openF hMe422
 have hv422_2 := hcc422 2 _ rfl
 rw [add_field _ _ 2 (by omega)] at hv422_2
 replace hv422_2 := Option.some.inj (hv422_2.symm.trans hx422_2)
 injection hv422_2 with hva_ hvn_ hvc_
 rw [hva_] at ge422_2
 rw [hvc_] at ul422_2
 have HL422_2 := am (show Kd.V k38 38 _ w.heap.size _ _ ((rd_T35 l0_0 a1).f2) from Kd.V_mk ul422_2 ge422_2)
 clear hva_ hvn_ hvc_ ge422_2 ul422_2
 clear hcc422 hce422
 have HR422_2 := am hi422_2
 have HC422_2 := am hl422_2
 clear hi422_2 hl422_2
 replace p422 := eq_true p422
 replace q422 := eq_true q422
 go_enter Try.func77, Try.ntmps77
 go_wp2
 go_ret
 exact ⟨_, er, kV HL422_2, bw HB⟩

end Go.Proofs.Ytopaefhfjioecaa.QFnRanges
