import Derived.Test.YtoegdbeajgddiaaCFnExactBeginx0
import Derived.Test.YtoegdbeajgddiaaCFnExactBeginx6
import Derived.Test.YtoegdbeajgddiaaCFnExactBeginx7
import Derived.Test.YtoegdbeajgddiaaCFnExactBeginx9
namespace Go.Proofs.Ytoegdbeajgddiaa.QFnExactBegin
open Go.RowKit Go.Proofs.YtoegdbeajgddiaaW
open PrintWords PrintLast PrintMore PrintShort PrintIsh
attribute [local go_sem] max2_int min2_int max_two min_two max_three min_three max_four min_four   -- for this text's walks alone
set_option linter.unusedVariables false
set_option maxHeartbeats 8000000
set_option maxRecDepth 100000
set_option linter.unusedSimpArgs false

mutual
def impl_verify.j0 : Nat → Bool → List (S55) → Option (Int × Int × Int × (List (List Int)))
 | 0, _, _ => none
 | k + 1, x21, x323000 => if x21 = true then (some (0, 0, 1, ([] : List (List Int)))) else (impl_verify.l0 k ([] : List (List Int)) x323000 (x323000.length : Int) 0 x323000)
def impl_verify.l0 : Nat → List (List Int) → List (S55) → Int → Int → List (S55) → Option (Int × Int × Int × (List (List Int)))
 | 0, _, _, _, _, _ => none
 | k + 1, x4, x24, x25, x26, x323000 => if x26 < x25 then (if 0 ≤ x26 then (if x26 < (x24.length : Int) then ((impl_in.f ((rd_T55 x24 x26).f0) 0 4).bind fun t326 => (if t326 = true then ((impl_in.f ((rd_T55 x24 x26).f1) ((rd_T55 x24 x26).f0) 8).bind fun t327 => (if t327 = true then ((impl_in.f (((rd_T55 x24 x26).f2).length : Int) 1 60).bind fun t328 => (impl_verify.j2 k x4 x26 x24 x25 x26 (!t328) x323000 ((rd_T55 x24 x26).f0) ((rd_T55 x24 x26).f1) ((rd_T55 x24 x26).f2))) else (impl_verify.j2 k x4 x26 x24 x25 x26 true x323000 ((rd_T55 x24 x26).f0) ((rd_T55 x24 x26).f1) ((rd_T55 x24 x26).f2)))) else (impl_verify.j2 k x4 x26 x24 x25 x26 true x323000 ((rd_T55 x24 x26).f0) ((rd_T55 x24 x26).f1) ((rd_T55 x24 x26).f2)))) else (none)) else (none)) else (some (0, 0, 0, x4))
def impl_verify.j2 : Nat → List (List Int) → Int → List (S55) → Int → Int → Bool → List (S55) → Int → Int → List (S85) → Option (Int × Int × Int × (List (List Int)))
 | 0, _, _, _, _, _, _, _, _, _, _ => none
 | k + 1, x4, x5, x24, x25, x26, x49, x323000, x326000, x326001, x326002 => if x49 = true then (some (x5, 0, 1, ([] : List (List Int)))) else (impl_verify.l1 k x4 x5 x24 x25 x26 x326002 (x326002.length : Int) 0 x323000)
def impl_verify.l1 : Nat → List (List Int) → Int → List (S55) → Int → Int → List (S85) → Int → Int → List (S55) → Option (Int × Int × Int × (List (List Int)))
 | 0, _, _, _, _, _, _, _, _, _ => none
 | k + 1, x4, x5, x24, x25, x26, x53, x54, x55, x323000 => if x55 < x54 then (if 0 ≤ x55 then (if x55 < (x53.length : Int) then ((impl_InsRight.f k x323000 x5 ((rd_T85 x53 x55).f0) ((rd_T85 x53 x55).f1)).bind fun t331 => (if t331 = true then (impl_verify.l1 k x4 x5 x24 x25 x26 x53 x54 (wrap64 (x55 + 1)) x323000) else (some (x5, x55, 1, ([] : List (List Int)))))) else (none)) else (none)) else ((impl_heightsOf.f k x323000 x5).bind fun bt332 => (if bt332.2.2 = 0 then (if x4.length < 5864062014805 then (impl_verify.l0 k (x4 ++ [bt332.1]) x24 x25 (wrap64 (x26 + 1)) x323000) else (none)) else (some (x5, bt332.2.1, bt332.2.2, ([] : List (List Int))))))
end
def impl_verify.f (k : Nat) (l0_0 : List (S55)) : Option (Int × Int × Int × (List (List Int))) := if (l0_0.length : Int) < 1 then (impl_verify.j0 k true l0_0) else (impl_verify.j0 k (decide ((l0_0.length : Int) > 6)) l0_0)
theorem impl_verify.mono_l : ∀ k, (∀ y0 y1, LeO (impl_verify.j0 k y0 y1) (impl_verify.j0 (k + 1) y0 y1)) ∧ (∀ y0 y1 y2 y3 y4, LeO (impl_verify.l0 k y0 y1 y2 y3 y4) (impl_verify.l0 (k + 1) y0 y1 y2 y3 y4)) ∧ (∀ y0 y1 y2 y3 y4 y5 y6 y7 y8 y9, LeO (impl_verify.j2 k y0 y1 y2 y3 y4 y5 y6 y7 y8 y9) (impl_verify.j2 (k + 1) y0 y1 y2 y3 y4 y5 y6 y7 y8 y9)) ∧ (∀ y0 y1 y2 y3 y4 y5 y6 y7 y8, LeO (impl_verify.l1 k y0 y1 y2 y3 y4 y5 y6 y7 y8) (impl_verify.l1 (k + 1) y0 y1 y2 y3 y4 y5 y6 y7 y8))
 | 0 => ⟨fun _ _ r h => by simp [impl_verify.j0] at h, fun _ _ _ _ _ r h => by simp [impl_verify.l0] at h, fun _ _ _ _ _ _ _ _ _ _ r h => by simp [impl_verify.j2] at h, fun _ _ _ _ _ _ _ _ _ r h => by simp [impl_verify.l1] at h⟩
 | k + 1 => by
  obtain ⟨ih0, ih1, ih2, ih3⟩ := impl_verify.mono_l k
  refine ⟨?_, ?_, ?_, ?_⟩
  ·intro y0 y1
   unfold impl_verify.j0
   with_reducible repeat' first | exact ih0 .. | exact ih1 .. | exact ih2 .. | exact ih3 .. | exact impl_InsRight.mono .. | exact impl_heightsOf.mono .. | exact LeO.refl _ | exact LeO.none _ | refine LeO.ite ?_ ?_ | refine LeO.bind ?_ (fun _ => ?_)
  ·intro y0 y1 y2 y3 y4
   unfold impl_verify.l0
   with_reducible repeat' first | exact ih0 .. | exact ih1 .. | exact ih2 .. | exact ih3 .. | exact impl_InsRight.mono .. | exact impl_heightsOf.mono .. | exact LeO.refl _ | exact LeO.none _ | refine LeO.ite ?_ ?_ | refine LeO.bind ?_ (fun _ => ?_)
  ·intro y0 y1 y2 y3 y4 y5 y6 y7 y8 y9
   unfold impl_verify.j2
   with_reducible repeat' first | exact ih0 .. | exact ih1 .. | exact ih2 .. | exact ih3 .. | exact impl_InsRight.mono .. | exact impl_heightsOf.mono .. | exact LeO.refl _ | exact LeO.none _ | refine LeO.ite ?_ ?_ | refine LeO.bind ?_ (fun _ => ?_)
  ·intro y0 y1 y2 y3 y4 y5 y6 y7 y8
   unfold impl_verify.l1
   with_reducible repeat' first | exact ih0 .. | exact ih1 .. | exact ih2 .. | exact ih3 .. | exact impl_InsRight.mono .. | exact impl_heightsOf.mono .. | exact LeO.refl _ | exact LeO.none _ | refine LeO.ite ?_ ?_ | refine LeO.bind ?_ (fun _ => ?_)
theorem impl_verify.mono : ∀ a0 k, LeO (impl_verify.f k a0) (impl_verify.f (k + 1) a0) := by
 intro a0 k
 obtain ⟨ih0, ih1, ih2, ih3⟩ := impl_verify.mono_l k
 unfold impl_verify.f
 with_reducible repeat' first | exact ih0 .. | exact ih1 .. | exact ih2 .. | exact ih3 .. | exact impl_InsRight.mono .. | exact impl_heightsOf.mono .. | exact LeO.refl _ | exact LeO.none _ | refine LeO.ite ?_ ?_ | refine LeO.bind ?_ (fun _ => ?_)
theorem impl_verify.calls (k : Nat) (A0_0 : Option Addr) (c0_0 : Nat) (l0_0 : List (S55)) (r1 : Int) (r2 : Int) (r3 : Int) (r4 : List (List Int)) (w : World) (hr0_0 : Kd.C k55 w A0_0 l0_0.length l0_0) (hc0_0 : l0_0.length ≤ c0_0) (h : impl_verify.f k l0_0 = some (r1, r2, r3, r4)) :
  Calls Try.prog 43 #[.agg #[.slice A0_0 l0_0.length c0_0]] w fun e w' => ∃ v3_ : Value, e = .returned (.tuple #[.agg #[.int .i64 r1, .int .i64 r2, .int .i64 r3], v3_]) ∧ Kd.S (Kd.slice 2 (Kd.int .i64)) 25 w' w.heap.size (fun _ => True) v3_ r4 ∧ Below w.heap.size w w' := by
 have hu34 := Try.underlying34
 have hu80 := Try.underlying80
 have hu55 := Try.underlying55
 have hu85 := Try.underlying85
 have HR0_0 := am hr0_0
 have HC0_0 := am hc0_0
 clear hr0_0 hc0_0
 have HB := am (Below.refl w.heap.size w)
 have H : (if (l0_0.length : Int) < 1 then (impl_verify.j0 k true l0_0) else (impl_verify.j0 k (decide ((l0_0.length : Int) > 6)) l0_0)) = some (r1, r2, r3, r4) := h
 clear h
 have HC2 := am H
 clear H
 go_enter Try.func43, Try.ntmps43
 go_upto_region 1 with (first | ((with_reducible refine gate_dst (N := 1) rfl ?_); (try (refine gate_guard (by rfl) ?_; dsimp only)); refine box_event ?hg (N := 1) ?hd (cs := #[.slice A0_0 l0_0.length c0_0]) (t := 34) ?hr ?_; (case hd => rfl); (case hg => rfl); (case hr => exact gs); intro gb322 hg w3 hbox hb; have BK322 := am (hbox); have GW322 := gw hg HB; replace HB := bs HB hb; clear hb hbox hg) | ((with_reducible refine gate_dst (N := 2) rfl ?_); (try (refine gate_guard (by rfl) ?_; dsimp only)); refine box_event ?hg (N := 2) ?hd (cs := #[.int .i64 0, .int .i64 0, .int .i64 0]) (t := 80) ?hr ?_; (case hd => rfl); (case hg => rfl); (case hr => exact gs); intro gb323 hg w4 hbox hb; have BK323 := am (hbox); have GW323 := gw hg HB; replace HB := bs HB hb; obtain ⟨NB322_323, NB323_322, BK322⟩ := b3 hg BK322 hb; clear hb hbox hg))
 (try simp only [Act.put, sa, sz, ss])
 go_cut [21] (fun v21 wc => ∃ (kq : Nat) (x21_1 : Bool), v21 = .bool x21_1 ∧ Aside0 (impl_verify.j0 kq x21_1 l0_0 = some (r1, r2, r3, r4)) ∧ Aside0 (kq ≤ k) ∧ Aside0 (wc.heap[gb322]? = some (.cells #[(.slice A0_0 l0_0.length c0_0)] 34 (0, 0))) ∧ Aside0 (wc.heap[gb323]? = some (.cells #[.int .i64 0, .int .i64 0, .int .i64 0] 80 (0, 0))) ∧ Aside0 (Below w.heap.size w wc))
 case first =>
  have H := HC2.out
  clear HC2
  refine qI H ?_ ?_ <;> clear H <;> intro c5b0 H
  ·have c5 := of_decide_eq_true c5b0
   have c5b1 : decide (l0_0.length < 1) = true := decide_eq_true (by omega)
   clear c5
   (first | rw [c5b0] | (simp only [i64_w, i32_w]; rw [c5b0]) | skip)
   have H' := am H
   clear H
   have hnb6 := NB322_323.out
   have hnc6 := NB323_322.out
   have hcz7 := bK w4 BK322
   have hfz7 := bF BK322
   go_wp2
   go_meet
   case rel => exact ⟨_, (true), dr, H', ⟨lk0⟩, ⟨bp BK322⟩, ⟨bp BK323⟩, ⟨bw HB⟩⟩
  have c5 := of_decide_eq_false c5b0
  have c5b1 : decide (l0_0.length < 1) = false := decide_eq_false (by omega)
  clear c5
  (first | rw [c5b0] | (simp only [i64_w, i32_w]; rw [c5b0]) | skip)
  have H' := am H
  clear H
  have hnb8 := NB322_323.out
  have hnc8 := NB323_322.out
  have hcz9 := bK w4 BK322
  have hfz9 := bF BK322
  go_wp2
  go_meet
  case rel => exact ⟨_, (decide ((l0_0.length : Int) > 6)), dr, H', ⟨lk0⟩, ⟨bp BK322⟩, ⟨bp BK323⟩, ⟨bw HB⟩⟩
 clear HC2
 (try clear p2); (try clear c4); (try clear c5); (try clear c5b0); (try clear c5b1); (try clear c6); (try clear c8); (try clear hcz7); (try clear hcz9); (try clear hfz7); (try clear hfz9)
 obtain ⟨kq, x21_1, rfl, HA, HJ1, BK322, BK323, HB⟩ := hcut
 rcases kq with _ | kj1
 ·exact absurd HA.out (by simp [impl_verify.j0])
 have H := HA.out
 clear HA
 simp only [impl_verify.j0] at H
 refine qT H ?_ ?_ <;> clear H <;> intro c10 H <;> subst c10
 ·simp only [Option.some.injEq, Prod.mk.injEq] at H
  obtain ⟨rfl, rfl, rfl, rfl⟩ := H
  have hnb11 := NB323_322.out
  have hnc11 := NB322_323.out
  have hcz12 := bK wc BK323
  have hfz12 := bF BK323
  go_wp2
  refine bodyPost_ret (results_ct rfl _ _ gb323 80 #[.int .i64 0, .int .i64 0, .int .i64 1] (0, 0) _ rfl (bt BK323) Try.underlying80 rfl (by kernel_rfl)) rfl ?_
  exact ⟨_, er, by first | exact Kd.S_nil _ _ _ _ _ | exact Kd.N_nil _ _ _ _ _ | exact Kd.V_nil _ _ _ _ _ | exact Kd.Q_nil _ _ _ _ _ | exact Kd.R_nil _ _ _ _ _, bw HB⟩
 have H' := am H
 clear H
 have hnb13 := NB322_323.out
 have hnc13 := NB323_322.out
 have hcz14 := bK wc BK322
 have hfz14 := bF BK322
 go_wp2
 go_loopg [4, 26] kj1 (fun kq v4 v26 w' => ∃ (x4_2 : List (List Int)) (x26_2 : Int) (x324000_2 : Int) (x324001_2 : Int) (x324002_2 : Int), v26 = .int .i64 x26_2 ∧ Aside0 (impl_verify.l0 kq x4_2 l0_0 (l0_0.length : Int) x26_2 l0_0 = some (r1, r2, r3, r4)) ∧ Aside0 (kq ≤ kj1) ∧ Aside0 (Kd.S (Kd.slice 2 (Kd.int .i64)) 25 w' w.heap.size (fun _ => True) v4 x4_2) ∧ Aside0 (w'.heap[gb322]? = some (.cells #[(.slice A0_0 l0_0.length c0_0)] 34 (0, 0))) ∧ Aside0 (w'.heap[gb323]? = some (.cells #[.int .i64 x324000_2, .int .i64 x324001_2, .int .i64 x324002_2] 80 (0, 0))) ∧ Aside0 (Below w.heap.size w w'))
 case atStart => exact ⟨(([] : List (List Int))), (0), (0), (0), (0), dr, H', ⟨Nat.le_refl _⟩, ⟨by first | exact Kd.S_nil _ _ _ _ _ | exact Kd.N_nil _ _ _ _ _ | exact Kd.V_nil _ _ _ _ _ | exact Kd.Q_nil _ _ _ _ _ | exact Kd.R_nil _ _ _ _ _⟩, ⟨bp BK322⟩, ⟨bp BK323⟩, ⟨bw HB⟩⟩
 clear H'
 (try clear c1); (try clear c10); (try clear c11); (try clear c13); (try clear hcz12); (try clear hcz14); (try clear hfz12); (try clear hfz14)
 obtain ⟨x4_2, x26_2, x324000_2, x324001_2, x324002_2, rfl, HA, HK2, HO_4, BK322, BK323, HB⟩ := hrel
 rcases gk with _ | k2
 ·exact absurd HA.out (by simp [impl_verify.l0])
 have H := HA.out
 clear HA
 simp only [impl_verify.l0] at H
 by_cases c15 : x26_2 < (l0_0.length : Int)
 ·rw [if_pos c15] at H
  have c15b0 := decide_eq_true c15
  clear c15
  refine iN H ?_; clear H; intro c16 H
  have c16b0 := decide_eq_true c16
  clear c16
  refine iN H ?_; clear H; intro c17 H
  have c17b0 := decide_eq_true c17
  clear c17
  have HC18 := am H
  clear H
  have p324 : 0 ≤ (x26_2 : Int) := of_decide_eq_true as1
  have q324 : x26_2 < (l0_0.length : Int) := of_decide_eq_true as1
  obtain ⟨ad324, A324_2, c324_2, e324, hx324_0, hx324_1, hx324_2, hl324_2, hi324_2⟩ := at_T55 HR0_0.out x26_2 p324 q324
  cases e324
  replace hx324_0 := cl HB hx324_0
  replace hx324_1 := cl HB hx324_1
  replace hx324_2 := cl HB hx324_2
  have HR324_2 := am hi324_2
  have HC324_2 := am hl324_2
  clear hi324_2 hl324_2
  replace p324 := eq_true p324
  replace q324 := eq_true q324
  go_upto_region 7 with (first | ((with_reducible refine gate_dst (N := 6) rfl ?_); (try (refine gate_guard (by rfl) ?_; dsimp only)); refine box_event ?hg (N := 6) ?hd (cs := #[.int .i64 0, .int .i64 0, .slice none 0 0]) (t := 55) ?hr ?_; (case hd => rfl); (case hg => rfl); (case hr => exact gs); intro gb325 hg w19 hbox hb; replace HO_4 := am (Kd.S_below (kS HO_4) hb); have BK325 := am (hbox); have GW325 := gw hg HB; replace HB := bs HB hb; obtain ⟨NB322_325, NB325_322, BK322⟩ := b3 hg BK322 hb; obtain ⟨NB323_325, NB325_323, BK323⟩ := b3 hg BK323 hb; clear hb hbox hg; have hnb20 := NB325_322.out; have hnc20 := NB322_325.out; have hnb21 := NB325_323.out; have hnc21 := NB323_325.out; have hcz22 := bK w19 BK325; have hfz22 := bF BK325))
  (try simp only [Act.put, sa, sz, ss])
  go_cut [49] (fun v49 wc => ∃ (kq : Nat) (x49_17 : Bool), v49 = .bool x49_17 ∧ Aside0 (impl_verify.j2 kq x4_2 x26_2 l0_0 (l0_0.length : Int) x26_2 x49_17 l0_0 ((rd_T55 l0_0 x26_2).f0) ((rd_T55 l0_0 x26_2).f1) ((rd_T55 l0_0 x26_2).f2) = some (r1, r2, r3, r4)) ∧ Aside0 (kq ≤ k2) ∧ Aside0 (Kd.S (Kd.slice 2 (Kd.int .i64)) 25 wc w.heap.size (fun _ => True) u4 x4_2) ∧ Aside0 (wc.heap[gb322]? = some (.cells #[(.slice (some ad324) l0_0.length c0_0)] 34 (0, 0))) ∧ Aside0 (wc.heap[gb323]? = some (.cells #[.int .i64 x324000_2, .int .i64 x324001_2, .int .i64 x324002_2] 80 (0, 0))) ∧ Aside0 (wc.heap[gb325]? = some (.cells #[.int .i64 ((rd_T55 l0_0 x26_2).f0), .int .i64 ((rd_T55 l0_0 x26_2).f1), (.slice A324_2 ((rd_T55 l0_0 x26_2).f2).length c324_2)] 55 (0, 0))) ∧ Aside0 (Below w.heap.size w wc))
  case first =>
   have H := HC18.out
   clear HC18
   refine be H ?_; clear H; intro t326 A23 H
   refine qT H ?_ ?_ <;> clear H <;> intro c24 H <;> subst c24
   ·refine be H ?_; clear H; intro t327 A25 H
    refine qT H ?_ ?_ <;> clear H <;> intro c26 H <;> subst c26
    ·refine be H ?_; clear H; intro t328 A27 H
     have H' := am H
     clear H
     have hnb28 := NB325_322.out
     have hnc28 := NB322_325.out
     have hnb29 := NB325_323.out
     have hnc29 := NB323_325.out
     have hcz30 := bK w19 BK325
     have hfz30 := bF BK325
     go_wp2_with (first | ((with_reducible refine gate_callee (f := 21) rfl ?_); refine goesL_ (some 33) rfl rfl Try.func21 (by kernel_rfl) rfl #[.int .i64 ((rd_T55 l0_0 x26_2).f0), .int .i64 0, .int .i64 4] rfl gl ?_; (with_reducible refine (impl_in.calls ((rd_T55 l0_0 x26_2).f0) 0 4 true _ A23.out).mono ?_); rintro e w' ⟨rfl, ⟨nd, rfl⟩⟩; refine ⟨_, rfl, ?_⟩) | (go_at_call 21; (with_reducible refine (impl_in.calls ((rd_T55 l0_0 x26_2).f1) ((rd_T55 l0_0 x26_2).f0) 8 true _ A25.out).mono ?_); rintro e w' ⟨rfl, ⟨nd, rfl⟩⟩) | (go_at_call 21; (with_reducible refine (impl_in.calls (((rd_T55 l0_0 x26_2).f2).length : Int) 1 60 t328 _ A27.out).mono ?_); rintro e w' ⟨rfl, ⟨nd, rfl⟩⟩))
     go_meet
     case rel => exact ⟨_, (!t328), dr, H', ⟨lk2 HJ1 HK2⟩, ⟨by (with_reducible repeat (first | apply Kd.S_alloc | apply Kd.S_drewN | apply Kd.S_drew)); exact Kd.S_mono (Kd.S_far (p := ⟨gb325, 2, none⟩) (Kd.S_far (p := ⟨gb325, 1, none⟩) (Kd.S_far (p := ⟨gb325, 0, none⟩) (Kd.S_types HO_4.out BK325.out (by decide)) (fun _ hk => hk.2) (.int .i64 ((rd_T55 l0_0 x26_2).f0))) (fun _ hk => hk.2) (.int .i64 ((rd_T55 l0_0 x26_2).f1))) (fun _ hk => hk.2) (.slice A324_2 ((rd_T55 l0_0 x26_2).f2).length c324_2)) (fun _ hk => trivial)⟩, ⟨by (with_reducible repeat (first | apply dN | apply dW | apply dA)); refine blk_far ?_ NB322_325.out _; (with_reducible repeat (first | apply dN | apply dW | apply dA)); refine blk_far ?_ NB322_325.out _; (with_reducible repeat (first | apply dN | apply dW | apply dA)); refine blk_far ?_ NB322_325.out _; exact bp BK322⟩, ⟨by (with_reducible repeat (first | apply dN | apply dW | apply dA)); refine blk_far ?_ NB323_325.out _; (with_reducible repeat (first | apply dN | apply dW | apply dA)); refine blk_far ?_ NB323_325.out _; (with_reducible repeat (first | apply dN | apply dW | apply dA)); refine blk_far ?_ NB323_325.out _; exact bp BK323⟩, ⟨by (with_reducible repeat (first | apply dN | apply dW | apply dA)); refine blk_put (cs := #[.int .i64 ((rd_T55 l0_0 x26_2).f0), .int .i64 ((rd_T55 l0_0 x26_2).f1), .slice none 0 0]) ?_ 2 _ rfl; (with_reducible repeat (first | apply dN | apply dW | apply dA)); refine blk_put (cs := #[.int .i64 ((rd_T55 l0_0 x26_2).f0), .int .i64 0, .slice none 0 0]) ?_ 1 _ rfl; (with_reducible repeat (first | apply dN | apply dW | apply dA)); refine blk_put (cs := #[.int .i64 0, .int .i64 0, .slice none 0 0]) ?_ 0 _ rfl; exact bp BK325⟩, ⟨bw HB⟩⟩
    have H' := am H
    clear H
    have hnb31 := NB325_322.out
    have hnc31 := NB322_325.out
    have hnb32 := NB325_323.out
    have hnc32 := NB323_325.out
    have hcz33 := bK w19 BK325
    have hfz33 := bF BK325
    go_wp2_with (first | ((with_reducible refine gate_callee (f := 21) rfl ?_); refine goesL_ (some 33) rfl rfl Try.func21 (by kernel_rfl) rfl #[.int .i64 ((rd_T55 l0_0 x26_2).f0), .int .i64 0, .int .i64 4] rfl gl ?_; (with_reducible refine (impl_in.calls ((rd_T55 l0_0 x26_2).f0) 0 4 true _ A23.out).mono ?_); rintro e w' ⟨rfl, ⟨nd, rfl⟩⟩; refine ⟨_, rfl, ?_⟩) | (go_at_call 21; (with_reducible refine (impl_in.calls ((rd_T55 l0_0 x26_2).f1) ((rd_T55 l0_0 x26_2).f0) 8 false _ A25.out).mono ?_); rintro e w' ⟨rfl, ⟨nd, rfl⟩⟩))
    go_meet
    case rel => exact ⟨_, (true), dr, H', ⟨lk2 HJ1 HK2⟩, ⟨by (with_reducible repeat (first | apply Kd.S_alloc | apply Kd.S_drewN | apply Kd.S_drew)); exact Kd.S_mono (Kd.S_far (p := ⟨gb325, 2, none⟩) (Kd.S_far (p := ⟨gb325, 1, none⟩) (Kd.S_far (p := ⟨gb325, 0, none⟩) (Kd.S_types HO_4.out BK325.out (by decide)) (fun _ hk => hk.2) (.int .i64 ((rd_T55 l0_0 x26_2).f0))) (fun _ hk => hk.2) (.int .i64 ((rd_T55 l0_0 x26_2).f1))) (fun _ hk => hk.2) (.slice A324_2 ((rd_T55 l0_0 x26_2).f2).length c324_2)) (fun _ hk => trivial)⟩, ⟨by (with_reducible repeat (first | apply dN | apply dW | apply dA)); refine blk_far ?_ NB322_325.out _; (with_reducible repeat (first | apply dN | apply dW | apply dA)); refine blk_far ?_ NB322_325.out _; (with_reducible repeat (first | apply dN | apply dW | apply dA)); refine blk_far ?_ NB322_325.out _; exact bp BK322⟩, ⟨by (with_reducible repeat (first | apply dN | apply dW | apply dA)); refine blk_far ?_ NB323_325.out _; (with_reducible repeat (first | apply dN | apply dW | apply dA)); refine blk_far ?_ NB323_325.out _; (with_reducible repeat (first | apply dN | apply dW | apply dA)); refine blk_far ?_ NB323_325.out _; exact bp BK323⟩, ⟨by (with_reducible repeat (first | apply dN | apply dW | apply dA)); refine blk_put (cs := #[.int .i64 ((rd_T55 l0_0 x26_2).f0), .int .i64 ((rd_T55 l0_0 x26_2).f1), .slice none 0 0]) ?_ 2 _ rfl; (with_reducible repeat (first | apply dN | apply dW | apply dA)); refine blk_put (cs := #[.int .i64 ((rd_T55 l0_0 x26_2).f0), .int .i64 0, .slice none 0 0]) ?_ 1 _ rfl; (with_reducible repeat (first | apply dN | apply dW | apply dA)); refine blk_put (cs := #[.int .i64 0, .int .i64 0, .slice none 0 0]) ?_ 0 _ rfl; exact bp BK325⟩, ⟨bw HB⟩⟩
   have H' := am H
   clear H
   have hnb34 := NB325_322.out
   have hnc34 := NB322_325.out
   have hnb35 := NB325_323.out
   have hnc35 := NB323_325.out
   have hcz36 := bK w19 BK325
   have hfz36 := bF BK325
   go_wp2_with (first | ((with_reducible refine gate_callee (f := 21) rfl ?_); refine goesL_ (some 33) rfl rfl Try.func21 (by kernel_rfl) rfl #[.int .i64 ((rd_T55 l0_0 x26_2).f0), .int .i64 0, .int .i64 4] rfl gl ?_; (with_reducible refine (impl_in.calls ((rd_T55 l0_0 x26_2).f0) 0 4 false _ A23.out).mono ?_); rintro e w' ⟨rfl, ⟨nd, rfl⟩⟩; refine ⟨_, rfl, ?_⟩))
   go_meet
   case rel => exact ⟨_, (true), dr, H', ⟨lk2 HJ1 HK2⟩, ⟨by (with_reducible repeat (first | apply Kd.S_alloc | apply Kd.S_drewN | apply Kd.S_drew)); exact Kd.S_mono (Kd.S_far (p := ⟨gb325, 2, none⟩) (Kd.S_far (p := ⟨gb325, 1, none⟩) (Kd.S_far (p := ⟨gb325, 0, none⟩) (Kd.S_types HO_4.out BK325.out (by decide)) (fun _ hk => hk.2) (.int .i64 ((rd_T55 l0_0 x26_2).f0))) (fun _ hk => hk.2) (.int .i64 ((rd_T55 l0_0 x26_2).f1))) (fun _ hk => hk.2) (.slice A324_2 ((rd_T55 l0_0 x26_2).f2).length c324_2)) (fun _ hk => trivial)⟩, ⟨by (with_reducible repeat (first | apply dN | apply dW | apply dA)); refine blk_far ?_ NB322_325.out _; (with_reducible repeat (first | apply dN | apply dW | apply dA)); refine blk_far ?_ NB322_325.out _; (with_reducible repeat (first | apply dN | apply dW | apply dA)); refine blk_far ?_ NB322_325.out _; exact bp BK322⟩, ⟨by (with_reducible repeat (first | apply dN | apply dW | apply dA)); refine blk_far ?_ NB323_325.out _; (with_reducible repeat (first | apply dN | apply dW | apply dA)); refine blk_far ?_ NB323_325.out _; (with_reducible repeat (first | apply dN | apply dW | apply dA)); refine blk_far ?_ NB323_325.out _; exact bp BK323⟩, ⟨by (with_reducible repeat (first | apply dN | apply dW | apply dA)); refine blk_put (cs := #[.int .i64 ((rd_T55 l0_0 x26_2).f0), .int .i64 ((rd_T55 l0_0 x26_2).f1), .slice none 0 0]) ?_ 2 _ rfl; (with_reducible repeat (first | apply dN | apply dW | apply dA)); refine blk_put (cs := #[.int .i64 ((rd_T55 l0_0 x26_2).f0), .int .i64 0, .slice none 0 0]) ?_ 1 _ rfl; (with_reducible repeat (first | apply dN | apply dW | apply dA)); refine blk_put (cs := #[.int .i64 0, .int .i64 0, .slice none 0 0]) ?_ 0 _ rfl; exact bp BK325⟩, ⟨bw HB⟩⟩
  clear HC18
  (try clear c2); (try clear c3); (try clear p3); (try clear q3); (try clear hx3); (try clear c15); (try clear c15b0); (try clear c16); (try clear c16b0); (try clear c17); (try clear c17b0); (try clear c20); (try clear c21); (try clear c24); (try clear c26); (try clear c28); (try clear c29); (try clear c31); (try clear c32); (try clear p32); (try clear q32); (try clear hx32); (try clear c34); (try clear c35); (try clear hcz22); (try clear hcz30); (try clear hcz33); (try clear hcz36); (try clear hfz22); (try clear hfz30); (try clear hfz33); (try clear hfz36); (try clear hx324_0); (try clear hx324_1); (try clear hx324_2); (try clear p324); (try clear q324)
  obtain ⟨kq, x49_17, rfl, HA, HJ17, HO_4, BK322, BK323, BK325, HB⟩ := hcut
  rcases kq with _ | kj17
  ·exact absurd HA.out (by simp [impl_verify.j2])
  have H := HA.out
  clear HA
  simp only [impl_verify.j2] at H
  refine qT H ?_ ?_ <;> clear H <;> intro c37 H <;> subst c37
  ·simp only [Option.some.injEq, Prod.mk.injEq] at H
   obtain ⟨rfl, rfl, rfl, rfl⟩ := H
   have hnb38 := NB323_322.out
   have hnc38 := NB322_323.out
   have hnb39 := NB323_325.out
   have hnc39 := NB325_323.out
   have hcz40 := bK wc BK323
   have hfz40 := bF BK323
   go_wp2
   refine bodyPost_ret (results_ct rfl _ _ gb323 80 #[.int .i64 x26_2, .int .i64 0, .int .i64 1] (0, 0) _ rfl (bt BK323) Try.underlying80 rfl (by kernel_rfl)) rfl ?_
   exact ⟨_, er, by first | exact Kd.S_nil _ _ _ _ _ | exact Kd.N_nil _ _ _ _ _ | exact Kd.V_nil _ _ _ _ _ | exact Kd.Q_nil _ _ _ _ _ | exact Kd.R_nil _ _ _ _ _, bw HB⟩
  have H' := am H
  clear H
  have hnb41 := NB325_322.out
  have hnc41 := NB322_325.out
  have hnb42 := NB325_323.out
  have hnc42 := NB323_325.out
  have hcz43 := bK wc BK325
  have hfz43 := bF BK325
  go_wp2
  go_loopg [55] kj17 (fun kq v55 w' => ∃ (x55_4 : Int) (x324000_4 : Int) (x324001_4 : Int) (x324002_4 : Int), v55 = .int .i64 x55_4 ∧ Aside0 (impl_verify.l1 kq x4_2 x26_2 l0_0 (l0_0.length : Int) x26_2 ((rd_T55 l0_0 x26_2).f2) (((rd_T55 l0_0 x26_2).f2).length : Int) x55_4 l0_0 = some (r1, r2, r3, r4)) ∧ Aside0 (kq ≤ kj17) ∧ Aside0 (Kd.S (Kd.slice 2 (Kd.int .i64)) 25 w' w.heap.size (fun _ => True) u4 x4_2) ∧ Aside0 (w'.heap[gb322]? = some (.cells #[(.slice (some ad324) l0_0.length c0_0)] 34 (0, 0))) ∧ Aside0 (w'.heap[gb323]? = some (.cells #[.int .i64 x324000_4, .int .i64 x324001_4, .int .i64 x324002_4] 80 (0, 0))) ∧ Aside0 (w'.heap[gb325]? = some (.cells #[.int .i64 ((rd_T55 l0_0 x26_2).f0), .int .i64 ((rd_T55 l0_0 x26_2).f1), (.slice A324_2 ((rd_T55 l0_0 x26_2).f2).length c324_2)] 55 (0, 0))) ∧ Aside0 (Below w.heap.size w w'))
  case atStart => exact ⟨(0), (x324000_2), (x324001_2), (x324002_2), dr, H', ⟨Nat.le_refl _⟩, ⟨kS HO_4⟩, ⟨bp BK322⟩, ⟨bp BK323⟩, ⟨bp BK325⟩, ⟨bw HB⟩⟩
  clear H'
  (try clear c37); (try clear c38); (try clear c39); (try clear c41); (try clear c42); (try clear c43); (try clear hcz40); (try clear hcz43); (try clear hfz40); (try clear hfz43)
  obtain ⟨x55_4, x324000_4, x324001_4, x324002_4, rfl, HA, HK4, HO_4, BK322, BK323, BK325, HB⟩ := hrel
  rcases gk with _ | k4
  ·exact absurd HA.out (by simp [impl_verify.l1])
  have H := HA.out
  clear HA
  simp only [impl_verify.l1] at H
  refine qI H ?_ ?_ <;> clear H <;> intro c44b0 H
  ·refine iM H ?_; clear H; intro c45b0 H
   refine iM H ?_; clear H; intro c46b0 H
   refine be H ?_; clear H; intro t331 A47 H
   have HC48 := am H
   clear H
   have p329 : 0 ≤ (x55_4 : Int) := of_decide_eq_true as1
   have q329 : x55_4 < (((rd_T55 l0_0 x26_2).f2).length : Int) := of_decide_eq_true as1
   obtain ⟨ad329, e329, hx329_0, hx329_1⟩ := at_T85 HR324_2.out x55_4 p329 q329
   cases e329
   replace hx329_0 := cl HB hx329_0
   replace hx329_1 := cl HB hx329_1
   replace p329 := eq_true p329
   replace q329 := eq_true q329
   go_upto_if 64 with (first | ((with_reducible refine gate_dst (N := 8) rfl ?_); (try (refine gate_guard (by rfl) ?_; dsimp only)); refine box_event ?hg (N := 8) ?hd (cs := #[.int .i64 0, .int .i64 0]) (t := 85) ?hr ?_; (case hd => rfl); (case hg => rfl); (case hr => exact gs); intro gb330 hg w49 hbox hb; replace HO_4 := am (Kd.S_below (kS HO_4) hb); have BK330 := am (hbox); have GW330 := gw hg HB; replace HB := bs HB hb; obtain ⟨NB322_330, NB330_322, BK322⟩ := b3 hg BK322 hb; obtain ⟨NB323_330, NB330_323, BK323⟩ := b3 hg BK323 hb; obtain ⟨NB325_330, NB330_325, BK325⟩ := b3 hg BK325 hb; clear hb hbox hg; have hnb50 := NB330_322.out; have hnc50 := NB322_330.out; have hnb51 := NB330_323.out; have hnc51 := NB323_330.out; have hnb52 := NB330_325.out; have hnc52 := NB325_330.out; have hcz53 := bK w49 BK330; have hfz53 := bF BK330; have hnb54 := NB322_323.out; have hnc54 := NB323_322.out; have hnb55 := NB322_325.out; have hnc55 := NB325_322.out; have hcz56 := bK w49 BK322; have hfz56 := bF BK322) | ((with_reducible refine gk 47 rfl ?_); refine gB 47 (some 63) Try.func47 #[.agg #[.slice (some ad324) l0_0.length c0_0], .int .i64 x26_2, .agg #[.int .i64 ((rd_T85 ((rd_T55 l0_0 x26_2).f2) x55_4).f0), .int .i64 ((rd_T85 ((rd_T55 l0_0 x26_2).f2) x55_4).f1)]] (impl_InsRight.calls k4 _ _ l0_0 x26_2 ((rd_T85 ((rd_T55 l0_0 x26_2).f2) x55_4).f0) ((rd_T85 ((rd_T55 l0_0 x26_2).f2) x55_4).f1) t331 _ (Kd.C_below HR0_0.out (bw HB)) HC0_0.out A47.out) ?_; intro w57 hb; replace HO_4 := am (Kd.S_below (by (with_reducible repeat (first | apply Kd.S_alloc | apply Kd.S_drewN | apply Kd.S_drew)); exact (Kd.S_mono (Kd.S_far (p := ⟨gb330, 1, none⟩) (Kd.S_far (p := ⟨gb330, 0, none⟩) (Kd.S_types HO_4.out BK330.out (by decide)) (fun _ hk => hk.2) (.int .i64 ((rd_T85 ((rd_T55 l0_0 x26_2).f2) x55_4).f0))) (fun _ hk => hk.2) (.int .i64 ((rd_T85 ((rd_T55 l0_0 x26_2).f2) x55_4).f1))) (fun _ h_ => h_.1))) hb); replace BK322 := bb2 BK322 hb; replace BK323 := bb2 BK323 hb; replace BK325 := bb2 BK325 hb; replace BK330 := bo #[.int .i64 ((rd_T85 ((rd_T55 l0_0 x26_2).f2) x55_4).f0), .int .i64 ((rd_T85 ((rd_T55 l0_0 x26_2).f2) x55_4).f1)] BK330 hb; replace HB := bs HB hb; clear hb))
   (try simp only [Act.put, sa, sz, ss])
   have H := HC48.out
   clear HC48
   refine qT H ?_ ?_ <;> clear H <;> intro c58 H <;> subst c58
   ·have H' := am H
    clear H
    go_wp2
    go_roundg k4
    case measure => have := HJ1.out; have := HK2.out; have := HJ17.out; have := HK4.out; omega
    case rel => exact ⟨(wrap64 (x55_4 + 1)), (x324000_4), (x324001_4), (x324002_4), dr, H', ⟨by have := HJ1.out; have := HK2.out; have := HJ17.out; have := HK4.out; omega⟩, ⟨kS HO_4⟩, ⟨bp BK322⟩, ⟨bp BK323⟩, ⟨bp BK325⟩, ⟨bw HB⟩⟩
   simp only [Option.some.injEq, Prod.mk.injEq] at H
   obtain ⟨rfl, rfl, rfl, rfl⟩ := H
   have hnb59 := NB323_322.out
   have hnc59 := NB322_323.out
   have hnb60 := NB323_325.out
   have hnc60 := NB325_323.out
   have hnb61 := NB323_330.out
   have hnc61 := NB330_323.out
   have hcz62 := bK w57 BK323
   have hfz62 := bF BK323
   go_wp2
   refine bodyPost_ret (results_ct rfl _ _ gb323 80 #[.int .i64 x26_2, .int .i64 x55_4, .int .i64 1] (0, 0) _ rfl (bt BK323) Try.underlying80 rfl (by kernel_rfl)) rfl ?_
   exact ⟨_, er, by first | exact Kd.S_nil _ _ _ _ _ | exact Kd.N_nil _ _ _ _ _ | exact Kd.V_nil _ _ _ _ _ | exact Kd.Q_nil _ _ _ _ _ | exact Kd.R_nil _ _ _ _ _, bw HB⟩
  replace H := Option.bind_eq_some_iff.mp H
  obtain ⟨⟨t332, t335, t336⟩, A630, H⟩ := H
  replace H : (if t336 = 0 then (if x4_2.length < 5864062014805 then (impl_verify.l0 k4 (x4_2 ++ [t332]) l0_0 (l0_0.length : Int) (wrap64 (x26_2 + 1)) l0_0) else (none)) else (some (x26_2, t335, t336, ([] : List (List Int))))) = some (r1, r2, r3, r4) := H
  have A63 := am A630
  clear A630
  have HC64 := am H
  clear H
  have hnb65 := NB322_323.out
  have hnc65 := NB323_322.out
  have hnb66 := NB322_325.out
  have hnc66 := NB325_322.out
  have hcz67 := bK wr BK322
  have hfz67 := bF BK322
  go_upto_if 77 with (first | ((with_reducible refine gk 48 rfl ?_); refine gC 48 (some 72) Try.func48 #[.agg #[.slice (some ad324) l0_0.length c0_0], .int .i64 x26_2] ((impl_heightsOf.calls k4 _ _ l0_0 x26_2 t332 t335 t336 _ (cc (Kd.C_below HR0_0.out HB.out)) HC0_0.out A63.out).mono ?_); rintro e w68 ⟨v333, rfl, ho0, hb⟩; refine ⟨_, rfl, ?_⟩; replace HO_4 := am (Kd.S_elder' (kS HO_4) (Kd.R_base ho0) hb); have HO334 := am (Kd.R_lower ho0 (below_size (bw HB))); replace BK322 := bb BK322 hb; replace BK323 := bb BK323 hb; replace BK325 := bb BK325 hb; replace HB := bs HB hb; clear hb; (try clear ho0)))
  (try simp only [Act.put, sa, sz, ss])
  have H := HC64.out
  clear HC64
  refine qE H ?_ ?_ <;> clear H
  ·intro c69b0 c69b1 H
   (first | rw [c69b0] | (simp only [i64_w, i32_w]; rw [c69b0]) | skip)
   refine iN H ?_; clear H; intro c70 H
   have LMc70 := am c70
   clear c70
   obtain ⟨y337, hy337⟩ : ∃ y_ : List (List Int), y_ = (x4_2 ++ [t332]) := ⟨_, rfl⟩
   replace H : (impl_verify.l0 k4 y337 l0_0 (l0_0.length : Int) (wrap64 (x26_2 + 1)) l0_0) = some (r1, r2, r3, r4) := by first | (rw [hy337]; with_reducible exact H) | (have H2_ := (Option.bind_some _ _).symm.trans H; rw [hy337]; with_reducible exact H2_) | (have H2_ := (Option.bind_some _ _).symm.trans H; with_reducible exact H2_) | with_reducible exact H | (rw [hy337]; exact H) | exact H
   have Ny337 := am hy337
   clear hy337
   have H' := am H
   clear H
   obtain ⟨Ao72, co72, eo72⟩ := Kd.R_slice HO334.out
   subst eo72
   go_wp2_with (first | ((with_reducible refine gate_builtin (b := .append) (xs := #[.tmp 82, .tmp 84]) rfl ?_); (try (refine gate_guard (by rfl) ?_; dsimp only)); at_builtin; refine Kd.S_append (Kd.slice 2 (Kd.int .i64)) (w0 := w) w.heap.size rfl (.tmp 82) (.tmp 84) 28 25 (.slice none 0 0) 24 rfl Try.underlying28 info25 rfl (by decide) (by omega) u4 x4_2 t332 [.slice Ao72 t332.length co72] (fun _ => True) (fun k_ => some k_ = (.slice Ao72 t332.length co72 : Value).ownBlock) rfl rfl ?aP (fun k_ hk_ => ((Kd.R_mono (ok' := fun k_ => ((fun _ => True)) k_ ∧ some k_ ≠ (u4 : Value).ownBlock) (Kd.R_apart' (HO334.out) (Kd.S_typed HO_4.out) (by decide)) (fun k_ hk => ⟨trivial, hk.2⟩))).1 k_ hk_.symm) ?aF ?aO ?aB ?aS ?aL ?_; (case aP => exact Kd.M_row (Kd.R_mono (Kd.R_tight rfl (Kd.R_mono (ok' := fun k_ => ((fun _ => True)) k_ ∧ some k_ ≠ (u4 : Value).ownBlock) (Kd.R_apart' (HO334.out) (Kd.S_typed HO_4.out) (by decide)) (fun k_ hk => ⟨trivial, hk.2⟩))) (fun _ h_ => h_))); (case aB => exact (bw HB)); (case aF => exact (fun _ _ => trivial)); (case aO => exact (by (with_reducible repeat (first | apply Kd.S_alloc | apply Kd.S_drewN | apply Kd.S_drew)); exact Kd.S_mono HO_4.out (fun k_ hk => ⟨trivial, fun e_ => hk.2 e_⟩))); (case aS => exact (below_size (bw HB))); (case aL => have := LMc70.out; omega); intro v338 w71 ho hb hg hat; rw [← Ny337.out] at ho; replace BK322 := bg BK322 hg (Kd.S_ne HO_4.out BK322.out (by decide)); replace BK323 := bg BK323 hg (Kd.S_ne HO_4.out BK323.out (by decide)); replace BK325 := bg BK325 hg (Kd.S_ne HO_4.out BK325.out (by decide)); replace HB := am (hb); have HO339 := am (ho); clear HO_4; clear HO334; clear ho hb hg hat))
   go_roundg k4
   case measure => have := HJ1.out; have := HK2.out; have := HJ17.out; have := HK4.out; omega
   case rel => exact ⟨(y337), (wrap64 (x26_2 + 1)), (x324000_4), (x324001_4), (x324002_4), dr, H', ⟨by have := HJ1.out; have := HK2.out; have := HJ17.out; have := HK4.out; omega⟩, ⟨kS HO339⟩, ⟨bp BK322⟩, ⟨bp BK323⟩, ⟨bw HB⟩⟩
  intro c69 c69b0 c69b1 H
  (first | rw [c69b0] | (simp only [i64_w, i32_w]; rw [c69b0]) | skip)
  simp only [Option.some.injEq, Prod.mk.injEq] at H
  obtain ⟨rfl, rfl, rfl, rfl⟩ := H
  have hnb73 := NB323_322.out
  have hnc73 := NB322_323.out
  have hnb74 := NB323_325.out
  have hnc74 := NB325_323.out
  have hcz75 := bK w68 BK323
  have hfz75 := bF BK323
  go_wp2
  refine bodyPost_ret (results_ct rfl _ _ gb323 80 #[.int .i64 x26_2, .int .i64 t335, .int .i64 t336] (0, 0) _ rfl (bt BK323) Try.underlying80 rfl (by kernel_rfl)) rfl ?_
  exact ⟨_, er, by first | exact Kd.S_nil _ _ _ _ _ | exact Kd.N_nil _ _ _ _ _ | exact Kd.V_nil _ _ _ _ _ | exact Kd.Q_nil _ _ _ _ _ | exact Kd.R_nil _ _ _ _ _, bw HB⟩
 rw [if_neg c15] at H
 have c15b0 := decide_eq_false c15
 clear c15
 simp only [Option.some.injEq, Prod.mk.injEq] at H
 obtain ⟨rfl, rfl, rfl, rfl⟩ := H
 have hnb76 := NB323_322.out
 have hnc76 := NB322_323.out
 have hcz77 := bK wr BK323
 have hfz77 := bF BK323
 go_wp2
 refine bodyPost_ret (results_ct rfl _ _ gb323 80 #[.int .i64 0, .int .i64 0, .int .i64 0] (0, 0) _ rfl (bt BK323) Try.underlying80 rfl (by kernel_rfl)) rfl ?_
 exact ⟨_, er, by (with_reducible repeat (first | apply Kd.S_alloc | apply Kd.S_drewN | apply Kd.S_drew)); exact Kd.S_mono (Kd.S_far (p := ⟨gb323, 2, none⟩) (Kd.S_far (p := ⟨gb323, 1, none⟩) (Kd.S_far (p := ⟨gb323, 0, none⟩) (Kd.S_types HO_4.out BK323.out (by decide)) (fun _ hk => hk.2) (.int .i64 0)) (fun _ hk => hk.2) (.int .i64 0)) (fun _ hk => hk.2) (.int .i64 0)) (fun _ hk => trivial), bw HB⟩

def impl_known.f (k : Nat) (l0_0 : List (S55)) : Option ((List (S55)) × (List (List Int)) × Bool) := (impl_verify.f k l0_0).bind fun bt341 => (some (l0_0, bt341.2.2.2, (bt341.2.2.1 == 0)))
theorem impl_known.mono : ∀ a0 k, LeO (impl_known.f k a0) (impl_known.f (k + 1) a0) := by
 intro a0 k
 unfold impl_known.f
 with_reducible repeat' first | exact impl_verify.mono .. | exact LeO.refl _ | exact LeO.none _ | refine LeO.ite ?_ ?_ | refine LeO.bind ?_ (fun _ => ?_)
def impl_known.T2 : Bool × List (List Nat × List Nat) := (true, [([], []), ([], []), ([0, 1], [0, 1]), ([2], [2]), ([], []), ([4], [4]), ([5], [5]), ([3, 0, 1, 2, 3], [3]), ([6, 7, 0, 1, 2, 3, 4, 5, 6, 7], [6])])
def impl_known.B2 : List Nat := [0, 0, 3, 7, 0, 16, 48, 15, 255]
theorem impl_known.tab2 : rtab .any (opsOf Try.f35 2) = impl_known.T2 := by kernel_rfl
theorem impl_known.bits2 : waitsOk impl_known.T2.2 impl_known.B2 = true := by kernel_rfl
theorem impl_known.calls (k : Nat) (P0_0_ : Nat → Prop) (A0_0 : Option Addr) (c0_0 : Nat) (l0_0 : List (S55)) (r1 : List (S55)) (r2 : List (List Int)) (r3 : Bool) (w : World) (hs0_0 : Kd.V k55 55 w w.heap.size (fun k_ => P0_0_ k_) (.slice A0_0 l0_0.length c0_0) l0_0) (h : impl_known.f k l0_0 = some (r1, r2, r3)) :
  Calls Try.prog 35 #[.agg #[.slice A0_0 l0_0.length c0_0]] w fun e w' => ∃ v0_ v1_ : Value, ∃ g_ : Nat, e = .returned (.tuple #[.pointer (some ⟨g_, 0, none⟩), .bool r3]) ∧ Kd.V k55 55 w' w.heap.size (fun k_ => (P0_0_ k_ ∨ w.heap.size ≤ k_) ∧ some k_ ≠ (v1_ : Value).ownBlock) v0_ r1 ∧ Kd.S (Kd.slice 2 (Kd.int .i64)) 25 w' w.heap.size (fun k_ => (w.heap.size ≤ k_)) v1_ r2 ∧ w'.heap[g_]? = some (.cells #[v0_, v1_] 72 (0, 0)) ∧ w.heap.size ≤ g_ ∧ Below w.heap.size w w' := by
 have hu34 := Try.underlying34
 have hu80 := Try.underlying80
 have hu72 := Try.underlying72
 have HO0_0 := am (show Kd.V k55 55 w w.heap.size (fun k_ => (P0_0_ k_ ∨ w.heap.size ≤ k_)) (.slice A0_0 l0_0.length c0_0) l0_0 from Kd.V_mono hs0_0 (fun k_ hk => .inl hk))
 have HB := am (Below.refl w.heap.size w)
 have H : ((impl_verify.f k l0_0).bind fun bt341 => (some (l0_0, bt341.2.2.2, (bt341.2.2.1 == 0)))) = some (r1, r2, r3) := h
 clear h
 replace H := Option.bind_eq_some_iff.mp H
 obtain ⟨⟨t341, t342, t343, t344⟩, A20, H⟩ := H
 replace H : (some (l0_0, t344, (t343 == 0))) = some (r1, r2, r3) := H
 have A2 := am A20
 clear A20
 simp only [Option.some.injEq, Prod.mk.injEq] at H
 obtain ⟨rfl, rfl, rfl⟩ := H
 go_enter Try.func35, Try.ntmps35
 try go_wp2_with (first | ((with_reducible refine gd 1 rfl ?_); refine bX 1 #[.slice A0_0 l0_0.length c0_0] 34 HB ?_; clear HB; intro gb340 w3 hg hb BK340 GW340 HB; replace HO0_0 := am (Kd.V_below (Kd.V_elderB (kV HO0_0) gb340 (Nat.le_of_eq hg.symm)) hb); clear hb hg; have hcz4 := bK w3 BK340; have hfz4 := bF BK340) | ((with_reducible refine gk 43 rfl ?_); refine gC 43 (some 8) Try.func43 #[.agg #[.slice A0_0 l0_0.length c0_0]] ((impl_verify.calls k _ _ l0_0 t341 t342 t343 t344 _ (cc (Kd.V_reads' HO0_0.out).2.2) ((Kd.V_reads' HO0_0.out).2.1) A2.out).mono ?_); rintro e w5 ⟨v345, rfl, ho0, hb⟩; refine ⟨_, rfl, ?_⟩; replace HO0_0 := am (Kd.V_elder' (kV HO0_0) (Kd.S_base ho0) hb); have HO346 := am (Kd.S_lower (Kd.S_newM (M := fun k_ => (w.heap.size ≤ k_)) ho0 (below_size (bw HB)) (fun k_ h_ => h_)) (below_size (bw HB))); replace BK340 := bb BK340 hb; replace HB := bs HB hb; clear hb; (try clear ho0)) | ((with_reducible refine gd 4 rfl ?_); refine bX 4 #[.int .i64 0, .int .i64 0, .int .i64 0] 80 HB ?_; clear HB; intro gb347 w6 hg hb BK347 GW347 HB; replace HO0_0 := am (Kd.V_below (Kd.V_elderB (kV HO0_0) gb347 (Nat.le_of_eq hg.symm)) hb); replace HO346 := am (Kd.S_below (kS HO346) hb); obtain ⟨NB340_347, NB347_340, BK340⟩ := b3 hg BK340 hb; clear hb hg; have hnb7 := NB347_340.out; have hnc7 := NB340_347.out; have hcz8 := bK w6 BK347; have hfz8 := bF BK347))
 replace HO0_0 : Aside0 (Kd.V k55 55 (((w6.setCell ⟨gb347, 0, none⟩ (.int .i64 t341)).setCell ⟨gb347, 1, none⟩ (.int .i64 t342)).setCell ⟨gb347, 2, none⟩ (.int .i64 t343)) w.heap.size (fun k_ => (P0_0_ k_ ∨ w.heap.size ≤ k_) ∧ some k_ ≠ (v345 : Value).ownBlock ∧ k_ ≠ gb340 ∧ k_ ≠ gb347) (.slice A0_0 l0_0.length c0_0) l0_0) := ⟨by (with_reducible repeat (first | apply Kd.V_alloc | apply Kd.V_drewN | apply Kd.V_drew)); exact Kd.V_mono (Kd.V_far (p := ⟨gb347, 2, none⟩) (Kd.V_far (p := ⟨gb347, 1, none⟩) (Kd.V_far (p := ⟨gb347, 0, none⟩) (Kd.V_mono HO0_0.out (fun k_ hk => (⟨hk, hk.2⟩ : _ ∧ k_ ≠ gb347))) (fun _ hk => hk.2) (.int .i64 t341)) (fun _ hk => hk.2) (.int .i64 t342)) (fun _ hk => hk.2) (.int .i64 t343)) (fun _ hk => ⟨hk.1.1.1.1, ⟨hk.1.1.2, ⟨hk.1.1.1.2, hk.1.2⟩⟩⟩)⟩
 replace HO346 : Aside0 (Kd.S (Kd.slice 2 (Kd.int .i64)) 25 (((w6.setCell ⟨gb347, 0, none⟩ (.int .i64 t341)).setCell ⟨gb347, 1, none⟩ (.int .i64 t342)).setCell ⟨gb347, 2, none⟩ (.int .i64 t343)) w.heap.size (fun k_ => (w.heap.size ≤ k_)) v345 t344) := ⟨by (with_reducible repeat (first | apply Kd.S_alloc | apply Kd.S_drewN | apply Kd.S_drew)); exact Kd.S_mono (Kd.S_far (p := ⟨gb347, 2, none⟩) (Kd.S_far (p := ⟨gb347, 1, none⟩) (Kd.S_far (p := ⟨gb347, 0, none⟩) (Kd.S_types HO346.out BK347.out (by decide)) (fun _ hk => hk.2) (.int .i64 t341)) (fun _ hk => hk.2) (.int .i64 t342)) (fun _ hk => hk.2) (.int .i64 t343)) (fun _ hk => hk.1.1)⟩
 replace BK340 : Aside0 ((((w6.setCell ⟨gb347, 0, none⟩ (.int .i64 t341)).setCell ⟨gb347, 1, none⟩ (.int .i64 t342)).setCell ⟨gb347, 2, none⟩ (.int .i64 t343)).heap[gb340]? = some (.cells #[.slice A0_0 l0_0.length c0_0] 34 (0, 0))) := ⟨by (with_reducible repeat (first | apply dN | apply dW | apply dA)); refine blk_far ?_ NB340_347.out _; (with_reducible repeat (first | apply dN | apply dW | apply dA)); refine blk_far ?_ NB340_347.out _; (with_reducible repeat (first | apply dN | apply dW | apply dA)); refine blk_far ?_ NB340_347.out _; exact bp BK340⟩
 replace BK347 : Aside0 ((((w6.setCell ⟨gb347, 0, none⟩ (.int .i64 t341)).setCell ⟨gb347, 1, none⟩ (.int .i64 t342)).setCell ⟨gb347, 2, none⟩ (.int .i64 t343)).heap[gb347]? = some (.cells #[.int .i64 t341, .int .i64 t342, .int .i64 t343] 80 (0, 0))) := ⟨by (with_reducible repeat (first | apply dN | apply dW | apply dA)); refine blk_put (cs := #[.int .i64 t341, .int .i64 t342, .int .i64 0]) ?_ 2 _ rfl; (with_reducible repeat (first | apply dN | apply dW | apply dA)); refine blk_put (cs := #[.int .i64 t341, .int .i64 0, .int .i64 0]) ?_ 1 _ rfl; (with_reducible repeat (first | apply dN | apply dW | apply dA)); refine blk_put (cs := #[.int .i64 0, .int .i64 0, .int .i64 0]) ?_ 0 _ rfl; exact bp BK347⟩
 replace HB : Aside0 (Below w.heap.size w (((w6.setCell ⟨gb347, 0, none⟩ (.int .i64 t341)).setCell ⟨gb347, 1, none⟩ (.int .i64 t342)).setCell ⟨gb347, 2, none⟩ (.int .i64 t343))) := ⟨bw HB⟩
 generalize (((w6.setCell ⟨gb347, 0, none⟩ (.int .i64 t341)).setCell ⟨gb347, 1, none⟩ (.int .i64 t342)).setCell ⟨gb347, 2, none⟩ (.int .i64 t343)) = w9 at HO0_0 HO346 BK340 BK347 HB ⊢
 replace HO0_0 := am (Kd.V_drew HO0_0.out)
 replace HO346 := am (Kd.S_drew HO346.out)
 replace BK340 := am (blk_drew BK340.out)
 replace BK347 := am (blk_drew BK347.out)
 replace HB := am (below_drew1 HB.out)
 obtain ⟨Ao11, co11, eo11⟩ := Kd.S_slice HO346.out
 (first | subst eo11 | (injection eo11 with f1_ f2_ f3_; have f4_ := f1_.symm; have f5_ := f3_.symm; clear f1_ f2_ f3_; subst f4_; subst f5_))
 refine start_ (n := 9) (S := fun w' => w'.cell? ⟨gb340, 0, none⟩ = some (.slice A0_0 l0_0.length c0_0) ∧ w'.cell? ⟨gb347, 0, none⟩ = some (.int .i64 t341) ∧ w'.cell? ⟨gb347, 1, none⟩ = some (.int .i64 t342) ∧ w'.cell? ⟨gb347, 2, none⟩ = some (.int .i64 t343)) (ds := []) (bv 9 0) (by kernel_rfl) rfl (by kernel_rfl) ⟨bc BK340 0, bc BK347 0, bc BK347 1, bc BK347 2⟩ (fun hHeld => ?_); refine with_tabW impl_known.tab2 impl_known.bits2 (fun HT_ HW_ => ?_)
 generalize w9.drew = w10 at HO0_0 HO346 BK340 BK347 HB hHeld ⊢
 refine pu 1 12 9 2 HT_ ?_
 refine pu 4 15 9 18 HT_ ?_
 refine tk 0 11 9 19 HT_ HW_ hHeld ?_
 refine pu 2 13 9 23 HT_ ?_
 refine tk 5 16 9 55 HT_ HW_ hHeld ?_
 refine pu 6 17 9 119 HT_ ?_
 refine on 3 (some 14) 9 127 HT_ fun K hK => ?_
 refine box_step ?hg (N := 14) ?hd (cs := #[.slice A0_0 l0_0.length c0_0, .slice Ao11 t344.length co11]) (t := 72) ?hr ?_; (case hd => rfl); (case hg => rfl); (case hr => exact gs)
 intro gb348 hg w12 hbox hb
 have n0_ := am (Kd.V_below (Kd.V_elderB (kV HO0_0) gb348 (Nat.le_of_eq hg.symm)) hb)
 have n1_ := am (Kd.S_below (kS HO346) hb)
 have n2_ := bb BK340 hb
 have n3_ := bb BK347 hb
 have n4_ := am (below_step (bw HB) hb)
 have n5_ := am (hbox)
 have n6_ := gw hg HB
 have n7_ := gw hg HB
 have n8_ := am ((by rw [hg]; exact Nat.ne_of_lt (blk_lt (g := gb340) (o := .cells #[.slice A0_0 l0_0.length c0_0] 34 (0, 0)) (bp BK340)) : gb340 ≠ gb348))
 have n9_ := am ((by rw [hg]; exact Nat.ne_of_gt (blk_lt (g := gb340) (o := .cells #[.slice A0_0 l0_0.length c0_0] 34 (0, 0)) (bp BK340)) : gb348 ≠ gb340))
 have n10_ := am ((by rw [hg]; exact Nat.ne_of_lt (blk_lt (g := gb347) (o := .cells #[.int .i64 t341, .int .i64 t342, .int .i64 t343] 80 (0, 0)) (bp BK347)) : gb347 ≠ gb348))
 have n11_ := am ((by rw [hg]; exact Nat.ne_of_gt (blk_lt (g := gb347) (o := .cells #[.int .i64 t341, .int .i64 t342, .int .i64 t343] 80 (0, 0)) (bp BK347)) : gb348 ≠ gb347))
 clear HO0_0
 clear HO346
 clear BK340
 clear BK347
 clear HB
 have HO0_0 := n0_
 have HO346 := n1_
 have BK340 := n2_
 have BK347 := n3_
 have HB := n4_
 have BK348 := n5_
 have GW348 := n6_
 have GE348 := n7_
 have NB340_348 := n8_
 have NB348_340 := n9_
 have NB347_348 := n10_
 have NB348_347 := n11_
 clear n0_ n1_ n2_ n3_ n4_ n5_ n6_ n7_ n8_ n9_ n10_ n11_
 clear hb hbox hg
 refine hK.out _ _ ⟨bc BK340 0, bc BK347 0, bc BK347 1, bc BK347 2⟩ (fun hHeld => ?_)
 clear hK K
 refine nm (some 14) ?_
 refine pu 7 2 9 255 HT_ ?_
 refine pu 8 3 9 511 HT_ ?_
 refine done_ (done_of HT_.out (by kernel_rfl)) ?_
 try go_wp2
 go_ret2
 exact ⟨_, _, gb348, er, by (with_reducible repeat (first | apply Kd.V_alloc | apply Kd.V_drewN | apply Kd.V_drew)); exact Kd.V_mono HO0_0.out (fun _ hk => ⟨hk.1.1, hk.1.2.1⟩), kS HO346, (bp BK348), GW348.out, bw HB⟩

def impl_knownFunc.f (k : Nat) (l0_0 : List (S55)) (a1 : Int) : Option ((List (S55)) × (List (List Int)) × Bool) := (impl_known.f k l0_0).bind fun bt350 => (if bt350.2.2 = true then ((impl_hasFunc.f l0_0 a1).bind fun t358 => (some (bt350.1, bt350.2.1, t358))) else (some (bt350.1, bt350.2.1, false)))
theorem impl_knownFunc.mono : ∀ a0 a1 k, LeO (impl_knownFunc.f k a0 a1) (impl_knownFunc.f (k + 1) a0 a1) := by
 intro a0 a1 k
 unfold impl_knownFunc.f
 with_reducible repeat' first | exact impl_known.mono .. | exact LeO.refl _ | exact LeO.none _ | refine LeO.ite ?_ ?_ | refine LeO.bind ?_ (fun _ => ?_)
theorem impl_knownFunc.calls (k : Nat) (P0_0_ : Nat → Prop) (A0_0 : Option Addr) (c0_0 : Nat) (l0_0 : List (S55)) (a1 : Int) (r1 : List (S55)) (r2 : List (List Int)) (r3 : Bool) (w : World) (hs0_0 : Kd.V k55 55 w w.heap.size (fun k_ => P0_0_ k_) (.slice A0_0 l0_0.length c0_0) l0_0) (h : impl_knownFunc.f k l0_0 a1 = some (r1, r2, r3)) :
  Calls Try.prog 20 #[.agg #[.slice A0_0 l0_0.length c0_0], .int .i64 a1] w fun e w' => ∃ v0_ v1_ : Value, ∃ g_ : Nat, e = .returned (.tuple #[.pointer (some ⟨g_, 0, none⟩), .bool r3]) ∧ Kd.V k55 55 w' w.heap.size (fun k_ => (P0_0_ k_ ∨ w.heap.size ≤ k_) ∧ some k_ ≠ (v1_ : Value).ownBlock) v0_ r1 ∧ Kd.S (Kd.slice 2 (Kd.int .i64)) 25 w' w.heap.size (fun k_ => (w.heap.size ≤ k_)) v1_ r2 ∧ w'.heap[g_]? = some (.cells #[v0_, v1_] 72 (0, 0)) ∧ w.heap.size ≤ g_ ∧ Below w.heap.size w w' := by
 have hu34 := Try.underlying34
 have HO0_0 := am (show Kd.V k55 55 w w.heap.size (fun k_ => (P0_0_ k_ ∨ w.heap.size ≤ k_)) (.slice A0_0 l0_0.length c0_0) l0_0 from Kd.V_mono hs0_0 (fun k_ hk => .inl hk))
 have HB := am (Below.refl w.heap.size w)
 have H : ((impl_known.f k l0_0).bind fun bt350 => (if bt350.2.2 = true then ((impl_hasFunc.f l0_0 a1).bind fun t358 => (some (bt350.1, bt350.2.1, t358))) else (some (bt350.1, bt350.2.1, false)))) = some (r1, r2, r3) := h
 clear h
 replace H := Option.bind_eq_some_iff.mp H
 obtain ⟨⟨t350, t353, t357⟩, A30, H⟩ := H
 replace H : (if t357 = true then ((impl_hasFunc.f l0_0 a1).bind fun t358 => (some (t350, t353, t358))) else (some (t350, t353, false))) = some (r1, r2, r3) := H
 have A3 := am A30
 clear A30
 refine qT H ?_ ?_ <;> clear H <;> intro c4 H <;> subst c4
 ·refine be H ?_; clear H; intro t358 A5 H
  simp only [Option.some.injEq, Prod.mk.injEq] at H
  obtain ⟨rfl, rfl, rfl⟩ := H
  go_enter Try.func20, Try.ntmps20
  go_wp2_with (first | ((with_reducible refine gd 2 rfl ?_); refine bX 2 #[.slice A0_0 l0_0.length c0_0] 34 HB ?_; clear HB; intro gb349 w6 hg hb BK349 GW349 HB; replace HO0_0 := am (Kd.V_below (Kd.V_elderB (kV HO0_0) gb349 (Nat.le_of_eq hg.symm)) hb); clear hb hg; have hcz7 := bK w6 BK349; have hfz7 := bF BK349) | ((with_reducible refine gk 35 rfl ?_); refine gC 35 (some 10) Try.func35 #[.agg #[.slice A0_0 l0_0.length c0_0]] ((impl_known.calls k (fun k_ => ((P0_0_ k_ ∨ w.heap.size ≤ k_) ∧ k_ ≠ gb349)) _ _ l0_0 t350 t353 true _ HO0_0.out A3.out).mono ?_); rintro e w8 ⟨v351, v354, gb356, rfl, ho0, ho1, hbx, hgx, hb⟩; refine ⟨_, rfl, ?_⟩; replace HO0_0 := am (Kd.V_elder' (kV HO0_0) (Kd.S_base ho1) hb); have HO352 := am (Kd.V_lower (Kd.V_mono (ok' := fun k_ => (P0_0_ k_ ∨ w.heap.size ≤ k_) ∧ some k_ ≠ (v354 : Value).ownBlock ∧ k_ ≠ gb349) ho0 (fun k_ hk_ => ⟨Or.elim hk_.1 (fun hs_ => hs_.1) (fun hn_ => (.inr (Nat.le_trans (below_size (bw HB)) hn_))), hk_.2, Or.elim hk_.1 (fun hs_ => hs_.2) (fun hn_ => (Kd.freshB (g := gb349) (o := .cells #[.slice A0_0 l0_0.length c0_0] 34 (0, 0)) (bp BK349) k_ hn_))⟩)) (below_size (bw HB))); have HO355 := am (Kd.S_lower (Kd.S_newM (M := fun k_ => (w.heap.size ≤ k_)) (Kd.S_mono (ok' := fun k_ => True) ho1 (fun _ hk_ => trivial)) (below_size (bw HB)) (fun k_ h_ => h_)) (below_size (bw HB))); have BK356 := am (hbx); have GW356 := am ((Nat.le_trans (below_size (bw HB)) hgx)); have GE356 := am ((Nat.le_trans (below_size (bw HB)) hgx)); have NB349_356 := am ((Nat.ne_of_lt (Nat.lt_of_lt_of_le (blk_lt (g := gb349) (o := .cells #[.slice A0_0 l0_0.length c0_0] 34 (0, 0)) (bp BK349)) hgx) : gb349 ≠ gb356)); have NB356_349 := am ((Nat.ne_of_gt (Nat.lt_of_lt_of_le (blk_lt (g := gb349) (o := .cells #[.slice A0_0 l0_0.length c0_0] 34 (0, 0)) (bp BK349)) hgx) : gb356 ≠ gb349)); replace BK349 := bb BK349 hb; replace HB := bs HB hb; clear hb; (try clear ho0); (try clear ho1); (try clear hbx); (try clear hgx); have hnb9 := NB349_356.out; have hnc9 := NB356_349.out; have hcz10 := bK w8 BK349; have hfz10 := bF BK349) | (go_at_call 36; refine (impl_hasFunc.calls _ _ l0_0 a1 t358 _ (cc (Kd.V_reads' HO0_0.out).2.2) ((Kd.V_reads' HO0_0.out).2.1) A5.out).mono ?_; rintro e w11 ⟨rfl, hb⟩; replace HO0_0 := am (Kd.V_below (kV HO0_0) hb); replace HO352 := am (Kd.V_below (kV HO352) hb); replace HO355 := am (Kd.S_below (kS HO355) hb); replace BK349 := bb BK349 hb; replace BK356 := bb BK356 hb; replace HB := bs HB hb; clear hb))
  go_ret2
  exact ⟨_, _, gb356, er, by (with_reducible repeat (first | apply Kd.V_alloc | apply Kd.V_drewN | apply Kd.V_drew)); exact Kd.V_mono HO352.out (fun _ hk => ⟨hk.1, hk.2.1⟩), by (with_reducible repeat (first | apply Kd.S_alloc | apply Kd.S_drewN | apply Kd.S_drew)); exact Kd.S_mono HO355.out (fun _ hk => hk.1), (bp BK356), GW356.out, bw HB⟩
 simp only [Option.some.injEq, Prod.mk.injEq] at H
 obtain ⟨rfl, rfl, rfl⟩ := H
 go_enter Try.func20, Try.ntmps20
 go_wp2_with (first | ((with_reducible refine gd 2 rfl ?_); refine bX 2 #[.slice A0_0 l0_0.length c0_0] 34 HB ?_; clear HB; intro gb349 w12 hg hb BK349 GW349 HB; replace HO0_0 := am (Kd.V_below (Kd.V_elderB (kV HO0_0) gb349 (Nat.le_of_eq hg.symm)) hb); clear hb hg; have hcz13 := bK w12 BK349; have hfz13 := bF BK349) | ((with_reducible refine gk 35 rfl ?_); refine gC 35 (some 10) Try.func35 #[.agg #[.slice A0_0 l0_0.length c0_0]] ((impl_known.calls k (fun k_ => ((P0_0_ k_ ∨ w.heap.size ≤ k_) ∧ k_ ≠ gb349)) _ _ l0_0 t350 t353 false _ HO0_0.out A3.out).mono ?_); rintro e w14 ⟨v351, v354, gb356, rfl, ho0, ho1, hbx, hgx, hb⟩; refine ⟨_, rfl, ?_⟩; replace HO0_0 := am (Kd.V_elder' (kV HO0_0) (Kd.S_base ho1) hb); have HO352 := am (Kd.V_lower (Kd.V_mono (ok' := fun k_ => (P0_0_ k_ ∨ w.heap.size ≤ k_) ∧ some k_ ≠ (v354 : Value).ownBlock ∧ k_ ≠ gb349) ho0 (fun k_ hk_ => ⟨Or.elim hk_.1 (fun hs_ => hs_.1) (fun hn_ => (.inr (Nat.le_trans (below_size (bw HB)) hn_))), hk_.2, Or.elim hk_.1 (fun hs_ => hs_.2) (fun hn_ => (Kd.freshB (g := gb349) (o := .cells #[.slice A0_0 l0_0.length c0_0] 34 (0, 0)) (bp BK349) k_ hn_))⟩)) (below_size (bw HB))); have HO355 := am (Kd.S_lower (Kd.S_newM (M := fun k_ => (w.heap.size ≤ k_)) (Kd.S_mono (ok' := fun k_ => True) ho1 (fun _ hk_ => trivial)) (below_size (bw HB)) (fun k_ h_ => h_)) (below_size (bw HB))); have BK356 := am (hbx); have GW356 := am ((Nat.le_trans (below_size (bw HB)) hgx)); have GE356 := am ((Nat.le_trans (below_size (bw HB)) hgx)); have NB349_356 := am ((Nat.ne_of_lt (Nat.lt_of_lt_of_le (blk_lt (g := gb349) (o := .cells #[.slice A0_0 l0_0.length c0_0] 34 (0, 0)) (bp BK349)) hgx) : gb349 ≠ gb356)); have NB356_349 := am ((Nat.ne_of_gt (Nat.lt_of_lt_of_le (blk_lt (g := gb349) (o := .cells #[.slice A0_0 l0_0.length c0_0] 34 (0, 0)) (bp BK349)) hgx) : gb356 ≠ gb349)); replace BK349 := bb BK349 hb; replace HB := bs HB hb; clear hb; (try clear ho0); (try clear ho1); (try clear hbx); (try clear hgx)))
 go_ret2
 exact ⟨_, _, gb356, er, by (with_reducible repeat (first | apply Kd.V_alloc | apply Kd.V_drewN | apply Kd.V_drew)); exact Kd.V_mono HO352.out (fun _ hk => ⟨hk.1, hk.2.1⟩), by (with_reducible repeat (first | apply Kd.S_alloc | apply Kd.S_drewN | apply Kd.S_drew)); exact Kd.S_mono HO355.out (fun _ hk => hk.1), (bp BK356), GW356.out, bw HB⟩

def impl_prog_first.f (l0_0 : List (S55)) (l0_1 : List (List Int)) (a1 : Int) (l2 : List Int) : Option (Int × Int × List Int × List Int) := if 0 ≤ a1 then (if a1 < (l0_0.length : Int) then (if 0 ≤ ((rd_T55 l0_0 a1).f1) then (if ((rd_T55 l0_0 a1).f1 : Int).toNat ≤ 35184372088832 then (some (a1, 0, (cpy (List.replicate ((rd_T55 l0_0 a1).f1 : Int).toNat 0) l2), ([] : List Int))) else (none)) else (none)) else (none)) else (none)
theorem impl_prog_first.calls (g0_ : Nat) (A0_0 : Option Addr) (c0_0 : Nat) (l0_0 : List (S55)) (A0_1 : Option Addr) (c0_1 : Nat) (l0_1 : List (List Int)) (a1 : Int) (A2 : Option Addr) (c2 : Nat) (l2 : List Int) (r1 : Int) (r2 : Int) (r3 : List Int) (r4 : List Int) (w : World) (hp0 : w.heap[g0_]? = some (.cells #[.slice A0_0 l0_0.length c0_0, .slice A0_1 l0_1.length c0_1] 72 (0, 0))) (hr0_0 : Kd.C k55 w A0_0 l0_0.length l0_0) (hc0_0 : l0_0.length ≤ c0_0) (hr0_1 : Kd.C (Kd.slice 2 (Kd.int .i64)) w A0_1 l0_1.length l0_1) (hc0_1 : l0_1.length ≤ c0_1) (hr2 : Kd.C (Kd.int .i64) w A2 l2.length l2) (hc2 : l2.length ≤ c2) (h : impl_prog_first.f l0_0 l0_1 a1 l2 = some (r1, r2, r3, r4)) :
  Calls Try.prog 22 #[.pointer (some ⟨g0_, 0, none⟩), .int .i64 a1, .slice A2 l2.length c2] w fun e w' => ∃ v2_ v3_ : Value, e = .returned (.agg #[.int .i64 r1, .int .i64 r2, v2_, v3_]) ∧ Kd.R (Kd.int .i64) 2 w' w.heap.size (fun k_ => some k_ ≠ (v3_ : Value).ownBlock) v2_ r3 ∧ Kd.R (Kd.int .i64) 2 w' w.heap.size (fun k_ => some k_ ≠ (v2_ : Value).ownBlock) v3_ r4 ∧ Below w.heap.size w w' := by
 have hu47 := Try.underlying47
 have HP0_ := am hp0
 clear hp0
 have HR0_0 := am hr0_0
 have HC0_0 := am hc0_0
 clear hr0_0 hc0_0
 have HR0_1 := am hr0_1
 have HC0_1 := am hc0_1
 clear hr0_1 hc0_1
 have HR2 := am hr2
 have HC2 := am hc2
 clear hr2 hc2
 have HB := am (Below.refl w.heap.size w)
 have H : (if 0 ≤ a1 then (if a1 < (l0_0.length : Int) then (if 0 ≤ ((rd_T55 l0_0 a1).f1) then (if ((rd_T55 l0_0 a1).f1 : Int).toNat ≤ 35184372088832 then (some (a1, 0, (cpy (List.replicate ((rd_T55 l0_0 a1).f1 : Int).toNat 0) l2), ([] : List Int))) else (none)) else (none)) else (none)) else (none)) = some (r1, r2, r3, r4) := h
 clear h
 refine iM H ?_; clear H; intro c4b0 H
 refine iM H ?_; clear H; intro c5b0 H
 refine iN H ?_; clear H; intro c6 H
 have c6b0 := eq_true c6
 have c6b1 := decide_eq_true c6
 clear c6
 refine iN H ?_; clear H; intro c7 H
 have c7b0 := eq_true c7
 have c7b1 := decide_eq_true c7
 clear c7
 obtain ⟨y361, hy361⟩ : ∃ y_ : List Int, y_ = (List.replicate ((rd_T55 l0_0 a1).f1 : Int).toNat 0) := ⟨_, rfl⟩
 replace H : (some (a1, 0, (cpy y361 l2), ([] : List Int))) = some (r1, r2, r3, r4) := by first | (rw [hy361]; with_reducible exact H) | (have H2_ := (Option.bind_some _ _).symm.trans H; rw [hy361]; with_reducible exact H2_) | (have H2_ := (Option.bind_some _ _).symm.trans H; with_reducible exact H2_) | with_reducible exact H | (rw [hy361]; exact H) | exact H
 have Ny361 := am hy361
 clear hy361
 obtain ⟨y364, hy364⟩ : ∃ y_ : List Int, y_ = (cpy y361 l2) := ⟨_, rfl⟩
 replace H : (some (a1, 0, y364, ([] : List Int))) = some (r1, r2, r3, r4) := by first | (rw [hy364]; with_reducible exact H) | (have H2_ := (Option.bind_some _ _).symm.trans H; rw [hy364]; with_reducible exact H2_) | (have H2_ := (Option.bind_some _ _).symm.trans H; with_reducible exact H2_) | with_reducible exact H | (rw [hy364]; exact H) | exact H
 have Ny364 := am hy364
 clear hy364
 simp only [Option.some.injEq, Prod.mk.injEq] at H
 obtain ⟨rfl, rfl, rfl, rfl⟩ := H
 go_enter Try.func22, Try.ntmps22
 go_wp2_with (first | ((with_reducible refine gd 6 rfl ?_); refine bX 6 #[.int .i64 0, .int .i64 0, .slice none 0 0, .slice none 0 0] 47 HB ?_; clear HB; intro gb359 w8 hg hb BK359 GW359 HB; obtain ⟨NB0_359, NB359_0, HP0_⟩ := b3 hg HP0_ hb; clear hb hg; have hnb9 := NB0_359.out; have hnc9 := NB359_0.out; have hcz10 := bK w8 HP0_; have hfz10 := bF HP0_; have p360 : 0 ≤ (a1 : Int) := of_decide_eq_true as1; have q360 : a1 < (l0_0.length : Int) := of_decide_eq_true as1; obtain ⟨ad360, A360_2, c360_2, e360, hx360_0, hx360_1, hx360_2, hl360_2, hi360_2⟩ := at_T55 HR0_0.out a1 p360 q360; cases e360; replace hx360_0 := cl HB hx360_0; replace hx360_1 := cl HB hx360_1; replace hx360_2 := cl HB hx360_2; have HR360_2 := am hi360_2; have HC360_2 := am hl360_2; clear hi360_2 hl360_2; replace p360 := eq_true p360; replace q360 := eq_true q360) | ((with_reducible refine gate_dst (N := 17) rfl ?_); refine Kd.R_make (Kd.int .i64) _ 2 rfl (N := 17) rfl 25 _ _ rfl ((rd_T55 l0_0 a1).f1) rfl rfl Try.underlying25 (.int .i64 0) 8 info2 rfl (by decide) (by omega) 0 (ok := fun _ => True) (okp := fun _ => True) rfl (fun _ hk => hk) trivial (of_decide_eq_true as1) (Nat.le_trans (Nat.mul_le_mul_right _ (of_decide_eq_true as1 : ((rd_T55 l0_0 a1).f1).toNat ≤ 35184372088832)) (by omega)) (Below.refl _ _) (Nat.le_refl _) ?_; intro v362 w11 ho12 hb hg_ hnew_; clear hg_ hnew_; (first | rw [← Ny361.out] at ho12 | (simp only [Int.reduceToNat] at ho12; rw [← Ny361.out] at ho12)); have HO363 := am (Kd.R_lower ho12 (below_size (bw HB))); replace HP0_ := bb HP0_ hb; replace BK359 := bb BK359 hb; replace HB := bs HB hb; clear hb ho12) | ((with_reducible refine gate_builtin (b := .copy) (xs := #[.tmp 18, .tmp 19]) rfl ?_); have hinf_ : (Try.prog.info? 2).map (·.size) = some 1 := (by kernel_rfl); refine R_copy_rows (α := Int) (enc := Value.int .i64) (h1 := fun _ => rfl) (Rr := fun x cs => cs = [Value.int .i64 x]) (w0 := w) w.heap.size rfl (.tmp 18) (.tmp 19) 25 2 rfl Try.underlying25 hinf_ v362 y361 l2 _ _ _ (fun _ => True) rfl rfl HO363.out (Kd.C_below HR2.out HB.out) (fun _ _ h => h) HB.out ?_; intro w13 hp_ hb hg; rw [← Ny364.out] at hp_; replace HP0_ := bg HP0_ hg (Kd.R_ne HO363.out HP0_.out (by decide)); replace BK359 := bg BK359 hg (Kd.R_ne HO363.out BK359.out (by decide)); replace HO363 := am (hp_); replace HB := am (hb); clear hg hb hp_; obtain ⟨Ao14, co14, eo14⟩ := Kd.R_slice HO363.out; subst eo14; have hcz15 := bK w13 BK359; have hfz15 := bF BK359))
 refine bodyPost_ret (results_cell_row rfl _ _ gb359 47 #[.int .i64 a1, .int .i64 0, .slice Ao14 y364.length co14, .slice none 0 0] (0, 0) _ rfl (bt BK359) Try.underlying47 rfl (by kernel_rfl)) rfl ?_
 exact ⟨_, _, er, by (with_reducible repeat (first | apply Kd.R_alloc | apply Kd.R_drewN | apply Kd.R_drew)); exact Kd.R_mono (Kd.R_far (p := ⟨gb359, 3, none⟩) (Kd.R_far (p := ⟨gb359, 2, none⟩) (Kd.R_far (p := ⟨gb359, 1, none⟩) (Kd.R_far (p := ⟨gb359, 0, none⟩) (Kd.R_types HO363.out BK359.out (by decide)) (fun _ hk => hk.2) (.int .i64 a1)) (fun _ hk => hk.2) (.int .i64 0)) (fun _ hk => hk.2) (.slice Ao14 y364.length co14)) (fun _ hk => hk.2) (.slice none 0 0)) (fun _ hk => (by simp [Value.ownBlock])), by first | exact Kd.R_nil _ _ _ _ _ | exact Kd.N_nil _ _ _ _ _ | exact Kd.V_nil _ _ _ _ _ | exact Kd.Q_nil _ _ _ _ _ | exact Kd.S_nil _ _ _ _ _, bw HB⟩

end Go.Proofs.Ytoegdbeajgddiaa.QFnExactBegin
