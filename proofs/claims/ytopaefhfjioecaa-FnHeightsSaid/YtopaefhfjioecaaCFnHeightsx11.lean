import Derived.Test.YtopaefhfjioecaaCFnHeightsx0
import Derived.Test.YtopaefhfjioecaaCFnHeightsx7
import Derived.Test.YtopaefhfjioecaaCFnHeightsx8
import Derived.Test.YtopaefhfjioecaaCFnHeightsx10
namespace Go.Proofs.Ytopaefhfjioecaa.QFnHeights
open Go.RowKit Go.Proofs.YtopaefhfjioecaaW
open PrintWords PrintLast PrintMore PrintShort
attribute [local go_sem] max2_int min2_int max_two min_two max_three min_three max_four min_four   -- for this text's walks alone
set_option linter.unusedVariables false
set_option maxHeartbeats 8000000
set_option maxRecDepth 100000
set_option linter.unusedSimpArgs false

mutual
def impl_verify.j0 : Nat → Bool → List (S35) → Option (Int × Int × Int × (List (List Int)))
 | 0, _, _ => none
 | k + 1, x21, x318000 => if x21 = true then (some (0, 0, 1, ([] : List (List Int)))) else (impl_verify.l0 k ([] : List (List Int)) x318000 (x318000.length : Int) 0 x318000)
def impl_verify.l0 : Nat → List (List Int) → List (S35) → Int → Int → List (S35) → Option (Int × Int × Int × (List (List Int)))
 | 0, _, _, _, _, _ => none
 | k + 1, x4, x24, x25, x26, x318000 => if x26 < x25 then (if 0 ≤ x26 then (if x26 < (x24.length : Int) then ((impl_in.f ((rd_T35 x24 x26).f0) 0 4).bind fun t321 => (if t321 = true then ((impl_in.f ((rd_T35 x24 x26).f1) ((rd_T35 x24 x26).f0) 8).bind fun t322 => (if t322 = true then ((impl_in.f (((rd_T35 x24 x26).f2).length : Int) 1 60).bind fun t323 => (impl_verify.j2 k x4 x26 x24 x25 x26 (!t323) x318000 ((rd_T35 x24 x26).f0) ((rd_T35 x24 x26).f1) ((rd_T35 x24 x26).f2))) else (impl_verify.j2 k x4 x26 x24 x25 x26 true x318000 ((rd_T35 x24 x26).f0) ((rd_T35 x24 x26).f1) ((rd_T35 x24 x26).f2)))) else (impl_verify.j2 k x4 x26 x24 x25 x26 true x318000 ((rd_T35 x24 x26).f0) ((rd_T35 x24 x26).f1) ((rd_T35 x24 x26).f2)))) else (none)) else (none)) else (some (0, 0, 0, x4))
def impl_verify.j2 : Nat → List (List Int) → Int → List (S35) → Int → Int → Bool → List (S35) → Int → Int → List (S38) → Option (Int × Int × Int × (List (List Int)))
 | 0, _, _, _, _, _, _, _, _, _, _ => none
 | k + 1, x4, x5, x24, x25, x26, x49, x318000, x321000, x321001, x321002 => if x49 = true then (some (x5, 0, 1, ([] : List (List Int)))) else (impl_verify.l1 k x4 x5 x24 x25 x26 x321002 (x321002.length : Int) 0 x318000)
def impl_verify.l1 : Nat → List (List Int) → Int → List (S35) → Int → Int → List (S38) → Int → Int → List (S35) → Option (Int × Int × Int × (List (List Int)))
 | 0, _, _, _, _, _, _, _, _, _ => none
 | k + 1, x4, x5, x24, x25, x26, x53, x54, x55, x318000 => if x55 < x54 then (if 0 ≤ x55 then (if x55 < (x53.length : Int) then ((impl_InsRight.f k x318000 x5 ((rd_T38 x53 x55).f0) ((rd_T38 x53 x55).f1)).bind fun t326 => (if t326 = true then (impl_verify.l1 k x4 x5 x24 x25 x26 x53 x54 (wrap64 (x55 + 1)) x318000) else (some (x5, x55, 1, ([] : List (List Int)))))) else (none)) else (none)) else ((impl_heightsOf.f k x318000 x5).bind fun bt327 => (if bt327.2.2 = 0 then (if x4.length < 5864062014805 then (impl_verify.l0 k (x4 ++ [bt327.1]) x24 x25 (wrap64 (x26 + 1)) x318000) else (none)) else (some (x5, bt327.2.1, bt327.2.2, ([] : List (List Int))))))
end
def impl_verify.f (k : Nat) (l0_0 : List (S35)) : Option (Int × Int × Int × (List (List Int))) := if (l0_0.length : Int) < 1 then (impl_verify.j0 k true l0_0) else (impl_verify.j0 k (decide ((l0_0.length : Int) > 6)) l0_0)
theorem impl_verify.mono_l : ∀ k, (∀ y0 y1, LeO (impl_verify.j0 k y0 y1) (impl_verify.j0 (k + 1) y0 y1)) ∧ (∀ y0 y1 y2 y3 y4, LeO (impl_verify.l0 k y0 y1 y2 y3 y4) (impl_verify.l0 (k + 1) y0 y1 y2 y3 y4)) ∧ (∀ y0 y1 y2 y3 y4 y5 y6 y7 y8 y9, LeO (impl_verify.j2 k y0 y1 y2 y3 y4 y5 y6 y7 y8 y9) (impl_verify.j2 (k + 1) y0 y1 y2 y3 y4 y5 y6 y7 y8 y9)) ∧ (∀ y0 y1 y2 y3 y4 y5 y6 y7 y8, LeO (impl_verify.l1 k y0 y1 y2 y3 y4 y5 y6 y7 y8) (impl_verify.l1 (k + 1) y0 y1 y2 y3 y4 y5 y6 y7 y8))
 | 0 => ⟨fun _ _ r h => by simp [impl_verify.j0] at h, fun _ _ _ _ _ r h => by simp [impl_verify.l0] at h, fun _ _ _ _ _ _ _ _ _ _ r h => by simp [impl_verify.j2] at h, fun _ _ _ _ _ _ _ _ _ r h => by simp [impl_verify.l1] at h⟩
 | k + 1 => by
  obtain ⟨ih0, ih1, ih2, ih3⟩ := impl_verify.mono_l k
  refine ⟨?_, ?_, ?_, ?_⟩
  ·intro y0 y1
   unfold impl_verify.j0
   with_reducible repeat' first | exact ih0 .. | exact ih1 .. | exact ih2 .. | exact ih3 .. | exact impl_InsRight.mono .. | exact impl_heightsOf.mono .. | exact LeO.refl _ | exact LeO.none _ | refine LeO.ite ?_ ?_ | refine LeO.bind ?_ (fun _ => ?_)
  ·intro y0 y1 y2 y3 y4
   unfold impl_verify.l0
   with_reducible repeat' first | exact ih0 .. | exact ih1 .. | exact ih2 .. | exact ih3 .. | exact impl_InsRight.mono .. | exact impl_heightsOf.mono .. | exact LeO.refl _ | exact LeO.none _ | refine LeO.ite ?_ ?_ | refine LeO.bind ?_ (fun _ => ?_)
  ·intro y0 y1 y2 y3 y4 y5 y6 y7 y8 y9
   unfold impl_verify.j2
   with_reducible repeat' first | exact ih0 .. | exact ih1 .. | exact ih2 .. | exact ih3 .. | exact impl_InsRight.mono .. | exact impl_heightsOf.mono .. | exact LeO.refl _ | exact LeO.none _ | refine LeO.ite ?_ ?_ | refine LeO.bind ?_ (fun _ => ?_)
  ·intro y0 y1 y2 y3 y4 y5 y6 y7 y8
   unfold impl_verify.l1
   with_reducible repeat' first | exact ih0 .. | exact ih1 .. | exact ih2 .. | exact ih3 .. | exact impl_InsRight.mono .. | exact impl_heightsOf.mono .. | exact LeO.refl _ | exact LeO.none _ | refine LeO.ite ?_ ?_ | refine LeO.bind ?_ (fun _ => ?_)
theorem impl_verify.mono : ∀ a0 k, LeO (impl_verify.f k a0) (impl_verify.f (k + 1) a0) := by
 intro a0 k
 obtain ⟨ih0, ih1, ih2, ih3⟩ := impl_verify.mono_l k
 unfold impl_verify.f
 with_reducible repeat' first | exact ih0 .. | exact ih1 .. | exact ih2 .. | exact ih3 .. | exact impl_InsRight.mono .. | exact impl_heightsOf.mono .. | exact LeO.refl _ | exact LeO.none _ | refine LeO.ite ?_ ?_ | refine LeO.bind ?_ (fun _ => ?_)
theorem impl_verify.calls (k : Nat) (A0_0 : Option Addr) (c0_0 : Nat) (l0_0 : List (S35)) (r1 : Int) (r2 : Int) (r3 : Int) (r4 : List (List Int)) (w : World) (hr0_0 : Kd.C k35 w A0_0 l0_0.length l0_0) (hc0_0 : l0_0.length ≤ c0_0) (h : impl_verify.f k l0_0 = some (r1, r2, r3, r4)) :
  Calls Try.prog 34 #[.agg #[.slice A0_0 l0_0.length c0_0]] w fun e w' => ∃ v3_ : Value, e = .returned (.tuple #[.agg #[.int .i64 r1, .int .i64 r2, .int .i64 r3], v3_]) ∧ Kd.S (Kd.slice 2 (Kd.int .i64)) 31 w' w.heap.size (fun _ => True) v3_ r4 ∧ Below w.heap.size w w' := by
 have hu25 := Try.underlying25
 have hu29 := Try.underlying29
 have hu35 := Try.underlying35
 have hu38 := Try.underlying38
 have HR0_0 := am hr0_0
 have HC0_0 := am hc0_0
 clear hr0_0 hc0_0
 have HB := am (Below.refl w.heap.size w)
 have H : (if (l0_0.length : Int) < 1 then (impl_verify.j0 k true l0_0) else (impl_verify.j0 k (decide ((l0_0.length : Int) > 6)) l0_0)) = some (r1, r2, r3, r4) := h
 clear h
 have HC2 := am H
 clear H
 go_enter Try.func34, Try.ntmps34
 go_upto_region 1 with (first | ((with_reducible refine gate_dst (N := 1) rfl ?_); (try (refine gate_guard (by rfl) ?_; dsimp only)); refine box_event ?hg (N := 1) ?hd (cs := #[.slice A0_0 l0_0.length c0_0]) (t := 25) ?hr ?_; (case hd => rfl); (case hg => rfl); (case hr => exact gs); intro gb317 hg w3 hbox hb; have BK317 := am (hbox); have GW317 := gw hg HB; replace HB := bs HB hb; clear hb hbox hg) | ((with_reducible refine gate_dst (N := 2) rfl ?_); (try (refine gate_guard (by rfl) ?_; dsimp only)); refine box_event ?hg (N := 2) ?hd (cs := #[.int .i64 0, .int .i64 0, .int .i64 0]) (t := 29) ?hr ?_; (case hd => rfl); (case hg => rfl); (case hr => exact gs); intro gb318 hg w4 hbox hb; have BK318 := am (hbox); have GW318 := gw hg HB; replace HB := bs HB hb; obtain ⟨NB317_318, NB318_317, BK317⟩ := b3 hg BK317 hb; clear hb hbox hg))
 (try simp only [Act.put, sa, sz, ss])
 go_cut [21] (fun v21 wc => ∃ (kq : Nat) (x21_1 : Bool), v21 = .bool x21_1 ∧ Aside0 (impl_verify.j0 kq x21_1 l0_0 = some (r1, r2, r3, r4)) ∧ Aside0 (kq ≤ k) ∧ Aside0 (wc.heap[gb317]? = some (.cells #[(.slice A0_0 l0_0.length c0_0)] 25 (0, 0))) ∧ Aside0 (wc.heap[gb318]? = some (.cells #[.int .i64 0, .int .i64 0, .int .i64 0] 29 (0, 0))) ∧ Aside0 (Below w.heap.size w wc))
 case first =>
  have H := HC2.out
  clear HC2
  refine qI H ?_ ?_ <;> clear H <;> intro c5b0 H
  ·have c5 := of_decide_eq_true c5b0
   have c5b1 : decide (l0_0.length < 1) = true := decide_eq_true (by omega)
   clear c5
   (first | rw [c5b0] | (simp only [i64_w, i32_w]; rw [c5b0]) | skip)
   have H' := am H
   clear H
   have hnb6 := NB317_318.out
   have hnc6 := NB318_317.out
   have hcz7 := bK w4 BK317
   have hfz7 := bF BK317
   go_wp2
   go_meet
   case rel => exact ⟨_, (true), dr, H', ⟨lk0⟩, ⟨bp BK317⟩, ⟨bp BK318⟩, ⟨bw HB⟩⟩
  have c5 := of_decide_eq_false c5b0
  have c5b1 : decide (l0_0.length < 1) = false := decide_eq_false (by omega)
  clear c5
  (first | rw [c5b0] | (simp only [i64_w, i32_w]; rw [c5b0]) | skip)
  have H' := am H
  clear H
  have hnb8 := NB317_318.out
  have hnc8 := NB318_317.out
  have hcz9 := bK w4 BK317
  have hfz9 := bF BK317
  go_wp2
  go_meet
  case rel => exact ⟨_, (decide ((l0_0.length : Int) > 6)), dr, H', ⟨lk0⟩, ⟨bp BK317⟩, ⟨bp BK318⟩, ⟨bw HB⟩⟩
 clear HC2
 (try clear p2); (try clear c3); (try clear c5); (try clear c5b0); (try clear c5b1); (try clear c6); (try clear c8); (try clear hcz7); (try clear hcz9); (try clear hfz7); (try clear hfz9)
 obtain ⟨kq, x21_1, rfl, HA, HJ1, BK317, BK318, HB⟩ := hcut
 rcases kq with _ | kj1
 ·exact absurd HA.out (by simp [impl_verify.j0])
 have H := HA.out
 clear HA
 simp only [impl_verify.j0] at H
 refine qT H ?_ ?_ <;> clear H <;> intro c10 H <;> subst c10
 ·simp only [Option.some.injEq, Prod.mk.injEq] at H
  obtain ⟨rfl, rfl, rfl, rfl⟩ := H
  have hnb11 := NB318_317.out
  have hnc11 := NB317_318.out
  have hcz12 := bK wc BK318
  have hfz12 := bF BK318
  go_wp2
  refine bodyPost_ret (results_ct rfl _ _ gb318 29 #[.int .i64 0, .int .i64 0, .int .i64 1] (0, 0) _ rfl (bt BK318) Try.underlying29 rfl (by kernel_rfl)) rfl ?_
  exact ⟨_, er, by first | exact Kd.S_nil _ _ _ _ _ | exact Kd.N_nil _ _ _ _ _ | exact Kd.V_nil _ _ _ _ _ | exact Kd.Q_nil _ _ _ _ _ | exact Kd.R_nil _ _ _ _ _, bw HB⟩
 have H' := am H
 clear H
 have hnb13 := NB317_318.out
 have hnc13 := NB318_317.out
 have hcz14 := bK wc BK317
 have hfz14 := bF BK317
 go_wp2
 go_loopg [4, 26] kj1 (fun kq v4 v26 w' => ∃ (x4_2 : List (List Int)) (x26_2 : Int) (x319000_2 : Int) (x319001_2 : Int) (x319002_2 : Int), v26 = .int .i64 x26_2 ∧ Aside0 (impl_verify.l0 kq x4_2 l0_0 (l0_0.length : Int) x26_2 l0_0 = some (r1, r2, r3, r4)) ∧ Aside0 (kq ≤ kj1) ∧ Aside0 (Kd.S (Kd.slice 2 (Kd.int .i64)) 31 w' w.heap.size (fun _ => True) v4 x4_2) ∧ Aside0 (w'.heap[gb317]? = some (.cells #[(.slice A0_0 l0_0.length c0_0)] 25 (0, 0))) ∧ Aside0 (w'.heap[gb318]? = some (.cells #[.int .i64 x319000_2, .int .i64 x319001_2, .int .i64 x319002_2] 29 (0, 0))) ∧ Aside0 (Below w.heap.size w w'))
 case atStart => exact ⟨(([] : List (List Int))), (0), (0), (0), (0), dr, H', ⟨Nat.le_refl _⟩, ⟨by first | exact Kd.S_nil _ _ _ _ _ | exact Kd.N_nil _ _ _ _ _ | exact Kd.V_nil _ _ _ _ _ | exact Kd.Q_nil _ _ _ _ _ | exact Kd.R_nil _ _ _ _ _⟩, ⟨bp BK317⟩, ⟨bp BK318⟩, ⟨bw HB⟩⟩
 clear H'
 (try clear c1); (try clear c10); (try clear c11); (try clear c13); (try clear hcz12); (try clear hcz14); (try clear hfz12); (try clear hfz14)
 obtain ⟨x4_2, x26_2, x319000_2, x319001_2, x319002_2, rfl, HA, HK2, HO_4, BK317, BK318, HB⟩ := hrel
 rcases gk with _ | k2
 ·exact absurd HA.out (by simp [impl_verify.l0])
 have H := HA.out
 clear HA
 simp only [impl_verify.l0] at H
 by_cases c15 : x26_2 < (l0_0.length : Int)
 ·rw [if_pos c15] at H
  have c15b0 := decide_eq_true c15
  clear c15
  refine iN H ?_; clear H; intro c16 H
  have c16b0 := decide_eq_true c16
  clear c16
  refine iN H ?_; clear H; intro c17 H
  have c17b0 := decide_eq_true c17
  clear c17
  have HC18 := am H
  clear H
  have p319 : 0 ≤ (x26_2 : Int) := of_decide_eq_true as1
  have q319 : x26_2 < (l0_0.length : Int) := of_decide_eq_true as1
  obtain ⟨ad319, A319_2, c319_2, e319, hx319_0, hx319_1, hx319_2, hl319_2, hi319_2⟩ := at_T35 HR0_0.out x26_2 p319 q319
  cases e319
  replace hx319_0 := cl HB hx319_0
  replace hx319_1 := cl HB hx319_1
  replace hx319_2 := cl HB hx319_2
  have HR319_2 := am hi319_2
  have HC319_2 := am hl319_2
  clear hi319_2 hl319_2
  replace p319 := eq_true p319
  replace q319 := eq_true q319
  go_upto_region 7 with (first | ((with_reducible refine gate_dst (N := 6) rfl ?_); (try (refine gate_guard (by rfl) ?_; dsimp only)); refine box_event ?hg (N := 6) ?hd (cs := #[.int .i64 0, .int .i64 0, .slice none 0 0]) (t := 35) ?hr ?_; (case hd => rfl); (case hg => rfl); (case hr => exact gs); intro gb320 hg w19 hbox hb; replace HO_4 := am (Kd.S_below (kS HO_4) hb); have BK320 := am (hbox); have GW320 := gw hg HB; replace HB := bs HB hb; obtain ⟨NB317_320, NB320_317, BK317⟩ := b3 hg BK317 hb; obtain ⟨NB318_320, NB320_318, BK318⟩ := b3 hg BK318 hb; clear hb hbox hg; have hnb20 := NB320_317.out; have hnc20 := NB317_320.out; have hnb21 := NB320_318.out; have hnc21 := NB318_320.out; have hcz22 := bK w19 BK320; have hfz22 := bF BK320))
  (try simp only [Act.put, sa, sz, ss])
  go_cut [49] (fun v49 wc => ∃ (kq : Nat) (x49_17 : Bool), v49 = .bool x49_17 ∧ Aside0 (impl_verify.j2 kq x4_2 x26_2 l0_0 (l0_0.length : Int) x26_2 x49_17 l0_0 ((rd_T35 l0_0 x26_2).f0) ((rd_T35 l0_0 x26_2).f1) ((rd_T35 l0_0 x26_2).f2) = some (r1, r2, r3, r4)) ∧ Aside0 (kq ≤ k2) ∧ Aside0 (Kd.S (Kd.slice 2 (Kd.int .i64)) 31 wc w.heap.size (fun _ => True) u4 x4_2) ∧ Aside0 (wc.heap[gb317]? = some (.cells #[(.slice (some ad319) l0_0.length c0_0)] 25 (0, 0))) ∧ Aside0 (wc.heap[gb318]? = some (.cells #[.int .i64 x319000_2, .int .i64 x319001_2, .int .i64 x319002_2] 29 (0, 0))) ∧ Aside0 (wc.heap[gb320]? = some (.cells #[.int .i64 ((rd_T35 l0_0 x26_2).f0), .int .i64 ((rd_T35 l0_0 x26_2).f1), (.slice A319_2 ((rd_T35 l0_0 x26_2).f2).length c319_2)] 35 (0, 0))) ∧ Aside0 (Below w.heap.size w wc))
  case first =>
   have H := HC18.out
   clear HC18
   refine be H ?_; clear H; intro t321 A23 H
   refine qT H ?_ ?_ <;> clear H <;> intro c24 H <;> subst c24
   ·refine be H ?_; clear H; intro t322 A25 H
    refine qT H ?_ ?_ <;> clear H <;> intro c26 H <;> subst c26
    ·refine be H ?_; clear H; intro t323 A27 H
     have H' := am H
     clear H
     have hnb28 := NB320_317.out
     have hnc28 := NB317_320.out
     have hnb29 := NB320_318.out
     have hnc29 := NB318_320.out
     have hcz30 := bK w19 BK320
     have hfz30 := bF BK320
     go_wp2_with (first | ((with_reducible refine gate_callee (f := 71) rfl ?_); refine goesL_ (some 33) rfl rfl Try.func71 (by kernel_rfl) rfl #[.int .i64 ((rd_T35 l0_0 x26_2).f0), .int .i64 0, .int .i64 4] rfl gl ?_; (with_reducible refine (impl_in.calls ((rd_T35 l0_0 x26_2).f0) 0 4 true _ A23.out).mono ?_); rintro e w' ⟨rfl, ⟨nd, rfl⟩⟩; refine ⟨_, rfl, ?_⟩) | (go_at_call 71; (with_reducible refine (impl_in.calls ((rd_T35 l0_0 x26_2).f1) ((rd_T35 l0_0 x26_2).f0) 8 true _ A25.out).mono ?_); rintro e w' ⟨rfl, ⟨nd, rfl⟩⟩) | (go_at_call 71; (with_reducible refine (impl_in.calls (((rd_T35 l0_0 x26_2).f2).length : Int) 1 60 t323 _ A27.out).mono ?_); rintro e w' ⟨rfl, ⟨nd, rfl⟩⟩))
     go_meet
     case rel => exact ⟨_, (!t323), dr, H', ⟨lk2 HJ1 HK2⟩, ⟨by (with_reducible repeat (first | apply Kd.S_alloc | apply Kd.S_drewN | apply Kd.S_drew)); exact Kd.S_mono (Kd.S_far (p := ⟨gb320, 2, none⟩) (Kd.S_far (p := ⟨gb320, 1, none⟩) (Kd.S_far (p := ⟨gb320, 0, none⟩) (Kd.S_types HO_4.out BK320.out (by decide)) (fun _ hk => hk.2) (.int .i64 ((rd_T35 l0_0 x26_2).f0))) (fun _ hk => hk.2) (.int .i64 ((rd_T35 l0_0 x26_2).f1))) (fun _ hk => hk.2) (.slice A319_2 ((rd_T35 l0_0 x26_2).f2).length c319_2)) (fun _ hk => trivial)⟩, ⟨by (with_reducible repeat (first | apply dN | apply dW | apply dA)); refine blk_far ?_ NB317_320.out _; (with_reducible repeat (first | apply dN | apply dW | apply dA)); refine blk_far ?_ NB317_320.out _; (with_reducible repeat (first | apply dN | apply dW | apply dA)); refine blk_far ?_ NB317_320.out _; exact bp BK317⟩, ⟨by (with_reducible repeat (first | apply dN | apply dW | apply dA)); refine blk_far ?_ NB318_320.out _; (with_reducible repeat (first | apply dN | apply dW | apply dA)); refine blk_far ?_ NB318_320.out _; (with_reducible repeat (first | apply dN | apply dW | apply dA)); refine blk_far ?_ NB318_320.out _; exact bp BK318⟩, ⟨by (with_reducible repeat (first | apply dN | apply dW | apply dA)); refine blk_put (cs := #[.int .i64 ((rd_T35 l0_0 x26_2).f0), .int .i64 ((rd_T35 l0_0 x26_2).f1), .slice none 0 0]) ?_ 2 _ rfl; (with_reducible repeat (first | apply dN | apply dW | apply dA)); refine blk_put (cs := #[.int .i64 ((rd_T35 l0_0 x26_2).f0), .int .i64 0, .slice none 0 0]) ?_ 1 _ rfl; (with_reducible repeat (first | apply dN | apply dW | apply dA)); refine blk_put (cs := #[.int .i64 0, .int .i64 0, .slice none 0 0]) ?_ 0 _ rfl; exact bp BK320⟩, ⟨bw HB⟩⟩
    have H' := am H
    clear H
    have hnb31 := NB320_317.out
    have hnc31 := NB317_320.out
    have hnb32 := NB320_318.out
    have hnc32 := NB318_320.out
    have hcz33 := bK w19 BK320
    have hfz33 := bF BK320
    go_wp2_with (first | ((with_reducible refine gate_callee (f := 71) rfl ?_); refine goesL_ (some 33) rfl rfl Try.func71 (by kernel_rfl) rfl #[.int .i64 ((rd_T35 l0_0 x26_2).f0), .int .i64 0, .int .i64 4] rfl gl ?_; (with_reducible refine (impl_in.calls ((rd_T35 l0_0 x26_2).f0) 0 4 true _ A23.out).mono ?_); rintro e w' ⟨rfl, ⟨nd, rfl⟩⟩; refine ⟨_, rfl, ?_⟩) | (go_at_call 71; (with_reducible refine (impl_in.calls ((rd_T35 l0_0 x26_2).f1) ((rd_T35 l0_0 x26_2).f0) 8 false _ A25.out).mono ?_); rintro e w' ⟨rfl, ⟨nd, rfl⟩⟩))
    go_meet
    case rel => exact ⟨_, (true), dr, H', ⟨lk2 HJ1 HK2⟩, ⟨by (with_reducible repeat (first | apply Kd.S_alloc | apply Kd.S_drewN | apply Kd.S_drew)); exact Kd.S_mono (Kd.S_far (p := ⟨gb320, 2, none⟩) (Kd.S_far (p := ⟨gb320, 1, none⟩) (Kd.S_far (p := ⟨gb320, 0, none⟩) (Kd.S_types HO_4.out BK320.out (by decide)) (fun _ hk => hk.2) (.int .i64 ((rd_T35 l0_0 x26_2).f0))) (fun _ hk => hk.2) (.int .i64 ((rd_T35 l0_0 x26_2).f1))) (fun _ hk => hk.2) (.slice A319_2 ((rd_T35 l0_0 x26_2).f2).length c319_2)) (fun _ hk => trivial)⟩, ⟨by (with_reducible repeat (first | apply dN | apply dW | apply dA)); refine blk_far ?_ NB317_320.out _; (with_reducible repeat (first | apply dN | apply dW | apply dA)); refine blk_far ?_ NB317_320.out _; (with_reducible repeat (first | apply dN | apply dW | apply dA)); refine blk_far ?_ NB317_320.out _; exact bp BK317⟩, ⟨by (with_reducible repeat (first | apply dN | apply dW | apply dA)); refine blk_far ?_ NB318_320.out _; (with_reducible repeat (first | apply dN | apply dW | apply dA)); refine blk_far ?_ NB318_320.out _; (with_reducible repeat (first | apply dN | apply dW | apply dA)); refine blk_far ?_ NB318_320.out _; exact bp BK318⟩, ⟨by (with_reducible repeat (first | apply dN | apply dW | apply dA)); refine blk_put (cs := #[.int .i64 ((rd_T35 l0_0 x26_2).f0), .int .i64 ((rd_T35 l0_0 x26_2).f1), .slice none 0 0]) ?_ 2 _ rfl; (with_reducible repeat (first | apply dN | apply dW | apply dA)); refine blk_put (cs := #[.int .i64 ((rd_T35 l0_0 x26_2).f0), .int .i64 0, .slice none 0 0]) ?_ 1 _ rfl; (with_reducible repeat (first | apply dN | apply dW | apply dA)); refine blk_put (cs := #[.int .i64 0, .int .i64 0, .slice none 0 0]) ?_ 0 _ rfl; exact bp BK320⟩, ⟨bw HB⟩⟩
   have H' := am H
   clear H
   have hnb34 := NB320_317.out
   have hnc34 := NB317_320.out
   have hnb35 := NB320_318.out
   have hnc35 := NB318_320.out
   have hcz36 := bK w19 BK320
   have hfz36 := bF BK320
   go_wp2_with (first | ((with_reducible refine gate_callee (f := 71) rfl ?_); refine goesL_ (some 33) rfl rfl Try.func71 (by kernel_rfl) rfl #[.int .i64 ((rd_T35 l0_0 x26_2).f0), .int .i64 0, .int .i64 4] rfl gl ?_; (with_reducible refine (impl_in.calls ((rd_T35 l0_0 x26_2).f0) 0 4 false _ A23.out).mono ?_); rintro e w' ⟨rfl, ⟨nd, rfl⟩⟩; refine ⟨_, rfl, ?_⟩))
   go_meet
   case rel => exact ⟨_, (true), dr, H', ⟨lk2 HJ1 HK2⟩, ⟨by (with_reducible repeat (first | apply Kd.S_alloc | apply Kd.S_drewN | apply Kd.S_drew)); exact Kd.S_mono (Kd.S_far (p := ⟨gb320, 2, none⟩) (Kd.S_far (p := ⟨gb320, 1, none⟩) (Kd.S_far (p := ⟨gb320, 0, none⟩) (Kd.S_types HO_4.out BK320.out (by decide)) (fun _ hk => hk.2) (.int .i64 ((rd_T35 l0_0 x26_2).f0))) (fun _ hk => hk.2) (.int .i64 ((rd_T35 l0_0 x26_2).f1))) (fun _ hk => hk.2) (.slice A319_2 ((rd_T35 l0_0 x26_2).f2).length c319_2)) (fun _ hk => trivial)⟩, ⟨by (with_reducible repeat (first | apply dN | apply dW | apply dA)); refine blk_far ?_ NB317_320.out _; (with_reducible repeat (first | apply dN | apply dW | apply dA)); refine blk_far ?_ NB317_320.out _; (with_reducible repeat (first | apply dN | apply dW | apply dA)); refine blk_far ?_ NB317_320.out _; exact bp BK317⟩, ⟨by (with_reducible repeat (first | apply dN | apply dW | apply dA)); refine blk_far ?_ NB318_320.out _; (with_reducible repeat (first | apply dN | apply dW | apply dA)); refine blk_far ?_ NB318_320.out _; (with_reducible repeat (first | apply dN | apply dW | apply dA)); refine blk_far ?_ NB318_320.out _; exact bp BK318⟩, ⟨by (with_reducible repeat (first | apply dN | apply dW | apply dA)); refine blk_put (cs := #[.int .i64 ((rd_T35 l0_0 x26_2).f0), .int .i64 ((rd_T35 l0_0 x26_2).f1), .slice none 0 0]) ?_ 2 _ rfl; (with_reducible repeat (first | apply dN | apply dW | apply dA)); refine blk_put (cs := #[.int .i64 ((rd_T35 l0_0 x26_2).f0), .int .i64 0, .slice none 0 0]) ?_ 1 _ rfl; (with_reducible repeat (first | apply dN | apply dW | apply dA)); refine blk_put (cs := #[.int .i64 0, .int .i64 0, .slice none 0 0]) ?_ 0 _ rfl; exact bp BK320⟩, ⟨bw HB⟩⟩
  clear HC18
  (try clear c2); (try clear p3); (try clear q3); (try clear hx3); (try clear c7); (try clear c15); (try clear c15b0); (try clear c16); (try clear c16b0); (try clear c17); (try clear c17b0); (try clear c20); (try clear c21); (try clear c24); (try clear c26); (try clear c28); (try clear c29); (try clear c31); (try clear p31); (try clear q31); (try clear hx31); (try clear c32); (try clear c34); (try clear c35); (try clear hcz22); (try clear hcz30); (try clear hcz33); (try clear hcz36); (try clear hfz22); (try clear hfz30); (try clear hfz33); (try clear hfz36); (try clear hx319_0); (try clear hx319_1); (try clear hx319_2); (try clear p319); (try clear q319)
  obtain ⟨kq, x49_17, rfl, HA, HJ17, HO_4, BK317, BK318, BK320, HB⟩ := hcut
  rcases kq with _ | kj17
  ·exact absurd HA.out (by simp [impl_verify.j2])
  have H := HA.out
  clear HA
  simp only [impl_verify.j2] at H
  refine qT H ?_ ?_ <;> clear H <;> intro c37 H <;> subst c37
  ·simp only [Option.some.injEq, Prod.mk.injEq] at H
   obtain ⟨rfl, rfl, rfl, rfl⟩ := H
   have hnb38 := NB318_317.out
   have hnc38 := NB317_318.out
   have hnb39 := NB318_320.out
   have hnc39 := NB320_318.out
   have hcz40 := bK wc BK318
   have hfz40 := bF BK318
   go_wp2
   refine bodyPost_ret (results_ct rfl _ _ gb318 29 #[.int .i64 x26_2, .int .i64 0, .int .i64 1] (0, 0) _ rfl (bt BK318) Try.underlying29 rfl (by kernel_rfl)) rfl ?_
   exact ⟨_, er, by first | exact Kd.S_nil _ _ _ _ _ | exact Kd.N_nil _ _ _ _ _ | exact Kd.V_nil _ _ _ _ _ | exact Kd.Q_nil _ _ _ _ _ | exact Kd.R_nil _ _ _ _ _, bw HB⟩
  have H' := am H
  clear H
  have hnb41 := NB320_317.out
  have hnc41 := NB317_320.out
  have hnb42 := NB320_318.out
  have hnc42 := NB318_320.out
  have hcz43 := bK wc BK320
  have hfz43 := bF BK320
  go_wp2
  go_loopg [55] kj17 (fun kq v55 w' => ∃ (x55_4 : Int) (x319000_4 : Int) (x319001_4 : Int) (x319002_4 : Int), v55 = .int .i64 x55_4 ∧ Aside0 (impl_verify.l1 kq x4_2 x26_2 l0_0 (l0_0.length : Int) x26_2 ((rd_T35 l0_0 x26_2).f2) (((rd_T35 l0_0 x26_2).f2).length : Int) x55_4 l0_0 = some (r1, r2, r3, r4)) ∧ Aside0 (kq ≤ kj17) ∧ Aside0 (Kd.S (Kd.slice 2 (Kd.int .i64)) 31 w' w.heap.size (fun _ => True) u4 x4_2) ∧ Aside0 (w'.heap[gb317]? = some (.cells #[(.slice (some ad319) l0_0.length c0_0)] 25 (0, 0))) ∧ Aside0 (w'.heap[gb318]? = some (.cells #[.int .i64 x319000_4, .int .i64 x319001_4, .int .i64 x319002_4] 29 (0, 0))) ∧ Aside0 (w'.heap[gb320]? = some (.cells #[.int .i64 ((rd_T35 l0_0 x26_2).f0), .int .i64 ((rd_T35 l0_0 x26_2).f1), (.slice A319_2 ((rd_T35 l0_0 x26_2).f2).length c319_2)] 35 (0, 0))) ∧ Aside0 (Below w.heap.size w w'))
  case atStart => exact ⟨(0), (x319000_2), (x319001_2), (x319002_2), dr, H', ⟨Nat.le_refl _⟩, ⟨kS HO_4⟩, ⟨bp BK317⟩, ⟨bp BK318⟩, ⟨bp BK320⟩, ⟨bw HB⟩⟩
  clear H'
  (try clear c4); (try clear c37); (try clear c38); (try clear c39); (try clear c41); (try clear c42); (try clear hcz40); (try clear hcz43); (try clear hfz40); (try clear hfz43)
  obtain ⟨x55_4, x319000_4, x319001_4, x319002_4, rfl, HA, HK4, HO_4, BK317, BK318, BK320, HB⟩ := hrel
  rcases gk with _ | k4
  ·exact absurd HA.out (by simp [impl_verify.l1])
  have H := HA.out
  clear HA
  simp only [impl_verify.l1] at H
  refine qI H ?_ ?_ <;> clear H <;> intro c44b0 H
  ·refine iM H ?_; clear H; intro c45b0 H
   refine iM H ?_; clear H; intro c46b0 H
   refine be H ?_; clear H; intro t326 A47 H
   have HC48 := am H
   clear H
   have p324 : 0 ≤ (x55_4 : Int) := of_decide_eq_true as1
   have q324 : x55_4 < (((rd_T35 l0_0 x26_2).f2).length : Int) := of_decide_eq_true as1
   obtain ⟨ad324, e324, hx324_0, hx324_1⟩ := at_T38 HR319_2.out x55_4 p324 q324
   cases e324
   replace hx324_0 := cl HB hx324_0
   replace hx324_1 := cl HB hx324_1
   replace p324 := eq_true p324
   replace q324 := eq_true q324
   go_upto_if 64 with (first | ((with_reducible refine gate_dst (N := 8) rfl ?_); (try (refine gate_guard (by rfl) ?_; dsimp only)); refine box_event ?hg (N := 8) ?hd (cs := #[.int .i64 0, .int .i64 0]) (t := 38) ?hr ?_; (case hd => rfl); (case hg => rfl); (case hr => exact gs); intro gb325 hg w49 hbox hb; replace HO_4 := am (Kd.S_below (kS HO_4) hb); have BK325 := am (hbox); have GW325 := gw hg HB; replace HB := bs HB hb; obtain ⟨NB317_325, NB325_317, BK317⟩ := b3 hg BK317 hb; obtain ⟨NB318_325, NB325_318, BK318⟩ := b3 hg BK318 hb; obtain ⟨NB320_325, NB325_320, BK320⟩ := b3 hg BK320 hb; clear hb hbox hg; have hnb50 := NB325_317.out; have hnc50 := NB317_325.out; have hnb51 := NB325_318.out; have hnc51 := NB318_325.out; have hnb52 := NB325_320.out; have hnc52 := NB320_325.out; have hcz53 := bK w49 BK325; have hfz53 := bF BK325; have hnb54 := NB317_318.out; have hnc54 := NB318_317.out; have hnb55 := NB317_320.out; have hnc55 := NB320_317.out; have hcz56 := bK w49 BK317; have hfz56 := bF BK317) | ((with_reducible refine gk 75 rfl ?_); refine gB 75 (some 63) Try.func75 #[.agg #[.slice (some ad319) l0_0.length c0_0], .int .i64 x26_2, .agg #[.int .i64 ((rd_T38 ((rd_T35 l0_0 x26_2).f2) x55_4).f0), .int .i64 ((rd_T38 ((rd_T35 l0_0 x26_2).f2) x55_4).f1)]] (impl_InsRight.calls k4 _ _ l0_0 x26_2 ((rd_T38 ((rd_T35 l0_0 x26_2).f2) x55_4).f0) ((rd_T38 ((rd_T35 l0_0 x26_2).f2) x55_4).f1) t326 _ (Kd.C_below HR0_0.out (bw HB)) HC0_0.out A47.out) ?_; intro w57 hb; replace HO_4 := am (Kd.S_below (by (with_reducible repeat (first | apply Kd.S_alloc | apply Kd.S_drewN | apply Kd.S_drew)); exact (Kd.S_mono (Kd.S_far (p := ⟨gb325, 1, none⟩) (Kd.S_far (p := ⟨gb325, 0, none⟩) (Kd.S_types HO_4.out BK325.out (by decide)) (fun _ hk => hk.2) (.int .i64 ((rd_T38 ((rd_T35 l0_0 x26_2).f2) x55_4).f0))) (fun _ hk => hk.2) (.int .i64 ((rd_T38 ((rd_T35 l0_0 x26_2).f2) x55_4).f1))) (fun _ h_ => h_.1))) hb); replace BK317 := bb2 BK317 hb; replace BK318 := bb2 BK318 hb; replace BK320 := bb2 BK320 hb; replace BK325 := bo #[.int .i64 ((rd_T38 ((rd_T35 l0_0 x26_2).f2) x55_4).f0), .int .i64 ((rd_T38 ((rd_T35 l0_0 x26_2).f2) x55_4).f1)] BK325 hb; replace HB := bs HB hb; clear hb))
   (try simp only [Act.put, sa, sz, ss])
   have H := HC48.out
   clear HC48
   refine qT H ?_ ?_ <;> clear H <;> intro c58 H <;> subst c58
   ·have H' := am H
    clear H
    go_wp2
    go_roundg k4
    case measure => have := HJ1.out; have := HK2.out; have := HJ17.out; have := HK4.out; omega
    case rel => exact ⟨(wrap64 (x55_4 + 1)), (x319000_4), (x319001_4), (x319002_4), dr, H', ⟨by have := HJ1.out; have := HK2.out; have := HJ17.out; have := HK4.out; omega⟩, ⟨kS HO_4⟩, ⟨bp BK317⟩, ⟨bp BK318⟩, ⟨bp BK320⟩, ⟨bw HB⟩⟩
   simp only [Option.some.injEq, Prod.mk.injEq] at H
   obtain ⟨rfl, rfl, rfl, rfl⟩ := H
   have hnb59 := NB318_317.out
   have hnc59 := NB317_318.out
   have hnb60 := NB318_320.out
   have hnc60 := NB320_318.out
   have hnb61 := NB318_325.out
   have hnc61 := NB325_318.out
   have hcz62 := bK w57 BK318
   have hfz62 := bF BK318
   go_wp2
   refine bodyPost_ret (results_ct rfl _ _ gb318 29 #[.int .i64 x26_2, .int .i64 x55_4, .int .i64 1] (0, 0) _ rfl (bt BK318) Try.underlying29 rfl (by kernel_rfl)) rfl ?_
   exact ⟨_, er, by first | exact Kd.S_nil _ _ _ _ _ | exact Kd.N_nil _ _ _ _ _ | exact Kd.V_nil _ _ _ _ _ | exact Kd.Q_nil _ _ _ _ _ | exact Kd.R_nil _ _ _ _ _, bw HB⟩
  replace H := Option.bind_eq_some_iff.mp H
  obtain ⟨⟨t327, t330, t331⟩, A630, H⟩ := H
  replace H : (if t331 = 0 then (if x4_2.length < 5864062014805 then (impl_verify.l0 k4 (x4_2 ++ [t327]) l0_0 (l0_0.length : Int) (wrap64 (x26_2 + 1)) l0_0) else (none)) else (some (x26_2, t330, t331, ([] : List (List Int))))) = some (r1, r2, r3, r4) := H
  have A63 := am A630
  clear A630
  have HC64 := am H
  clear H
  have hnb65 := NB317_318.out
  have hnc65 := NB318_317.out
  have hnb66 := NB317_320.out
  have hnc66 := NB320_317.out
  have hcz67 := bK wr BK317
  have hfz67 := bF BK317
  go_upto_if 77 with (first | ((with_reducible refine gk 76 rfl ?_); refine gC 76 (some 72) Try.func76 #[.agg #[.slice (some ad319) l0_0.length c0_0], .int .i64 x26_2] ((impl_heightsOf.calls k4 _ _ l0_0 x26_2 t327 t330 t331 _ (cc (Kd.C_below HR0_0.out HB.out)) HC0_0.out A63.out).mono ?_); rintro e w68 ⟨v328, rfl, ho0, hb⟩; refine ⟨_, rfl, ?_⟩; replace HO_4 := am (Kd.S_elder' (kS HO_4) (Kd.R_base ho0) hb); have HO329 := am (Kd.R_lower ho0 (below_size (bw HB))); replace BK317 := bb BK317 hb; replace BK318 := bb BK318 hb; replace BK320 := bb BK320 hb; replace HB := bs HB hb; clear hb; (try clear ho0)))
  (try simp only [Act.put, sa, sz, ss])
  have H := HC64.out
  clear HC64
  refine qE H ?_ ?_ <;> clear H
  ·intro c69b0 c69b1 H
   (first | rw [c69b0] | (simp only [i64_w, i32_w]; rw [c69b0]) | skip)
   refine iN H ?_; clear H; intro c70 H
   have LMc70 := am c70
   clear c70
   obtain ⟨y332, hy332⟩ : ∃ y_ : List (List Int), y_ = (x4_2 ++ [t327]) := ⟨_, rfl⟩
   replace H : (impl_verify.l0 k4 y332 l0_0 (l0_0.length : Int) (wrap64 (x26_2 + 1)) l0_0) = some (r1, r2, r3, r4) := by first | (rw [hy332]; with_reducible exact H) | (have H2_ := (Option.bind_some _ _).symm.trans H; rw [hy332]; with_reducible exact H2_) | (have H2_ := (Option.bind_some _ _).symm.trans H; with_reducible exact H2_) | with_reducible exact H | (rw [hy332]; exact H) | exact H
   have Ny332 := am hy332
   clear hy332
   have H' := am H
   clear H
   obtain ⟨Ao72, co72, eo72⟩ := Kd.R_slice HO329.out
   subst eo72
   go_wp2_with (first | ((with_reducible refine gate_builtin (b := .append) (xs := #[.tmp 82, .tmp 84]) rfl ?_); (try (refine gate_guard (by rfl) ?_; dsimp only)); at_builtin; refine Kd.S_append (Kd.slice 2 (Kd.int .i64)) (w0 := w) w.heap.size rfl (.tmp 82) (.tmp 84) 60 31 (.slice none 0 0) 24 rfl Try.underlying60 info31 rfl (by decide) (by omega) u4 x4_2 t327 [.slice Ao72 t327.length co72] (fun _ => True) (fun k_ => some k_ = (.slice Ao72 t327.length co72 : Value).ownBlock) rfl rfl ?aP (fun k_ hk_ => ((Kd.R_mono (ok' := fun k_ => ((fun _ => True)) k_ ∧ some k_ ≠ (u4 : Value).ownBlock) (Kd.R_apart' (HO329.out) (Kd.S_typed HO_4.out) (by decide)) (fun k_ hk => ⟨trivial, hk.2⟩))).1 k_ hk_.symm) ?aF ?aO ?aB ?aS ?aL ?_; (case aP => exact Kd.M_row (Kd.R_mono (Kd.R_tight rfl (Kd.R_mono (ok' := fun k_ => ((fun _ => True)) k_ ∧ some k_ ≠ (u4 : Value).ownBlock) (Kd.R_apart' (HO329.out) (Kd.S_typed HO_4.out) (by decide)) (fun k_ hk => ⟨trivial, hk.2⟩))) (fun _ h_ => h_))); (case aB => exact (bw HB)); (case aF => exact (fun _ _ => trivial)); (case aO => exact (by (with_reducible repeat (first | apply Kd.S_alloc | apply Kd.S_drewN | apply Kd.S_drew)); exact Kd.S_mono HO_4.out (fun k_ hk => ⟨trivial, fun e_ => hk.2 e_⟩))); (case aS => exact (below_size (bw HB))); (case aL => have := LMc70.out; omega); intro v333 w71 ho hb hg hat; rw [← Ny332.out] at ho; replace BK317 := bg BK317 hg (Kd.S_ne HO_4.out BK317.out (by decide)); replace BK318 := bg BK318 hg (Kd.S_ne HO_4.out BK318.out (by decide)); replace BK320 := bg BK320 hg (Kd.S_ne HO_4.out BK320.out (by decide)); replace HB := am (hb); have HO334 := am (ho); clear HO_4; clear HO329; clear ho hb hg hat))
   go_roundg k4
   case measure => have := HJ1.out; have := HK2.out; have := HJ17.out; have := HK4.out; omega
   case rel => exact ⟨(y332), (wrap64 (x26_2 + 1)), (x319000_4), (x319001_4), (x319002_4), dr, H', ⟨by have := HJ1.out; have := HK2.out; have := HJ17.out; have := HK4.out; omega⟩, ⟨kS HO334⟩, ⟨bp BK317⟩, ⟨bp BK318⟩, ⟨bw HB⟩⟩
  intro c69 c69b0 c69b1 H
  (first | rw [c69b0] | (simp only [i64_w, i32_w]; rw [c69b0]) | skip)
  simp only [Option.some.injEq, Prod.mk.injEq] at H
  obtain ⟨rfl, rfl, rfl, rfl⟩ := H
  have hnb73 := NB318_317.out
  have hnc73 := NB317_318.out
  have hnb74 := NB318_320.out
  have hnc74 := NB320_318.out
  have hcz75 := bK w68 BK318
  have hfz75 := bF BK318
  go_wp2
  refine bodyPost_ret (results_ct rfl _ _ gb318 29 #[.int .i64 x26_2, .int .i64 t330, .int .i64 t331] (0, 0) _ rfl (bt BK318) Try.underlying29 rfl (by kernel_rfl)) rfl ?_
  exact ⟨_, er, by first | exact Kd.S_nil _ _ _ _ _ | exact Kd.N_nil _ _ _ _ _ | exact Kd.V_nil _ _ _ _ _ | exact Kd.Q_nil _ _ _ _ _ | exact Kd.R_nil _ _ _ _ _, bw HB⟩
 rw [if_neg c15] at H
 have c15b0 := decide_eq_false c15
 clear c15
 simp only [Option.some.injEq, Prod.mk.injEq] at H
 obtain ⟨rfl, rfl, rfl, rfl⟩ := H
 have hnb76 := NB318_317.out
 have hnc76 := NB317_318.out
 have hcz77 := bK wr BK318
 have hfz77 := bF BK318
 go_wp2
 refine bodyPost_ret (results_ct rfl _ _ gb318 29 #[.int .i64 0, .int .i64 0, .int .i64 0] (0, 0) _ rfl (bt BK318) Try.underlying29 rfl (by kernel_rfl)) rfl ?_
 exact ⟨_, er, by (with_reducible repeat (first | apply Kd.S_alloc | apply Kd.S_drewN | apply Kd.S_drew)); exact Kd.S_mono (Kd.S_far (p := ⟨gb318, 2, none⟩) (Kd.S_far (p := ⟨gb318, 1, none⟩) (Kd.S_far (p := ⟨gb318, 0, none⟩) (Kd.S_types HO_4.out BK318.out (by decide)) (fun _ hk => hk.2) (.int .i64 0)) (fun _ hk => hk.2) (.int .i64 0)) (fun _ hk => hk.2) (.int .i64 0)) (fun _ hk => trivial), bw HB⟩

def impl_Verify.f (k : Nat) (l0_0 : List (S35)) : Option (Int × Int × Int) := (impl_verify.f k l0_0).bind fun bt337 => (some (bt337.1, bt337.2.1, bt337.2.2.1))
theorem impl_Verify.mono : ∀ a0 k, LeO (impl_Verify.f k a0) (impl_Verify.f (k + 1) a0) := by
 intro a0 k
 unfold impl_Verify.f
 with_reducible repeat' first | exact impl_verify.mono .. | exact LeO.refl _ | exact LeO.none _ | refine LeO.ite ?_ ?_ | refine LeO.bind ?_ (fun _ => ?_)
theorem impl_Verify.calls (k : Nat) (A0_0 : Option Addr) (c0_0 : Nat) (l0_0 : List (S35)) (r1 : Int) (r2 : Int) (r3 : Int) (w : World) (hr0_0 : Kd.C k35 w A0_0 l0_0.length l0_0) (hc0_0 : l0_0.length ≤ c0_0) (h : impl_Verify.f k l0_0 = some (r1, r2, r3)) :
  Calls Try.prog 10 #[.agg #[.slice A0_0 l0_0.length c0_0]] w fun e w' => e = .returned (.agg #[.int .i64 r1, .int .i64 r2, .int .i64 r3]) ∧ Below w.heap.size w w' := by
 have hu25 := Try.underlying25
 have hu29 := Try.underlying29
 have HR0_0 := am hr0_0
 have HC0_0 := am hc0_0
 clear hr0_0 hc0_0
 have HB := am (Below.refl w.heap.size w)
 have H : ((impl_verify.f k l0_0).bind fun bt337 => (some (bt337.1, bt337.2.1, bt337.2.2.1))) = some (r1, r2, r3) := h
 clear h
 replace H := Option.bind_eq_some_iff.mp H
 obtain ⟨⟨t337, t338, t339, t340⟩, A20, H⟩ := H
 replace H : (some (t337, t338, t339)) = some (r1, r2, r3) := H
 have A2 := am A20
 clear A20
 simp only [Option.some.injEq, Prod.mk.injEq] at H
 obtain ⟨rfl, rfl, rfl⟩ := H
 go_enter Try.func10, Try.ntmps10
 go_wp2_with (first | ((with_reducible refine gd 1 rfl ?_); refine bX 1 #[.slice A0_0 l0_0.length c0_0] 25 HB ?_; clear HB; intro gb335 w3 hg hb BK335 GW335 HB; clear hb hg) | ((with_reducible refine gd 2 rfl ?_); refine bX 2 #[.int .i64 0, .int .i64 0, .int .i64 0] 29 HB ?_; clear HB; intro gb336 w4 hg hb BK336 GW336 HB; obtain ⟨NB335_336, NB336_335, BK335⟩ := b3 hg BK335 hb; clear hb hg; have hnb5 := NB335_336.out; have hnc5 := NB336_335.out; have hcz6 := bK w4 BK335; have hfz6 := bF BK335) | ((with_reducible refine gk 34 rfl ?_); refine gC 34 (some 7) Try.func34 #[.agg #[.slice A0_0 l0_0.length c0_0]] ((impl_verify.calls k _ _ l0_0 t337 t338 t339 t340 _ (cc (Kd.C_below HR0_0.out HB.out)) HC0_0.out A2.out).mono ?_); rintro e w7 ⟨v341, rfl, ho0, hb⟩; refine ⟨_, rfl, ?_⟩; have HO342 := am (Kd.S_lower ho0 (below_size (bw HB))); replace BK335 := bb BK335 hb; replace BK336 := bb BK336 hb; replace HB := bs HB hb; clear hb; (try clear ho0)) | ((with_reducible refine gd 3 rfl ?_); refine bX 3 #[.int .i64 0, .int .i64 0, .int .i64 0] 29 HB ?_; clear HB; intro gb343 w8 hg hb BK343 GW343 HB; replace HO342 := am (Kd.S_below (kS HO342) hb); obtain ⟨NB335_343, NB343_335, BK335⟩ := b3 hg BK335 hb; obtain ⟨NB336_343, NB343_336, BK336⟩ := b3 hg BK336 hb; clear hb hg; have hnb9 := NB343_335.out; have hnc9 := NB335_343.out; have hnb10 := NB343_336.out; have hnc10 := NB336_343.out; have hcz11 := bK w8 BK343; have hfz11 := bF BK343; have hcz12 := bK w8 BK336; have hfz12 := bF BK336))
 refine bodyPost_ret (results_cell_row rfl _ _ gb336 29 #[.int .i64 t337, .int .i64 t338, .int .i64 t339] (0, 0) _ rfl (bt BK336) Try.underlying29 rfl (by kernel_rfl)) rfl ?_
 exact ⟨er, bw HB⟩

def impl_known.f (k : Nat) (l0_0 : List (S35)) : Option ((List (S35)) × (List (List Int)) × Bool) := (impl_verify.f k l0_0).bind fun bt345 => (some (l0_0, bt345.2.2.2, (bt345.2.2.1 == 0)))
theorem impl_known.mono : ∀ a0 k, LeO (impl_known.f k a0) (impl_known.f (k + 1) a0) := by
 intro a0 k
 unfold impl_known.f
 with_reducible repeat' first | exact impl_verify.mono .. | exact LeO.refl _ | exact LeO.none _ | refine LeO.ite ?_ ?_ | refine LeO.bind ?_ (fun _ => ?_)
def impl_known.T2 : Bool × List (List Nat × List Nat) := (true, [([], []), ([], []), ([0, 1], [0, 1]), ([2], [2]), ([], []), ([4], [4]), ([5], [5]), ([3, 0, 1, 2, 3], [3]), ([6, 7, 0, 1, 2, 3, 4, 5, 6, 7], [6])])
def impl_known.B2 : List Nat := [0, 0, 3, 7, 0, 16, 48, 15, 255]
theorem impl_known.tab2 : rtab .any (opsOf Try.f51 2) = impl_known.T2 := by kernel_rfl
theorem impl_known.bits2 : waitsOk impl_known.T2.2 impl_known.B2 = true := by kernel_rfl
theorem impl_known.calls (k : Nat) (P0_0_ : Nat → Prop) (A0_0 : Option Addr) (c0_0 : Nat) (l0_0 : List (S35)) (r1 : List (S35)) (r2 : List (List Int)) (r3 : Bool) (w : World) (hs0_0 : Kd.V k35 35 w w.heap.size (fun k_ => P0_0_ k_) (.slice A0_0 l0_0.length c0_0) l0_0) (h : impl_known.f k l0_0 = some (r1, r2, r3)) :
  Calls Try.prog 51 #[.agg #[.slice A0_0 l0_0.length c0_0]] w fun e w' => ∃ v0_ v1_ : Value, ∃ g_ : Nat, e = .returned (.tuple #[.pointer (some ⟨g_, 0, none⟩), .bool r3]) ∧ Kd.V k35 35 w' w.heap.size (fun k_ => (P0_0_ k_ ∨ w.heap.size ≤ k_) ∧ some k_ ≠ (v1_ : Value).ownBlock) v0_ r1 ∧ Kd.S (Kd.slice 2 (Kd.int .i64)) 31 w' w.heap.size (fun k_ => (w.heap.size ≤ k_)) v1_ r2 ∧ w'.heap[g_]? = some (.cells #[v0_, v1_] 67 (0, 0)) ∧ w.heap.size ≤ g_ ∧ Below w.heap.size w w' := by
 have hu25 := Try.underlying25
 have hu29 := Try.underlying29
 have hu67 := Try.underlying67
 have HO0_0 := am (show Kd.V k35 35 w w.heap.size (fun k_ => (P0_0_ k_ ∨ w.heap.size ≤ k_)) (.slice A0_0 l0_0.length c0_0) l0_0 from Kd.V_mono hs0_0 (fun k_ hk => .inl hk))
 have HB := am (Below.refl w.heap.size w)
 have H : ((impl_verify.f k l0_0).bind fun bt345 => (some (l0_0, bt345.2.2.2, (bt345.2.2.1 == 0)))) = some (r1, r2, r3) := h
 clear h
 replace H := Option.bind_eq_some_iff.mp H
 obtain ⟨⟨t345, t346, t347, t348⟩, A20, H⟩ := H
 replace H : (some (l0_0, t348, (t347 == 0))) = some (r1, r2, r3) := H
 have A2 := am A20
 clear A20
 simp only [Option.some.injEq, Prod.mk.injEq] at H
 obtain ⟨rfl, rfl, rfl⟩ := H
 go_enter Try.func51, Try.ntmps51
 try go_wp2_with (first | ((with_reducible refine gd 1 rfl ?_); refine bX 1 #[.slice A0_0 l0_0.length c0_0] 25 HB ?_; clear HB; intro gb344 w3 hg hb BK344 GW344 HB; replace HO0_0 := am (Kd.V_below (Kd.V_elderB (kV HO0_0) gb344 (Nat.le_of_eq hg.symm)) hb); clear hb hg; have hcz4 := bK w3 BK344; have hfz4 := bF BK344) | ((with_reducible refine gk 34 rfl ?_); refine gC 34 (some 8) Try.func34 #[.agg #[.slice A0_0 l0_0.length c0_0]] ((impl_verify.calls k _ _ l0_0 t345 t346 t347 t348 _ (cc (Kd.V_reads' HO0_0.out).2.2) ((Kd.V_reads' HO0_0.out).2.1) A2.out).mono ?_); rintro e w5 ⟨v349, rfl, ho0, hb⟩; refine ⟨_, rfl, ?_⟩; replace HO0_0 := am (Kd.V_elder' (kV HO0_0) (Kd.S_base ho0) hb); have HO350 := am (Kd.S_lower (Kd.S_newM (M := fun k_ => (w.heap.size ≤ k_)) ho0 (below_size (bw HB)) (fun k_ h_ => h_)) (below_size (bw HB))); replace BK344 := bb BK344 hb; replace HB := bs HB hb; clear hb; (try clear ho0)) | ((with_reducible refine gd 4 rfl ?_); refine bX 4 #[.int .i64 0, .int .i64 0, .int .i64 0] 29 HB ?_; clear HB; intro gb351 w6 hg hb BK351 GW351 HB; replace HO0_0 := am (Kd.V_below (Kd.V_elderB (kV HO0_0) gb351 (Nat.le_of_eq hg.symm)) hb); replace HO350 := am (Kd.S_below (kS HO350) hb); obtain ⟨NB344_351, NB351_344, BK344⟩ := b3 hg BK344 hb; clear hb hg; have hnb7 := NB351_344.out; have hnc7 := NB344_351.out; have hcz8 := bK w6 BK351; have hfz8 := bF BK351))
 replace HO0_0 : Aside0 (Kd.V k35 35 (((w6.setCell ⟨gb351, 0, none⟩ (.int .i64 t345)).setCell ⟨gb351, 1, none⟩ (.int .i64 t346)).setCell ⟨gb351, 2, none⟩ (.int .i64 t347)) w.heap.size (fun k_ => (P0_0_ k_ ∨ w.heap.size ≤ k_) ∧ some k_ ≠ (v349 : Value).ownBlock ∧ k_ ≠ gb344 ∧ k_ ≠ gb351) (.slice A0_0 l0_0.length c0_0) l0_0) := ⟨by (with_reducible repeat (first | apply Kd.V_alloc | apply Kd.V_drewN | apply Kd.V_drew)); exact Kd.V_mono (Kd.V_far (p := ⟨gb351, 2, none⟩) (Kd.V_far (p := ⟨gb351, 1, none⟩) (Kd.V_far (p := ⟨gb351, 0, none⟩) (Kd.V_mono HO0_0.out (fun k_ hk => (⟨hk, hk.2⟩ : _ ∧ k_ ≠ gb351))) (fun _ hk => hk.2) (.int .i64 t345)) (fun _ hk => hk.2) (.int .i64 t346)) (fun _ hk => hk.2) (.int .i64 t347)) (fun _ hk => ⟨hk.1.1.1.1, ⟨hk.1.1.2, ⟨hk.1.1.1.2, hk.1.2⟩⟩⟩)⟩
 replace HO350 : Aside0 (Kd.S (Kd.slice 2 (Kd.int .i64)) 31 (((w6.setCell ⟨gb351, 0, none⟩ (.int .i64 t345)).setCell ⟨gb351, 1, none⟩ (.int .i64 t346)).setCell ⟨gb351, 2, none⟩ (.int .i64 t347)) w.heap.size (fun k_ => (w.heap.size ≤ k_)) v349 t348) := ⟨by (with_reducible repeat (first | apply Kd.S_alloc | apply Kd.S_drewN | apply Kd.S_drew)); exact Kd.S_mono (Kd.S_far (p := ⟨gb351, 2, none⟩) (Kd.S_far (p := ⟨gb351, 1, none⟩) (Kd.S_far (p := ⟨gb351, 0, none⟩) (Kd.S_types HO350.out BK351.out (by decide)) (fun _ hk => hk.2) (.int .i64 t345)) (fun _ hk => hk.2) (.int .i64 t346)) (fun _ hk => hk.2) (.int .i64 t347)) (fun _ hk => hk.1.1)⟩
 replace BK344 : Aside0 ((((w6.setCell ⟨gb351, 0, none⟩ (.int .i64 t345)).setCell ⟨gb351, 1, none⟩ (.int .i64 t346)).setCell ⟨gb351, 2, none⟩ (.int .i64 t347)).heap[gb344]? = some (.cells #[.slice A0_0 l0_0.length c0_0] 25 (0, 0))) := ⟨by (with_reducible repeat (first | apply dN | apply dW | apply dA)); refine blk_far ?_ NB344_351.out _; (with_reducible repeat (first | apply dN | apply dW | apply dA)); refine blk_far ?_ NB344_351.out _; (with_reducible repeat (first | apply dN | apply dW | apply dA)); refine blk_far ?_ NB344_351.out _; exact bp BK344⟩
 replace BK351 : Aside0 ((((w6.setCell ⟨gb351, 0, none⟩ (.int .i64 t345)).setCell ⟨gb351, 1, none⟩ (.int .i64 t346)).setCell ⟨gb351, 2, none⟩ (.int .i64 t347)).heap[gb351]? = some (.cells #[.int .i64 t345, .int .i64 t346, .int .i64 t347] 29 (0, 0))) := ⟨by (with_reducible repeat (first | apply dN | apply dW | apply dA)); refine blk_put (cs := #[.int .i64 t345, .int .i64 t346, .int .i64 0]) ?_ 2 _ rfl; (with_reducible repeat (first | apply dN | apply dW | apply dA)); refine blk_put (cs := #[.int .i64 t345, .int .i64 0, .int .i64 0]) ?_ 1 _ rfl; (with_reducible repeat (first | apply dN | apply dW | apply dA)); refine blk_put (cs := #[.int .i64 0, .int .i64 0, .int .i64 0]) ?_ 0 _ rfl; exact bp BK351⟩
 replace HB : Aside0 (Below w.heap.size w (((w6.setCell ⟨gb351, 0, none⟩ (.int .i64 t345)).setCell ⟨gb351, 1, none⟩ (.int .i64 t346)).setCell ⟨gb351, 2, none⟩ (.int .i64 t347))) := ⟨bw HB⟩
 generalize (((w6.setCell ⟨gb351, 0, none⟩ (.int .i64 t345)).setCell ⟨gb351, 1, none⟩ (.int .i64 t346)).setCell ⟨gb351, 2, none⟩ (.int .i64 t347)) = w9 at HO0_0 HO350 BK344 BK351 HB ⊢
 replace HO0_0 := am (Kd.V_drew HO0_0.out)
 replace HO350 := am (Kd.S_drew HO350.out)
 replace BK344 := am (blk_drew BK344.out)
 replace BK351 := am (blk_drew BK351.out)
 replace HB := am (below_drew1 HB.out)
 obtain ⟨Ao11, co11, eo11⟩ := Kd.S_slice HO350.out
 (first | subst eo11 | (injection eo11 with f1_ f2_ f3_; have f4_ := f1_.symm; have f5_ := f3_.symm; clear f1_ f2_ f3_; subst f4_; subst f5_))
 refine start_ (n := 9) (S := fun w' => w'.cell? ⟨gb344, 0, none⟩ = some (.slice A0_0 l0_0.length c0_0) ∧ w'.cell? ⟨gb351, 0, none⟩ = some (.int .i64 t345) ∧ w'.cell? ⟨gb351, 1, none⟩ = some (.int .i64 t346) ∧ w'.cell? ⟨gb351, 2, none⟩ = some (.int .i64 t347)) (ds := []) (bv 9 0) (by kernel_rfl) rfl (by kernel_rfl) ⟨bc BK344 0, bc BK351 0, bc BK351 1, bc BK351 2⟩ (fun hHeld => ?_); refine with_tabW impl_known.tab2 impl_known.bits2 (fun HT_ HW_ => ?_)
 generalize w9.drew = w10 at HO0_0 HO350 BK344 BK351 HB hHeld ⊢
 refine pu 1 12 9 2 HT_ ?_
 refine pu 4 15 9 18 HT_ ?_
 refine tk 0 11 9 19 HT_ HW_ hHeld ?_
 refine pu 2 13 9 23 HT_ ?_
 refine tk 5 16 9 55 HT_ HW_ hHeld ?_
 refine pu 6 17 9 119 HT_ ?_
 refine on 3 (some 14) 9 127 HT_ fun K hK => ?_
 refine box_step ?hg (N := 14) ?hd (cs := #[.slice A0_0 l0_0.length c0_0, .slice Ao11 t348.length co11]) (t := 67) ?hr ?_; (case hd => rfl); (case hg => rfl); (case hr => exact gs)
 intro gb352 hg w12 hbox hb
 have n0_ := am (Kd.V_below (Kd.V_elderB (kV HO0_0) gb352 (Nat.le_of_eq hg.symm)) hb)
 have n1_ := am (Kd.S_below (kS HO350) hb)
 have n2_ := bb BK344 hb
 have n3_ := bb BK351 hb
 have n4_ := am (below_step (bw HB) hb)
 have n5_ := am (hbox)
 have n6_ := gw hg HB
 have n7_ := gw hg HB
 have n8_ := am ((by rw [hg]; exact Nat.ne_of_lt (blk_lt (g := gb344) (o := .cells #[.slice A0_0 l0_0.length c0_0] 25 (0, 0)) (bp BK344)) : gb344 ≠ gb352))
 have n9_ := am ((by rw [hg]; exact Nat.ne_of_gt (blk_lt (g := gb344) (o := .cells #[.slice A0_0 l0_0.length c0_0] 25 (0, 0)) (bp BK344)) : gb352 ≠ gb344))
 have n10_ := am ((by rw [hg]; exact Nat.ne_of_lt (blk_lt (g := gb351) (o := .cells #[.int .i64 t345, .int .i64 t346, .int .i64 t347] 29 (0, 0)) (bp BK351)) : gb351 ≠ gb352))
 have n11_ := am ((by rw [hg]; exact Nat.ne_of_gt (blk_lt (g := gb351) (o := .cells #[.int .i64 t345, .int .i64 t346, .int .i64 t347] 29 (0, 0)) (bp BK351)) : gb352 ≠ gb351))
 clear HO0_0
 clear HO350
 clear BK344
 clear BK351
 clear HB
 have HO0_0 := n0_
 have HO350 := n1_
 have BK344 := n2_
 have BK351 := n3_
 have HB := n4_
 have BK352 := n5_
 have GW352 := n6_
 have GE352 := n7_
 have NB344_352 := n8_
 have NB352_344 := n9_
 have NB351_352 := n10_
 have NB352_351 := n11_
 clear n0_ n1_ n2_ n3_ n4_ n5_ n6_ n7_ n8_ n9_ n10_ n11_
 clear hb hbox hg
 refine hK.out _ _ ⟨bc BK344 0, bc BK351 0, bc BK351 1, bc BK351 2⟩ (fun hHeld => ?_)
 clear hK K
 refine nm (some 14) ?_
 refine pu 7 2 9 255 HT_ ?_
 refine pu 8 3 9 511 HT_ ?_
 refine done_ (done_of HT_.out (by kernel_rfl)) ?_
 try go_wp2
 go_ret2
 exact ⟨_, _, gb352, er, by (with_reducible repeat (first | apply Kd.V_alloc | apply Kd.V_drewN | apply Kd.V_drew)); exact Kd.V_mono HO0_0.out (fun _ hk => ⟨hk.1.1, hk.1.2.1⟩), kS HO350, (bp BK352), GW352.out, bw HB⟩

def impl_knownFunc.f (k : Nat) (l0_0 : List (S35)) (a1 : Int) : Option ((List (S35)) × (List (List Int)) × Bool) := (impl_known.f k l0_0).bind fun bt354 => (if bt354.2.2 = true then ((impl_hasFunc.f l0_0 a1).bind fun t362 => (some (bt354.1, bt354.2.1, t362))) else (some (bt354.1, bt354.2.1, false)))
theorem impl_knownFunc.mono : ∀ a0 a1 k, LeO (impl_knownFunc.f k a0 a1) (impl_knownFunc.f (k + 1) a0 a1) := by
 intro a0 a1 k
 unfold impl_knownFunc.f
 with_reducible repeat' first | exact impl_known.mono .. | exact LeO.refl _ | exact LeO.none _ | refine LeO.ite ?_ ?_ | refine LeO.bind ?_ (fun _ => ?_)
theorem impl_knownFunc.calls (k : Nat) (P0_0_ : Nat → Prop) (A0_0 : Option Addr) (c0_0 : Nat) (l0_0 : List (S35)) (a1 : Int) (r1 : List (S35)) (r2 : List (List Int)) (r3 : Bool) (w : World) (hs0_0 : Kd.V k35 35 w w.heap.size (fun k_ => P0_0_ k_) (.slice A0_0 l0_0.length c0_0) l0_0) (h : impl_knownFunc.f k l0_0 a1 = some (r1, r2, r3)) :
  Calls Try.prog 35 #[.agg #[.slice A0_0 l0_0.length c0_0], .int .i64 a1] w fun e w' => ∃ v0_ v1_ : Value, ∃ g_ : Nat, e = .returned (.tuple #[.pointer (some ⟨g_, 0, none⟩), .bool r3]) ∧ Kd.V k35 35 w' w.heap.size (fun k_ => (P0_0_ k_ ∨ w.heap.size ≤ k_) ∧ some k_ ≠ (v1_ : Value).ownBlock) v0_ r1 ∧ Kd.S (Kd.slice 2 (Kd.int .i64)) 31 w' w.heap.size (fun k_ => (w.heap.size ≤ k_)) v1_ r2 ∧ w'.heap[g_]? = some (.cells #[v0_, v1_] 67 (0, 0)) ∧ w.heap.size ≤ g_ ∧ Below w.heap.size w w' := by
 have hu25 := Try.underlying25
 have HO0_0 := am (show Kd.V k35 35 w w.heap.size (fun k_ => (P0_0_ k_ ∨ w.heap.size ≤ k_)) (.slice A0_0 l0_0.length c0_0) l0_0 from Kd.V_mono hs0_0 (fun k_ hk => .inl hk))
 have HB := am (Below.refl w.heap.size w)
 have H : ((impl_known.f k l0_0).bind fun bt354 => (if bt354.2.2 = true then ((impl_hasFunc.f l0_0 a1).bind fun t362 => (some (bt354.1, bt354.2.1, t362))) else (some (bt354.1, bt354.2.1, false)))) = some (r1, r2, r3) := h
 clear h
 replace H := Option.bind_eq_some_iff.mp H
 obtain ⟨⟨t354, t357, t361⟩, A30, H⟩ := H
 replace H : (if t361 = true then ((impl_hasFunc.f l0_0 a1).bind fun t362 => (some (t354, t357, t362))) else (some (t354, t357, false))) = some (r1, r2, r3) := H
 have A3 := am A30
 clear A30
 refine qT H ?_ ?_ <;> clear H <;> intro c4 H <;> subst c4
 ·refine be H ?_; clear H; intro t362 A5 H
  simp only [Option.some.injEq, Prod.mk.injEq] at H
  obtain ⟨rfl, rfl, rfl⟩ := H
  go_enter Try.func35, Try.ntmps35
  go_wp2_with (first | ((with_reducible refine gd 2 rfl ?_); refine bX 2 #[.slice A0_0 l0_0.length c0_0] 25 HB ?_; clear HB; intro gb353 w6 hg hb BK353 GW353 HB; replace HO0_0 := am (Kd.V_below (Kd.V_elderB (kV HO0_0) gb353 (Nat.le_of_eq hg.symm)) hb); clear hb hg; have hcz7 := bK w6 BK353; have hfz7 := bF BK353) | ((with_reducible refine gk 51 rfl ?_); refine gC 51 (some 10) Try.func51 #[.agg #[.slice A0_0 l0_0.length c0_0]] ((impl_known.calls k (fun k_ => ((P0_0_ k_ ∨ w.heap.size ≤ k_) ∧ k_ ≠ gb353)) _ _ l0_0 t354 t357 true _ HO0_0.out A3.out).mono ?_); rintro e w8 ⟨v355, v358, gb360, rfl, ho0, ho1, hbx, hgx, hb⟩; refine ⟨_, rfl, ?_⟩; replace HO0_0 := am (Kd.V_elder' (kV HO0_0) (Kd.S_base ho1) hb); have HO356 := am (Kd.V_lower (Kd.V_mono (ok' := fun k_ => (P0_0_ k_ ∨ w.heap.size ≤ k_) ∧ some k_ ≠ (v358 : Value).ownBlock ∧ k_ ≠ gb353) ho0 (fun k_ hk_ => ⟨Or.elim hk_.1 (fun hs_ => hs_.1) (fun hn_ => (.inr (Nat.le_trans (below_size (bw HB)) hn_))), hk_.2, Or.elim hk_.1 (fun hs_ => hs_.2) (fun hn_ => (Kd.freshB (g := gb353) (o := .cells #[.slice A0_0 l0_0.length c0_0] 25 (0, 0)) (bp BK353) k_ hn_))⟩)) (below_size (bw HB))); have HO359 := am (Kd.S_lower (Kd.S_newM (M := fun k_ => (w.heap.size ≤ k_)) (Kd.S_mono (ok' := fun k_ => True) ho1 (fun _ hk_ => trivial)) (below_size (bw HB)) (fun k_ h_ => h_)) (below_size (bw HB))); have BK360 := am (hbx); have GW360 := am ((Nat.le_trans (below_size (bw HB)) hgx)); have GE360 := am ((Nat.le_trans (below_size (bw HB)) hgx)); have NB353_360 := am ((Nat.ne_of_lt (Nat.lt_of_lt_of_le (blk_lt (g := gb353) (o := .cells #[.slice A0_0 l0_0.length c0_0] 25 (0, 0)) (bp BK353)) hgx) : gb353 ≠ gb360)); have NB360_353 := am ((Nat.ne_of_gt (Nat.lt_of_lt_of_le (blk_lt (g := gb353) (o := .cells #[.slice A0_0 l0_0.length c0_0] 25 (0, 0)) (bp BK353)) hgx) : gb360 ≠ gb353)); replace BK353 := bb BK353 hb; replace HB := bs HB hb; clear hb; (try clear ho0); (try clear ho1); (try clear hbx); (try clear hgx); have hnb9 := NB353_360.out; have hnc9 := NB360_353.out; have hcz10 := bK w8 BK353; have hfz10 := bF BK353) | (go_at_call 38; refine (impl_hasFunc.calls _ _ l0_0 a1 t362 _ (cc (Kd.V_reads' HO0_0.out).2.2) ((Kd.V_reads' HO0_0.out).2.1) A5.out).mono ?_; rintro e w11 ⟨rfl, hb⟩; replace HO0_0 := am (Kd.V_below (kV HO0_0) hb); replace HO356 := am (Kd.V_below (kV HO356) hb); replace HO359 := am (Kd.S_below (kS HO359) hb); replace BK353 := bb BK353 hb; replace BK360 := bb BK360 hb; replace HB := bs HB hb; clear hb))
  go_ret2
  exact ⟨_, _, gb360, er, by (with_reducible repeat (first | apply Kd.V_alloc | apply Kd.V_drewN | apply Kd.V_drew)); exact Kd.V_mono HO356.out (fun _ hk => ⟨hk.1, hk.2.1⟩), by (with_reducible repeat (first | apply Kd.S_alloc | apply Kd.S_drewN | apply Kd.S_drew)); exact Kd.S_mono HO359.out (fun _ hk => hk.1), (bp BK360), GW360.out, bw HB⟩
 simp only [Option.some.injEq, Prod.mk.injEq] at H
 obtain ⟨rfl, rfl, rfl⟩ := H
 go_enter Try.func35, Try.ntmps35
 go_wp2_with (first | ((with_reducible refine gd 2 rfl ?_); refine bX 2 #[.slice A0_0 l0_0.length c0_0] 25 HB ?_; clear HB; intro gb353 w12 hg hb BK353 GW353 HB; replace HO0_0 := am (Kd.V_below (Kd.V_elderB (kV HO0_0) gb353 (Nat.le_of_eq hg.symm)) hb); clear hb hg; have hcz13 := bK w12 BK353; have hfz13 := bF BK353) | ((with_reducible refine gk 51 rfl ?_); refine gC 51 (some 10) Try.func51 #[.agg #[.slice A0_0 l0_0.length c0_0]] ((impl_known.calls k (fun k_ => ((P0_0_ k_ ∨ w.heap.size ≤ k_) ∧ k_ ≠ gb353)) _ _ l0_0 t354 t357 false _ HO0_0.out A3.out).mono ?_); rintro e w14 ⟨v355, v358, gb360, rfl, ho0, ho1, hbx, hgx, hb⟩; refine ⟨_, rfl, ?_⟩; replace HO0_0 := am (Kd.V_elder' (kV HO0_0) (Kd.S_base ho1) hb); have HO356 := am (Kd.V_lower (Kd.V_mono (ok' := fun k_ => (P0_0_ k_ ∨ w.heap.size ≤ k_) ∧ some k_ ≠ (v358 : Value).ownBlock ∧ k_ ≠ gb353) ho0 (fun k_ hk_ => ⟨Or.elim hk_.1 (fun hs_ => hs_.1) (fun hn_ => (.inr (Nat.le_trans (below_size (bw HB)) hn_))), hk_.2, Or.elim hk_.1 (fun hs_ => hs_.2) (fun hn_ => (Kd.freshB (g := gb353) (o := .cells #[.slice A0_0 l0_0.length c0_0] 25 (0, 0)) (bp BK353) k_ hn_))⟩)) (below_size (bw HB))); have HO359 := am (Kd.S_lower (Kd.S_newM (M := fun k_ => (w.heap.size ≤ k_)) (Kd.S_mono (ok' := fun k_ => True) ho1 (fun _ hk_ => trivial)) (below_size (bw HB)) (fun k_ h_ => h_)) (below_size (bw HB))); have BK360 := am (hbx); have GW360 := am ((Nat.le_trans (below_size (bw HB)) hgx)); have GE360 := am ((Nat.le_trans (below_size (bw HB)) hgx)); have NB353_360 := am ((Nat.ne_of_lt (Nat.lt_of_lt_of_le (blk_lt (g := gb353) (o := .cells #[.slice A0_0 l0_0.length c0_0] 25 (0, 0)) (bp BK353)) hgx) : gb353 ≠ gb360)); have NB360_353 := am ((Nat.ne_of_gt (Nat.lt_of_lt_of_le (blk_lt (g := gb353) (o := .cells #[.slice A0_0 l0_0.length c0_0] 25 (0, 0)) (bp BK353)) hgx) : gb360 ≠ gb353)); replace BK353 := bb BK353 hb; replace HB := bs HB hb; clear hb; (try clear ho0); (try clear ho1); (try clear hbx); (try clear hgx)))
 go_ret2
 exact ⟨_, _, gb360, er, by (with_reducible repeat (first | apply Kd.V_alloc | apply Kd.V_drewN | apply Kd.V_drew)); exact Kd.V_mono HO356.out (fun _ hk => ⟨hk.1, hk.2.1⟩), by (with_reducible repeat (first | apply Kd.S_alloc | apply Kd.S_drewN | apply Kd.S_drew)); exact Kd.S_mono HO359.out (fun _ hk => hk.1), (bp BK360), GW360.out, bw HB⟩

end Go.Proofs.Ytopaefhfjioecaa.QFnHeights
