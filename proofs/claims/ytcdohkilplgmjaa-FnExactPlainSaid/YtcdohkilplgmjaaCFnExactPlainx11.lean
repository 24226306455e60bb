import Derived.Test.YtcdohkilplgmjaaCFnExactPlainx0
import Derived.Test.YtcdohkilplgmjaaCFnExactPlainx8
import Derived.Test.YtcdohkilplgmjaaCFnExactPlainx10
namespace Go.Proofs.Ytcdohkilplgmjaa.QFnExactPlain
open Go.RowKit Go.Proofs.YtcdohkilplgmjaaW
open PrintWords PrintLast PrintMore PrintShort PrintIsh
attribute [local go_sem] max2_int min2_int max_two min_two max_three min_three max_four min_four   -- for this text's walks alone
set_option linter.unusedVariables false
set_option maxHeartbeats 8000000
set_option maxRecDepth 100000
set_option linter.unusedSimpArgs false

mutual
def impl_verify.j0 : Nat → Bool → List (S53) → Option (Int × Int × Int × (List (List Int)))
 | 0, _, _ => none
 | k + 1, x21, x370000 => if x21 = true then (some (0, 0, 1, ([] : List (List Int)))) else (impl_verify.l0 k ([] : List (List Int)) x370000 (x370000.length : Int) 0 x370000)
def impl_verify.l0 : Nat → List (List Int) → List (S53) → Int → Int → List (S53) → Option (Int × Int × Int × (List (List Int)))
 | 0, _, _, _, _, _ => none
 | k + 1, x4, x24, x25, x26, x370000 => if x26 < x25 then (if 0 ≤ x26 then (if x26 < (x24.length : Int) then ((impl_in.f ((rd_T53 x24 x26).f0) 0 4).bind fun t373 => (if t373 = true then ((impl_in.f ((rd_T53 x24 x26).f1) ((rd_T53 x24 x26).f0) 8).bind fun t374 => (if t374 = true then ((impl_in.f (((rd_T53 x24 x26).f2).length : Int) 1 60).bind fun t375 => (impl_verify.j2 k x4 x26 x24 x25 x26 (!t375) x370000 ((rd_T53 x24 x26).f0) ((rd_T53 x24 x26).f1) ((rd_T53 x24 x26).f2))) else (impl_verify.j2 k x4 x26 x24 x25 x26 true x370000 ((rd_T53 x24 x26).f0) ((rd_T53 x24 x26).f1) ((rd_T53 x24 x26).f2)))) else (impl_verify.j2 k x4 x26 x24 x25 x26 true x370000 ((rd_T53 x24 x26).f0) ((rd_T53 x24 x26).f1) ((rd_T53 x24 x26).f2)))) else (none)) else (none)) else (some (0, 0, 0, x4))
def impl_verify.j2 : Nat → List (List Int) → Int → List (S53) → Int → Int → Bool → List (S53) → Int → Int → List (S59) → Option (Int × Int × Int × (List (List Int)))
 | 0, _, _, _, _, _, _, _, _, _, _ => none
 | k + 1, x4, x5, x24, x25, x26, x49, x370000, x373000, x373001, x373002 => if x49 = true then (some (x5, 0, 1, ([] : List (List Int)))) else (impl_verify.l1 k x4 x5 x24 x25 x26 x373002 (x373002.length : Int) 0 x370000)
def impl_verify.l1 : Nat → List (List Int) → Int → List (S53) → Int → Int → List (S59) → Int → Int → List (S53) → Option (Int × Int × Int × (List (List Int)))
 | 0, _, _, _, _, _, _, _, _, _ => none
 | k + 1, x4, x5, x24, x25, x26, x53, x54, x55, x370000 => if x55 < x54 then (if 0 ≤ x55 then (if x55 < (x53.length : Int) then ((impl_InsRight.f k x370000 x5 ((rd_T59 x53 x55).f0) ((rd_T59 x53 x55).f1)).bind fun t378 => (if t378 = true then (impl_verify.l1 k x4 x5 x24 x25 x26 x53 x54 (wrap64 (x55 + 1)) x370000) else (some (x5, x55, 1, ([] : List (List Int)))))) else (none)) else (none)) else ((impl_heightsOf.f k x370000 x5).bind fun bt379 => (if bt379.2.2 = 0 then (if x4.length < 5864062014805 then (impl_verify.l0 k (x4 ++ [bt379.1]) x24 x25 (wrap64 (x26 + 1)) x370000) else (none)) else (some (x5, bt379.2.1, bt379.2.2, ([] : List (List Int))))))
end
def impl_verify.f (k : Nat) (l0_0 : List (S53)) : Option (Int × Int × Int × (List (List Int))) := if (l0_0.length : Int) < 1 then (impl_verify.j0 k true l0_0) else (impl_verify.j0 k (decide ((l0_0.length : Int) > 6)) l0_0)
theorem impl_verify.mono_l : ∀ k, (∀ y0 y1, LeO (impl_verify.j0 k y0 y1) (impl_verify.j0 (k + 1) y0 y1)) ∧ (∀ y0 y1 y2 y3 y4, LeO (impl_verify.l0 k y0 y1 y2 y3 y4) (impl_verify.l0 (k + 1) y0 y1 y2 y3 y4)) ∧ (∀ y0 y1 y2 y3 y4 y5 y6 y7 y8 y9, LeO (impl_verify.j2 k y0 y1 y2 y3 y4 y5 y6 y7 y8 y9) (impl_verify.j2 (k + 1) y0 y1 y2 y3 y4 y5 y6 y7 y8 y9)) ∧ (∀ y0 y1 y2 y3 y4 y5 y6 y7 y8, LeO (impl_verify.l1 k y0 y1 y2 y3 y4 y5 y6 y7 y8) (impl_verify.l1 (k + 1) y0 y1 y2 y3 y4 y5 y6 y7 y8))
 | 0 => ⟨fun _ _ r h => by simp [impl_verify.j0] at h, fun _ _ _ _ _ r h => by simp [impl_verify.l0] at h, fun _ _ _ _ _ _ _ _ _ _ r h => by simp [impl_verify.j2] at h, fun _ _ _ _ _ _ _ _ _ r h => by simp [impl_verify.l1] at h⟩
 | k + 1 => by
  obtain ⟨ih0, ih1, ih2, ih3⟩ := impl_verify.mono_l k
  refine ⟨?_, ?_, ?_, ?_⟩
  ·intro y0 y1
   unfold impl_verify.j0
   with_reducible repeat' first | exact ih0 .. | exact ih1 .. | exact ih2 .. | exact ih3 .. | exact impl_InsRight.mono .. | exact impl_heightsOf.mono .. | exact LeO.refl _ | exact LeO.none _ | refine LeO.ite ?_ ?_ | refine LeO.bind ?_ (fun _ => ?_)
  ·intro y0 y1 y2 y3 y4
   unfold impl_verify.l0
   with_reducible repeat' first | exact ih0 .. | exact ih1 .. | exact ih2 .. | exact ih3 .. | exact impl_InsRight.mono .. | exact impl_heightsOf.mono .. | exact LeO.refl _ | exact LeO.none _ | refine LeO.ite ?_ ?_ | refine LeO.bind ?_ (fun _ => ?_)
  ·intro y0 y1 y2 y3 y4 y5 y6 y7 y8 y9
   unfold impl_verify.j2
   with_reducible repeat' first | exact ih0 .. | exact ih1 .. | exact ih2 .. | exact ih3 .. | exact impl_InsRight.mono .. | exact impl_heightsOf.mono .. | exact LeO.refl _ | exact LeO.none _ | refine LeO.ite ?_ ?_ | refine LeO.bind ?_ (fun _ => ?_)
  ·intro y0 y1 y2 y3 y4 y5 y6 y7 y8
   unfold impl_verify.l1
   with_reducible repeat' first | exact ih0 .. | exact ih1 .. | exact ih2 .. | exact ih3 .. | exact impl_InsRight.mono .. | exact impl_heightsOf.mono .. | exact LeO.refl _ | exact LeO.none _ | refine LeO.ite ?_ ?_ | refine LeO.bind ?_ (fun _ => ?_)
theorem impl_verify.mono : ∀ a0 k, LeO (impl_verify.f k a0) (impl_verify.f (k + 1) a0) := by
 intro a0 k
 obtain ⟨ih0, ih1, ih2, ih3⟩ := impl_verify.mono_l k
 unfold impl_verify.f
 with_reducible repeat' first | exact ih0 .. | exact ih1 .. | exact ih2 .. | exact ih3 .. | exact impl_InsRight.mono .. | exact impl_heightsOf.mono .. | exact LeO.refl _ | exact LeO.none _ | refine LeO.ite ?_ ?_ | refine LeO.bind ?_ (fun _ => ?_)
theorem impl_verify.calls (k : Nat) (A0_0 : Option Addr) (c0_0 : Nat) (l0_0 : List (S53)) (r1 : Int) (r2 : Int) (r3 : Int) (r4 : List (List Int)) (w : World) (hr0_0 : Kd.C k53 w A0_0 l0_0.length l0_0) (hc0_0 : l0_0.length ≤ c0_0) (h : impl_verify.f k l0_0 = some (r1, r2, r3, r4)) :
  Calls Try.prog 61 #[.agg #[.slice A0_0 l0_0.length c0_0]] w fun e w' => ∃ v3_ : Value, e = .returned (.tuple #[.agg #[.int .i64 r1, .int .i64 r2, .int .i64 r3], v3_]) ∧ Kd.S (Kd.slice 2 (Kd.int .i64)) 42 w' w.heap.size (fun _ => True) v3_ r4 ∧ Below w.heap.size w w' := by
 have hu33 := Try.underlying33
 have hu44 := Try.underlying44
 have hu53 := Try.underlying53
 have hu59 := Try.underlying59
 have HR0_0 := am hr0_0
 have HC0_0 := am hc0_0
 clear hr0_0 hc0_0
 have HB := am (Below.refl w.heap.size w)
 have H : (if (l0_0.length : Int) < 1 then (impl_verify.j0 k true l0_0) else (impl_verify.j0 k (decide ((l0_0.length : Int) > 6)) l0_0)) = some (r1, r2, r3, r4) := h
 clear h
 have HC2 := am H
 clear H
 go_enter Try.func61, Try.ntmps61
 go_upto_region 1 with (first | ((with_reducible refine gate_dst (N := 1) rfl ?_); (try (refine gate_guard (by rfl) ?_; dsimp only)); refine box_event ?hg (N := 1) ?hd (cs := #[.slice A0_0 l0_0.length c0_0]) (t := 33) ?hr ?_; (case hd => rfl); (case hg => rfl); (case hr => exact gs); intro gb369 hg w3 hbox hb; have BK369 := am (hbox); have GW369 := gw hg HB; replace HB := bs HB hb; clear hb hbox hg) | ((with_reducible refine gate_dst (N := 2) rfl ?_); (try (refine gate_guard (by rfl) ?_; dsimp only)); refine box_event ?hg (N := 2) ?hd (cs := #[.int .i64 0, .int .i64 0, .int .i64 0]) (t := 44) ?hr ?_; (case hd => rfl); (case hg => rfl); (case hr => exact gs); intro gb370 hg w4 hbox hb; have BK370 := am (hbox); have GW370 := gw hg HB; replace HB := bs HB hb; obtain ⟨NB369_370, NB370_369, BK369⟩ := b3 hg BK369 hb; clear hb hbox hg))
 (try simp only [Act.put, sa, sz, ss])
 go_cut [21] (fun v21 wc => ∃ (kq : Nat) (x21_1 : Bool), v21 = .bool x21_1 ∧ Aside0 (impl_verify.j0 kq x21_1 l0_0 = some (r1, r2, r3, r4)) ∧ Aside0 (kq ≤ k) ∧ Aside0 (wc.heap[gb369]? = some (.cells #[(.slice A0_0 l0_0.length c0_0)] 33 (0, 0))) ∧ Aside0 (wc.heap[gb370]? = some (.cells #[.int .i64 0, .int .i64 0, .int .i64 0] 44 (0, 0))) ∧ Aside0 (Below w.heap.size w wc))
 case first =>
  have H := HC2.out
  clear HC2
  refine qI H ?_ ?_ <;> clear H <;> intro c5b0 H
  ·have c5 := of_decide_eq_true c5b0
   have c5b1 : decide (l0_0.length < 1) = true := decide_eq_true (by omega)
   clear c5
   (first | rw [c5b0] | (simp only [i64_w, i32_w]; rw [c5b0]) | skip)
   have H' := am H
   clear H
   have hnb6 := NB369_370.out
   have hnc6 := NB370_369.out
   have hcz7 := bK w4 BK369
   have hfz7 := bF BK369
   go_wp2
   go_meet
   case rel => exact ⟨_, (true), dr, H', ⟨lk0⟩, ⟨bp BK369⟩, ⟨bp BK370⟩, ⟨bw HB⟩⟩
  have c5 := of_decide_eq_false c5b0
  have c5b1 : decide (l0_0.length < 1) = false := decide_eq_false (by omega)
  clear c5
  (first | rw [c5b0] | (simp only [i64_w, i32_w]; rw [c5b0]) | skip)
  have H' := am H
  clear H
  have hnb8 := NB369_370.out
  have hnc8 := NB370_369.out
  have hcz9 := bK w4 BK369
  have hfz9 := bF BK369
  go_wp2
  go_meet
  case rel => exact ⟨_, (decide ((l0_0.length : Int) > 6)), dr, H', ⟨lk0⟩, ⟨bp BK369⟩, ⟨bp BK370⟩, ⟨bw HB⟩⟩
 clear HC2
 (try clear p2); (try clear c5); (try clear c5b0); (try clear c5b1); (try clear c6); (try clear c8); (try clear hcz7); (try clear hcz9); (try clear hfz7); (try clear hfz9)
 obtain ⟨kq, x21_1, rfl, HA, HJ1, BK369, BK370, HB⟩ := hcut
 rcases kq with _ | kj1
 ·exact absurd HA.out (by simp [impl_verify.j0])
 have H := HA.out
 clear HA
 simp only [impl_verify.j0] at H
 refine qT H ?_ ?_ <;> clear H <;> intro c10 H <;> subst c10
 ·simp only [Option.some.injEq, Prod.mk.injEq] at H
  obtain ⟨rfl, rfl, rfl, rfl⟩ := H
  have hnb11 := NB370_369.out
  have hnc11 := NB369_370.out
  have hcz12 := bK wc BK370
  have hfz12 := bF BK370
  go_wp2
  refine bodyPost_ret (results_ct rfl _ _ gb370 44 #[.int .i64 0, .int .i64 0, .int .i64 1] (0, 0) _ rfl (bt BK370) Try.underlying44 rfl (by kernel_rfl)) rfl ?_
  exact ⟨_, er, by first | exact Kd.S_nil _ _ _ _ _ | exact Kd.N_nil _ _ _ _ _ | exact Kd.V_nil _ _ _ _ _ | exact Kd.Q_nil _ _ _ _ _ | exact Kd.R_nil _ _ _ _ _, bw HB⟩
 have H' := am H
 clear H
 have hnb13 := NB369_370.out
 have hnc13 := NB370_369.out
 have hcz14 := bK wc BK369
 have hfz14 := bF BK369
 go_wp2
 go_loopg [4, 26] kj1 (fun kq v4 v26 w' => ∃ (x4_2 : List (List Int)) (x26_2 : Int) (x371000_2 : Int) (x371001_2 : Int) (x371002_2 : Int), v26 = .int .i64 x26_2 ∧ Aside0 (impl_verify.l0 kq x4_2 l0_0 (l0_0.length : Int) x26_2 l0_0 = some (r1, r2, r3, r4)) ∧ Aside0 (kq ≤ kj1) ∧ Aside0 (Kd.S (Kd.slice 2 (Kd.int .i64)) 42 w' w.heap.size (fun _ => True) v4 x4_2) ∧ Aside0 (w'.heap[gb369]? = some (.cells #[(.slice A0_0 l0_0.length c0_0)] 33 (0, 0))) ∧ Aside0 (w'.heap[gb370]? = some (.cells #[.int .i64 x371000_2, .int .i64 x371001_2, .int .i64 x371002_2] 44 (0, 0))) ∧ Aside0 (Below w.heap.size w w'))
 case atStart => exact ⟨(([] : List (List Int))), (0), (0), (0), (0), dr, H', ⟨Nat.le_refl _⟩, ⟨by first | exact Kd.S_nil _ _ _ _ _ | exact Kd.N_nil _ _ _ _ _ | exact Kd.V_nil _ _ _ _ _ | exact Kd.Q_nil _ _ _ _ _ | exact Kd.R_nil _ _ _ _ _⟩, ⟨bp BK369⟩, ⟨bp BK370⟩, ⟨bw HB⟩⟩
 clear H'
 (try clear c1); (try clear c10); (try clear c11); (try clear c13); (try clear hcz12); (try clear hcz14); (try clear hfz12); (try clear hfz14)
 obtain ⟨x4_2, x26_2, x371000_2, x371001_2, x371002_2, rfl, HA, HK2, HO_4, BK369, BK370, HB⟩ := hrel
 rcases gk with _ | k2
 ·exact absurd HA.out (by simp [impl_verify.l0])
 have H := HA.out
 clear HA
 simp only [impl_verify.l0] at H
 by_cases c15 : x26_2 < (l0_0.length : Int)
 ·rw [if_pos c15] at H
  have c15b0 := decide_eq_true c15
  clear c15
  refine iN H ?_; clear H; intro c16 H
  have c16b0 := decide_eq_true c16
  clear c16
  refine iN H ?_; clear H; intro c17 H
  have c17b0 := decide_eq_true c17
  clear c17
  have HC18 := am H
  clear H
  have p371 : 0 ≤ (x26_2 : Int) := of_decide_eq_true as1
  have q371 : x26_2 < (l0_0.length : Int) := of_decide_eq_true as1
  obtain ⟨ad371, A371_2, c371_2, e371, hx371_0, hx371_1, hx371_2, hl371_2, hi371_2⟩ := at_T53 HR0_0.out x26_2 p371 q371
  cases e371
  replace hx371_0 := cl HB hx371_0
  replace hx371_1 := cl HB hx371_1
  replace hx371_2 := cl HB hx371_2
  have HR371_2 := am hi371_2
  have HC371_2 := am hl371_2
  clear hi371_2 hl371_2
  replace p371 := eq_true p371
  replace q371 := eq_true q371
  go_upto_region 7 with (first | ((with_reducible refine gate_dst (N := 6) rfl ?_); (try (refine gate_guard (by rfl) ?_; dsimp only)); refine box_event ?hg (N := 6) ?hd (cs := #[.int .i64 0, .int .i64 0, .slice none 0 0]) (t := 53) ?hr ?_; (case hd => rfl); (case hg => rfl); (case hr => exact gs); intro gb372 hg w19 hbox hb; replace HO_4 := am (Kd.S_below (kS HO_4) hb); have BK372 := am (hbox); have GW372 := gw hg HB; replace HB := bs HB hb; obtain ⟨NB369_372, NB372_369, BK369⟩ := b3 hg BK369 hb; obtain ⟨NB370_372, NB372_370, BK370⟩ := b3 hg BK370 hb; clear hb hbox hg; have hnb20 := NB372_369.out; have hnc20 := NB369_372.out; have hnb21 := NB372_370.out; have hnc21 := NB370_372.out; have hcz22 := bK w19 BK372; have hfz22 := bF BK372))
  (try simp only [Act.put, sa, sz, ss])
  go_cut [49] (fun v49 wc => ∃ (kq : Nat) (x49_17 : Bool), v49 = .bool x49_17 ∧ Aside0 (impl_verify.j2 kq x4_2 x26_2 l0_0 (l0_0.length : Int) x26_2 x49_17 l0_0 ((rd_T53 l0_0 x26_2).f0) ((rd_T53 l0_0 x26_2).f1) ((rd_T53 l0_0 x26_2).f2) = some (r1, r2, r3, r4)) ∧ Aside0 (kq ≤ k2) ∧ Aside0 (Kd.S (Kd.slice 2 (Kd.int .i64)) 42 wc w.heap.size (fun _ => True) u4 x4_2) ∧ Aside0 (wc.heap[gb369]? = some (.cells #[(.slice (some ad371) l0_0.length c0_0)] 33 (0, 0))) ∧ Aside0 (wc.heap[gb370]? = some (.cells #[.int .i64 x371000_2, .int .i64 x371001_2, .int .i64 x371002_2] 44 (0, 0))) ∧ Aside0 (wc.heap[gb372]? = some (.cells #[.int .i64 ((rd_T53 l0_0 x26_2).f0), .int .i64 ((rd_T53 l0_0 x26_2).f1), (.slice A371_2 ((rd_T53 l0_0 x26_2).f2).length c371_2)] 53 (0, 0))) ∧ Aside0 (Below w.heap.size w wc))
  case first =>
   have H := HC18.out
   clear HC18
   refine be H ?_; clear H; intro t373 A23 H
   refine qT H ?_ ?_ <;> clear H <;> intro c24 H <;> subst c24
   ·refine be H ?_; clear H; intro t374 A25 H
    refine qT H ?_ ?_ <;> clear H <;> intro c26 H <;> subst c26
    ·refine be H ?_; clear H; intro t375 A27 H
     have H' := am H
     clear H
     have hnb28 := NB372_369.out
     have hnc28 := NB369_372.out
     have hnb29 := NB372_370.out
     have hnc29 := NB370_372.out
     have hcz30 := bK w19 BK372
     have hfz30 := bF BK372
     go_wp2_with (first | ((with_reducible refine gate_callee (f := 70) rfl ?_); refine goesL_ (some 33) rfl rfl Try.func70 (by kernel_rfl) rfl #[.int .i64 ((rd_T53 l0_0 x26_2).f0), .int .i64 0, .int .i64 4] rfl gl ?_; (with_reducible refine (impl_in.calls ((rd_T53 l0_0 x26_2).f0) 0 4 true _ A23.out).mono ?_); rintro e w' ⟨rfl, ⟨nd, rfl⟩⟩; refine ⟨_, rfl, ?_⟩) | (go_at_call 70; (with_reducible refine (impl_in.calls ((rd_T53 l0_0 x26_2).f1) ((rd_T53 l0_0 x26_2).f0) 8 true _ A25.out).mono ?_); rintro e w' ⟨rfl, ⟨nd, rfl⟩⟩) | (go_at_call 70; (with_reducible refine (impl_in.calls (((rd_T53 l0_0 x26_2).f2).length : Int) 1 60 t375 _ A27.out).mono ?_); rintro e w' ⟨rfl, ⟨nd, rfl⟩⟩))
     go_meet
     case rel => exact ⟨_, (!t375), dr, H', ⟨lk2 HJ1 HK2⟩, ⟨by (with_reducible repeat (first | apply Kd.S_alloc | apply Kd.S_drewN | apply Kd.S_drew)); exact Kd.S_mono (Kd.S_far (p := ⟨gb372, 2, none⟩) (Kd.S_far (p := ⟨gb372, 1, none⟩) (Kd.S_far (p := ⟨gb372, 0, none⟩) (Kd.S_types HO_4.out BK372.out (by decide)) (fun _ hk => hk.2) (.int .i64 ((rd_T53 l0_0 x26_2).f0))) (fun _ hk => hk.2) (.int .i64 ((rd_T53 l0_0 x26_2).f1))) (fun _ hk => hk.2) (.slice A371_2 ((rd_T53 l0_0 x26_2).f2).length c371_2)) (fun _ hk => trivial)⟩, ⟨by (with_reducible repeat (first | apply dN | apply dW | apply dA)); refine blk_far ?_ NB369_372.out _; (with_reducible repeat (first | apply dN | apply dW | apply dA)); refine blk_far ?_ NB369_372.out _; (with_reducible repeat (first | apply dN | apply dW | apply dA)); refine blk_far ?_ NB369_372.out _; exact bp BK369⟩, ⟨by (with_reducible repeat (first | apply dN | apply dW | apply dA)); refine blk_far ?_ NB370_372.out _; (with_reducible repeat (first | apply dN | apply dW | apply dA)); refine blk_far ?_ NB370_372.out _; (with_reducible repeat (first | apply dN | apply dW | apply dA)); refine blk_far ?_ NB370_372.out _; exact bp BK370⟩, ⟨by (with_reducible repeat (first | apply dN | apply dW | apply dA)); refine blk_put (cs := #[.int .i64 ((rd_T53 l0_0 x26_2).f0), .int .i64 ((rd_T53 l0_0 x26_2).f1), .slice none 0 0]) ?_ 2 _ rfl; (with_reducible repeat (first | apply dN | apply dW | apply dA)); refine blk_put (cs := #[.int .i64 ((rd_T53 l0_0 x26_2).f0), .int .i64 0, .slice none 0 0]) ?_ 1 _ rfl; (with_reducible repeat (first | apply dN | apply dW | apply dA)); refine blk_put (cs := #[.int .i64 0, .int .i64 0, .slice none 0 0]) ?_ 0 _ rfl; exact bp BK372⟩, ⟨bw HB⟩⟩
    have H' := am H
    clear H
    have hnb31 := NB372_369.out
    have hnc31 := NB369_372.out
    have hnb32 := NB372_370.out
    have hnc32 := NB370_372.out
    have hcz33 := bK w19 BK372
    have hfz33 := bF BK372
    go_wp2_with (first | ((with_reducible refine gate_callee (f := 70) rfl ?_); refine goesL_ (some 33) rfl rfl Try.func70 (by kernel_rfl) rfl #[.int .i64 ((rd_T53 l0_0 x26_2).f0), .int .i64 0, .int .i64 4] rfl gl ?_; (with_reducible refine (impl_in.calls ((rd_T53 l0_0 x26_2).f0) 0 4 true _ A23.out).mono ?_); rintro e w' ⟨rfl, ⟨nd, rfl⟩⟩; refine ⟨_, rfl, ?_⟩) | (go_at_call 70; (with_reducible refine (impl_in.calls ((rd_T53 l0_0 x26_2).f1) ((rd_T53 l0_0 x26_2).f0) 8 false _ A25.out).mono ?_); rintro e w' ⟨rfl, ⟨nd, rfl⟩⟩))
    go_meet
    case rel => exact ⟨_, (true), dr, H', ⟨lk2 HJ1 HK2⟩, ⟨by (with_reducible repeat (first | apply Kd.S_alloc | apply Kd.S_drewN | apply Kd.S_drew)); exact Kd.S_mono (Kd.S_far (p := ⟨gb372, 2, none⟩) (Kd.S_far (p := ⟨gb372, 1, none⟩) (Kd.S_far (p := ⟨gb372, 0, none⟩) (Kd.S_types HO_4.out BK372.out (by decide)) (fun _ hk => hk.2) (.int .i64 ((rd_T53 l0_0 x26_2).f0))) (fun _ hk => hk.2) (.int .i64 ((rd_T53 l0_0 x26_2).f1))) (fun _ hk => hk.2) (.slice A371_2 ((rd_T53 l0_0 x26_2).f2).length c371_2)) (fun _ hk => trivial)⟩, ⟨by (with_reducible repeat (first | apply dN | apply dW | apply dA)); refine blk_far ?_ NB369_372.out _; (with_reducible repeat (first | apply dN | apply dW | apply dA)); refine blk_far ?_ NB369_372.out _; (with_reducible repeat (first | apply dN | apply dW | apply dA)); refine blk_far ?_ NB369_372.out _; exact bp BK369⟩, ⟨by (with_reducible repeat (first | apply dN | apply dW | apply dA)); refine blk_far ?_ NB370_372.out _; (with_reducible repeat (first | apply dN | apply dW | apply dA)); refine blk_far ?_ NB370_372.out _; (with_reducible repeat (first | apply dN | apply dW | apply dA)); refine blk_far ?_ NB370_372.out _; exact bp BK370⟩, ⟨by (with_reducible repeat (first | apply dN | apply dW | apply dA)); refine blk_put (cs := #[.int .i64 ((rd_T53 l0_0 x26_2).f0), .int .i64 ((rd_T53 l0_0 x26_2).f1), .slice none 0 0]) ?_ 2 _ rfl; (with_reducible repeat (first | apply dN | apply dW | apply dA)); refine blk_put (cs := #[.int .i64 ((rd_T53 l0_0 x26_2).f0), .int .i64 0, .slice none 0 0]) ?_ 1 _ rfl; (with_reducible repeat (first | apply dN | apply dW | apply dA)); refine blk_put (cs := #[.int .i64 0, .int .i64 0, .slice none 0 0]) ?_ 0 _ rfl; exact bp BK372⟩, ⟨bw HB⟩⟩
   have H' := am H
   clear H
   have hnb34 := NB372_369.out
   have hnc34 := NB369_372.out
   have hnb35 := NB372_370.out
   have hnc35 := NB370_372.out
   have hcz36 := bK w19 BK372
   have hfz36 := bF BK372
   go_wp2_with (first | ((with_reducible refine gate_callee (f := 70) rfl ?_); refine goesL_ (some 33) rfl rfl Try.func70 (by kernel_rfl) rfl #[.int .i64 ((rd_T53 l0_0 x26_2).f0), .int .i64 0, .int .i64 4] rfl gl ?_; (with_reducible refine (impl_in.calls ((rd_T53 l0_0 x26_2).f0) 0 4 false _ A23.out).mono ?_); rintro e w' ⟨rfl, ⟨nd, rfl⟩⟩; refine ⟨_, rfl, ?_⟩))
   go_meet
   case rel => exact ⟨_, (true), dr, H', ⟨lk2 HJ1 HK2⟩, ⟨by (with_reducible repeat (first | apply Kd.S_alloc | apply Kd.S_drewN | apply Kd.S_drew)); exact Kd.S_mono (Kd.S_far (p := ⟨gb372, 2, none⟩) (Kd.S_far (p := ⟨gb372, 1, none⟩) (Kd.S_far (p := ⟨gb372, 0, none⟩) (Kd.S_types HO_4.out BK372.out (by decide)) (fun _ hk => hk.2) (.int .i64 ((rd_T53 l0_0 x26_2).f0))) (fun _ hk => hk.2) (.int .i64 ((rd_T53 l0_0 x26_2).f1))) (fun _ hk => hk.2) (.slice A371_2 ((rd_T53 l0_0 x26_2).f2).length c371_2)) (fun _ hk => trivial)⟩, ⟨by (with_reducible repeat (first | apply dN | apply dW | apply dA)); refine blk_far ?_ NB369_372.out _; (with_reducible repeat (first | apply dN | apply dW | apply dA)); refine blk_far ?_ NB369_372.out _; (with_reducible repeat (first | apply dN | apply dW | apply dA)); refine blk_far ?_ NB369_372.out _; exact bp BK369⟩, ⟨by (with_reducible repeat (first | apply dN | apply dW | apply dA)); refine blk_far ?_ NB370_372.out _; (with_reducible repeat (first | apply dN | apply dW | apply dA)); refine blk_far ?_ NB370_372.out _; (with_reducible repeat (first | apply dN | apply dW | apply dA)); refine blk_far ?_ NB370_372.out _; exact bp BK370⟩, ⟨by (with_reducible repeat (first | apply dN | apply dW | apply dA)); refine blk_put (cs := #[.int .i64 ((rd_T53 l0_0 x26_2).f0), .int .i64 ((rd_T53 l0_0 x26_2).f1), .slice none 0 0]) ?_ 2 _ rfl; (with_reducible repeat (first | apply dN | apply dW | apply dA)); refine blk_put (cs := #[.int .i64 ((rd_T53 l0_0 x26_2).f0), .int .i64 0, .slice none 0 0]) ?_ 1 _ rfl; (with_reducible repeat (first | apply dN | apply dW | apply dA)); refine blk_put (cs := #[.int .i64 0, .int .i64 0, .slice none 0 0]) ?_ 0 _ rfl; exact bp BK372⟩, ⟨bw HB⟩⟩
  clear HC18
  (try clear c2); (try clear c3); (try clear p3); (try clear q3); (try clear hx3); (try clear c7); (try clear c15); (try clear c15b0); (try clear c16); (try clear c16b0); (try clear c17); (try clear c17b0); (try clear c20); (try clear c21); (try clear c24); (try clear c26); (try clear c28); (try clear c29); (try clear c31); (try clear c32); (try clear c34); (try clear c35); (try clear hcz22); (try clear hcz30); (try clear hcz33); (try clear hcz36); (try clear hfz22); (try clear hfz30); (try clear hfz33); (try clear hfz36); (try clear hx371_0); (try clear hx371_1); (try clear hx371_2); (try clear p371); (try clear q371)
  obtain ⟨kq, x49_17, rfl, HA, HJ17, HO_4, BK369, BK370, BK372, HB⟩ := hcut
  rcases kq with _ | kj17
  ·exact absurd HA.out (by simp [impl_verify.j2])
  have H := HA.out
  clear HA
  simp only [impl_verify.j2] at H
  refine qT H ?_ ?_ <;> clear H <;> intro c37 H <;> subst c37
  ·simp only [Option.some.injEq, Prod.mk.injEq] at H
   obtain ⟨rfl, rfl, rfl, rfl⟩ := H
   have hnb38 := NB370_369.out
   have hnc38 := NB369_370.out
   have hnb39 := NB370_372.out
   have hnc39 := NB372_370.out
   have hcz40 := bK wc BK370
   have hfz40 := bF BK370
   go_wp2
   refine bodyPost_ret (results_ct rfl _ _ gb370 44 #[.int .i64 x26_2, .int .i64 0, .int .i64 1] (0, 0) _ rfl (bt BK370) Try.underlying44 rfl (by kernel_rfl)) rfl ?_
   exact ⟨_, er, by first | exact Kd.S_nil _ _ _ _ _ | exact Kd.N_nil _ _ _ _ _ | exact Kd.V_nil _ _ _ _ _ | exact Kd.Q_nil _ _ _ _ _ | exact Kd.R_nil _ _ _ _ _, bw HB⟩
  have H' := am H
  clear H
  have hnb41 := NB372_369.out
  have hnc41 := NB369_372.out
  have hnb42 := NB372_370.out
  have hnc42 := NB370_372.out
  have hcz43 := bK wc BK372
  have hfz43 := bF BK372
  go_wp2
  go_loopg [55] kj17 (fun kq v55 w' => ∃ (x55_4 : Int) (x371000_4 : Int) (x371001_4 : Int) (x371002_4 : Int), v55 = .int .i64 x55_4 ∧ Aside0 (impl_verify.l1 kq x4_2 x26_2 l0_0 (l0_0.length : Int) x26_2 ((rd_T53 l0_0 x26_2).f2) (((rd_T53 l0_0 x26_2).f2).length : Int) x55_4 l0_0 = some (r1, r2, r3, r4)) ∧ Aside0 (kq ≤ kj17) ∧ Aside0 (Kd.S (Kd.slice 2 (Kd.int .i64)) 42 w' w.heap.size (fun _ => True) u4 x4_2) ∧ Aside0 (w'.heap[gb369]? = some (.cells #[(.slice (some ad371) l0_0.length c0_0)] 33 (0, 0))) ∧ Aside0 (w'.heap[gb370]? = some (.cells #[.int .i64 x371000_4, .int .i64 x371001_4, .int .i64 x371002_4] 44 (0, 0))) ∧ Aside0 (w'.heap[gb372]? = some (.cells #[.int .i64 ((rd_T53 l0_0 x26_2).f0), .int .i64 ((rd_T53 l0_0 x26_2).f1), (.slice A371_2 ((rd_T53 l0_0 x26_2).f2).length c371_2)] 53 (0, 0))) ∧ Aside0 (Below w.heap.size w w'))
  case atStart => exact ⟨(0), (x371000_2), (x371001_2), (x371002_2), dr, H', ⟨Nat.le_refl _⟩, ⟨kS HO_4⟩, ⟨bp BK369⟩, ⟨bp BK370⟩, ⟨bp BK372⟩, ⟨bw HB⟩⟩
  clear H'
  (try clear c4); (try clear c37); (try clear p37); (try clear q37); (try clear hx37); (try clear c38); (try clear c39); (try clear c41); (try clear c42); (try clear hcz40); (try clear hcz43); (try clear hfz40); (try clear hfz43)
  obtain ⟨x55_4, x371000_4, x371001_4, x371002_4, rfl, HA, HK4, HO_4, BK369, BK370, BK372, HB⟩ := hrel
  rcases gk with _ | k4
  ·exact absurd HA.out (by simp [impl_verify.l1])
  have H := HA.out
  clear HA
  simp only [impl_verify.l1] at H
  refine qI H ?_ ?_ <;> clear H <;> intro c44b0 H
  ·refine iM H ?_; clear H; intro c45b0 H
   refine iM H ?_; clear H; intro c46b0 H
   refine be H ?_; clear H; intro t378 A47 H
   have HC48 := am H
   clear H
   have p376 : 0 ≤ (x55_4 : Int) := of_decide_eq_true as1
   have q376 : x55_4 < (((rd_T53 l0_0 x26_2).f2).length : Int) := of_decide_eq_true as1
   obtain ⟨ad376, e376, hx376_0, hx376_1⟩ := at_T59 HR371_2.out x55_4 p376 q376
   cases e376
   replace hx376_0 := cl HB hx376_0
   replace hx376_1 := cl HB hx376_1
   replace p376 := eq_true p376
   replace q376 := eq_true q376
   go_upto_if 64 with (first | ((with_reducible refine gate_dst (N := 8) rfl ?_); (try (refine gate_guard (by rfl) ?_; dsimp only)); refine box_event ?hg (N := 8) ?hd (cs := #[.int .i64 0, .int .i64 0]) (t := 59) ?hr ?_; (case hd => rfl); (case hg => rfl); (case hr => exact gs); intro gb377 hg w49 hbox hb; replace HO_4 := am (Kd.S_below (kS HO_4) hb); have BK377 := am (hbox); have GW377 := gw hg HB; replace HB := bs HB hb; obtain ⟨NB369_377, NB377_369, BK369⟩ := b3 hg BK369 hb; obtain ⟨NB370_377, NB377_370, BK370⟩ := b3 hg BK370 hb; obtain ⟨NB372_377, NB377_372, BK372⟩ := b3 hg BK372 hb; clear hb hbox hg; have hnb50 := NB377_369.out; have hnc50 := NB369_377.out; have hnb51 := NB377_370.out; have hnc51 := NB370_377.out; have hnb52 := NB377_372.out; have hnc52 := NB372_377.out; have hcz53 := bK w49 BK377; have hfz53 := bF BK377; have hnb54 := NB369_370.out; have hnc54 := NB370_369.out; have hnb55 := NB369_372.out; have hnc55 := NB372_369.out; have hcz56 := bK w49 BK369; have hfz56 := bF BK369) | ((with_reducible refine gk 71 rfl ?_); refine gB 71 (some 63) Try.func71 #[.agg #[.slice (some ad371) l0_0.length c0_0], .int .i64 x26_2, .agg #[.int .i64 ((rd_T59 ((rd_T53 l0_0 x26_2).f2) x55_4).f0), .int .i64 ((rd_T59 ((rd_T53 l0_0 x26_2).f2) x55_4).f1)]] (impl_InsRight.calls k4 _ _ l0_0 x26_2 ((rd_T59 ((rd_T53 l0_0 x26_2).f2) x55_4).f0) ((rd_T59 ((rd_T53 l0_0 x26_2).f2) x55_4).f1) t378 _ (Kd.C_below HR0_0.out (bw HB)) HC0_0.out A47.out) ?_; intro w57 hb; replace HO_4 := am (Kd.S_below (by (with_reducible repeat (first | apply Kd.S_alloc | apply Kd.S_drewN | apply Kd.S_drew)); exact (Kd.S_mono (Kd.S_far (p := ⟨gb377, 1, none⟩) (Kd.S_far (p := ⟨gb377, 0, none⟩) (Kd.S_types HO_4.out BK377.out (by decide)) (fun _ hk => hk.2) (.int .i64 ((rd_T59 ((rd_T53 l0_0 x26_2).f2) x55_4).f0))) (fun _ hk => hk.2) (.int .i64 ((rd_T59 ((rd_T53 l0_0 x26_2).f2) x55_4).f1))) (fun _ h_ => h_.1))) hb); replace BK369 := bb2 BK369 hb; replace BK370 := bb2 BK370 hb; replace BK372 := bb2 BK372 hb; replace BK377 := bo #[.int .i64 ((rd_T59 ((rd_T53 l0_0 x26_2).f2) x55_4).f0), .int .i64 ((rd_T59 ((rd_T53 l0_0 x26_2).f2) x55_4).f1)] BK377 hb; replace HB := bs HB hb; clear hb))
   (try simp only [Act.put, sa, sz, ss])
   have H := HC48.out
   clear HC48
   refine qT H ?_ ?_ <;> clear H <;> intro c58 H <;> subst c58
   ·have H' := am H
    clear H
    go_wp2
    go_roundg k4
    case measure => have := HJ1.out; have := HK2.out; have := HJ17.out; have := HK4.out; omega
    case rel => exact ⟨(wrap64 (x55_4 + 1)), (x371000_4), (x371001_4), (x371002_4), dr, H', ⟨by have := HJ1.out; have := HK2.out; have := HJ17.out; have := HK4.out; omega⟩, ⟨kS HO_4⟩, ⟨bp BK369⟩, ⟨bp BK370⟩, ⟨bp BK372⟩, ⟨bw HB⟩⟩
   simp only [Option.some.injEq, Prod.mk.injEq] at H
   obtain ⟨rfl, rfl, rfl, rfl⟩ := H
   have hnb59 := NB370_369.out
   have hnc59 := NB369_370.out
   have hnb60 := NB370_372.out
   have hnc60 := NB372_370.out
   have hnb61 := NB370_377.out
   have hnc61 := NB377_370.out
   have hcz62 := bK w57 BK370
   have hfz62 := bF BK370
   go_wp2
   refine bodyPost_ret (results_ct rfl _ _ gb370 44 #[.int .i64 x26_2, .int .i64 x55_4, .int .i64 1] (0, 0) _ rfl (bt BK370) Try.underlying44 rfl (by kernel_rfl)) rfl ?_
   exact ⟨_, er, by first | exact Kd.S_nil _ _ _ _ _ | exact Kd.N_nil _ _ _ _ _ | exact Kd.V_nil _ _ _ _ _ | exact Kd.Q_nil _ _ _ _ _ | exact Kd.R_nil _ _ _ _ _, bw HB⟩
  replace H := Option.bind_eq_some_iff.mp H
  obtain ⟨⟨t379, t382, t383⟩, A630, H⟩ := H
  replace H : (if t383 = 0 then (if x4_2.length < 5864062014805 then (impl_verify.l0 k4 (x4_2 ++ [t379]) l0_0 (l0_0.length : Int) (wrap64 (x26_2 + 1)) l0_0) else (none)) else (some (x26_2, t382, t383, ([] : List (List Int))))) = some (r1, r2, r3, r4) := H
  have A63 := am A630
  clear A630
  have HC64 := am H
  clear H
  have hnb65 := NB369_370.out
  have hnc65 := NB370_369.out
  have hnb66 := NB369_372.out
  have hnc66 := NB372_369.out
  have hcz67 := bK wr BK369
  have hfz67 := bF BK369
  go_upto_if 77 with (first | ((with_reducible refine gk 72 rfl ?_); refine gC 72 (some 72) Try.func72 #[.agg #[.slice (some ad371) l0_0.length c0_0], .int .i64 x26_2] ((impl_heightsOf.calls k4 _ _ l0_0 x26_2 t379 t382 t383 _ (cc (Kd.C_below HR0_0.out HB.out)) HC0_0.out A63.out).mono ?_); rintro e w68 ⟨v380, rfl, ho0, hb⟩; refine ⟨_, rfl, ?_⟩; replace HO_4 := am (Kd.S_elder' (kS HO_4) (Kd.R_base ho0) hb); have HO381 := am (Kd.R_lower ho0 (below_size (bw HB))); replace BK369 := bb BK369 hb; replace BK370 := bb BK370 hb; replace BK372 := bb BK372 hb; replace HB := bs HB hb; clear hb; (try clear ho0)))
  (try simp only [Act.put, sa, sz, ss])
  have H := HC64.out
  clear HC64
  refine qE H ?_ ?_ <;> clear H
  ·intro c69b0 c69b1 H
   (first | rw [c69b0] | (simp only [i64_w, i32_w]; rw [c69b0]) | skip)
   refine iN H ?_; clear H; intro c70 H
   have LMc70 := am c70
   clear c70
   obtain ⟨y384, hy384⟩ : ∃ y_ : List (List Int), y_ = (x4_2 ++ [t379]) := ⟨_, rfl⟩
   replace H : (impl_verify.l0 k4 y384 l0_0 (l0_0.length : Int) (wrap64 (x26_2 + 1)) l0_0) = some (r1, r2, r3, r4) := by first | (rw [hy384]; with_reducible exact H) | (have H2_ := (Option.bind_some _ _).symm.trans H; rw [hy384]; with_reducible exact H2_) | (have H2_ := (Option.bind_some _ _).symm.trans H; with_reducible exact H2_) | with_reducible exact H | (rw [hy384]; exact H) | exact H
   have Ny384 := am hy384
   clear hy384
   have H' := am H
   clear H
   obtain ⟨Ao72, co72, eo72⟩ := Kd.R_slice HO381.out
   subst eo72
   go_wp2_with (first | ((with_reducible refine gate_builtin (b := .append) (xs := #[.tmp 82, .tmp 84]) rfl ?_); (try (refine gate_guard (by rfl) ?_; dsimp only)); at_builtin; refine Kd.S_append (Kd.slice 2 (Kd.int .i64)) (w0 := w) w.heap.size rfl (.tmp 82) (.tmp 84) 86 42 (.slice none 0 0) 24 rfl Try.underlying86 info42 rfl (by decide) (by omega) u4 x4_2 t379 [.slice Ao72 t379.length co72] (fun _ => True) (fun k_ => some k_ = (.slice Ao72 t379.length co72 : Value).ownBlock) rfl rfl ?aP (fun k_ hk_ => ((Kd.R_mono (ok' := fun k_ => ((fun _ => True)) k_ ∧ some k_ ≠ (u4 : Value).ownBlock) (Kd.R_apart' (HO381.out) (Kd.S_typed HO_4.out) (by decide)) (fun k_ hk => ⟨trivial, hk.2⟩))).1 k_ hk_.symm) ?aF ?aO ?aB ?aS ?aL ?_; (case aP => exact Kd.M_row (Kd.R_mono (Kd.R_tight rfl (Kd.R_mono (ok' := fun k_ => ((fun _ => True)) k_ ∧ some k_ ≠ (u4 : Value).ownBlock) (Kd.R_apart' (HO381.out) (Kd.S_typed HO_4.out) (by decide)) (fun k_ hk => ⟨trivial, hk.2⟩))) (fun _ h_ => h_))); (case aB => exact (bw HB)); (case aF => exact (fun _ _ => trivial)); (case aO => exact (by (with_reducible repeat (first | apply Kd.S_alloc | apply Kd.S_drewN | apply Kd.S_drew)); exact Kd.S_mono HO_4.out (fun k_ hk => ⟨trivial, fun e_ => hk.2 e_⟩))); (case aS => exact (below_size (bw HB))); (case aL => have := LMc70.out; omega); intro v385 w71 ho hb hg hat; rw [← Ny384.out] at ho; replace BK369 := bg BK369 hg (Kd.S_ne HO_4.out BK369.out (by decide)); replace BK370 := bg BK370 hg (Kd.S_ne HO_4.out BK370.out (by decide)); replace BK372 := bg BK372 hg (Kd.S_ne HO_4.out BK372.out (by decide)); replace HB := am (hb); have HO386 := am (ho); clear HO_4; clear HO381; clear ho hb hg hat))
   go_roundg k4
   case measure => have := HJ1.out; have := HK2.out; have := HJ17.out; have := HK4.out; omega
   case rel => exact ⟨(y384), (wrap64 (x26_2 + 1)), (x371000_4), (x371001_4), (x371002_4), dr, H', ⟨by have := HJ1.out; have := HK2.out; have := HJ17.out; have := HK4.out; omega⟩, ⟨kS HO386⟩, ⟨bp BK369⟩, ⟨bp BK370⟩, ⟨bw HB⟩⟩
  intro c69 c69b0 c69b1 H
  (first | rw [c69b0] | (simp only [i64_w, i32_w]; rw [c69b0]) | skip)
  simp only [Option.some.injEq, Prod.mk.injEq] at H
  obtain ⟨rfl, rfl, rfl, rfl⟩ := H
  have hnb73 := NB370_369.out
  have hnc73 := NB369_370.out
  have hnb74 := NB370_372.out
  have hnc74 := NB372_370.out
  have hcz75 := bK w68 BK370
  have hfz75 := bF BK370
  go_wp2
  refine bodyPost_ret (results_ct rfl _ _ gb370 44 #[.int .i64 x26_2, .int .i64 t382, .int .i64 t383] (0, 0) _ rfl (bt BK370) Try.underlying44 rfl (by kernel_rfl)) rfl ?_
  exact ⟨_, er, by first | exact Kd.S_nil _ _ _ _ _ | exact Kd.N_nil _ _ _ _ _ | exact Kd.V_nil _ _ _ _ _ | exact Kd.Q_nil _ _ _ _ _ | exact Kd.R_nil _ _ _ _ _, bw HB⟩
 rw [if_neg c15] at H
 have c15b0 := decide_eq_false c15
 clear c15
 simp only [Option.some.injEq, Prod.mk.injEq] at H
 obtain ⟨rfl, rfl, rfl, rfl⟩ := H
 have hnb76 := NB370_369.out
 have hnc76 := NB369_370.out
 have hcz77 := bK wr BK370
 have hfz77 := bF BK370
 go_wp2
 refine bodyPost_ret (results_ct rfl _ _ gb370 44 #[.int .i64 0, .int .i64 0, .int .i64 0] (0, 0) _ rfl (bt BK370) Try.underlying44 rfl (by kernel_rfl)) rfl ?_
 exact ⟨_, er, by (with_reducible repeat (first | apply Kd.S_alloc | apply Kd.S_drewN | apply Kd.S_drew)); exact Kd.S_mono (Kd.S_far (p := ⟨gb370, 2, none⟩) (Kd.S_far (p := ⟨gb370, 1, none⟩) (Kd.S_far (p := ⟨gb370, 0, none⟩) (Kd.S_types HO_4.out BK370.out (by decide)) (fun _ hk => hk.2) (.int .i64 0)) (fun _ hk => hk.2) (.int .i64 0)) (fun _ hk => hk.2) (.int .i64 0)) (fun _ hk => trivial), bw HB⟩

def impl_known.f (k : Nat) (l0_0 : List (S53)) : Option ((List (S53)) × (List (List Int)) × Bool) := (impl_verify.f k l0_0).bind fun bt388 => (some (l0_0, bt388.2.2.2, (bt388.2.2.1 == 0)))
theorem impl_known.mono : ∀ a0 k, LeO (impl_known.f k a0) (impl_known.f (k + 1) a0) := by
 intro a0 k
 unfold impl_known.f
 with_reducible repeat' first | exact impl_verify.mono .. | exact LeO.refl _ | exact LeO.none _ | refine LeO.ite ?_ ?_ | refine LeO.bind ?_ (fun _ => ?_)
def impl_known.T2 : Bool × List (List Nat × List Nat) := (true, [([], []), ([], []), ([0, 1], [0, 1]), ([2], [2]), ([], []), ([4], [4]), ([5], [5]), ([3, 0, 1, 2, 3], [3]), ([6, 7, 0, 1, 2, 3, 4, 5, 6, 7], [6])])
def impl_known.B2 : List Nat := [0, 0, 3, 7, 0, 16, 48, 15, 255]
theorem impl_known.tab2 : rtab .any (opsOf Try.f35 2) = impl_known.T2 := by kernel_rfl
theorem impl_known.bits2 : waitsOk impl_known.T2.2 impl_known.B2 = true := by kernel_rfl
theorem impl_known.calls (k : Nat) (P0_0_ : Nat → Prop) (A0_0 : Option Addr) (c0_0 : Nat) (l0_0 : List (S53)) (r1 : List (S53)) (r2 : List (List Int)) (r3 : Bool) (w : World) (hs0_0 : Kd.V k53 53 w w.heap.size (fun k_ => P0_0_ k_) (.slice A0_0 l0_0.length c0_0) l0_0) (h : impl_known.f k l0_0 = some (r1, r2, r3)) :
  Calls Try.prog 35 #[.agg #[.slice A0_0 l0_0.length c0_0]] w fun e w' => ∃ v0_ v1_ : Value, ∃ g_ : Nat, e = .returned (.tuple #[.pointer (some ⟨g_, 0, none⟩), .bool r3]) ∧ Kd.V k53 53 w' w.heap.size (fun k_ => (P0_0_ k_ ∨ w.heap.size ≤ k_) ∧ some k_ ≠ (v1_ : Value).ownBlock) v0_ r1 ∧ Kd.S (Kd.slice 2 (Kd.int .i64)) 42 w' w.heap.size (fun k_ => (w.heap.size ≤ k_)) v1_ r2 ∧ w'.heap[g_]? = some (.cells #[v0_, v1_] 88 (0, 0)) ∧ w.heap.size ≤ g_ ∧ Below w.heap.size w w' := by
 have hu33 := Try.underlying33
 have hu44 := Try.underlying44
 have hu88 := Try.underlying88
 have HO0_0 := am (show Kd.V k53 53 w w.heap.size (fun k_ => (P0_0_ k_ ∨ w.heap.size ≤ k_)) (.slice A0_0 l0_0.length c0_0) l0_0 from Kd.V_mono hs0_0 (fun k_ hk => .inl hk))
 have HB := am (Below.refl w.heap.size w)
 have H : ((impl_verify.f k l0_0).bind fun bt388 => (some (l0_0, bt388.2.2.2, (bt388.2.2.1 == 0)))) = some (r1, r2, r3) := h
 clear h
 replace H := Option.bind_eq_some_iff.mp H
 obtain ⟨⟨t388, t389, t390, t391⟩, A20, H⟩ := H
 replace H : (some (l0_0, t391, (t390 == 0))) = some (r1, r2, r3) := H
 have A2 := am A20
 clear A20
 simp only [Option.some.injEq, Prod.mk.injEq] at H
 obtain ⟨rfl, rfl, rfl⟩ := H
 go_enter Try.func35, Try.ntmps35
 try go_wp2_with (first | ((with_reducible refine gd 1 rfl ?_); refine bX 1 #[.slice A0_0 l0_0.length c0_0] 33 HB ?_; clear HB; intro gb387 w3 hg hb BK387 GW387 HB; replace HO0_0 := am (Kd.V_below (Kd.V_elderB (kV HO0_0) gb387 (Nat.le_of_eq hg.symm)) hb); clear hb hg; have hcz4 := bK w3 BK387; have hfz4 := bF BK387) | ((with_reducible refine gk 61 rfl ?_); refine gC 61 (some 8) Try.func61 #[.agg #[.slice A0_0 l0_0.length c0_0]] ((impl_verify.calls k _ _ l0_0 t388 t389 t390 t391 _ (cc (Kd.V_reads' HO0_0.out).2.2) ((Kd.V_reads' HO0_0.out).2.1) A2.out).mono ?_); rintro e w5 ⟨v392, rfl, ho0, hb⟩; refine ⟨_, rfl, ?_⟩; replace HO0_0 := am (Kd.V_elder' (kV HO0_0) (Kd.S_base ho0) hb); have HO393 := am (Kd.S_lower (Kd.S_newM (M := fun k_ => (w.heap.size ≤ k_)) ho0 (below_size (bw HB)) (fun k_ h_ => h_)) (below_size (bw HB))); replace BK387 := bb BK387 hb; replace HB := bs HB hb; clear hb; (try clear ho0)) | ((with_reducible refine gd 4 rfl ?_); refine bX 4 #[.int .i64 0, .int .i64 0, .int .i64 0] 44 HB ?_; clear HB; intro gb394 w6 hg hb BK394 GW394 HB; replace HO0_0 := am (Kd.V_below (Kd.V_elderB (kV HO0_0) gb394 (Nat.le_of_eq hg.symm)) hb); replace HO393 := am (Kd.S_below (kS HO393) hb); obtain ⟨NB387_394, NB394_387, BK387⟩ := b3 hg BK387 hb; clear hb hg; have hnb7 := NB394_387.out; have hnc7 := NB387_394.out; have hcz8 := bK w6 BK394; have hfz8 := bF BK394))
 replace HO0_0 : Aside0 (Kd.V k53 53 (((w6.setCell ⟨gb394, 0, none⟩ (.int .i64 t388)).setCell ⟨gb394, 1, none⟩ (.int .i64 t389)).setCell ⟨gb394, 2, none⟩ (.int .i64 t390)) w.heap.size (fun k_ => (P0_0_ k_ ∨ w.heap.size ≤ k_) ∧ some k_ ≠ (v392 : Value).ownBlock ∧ k_ ≠ gb387 ∧ k_ ≠ gb394) (.slice A0_0 l0_0.length c0_0) l0_0) := ⟨by (with_reducible repeat (first | apply Kd.V_alloc | apply Kd.V_drewN | apply Kd.V_drew)); exact Kd.V_mono (Kd.V_far (p := ⟨gb394, 2, none⟩) (Kd.V_far (p := ⟨gb394, 1, none⟩) (Kd.V_far (p := ⟨gb394, 0, none⟩) (Kd.V_mono HO0_0.out (fun k_ hk => (⟨hk, hk.2⟩ : _ ∧ k_ ≠ gb394))) (fun _ hk => hk.2) (.int .i64 t388)) (fun _ hk => hk.2) (.int .i64 t389)) (fun _ hk => hk.2) (.int .i64 t390)) (fun _ hk => ⟨hk.1.1.1.1, ⟨hk.1.1.2, ⟨hk.1.1.1.2, hk.1.2⟩⟩⟩)⟩
 replace HO393 : Aside0 (Kd.S (Kd.slice 2 (Kd.int .i64)) 42 (((w6.setCell ⟨gb394, 0, none⟩ (.int .i64 t388)).setCell ⟨gb394, 1, none⟩ (.int .i64 t389)).setCell ⟨gb394, 2, none⟩ (.int .i64 t390)) w.heap.size (fun k_ => (w.heap.size ≤ k_)) v392 t391) := ⟨by (with_reducible repeat (first | apply Kd.S_alloc | apply Kd.S_drewN | apply Kd.S_drew)); exact Kd.S_mono (Kd.S_far (p := ⟨gb394, 2, none⟩) (Kd.S_far (p := ⟨gb394, 1, none⟩) (Kd.S_far (p := ⟨gb394, 0, none⟩) (Kd.S_types HO393.out BK394.out (by decide)) (fun _ hk => hk.2) (.int .i64 t388)) (fun _ hk => hk.2) (.int .i64 t389)) (fun _ hk => hk.2) (.int .i64 t390)) (fun _ hk => hk.1.1)⟩
 replace BK387 : Aside0 ((((w6.setCell ⟨gb394, 0, none⟩ (.int .i64 t388)).setCell ⟨gb394, 1, none⟩ (.int .i64 t389)).setCell ⟨gb394, 2, none⟩ (.int .i64 t390)).heap[gb387]? = some (.cells #[.slice A0_0 l0_0.length c0_0] 33 (0, 0))) := ⟨by (with_reducible repeat (first | apply dN | apply dW | apply dA)); refine blk_far ?_ NB387_394.out _; (with_reducible repeat (first | apply dN | apply dW | apply dA)); refine blk_far ?_ NB387_394.out _; (with_reducible repeat (first | apply dN | apply dW | apply dA)); refine blk_far ?_ NB387_394.out _; exact bp BK387⟩
 replace BK394 : Aside0 ((((w6.setCell ⟨gb394, 0, none⟩ (.int .i64 t388)).setCell ⟨gb394, 1, none⟩ (.int .i64 t389)).setCell ⟨gb394, 2, none⟩ (.int .i64 t390)).heap[gb394]? = some (.cells #[.int .i64 t388, .int .i64 t389, .int .i64 t390] 44 (0, 0))) := ⟨by (with_reducible repeat (first | apply dN | apply dW | apply dA)); refine blk_put (cs := #[.int .i64 t388, .int .i64 t389, .int .i64 0]) ?_ 2 _ rfl; (with_reducible repeat (first | apply dN | apply dW | apply dA)); refine blk_put (cs := #[.int .i64 t388, .int .i64 0, .int .i64 0]) ?_ 1 _ rfl; (with_reducible repeat (first | apply dN | apply dW | apply dA)); refine blk_put (cs := #[.int .i64 0, .int .i64 0, .int .i64 0]) ?_ 0 _ rfl; exact bp BK394⟩
 replace HB : Aside0 (Below w.heap.size w (((w6.setCell ⟨gb394, 0, none⟩ (.int .i64 t388)).setCell ⟨gb394, 1, none⟩ (.int .i64 t389)).setCell ⟨gb394, 2, none⟩ (.int .i64 t390))) := ⟨bw HB⟩
 generalize (((w6.setCell ⟨gb394, 0, none⟩ (.int .i64 t388)).setCell ⟨gb394, 1, none⟩ (.int .i64 t389)).setCell ⟨gb394, 2, none⟩ (.int .i64 t390)) = w9 at HO0_0 HO393 BK387 BK394 HB ⊢
 replace HO0_0 := am (Kd.V_drew HO0_0.out)
 replace HO393 := am (Kd.S_drew HO393.out)
 replace BK387 := am (blk_drew BK387.out)
 replace BK394 := am (blk_drew BK394.out)
 replace HB := am (below_drew1 HB.out)
 obtain ⟨Ao11, co11, eo11⟩ := Kd.S_slice HO393.out
 (first | subst eo11 | (injection eo11 with f1_ f2_ f3_; have f4_ := f1_.symm; have f5_ := f3_.symm; clear f1_ f2_ f3_; subst f4_; subst f5_))
 refine start_ (n := 9) (S := fun w' => w'.cell? ⟨gb387, 0, none⟩ = some (.slice A0_0 l0_0.length c0_0) ∧ w'.cell? ⟨gb394, 0, none⟩ = some (.int .i64 t388) ∧ w'.cell? ⟨gb394, 1, none⟩ = some (.int .i64 t389) ∧ w'.cell? ⟨gb394, 2, none⟩ = some (.int .i64 t390)) (ds := []) (bv 9 0) (by kernel_rfl) rfl (by kernel_rfl) ⟨bc BK387 0, bc BK394 0, bc BK394 1, bc BK394 2⟩ (fun hHeld => ?_); refine with_tabW impl_known.tab2 impl_known.bits2 (fun HT_ HW_ => ?_)
 generalize w9.drew = w10 at HO0_0 HO393 BK387 BK394 HB hHeld ⊢
 refine pu 1 12 9 2 HT_ ?_
 refine pu 4 15 9 18 HT_ ?_
 refine tk 0 11 9 19 HT_ HW_ hHeld ?_
 refine pu 2 13 9 23 HT_ ?_
 refine tk 5 16 9 55 HT_ HW_ hHeld ?_
 refine pu 6 17 9 119 HT_ ?_
 refine on 3 (some 14) 9 127 HT_ fun K hK => ?_
 refine box_step ?hg (N := 14) ?hd (cs := #[.slice A0_0 l0_0.length c0_0, .slice Ao11 t391.length co11]) (t := 88) ?hr ?_; (case hd => rfl); (case hg => rfl); (case hr => exact gs)
 intro gb395 hg w12 hbox hb
 have n0_ := am (Kd.V_below (Kd.V_elderB (kV HO0_0) gb395 (Nat.le_of_eq hg.symm)) hb)
 have n1_ := am (Kd.S_below (kS HO393) hb)
 have n2_ := bb BK387 hb
 have n3_ := bb BK394 hb
 have n4_ := am (below_step (bw HB) hb)
 have n5_ := am (hbox)
 have n6_ := gw hg HB
 have n7_ := gw hg HB
 have n8_ := am ((by rw [hg]; exact Nat.ne_of_lt (blk_lt (g := gb387) (o := .cells #[.slice A0_0 l0_0.length c0_0] 33 (0, 0)) (bp BK387)) : gb387 ≠ gb395))
 have n9_ := am ((by rw [hg]; exact Nat.ne_of_gt (blk_lt (g := gb387) (o := .cells #[.slice A0_0 l0_0.length c0_0] 33 (0, 0)) (bp BK387)) : gb395 ≠ gb387))
 have n10_ := am ((by rw [hg]; exact Nat.ne_of_lt (blk_lt (g := gb394) (o := .cells #[.int .i64 t388, .int .i64 t389, .int .i64 t390] 44 (0, 0)) (bp BK394)) : gb394 ≠ gb395))
 have n11_ := am ((by rw [hg]; exact Nat.ne_of_gt (blk_lt (g := gb394) (o := .cells #[.int .i64 t388, .int .i64 t389, .int .i64 t390] 44 (0, 0)) (bp BK394)) : gb395 ≠ gb394))
 clear HO0_0
 clear HO393
 clear BK387
 clear BK394
 clear HB
 have HO0_0 := n0_
 have HO393 := n1_
 have BK387 := n2_
 have BK394 := n3_
 have HB := n4_
 have BK395 := n5_
 have GW395 := n6_
 have GE395 := n7_
 have NB387_395 := n8_
 have NB395_387 := n9_
 have NB394_395 := n10_
 have NB395_394 := n11_
 clear n0_ n1_ n2_ n3_ n4_ n5_ n6_ n7_ n8_ n9_ n10_ n11_
 clear hb hbox hg
 refine hK.out _ _ ⟨bc BK387 0, bc BK394 0, bc BK394 1, bc BK394 2⟩ (fun hHeld => ?_)
 clear hK K
 refine nm (some 14) ?_
 refine pu 7 2 9 255 HT_ ?_
 refine pu 8 3 9 511 HT_ ?_
 refine done_ (done_of HT_.out (by kernel_rfl)) ?_
 try go_wp2
 go_ret2
 exact ⟨_, _, gb395, er, by (with_reducible repeat (first | apply Kd.V_alloc | apply Kd.V_drewN | apply Kd.V_drew)); exact Kd.V_mono HO0_0.out (fun _ hk => ⟨hk.1.1, hk.1.2.1⟩), kS HO393, (bp BK395), GW395.out, bw HB⟩

def impl_knownFunc.f (k : Nat) (l0_0 : List (S53)) (a1 : Int) : Option ((List (S53)) × (List (List Int)) × Bool) := (impl_known.f k l0_0).bind fun bt397 => (if bt397.2.2 = true then ((impl_hasFunc.f l0_0 a1).bind fun t405 => (some (bt397.1, bt397.2.1, t405))) else (some (bt397.1, bt397.2.1, false)))
theorem impl_knownFunc.mono : ∀ a0 a1 k, LeO (impl_knownFunc.f k a0 a1) (impl_knownFunc.f (k + 1) a0 a1) := by
 intro a0 a1 k
 unfold impl_knownFunc.f
 with_reducible repeat' first | exact impl_known.mono .. | exact LeO.refl _ | exact LeO.none _ | refine LeO.ite ?_ ?_ | refine LeO.bind ?_ (fun _ => ?_)
theorem impl_knownFunc.calls (k : Nat) (P0_0_ : Nat → Prop) (A0_0 : Option Addr) (c0_0 : Nat) (l0_0 : List (S53)) (a1 : Int) (r1 : List (S53)) (r2 : List (List Int)) (r3 : Bool) (w : World) (hs0_0 : Kd.V k53 53 w w.heap.size (fun k_ => P0_0_ k_) (.slice A0_0 l0_0.length c0_0) l0_0) (h : impl_knownFunc.f k l0_0 a1 = some (r1, r2, r3)) :
  Calls Try.prog 19 #[.agg #[.slice A0_0 l0_0.length c0_0], .int .i64 a1] w fun e w' => ∃ v0_ v1_ : Value, ∃ g_ : Nat, e = .returned (.tuple #[.pointer (some ⟨g_, 0, none⟩), .bool r3]) ∧ Kd.V k53 53 w' w.heap.size (fun k_ => (P0_0_ k_ ∨ w.heap.size ≤ k_) ∧ some k_ ≠ (v1_ : Value).ownBlock) v0_ r1 ∧ Kd.S (Kd.slice 2 (Kd.int .i64)) 42 w' w.heap.size (fun k_ => (w.heap.size ≤ k_)) v1_ r2 ∧ w'.heap[g_]? = some (.cells #[v0_, v1_] 88 (0, 0)) ∧ w.heap.size ≤ g_ ∧ Below w.heap.size w w' := by
 have hu33 := Try.underlying33
 have HO0_0 := am (show Kd.V k53 53 w w.heap.size (fun k_ => (P0_0_ k_ ∨ w.heap.size ≤ k_)) (.slice A0_0 l0_0.length c0_0) l0_0 from Kd.V_mono hs0_0 (fun k_ hk => .inl hk))
 have HB := am (Below.refl w.heap.size w)
 have H : ((impl_known.f k l0_0).bind fun bt397 => (if bt397.2.2 = true then ((impl_hasFunc.f l0_0 a1).bind fun t405 => (some (bt397.1, bt397.2.1, t405))) else (some (bt397.1, bt397.2.1, false)))) = some (r1, r2, r3) := h
 clear h
 replace H := Option.bind_eq_some_iff.mp H
 obtain ⟨⟨t397, t400, t404⟩, A30, H⟩ := H
 replace H : (if t404 = true then ((impl_hasFunc.f l0_0 a1).bind fun t405 => (some (t397, t400, t405))) else (some (t397, t400, false))) = some (r1, r2, r3) := H
 have A3 := am A30
 clear A30
 refine qT H ?_ ?_ <;> clear H <;> intro c4 H <;> subst c4
 ·refine be H ?_; clear H; intro t405 A5 H
  simp only [Option.some.injEq, Prod.mk.injEq] at H
  obtain ⟨rfl, rfl, rfl⟩ := H
  go_enter Try.func19, Try.ntmps19
  go_wp2_with (first | ((with_reducible refine gd 2 rfl ?_); refine bX 2 #[.slice A0_0 l0_0.length c0_0] 33 HB ?_; clear HB; intro gb396 w6 hg hb BK396 GW396 HB; replace HO0_0 := am (Kd.V_below (Kd.V_elderB (kV HO0_0) gb396 (Nat.le_of_eq hg.symm)) hb); clear hb hg; have hcz7 := bK w6 BK396; have hfz7 := bF BK396) | ((with_reducible refine gk 35 rfl ?_); refine gC 35 (some 10) Try.func35 #[.agg #[.slice A0_0 l0_0.length c0_0]] ((impl_known.calls k (fun k_ => ((P0_0_ k_ ∨ w.heap.size ≤ k_) ∧ k_ ≠ gb396)) _ _ l0_0 t397 t400 true _ HO0_0.out A3.out).mono ?_); rintro e w8 ⟨v398, v401, gb403, rfl, ho0, ho1, hbx, hgx, hb⟩; refine ⟨_, rfl, ?_⟩; replace HO0_0 := am (Kd.V_elder' (kV HO0_0) (Kd.S_base ho1) hb); have HO399 := am (Kd.V_lower (Kd.V_mono (ok' := fun k_ => (P0_0_ k_ ∨ w.heap.size ≤ k_) ∧ some k_ ≠ (v401 : Value).ownBlock ∧ k_ ≠ gb396) ho0 (fun k_ hk_ => ⟨Or.elim hk_.1 (fun hs_ => hs_.1) (fun hn_ => (.inr (Nat.le_trans (below_size (bw HB)) hn_))), hk_.2, Or.elim hk_.1 (fun hs_ => hs_.2) (fun hn_ => (Kd.freshB (g := gb396) (o := .cells #[.slice A0_0 l0_0.length c0_0] 33 (0, 0)) (bp BK396) k_ hn_))⟩)) (below_size (bw HB))); have HO402 := am (Kd.S_lower (Kd.S_newM (M := fun k_ => (w.heap.size ≤ k_)) (Kd.S_mono (ok' := fun k_ => True) ho1 (fun _ hk_ => trivial)) (below_size (bw HB)) (fun k_ h_ => h_)) (below_size (bw HB))); have BK403 := am (hbx); have GW403 := am ((Nat.le_trans (below_size (bw HB)) hgx)); have GE403 := am ((Nat.le_trans (below_size (bw HB)) hgx)); have NB396_403 := am ((Nat.ne_of_lt (Nat.lt_of_lt_of_le (blk_lt (g := gb396) (o := .cells #[.slice A0_0 l0_0.length c0_0] 33 (0, 0)) (bp BK396)) hgx) : gb396 ≠ gb403)); have NB403_396 := am ((Nat.ne_of_gt (Nat.lt_of_lt_of_le (blk_lt (g := gb396) (o := .cells #[.slice A0_0 l0_0.length c0_0] 33 (0, 0)) (bp BK396)) hgx) : gb403 ≠ gb396)); replace BK396 := bb BK396 hb; replace HB := bs HB hb; clear hb; (try clear ho0); (try clear ho1); (try clear hbx); (try clear hgx); have hnb9 := NB396_403.out; have hnc9 := NB403_396.out; have hcz10 := bK w8 BK396; have hfz10 := bF BK396) | (go_at_call 36; refine (impl_hasFunc.calls _ _ l0_0 a1 t405 _ (cc (Kd.V_reads' HO0_0.out).2.2) ((Kd.V_reads' HO0_0.out).2.1) A5.out).mono ?_; rintro e w11 ⟨rfl, hb⟩; replace HO0_0 := am (Kd.V_below (kV HO0_0) hb); replace HO399 := am (Kd.V_below (kV HO399) hb); replace HO402 := am (Kd.S_below (kS HO402) hb); replace BK396 := bb BK396 hb; replace BK403 := bb BK403 hb; replace HB := bs HB hb; clear hb))
  go_ret2
  exact ⟨_, _, gb403, er, by (with_reducible repeat (first | apply Kd.V_alloc | apply Kd.V_drewN | apply Kd.V_drew)); exact Kd.V_mono HO399.out (fun _ hk => ⟨hk.1, hk.2.1⟩), by (with_reducible repeat (first | apply Kd.S_alloc | apply Kd.S_drewN | apply Kd.S_drew)); exact Kd.S_mono HO402.out (fun _ hk => hk.1), (bp BK403), GW403.out, bw HB⟩
 simp only [Option.some.injEq, Prod.mk.injEq] at H
 obtain ⟨rfl, rfl, rfl⟩ := H
 go_enter Try.func19, Try.ntmps19
 go_wp2_with (first | ((with_reducible refine gd 2 rfl ?_); refine bX 2 #[.slice A0_0 l0_0.length c0_0] 33 HB ?_; clear HB; intro gb396 w12 hg hb BK396 GW396 HB; replace HO0_0 := am (Kd.V_below (Kd.V_elderB (kV HO0_0) gb396 (Nat.le_of_eq hg.symm)) hb); clear hb hg; have hcz13 := bK w12 BK396; have hfz13 := bF BK396) | ((with_reducible refine gk 35 rfl ?_); refine gC 35 (some 10) Try.func35 #[.agg #[.slice A0_0 l0_0.length c0_0]] ((impl_known.calls k (fun k_ => ((P0_0_ k_ ∨ w.heap.size ≤ k_) ∧ k_ ≠ gb396)) _ _ l0_0 t397 t400 false _ HO0_0.out A3.out).mono ?_); rintro e w14 ⟨v398, v401, gb403, rfl, ho0, ho1, hbx, hgx, hb⟩; refine ⟨_, rfl, ?_⟩; replace HO0_0 := am (Kd.V_elder' (kV HO0_0) (Kd.S_base ho1) hb); have HO399 := am (Kd.V_lower (Kd.V_mono (ok' := fun k_ => (P0_0_ k_ ∨ w.heap.size ≤ k_) ∧ some k_ ≠ (v401 : Value).ownBlock ∧ k_ ≠ gb396) ho0 (fun k_ hk_ => ⟨Or.elim hk_.1 (fun hs_ => hs_.1) (fun hn_ => (.inr (Nat.le_trans (below_size (bw HB)) hn_))), hk_.2, Or.elim hk_.1 (fun hs_ => hs_.2) (fun hn_ => (Kd.freshB (g := gb396) (o := .cells #[.slice A0_0 l0_0.length c0_0] 33 (0, 0)) (bp BK396) k_ hn_))⟩)) (below_size (bw HB))); have HO402 := am (Kd.S_lower (Kd.S_newM (M := fun k_ => (w.heap.size ≤ k_)) (Kd.S_mono (ok' := fun k_ => True) ho1 (fun _ hk_ => trivial)) (below_size (bw HB)) (fun k_ h_ => h_)) (below_size (bw HB))); have BK403 := am (hbx); have GW403 := am ((Nat.le_trans (below_size (bw HB)) hgx)); have GE403 := am ((Nat.le_trans (below_size (bw HB)) hgx)); have NB396_403 := am ((Nat.ne_of_lt (Nat.lt_of_lt_of_le (blk_lt (g := gb396) (o := .cells #[.slice A0_0 l0_0.length c0_0] 33 (0, 0)) (bp BK396)) hgx) : gb396 ≠ gb403)); have NB403_396 := am ((Nat.ne_of_gt (Nat.lt_of_lt_of_le (blk_lt (g := gb396) (o := .cells #[.slice A0_0 l0_0.length c0_0] 33 (0, 0)) (bp BK396)) hgx) : gb403 ≠ gb396)); replace BK396 := bb BK396 hb; replace HB := bs HB hb; clear hb; (try clear ho0); (try clear ho1); (try clear hbx); (try clear hgx)))
 go_ret2
 exact ⟨_, _, gb403, er, by (with_reducible repeat (first | apply Kd.V_alloc | apply Kd.V_drewN | apply Kd.V_drew)); exact Kd.V_mono HO399.out (fun _ hk => ⟨hk.1, hk.2.1⟩), by (with_reducible repeat (first | apply Kd.S_alloc | apply Kd.S_drewN | apply Kd.S_drew)); exact Kd.S_mono HO402.out (fun _ hk => hk.1), (bp BK403), GW403.out, bw HB⟩

def impl_prog_code.f (l0_0 : List (S53)) (l0_1 : List (List Int)) (a1 : Int) : Option ((List (S59))) := if 0 ≤ a1 then (if a1 < (l0_0.length : Int) then (some ((rd_T53 l0_0 a1).f2)) else (none)) else (none)
theorem impl_prog_code.calls (g0_ : Nat) (P0_0_ : Nat → Prop) (A0_0 : Option Addr) (c0_0 : Nat) (l0_0 : List (S53)) (A0_1 : Option Addr) (c0_1 : Nat) (l0_1 : List (List Int)) (a1 : Int) (r : List (S59)) (w : World) (hp0 : w.heap[g0_]? = some (.cells #[.slice A0_0 l0_0.length c0_0, .slice A0_1 l0_1.length c0_1] 88 (0, 0))) (hs0_0 : Kd.V k53 53 w w.heap.size (fun k_ => P0_0_ k_) (.slice A0_0 l0_0.length c0_0) l0_0) (hr0_1 : Kd.C (Kd.slice 2 (Kd.int .i64)) w A0_1 l0_1.length l0_1) (hc0_1 : l0_1.length ≤ c0_1) (h : impl_prog_code.f l0_0 l0_1 a1 = some r) :
  Calls Try.prog 37 #[.pointer (some ⟨g0_, 0, none⟩), .int .i64 a1] w fun e w' => ∃ v0_ : Value, e = .returned (v0_) ∧ Kd.V k59 59 w' w.heap.size (fun k_ => (P0_0_ k_ ∨ w.heap.size ≤ k_)) v0_ r ∧ Below w.heap.size w w' := by
 have HP0_ := am hp0
 clear hp0
 have HO0_0 := am (show Kd.V k53 53 w w.heap.size (fun k_ => (P0_0_ k_ ∨ w.heap.size ≤ k_)) (.slice A0_0 l0_0.length c0_0) l0_0 from Kd.V_mono hs0_0 (fun k_ hk => .inl hk))
 have HR0_1 := am hr0_1
 have HC0_1 := am hc0_1
 clear hr0_1 hc0_1
 have HB := am (Below.refl w.heap.size w)
 have H : (if 0 ≤ a1 then (if a1 < (l0_0.length : Int) then (some ((rd_T53 l0_0 a1).f2)) else (none)) else (none)) = some r := h
 clear h
 refine iM H ?_; clear H; intro c3b0 H
 refine iM H ?_; clear H; intro c4b0 H
 obtain rfl := Option.some.inj H
 have hcz5 := bK w HP0_
 have hfz5 := bF HP0_
 have p406 : 0 ≤ (a1 : Int) := of_decide_eq_true as1
 have q406 : a1 < (l0_0.length : Int) := of_decide_eq_true as1
 obtain ⟨ad406, A406_2, c406_2, e406, hx406_0, hx406_1, hx406_2, hl406_2, hi406_2⟩ := at_T53 (Kd.V_reads' HO0_0.out).2.2 a1 p406 q406
 cases e406
 obtain ⟨ce406, hce406, hMe406, hcc406⟩ := Kd.V_get HO0_0.out z53 a1 p406 (by first | exact q406 | exact of_decide_eq_true as1 | (have e_ := (Kd.V_reads' HO0_0.out).1; omega))
 obtain ⟨ua406_2, uc406_2, rfl, ul406_2, ge406_2⟩ := k53_openF hMe406
 have hv406_2 := hcc406 2 _ rfl
 rw [add_field _ _ 2 (by omega)] at hv406_2
 replace hv406_2 := Option.some.inj (hv406_2.symm.trans hx406_2)
 injection hv406_2 with hva_ hvn_ hvc_
 rw [hva_] at ge406_2
 rw [hvc_] at ul406_2
 have HL406_2 := am (show Kd.V k59 59 _ w.heap.size _ _ ((rd_T53 l0_0 a1).f2) from Kd.V_mk ul406_2 ge406_2)
 clear hva_ hvn_ hvc_ ge406_2 ul406_2
 clear hcc406 hce406
 have HR406_2 := am hi406_2
 have HC406_2 := am hl406_2
 clear hi406_2 hl406_2
 replace p406 := eq_true p406
 replace q406 := eq_true q406
 go_enter Try.func37, Try.ntmps37
 go_wp2
 go_ret
 exact ⟨_, er, kV HL406_2, bw HB⟩

def impl_bareNop.f  : Option ((List (S108)) × Int × Int × (List (S55)) × Int) := some (([] : List (S108)), 0, (-1), ([] : List (S55)), 0)
theorem impl_bareNop.calls  (r1 : List (S108)) (r2 : Int) (r3 : Int) (r4 : List (S55)) (r5 : Int) (w : World) (h : impl_bareNop.f  = some (r1, r2, r3, r4, r5)) :
  Calls Try.prog 38 #[] w fun e w' => ∃ v0_ v3_ : Value, e = .returned (.agg #[v0_, .int .i64 r2, .int .i64 r3, v3_, .int .i64 r5]) ∧ Kd.R k108 108 w' w.heap.size (fun _ => True) v0_ r1 ∧ Kd.R k55 55 w' w.heap.size (fun _ => True) v3_ r4 ∧ Below w.heap.size w w' := by
 have hu50 := Try.underlying50
 have HB := am (Below.refl w.heap.size w)
 have H : (some (([] : List (S108)), 0, (-1), ([] : List (S55)), 0)) = some (r1, r2, r3, r4, r5) := h
 clear h
 simp only [Option.some.injEq, Prod.mk.injEq] at H
 obtain ⟨rfl, rfl, rfl, rfl, rfl⟩ := H
 go_enter Try.func38, Try.ntmps38
 go_wp2_with (first | ((with_reducible refine gd 0 rfl ?_); refine bX 0 #[.slice none 0 0, .int .i64 0, .int .i64 0, .slice none 0 0, .int .i64 0] 50 HB ?_; clear HB; intro gb407 w1 hg hb BK407 GW407 HB; clear hb hg; have hcz2_0 := bk w1 BK407 0; have hcz2_1 := bk w1 BK407 1; have hcz2_2 := bk w1 BK407 2; have hcz2_3 := bk w1 BK407 3; have hcz2_4 := bk w1 BK407 4; have hfz2_0 := bf BK407 0; have hfz2_1 := bf BK407 1; have hfz2_2 := bf BK407 2; have hfz2_3 := bf BK407 3; have hfz2_4 := bf BK407 4))
 refine bodyPost_ret (results_cell_row rfl _ _ gb407 50 #[.slice none 0 0, .int .i64 0, .int .i64 (-1), .slice none 0 0, .int .i64 0] (0, 0) _ rfl (bt BK407) Try.underlying50 rfl (by kernel_rfl)) rfl ?_
 exact ⟨_, _, er, by first | exact Kd.R_nil _ _ _ _ _ | exact Kd.N_nil _ _ _ _ _ | exact Kd.V_nil _ _ _ _ _ | exact Kd.Q_nil _ _ _ _ _ | exact Kd.S_nil _ _ _ _ _, by first | exact Kd.R_nil _ _ _ _ _ | exact Kd.N_nil _ _ _ _ _ | exact Kd.V_nil _ _ _ _ _ | exact Kd.Q_nil _ _ _ _ _ | exact Kd.S_nil _ _ _ _ _, bw HB⟩

end Go.Proofs.Ytcdohkilplgmjaa.QFnExactPlain
