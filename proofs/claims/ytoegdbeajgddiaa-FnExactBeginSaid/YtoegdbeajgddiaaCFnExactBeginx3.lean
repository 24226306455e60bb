import Derived.Test.YtoegdbeajgddiaaCFnExactBeginx0
import Derived.Test.YtoegdbeajgddiaaCFnExactBeginx2
namespace Go.Proofs.Ytoegdbeajgddiaa.QFnExactBegin
open Go.RowKit Go.Proofs.YtoegdbeajgddiaaW
open PrintWords PrintLast PrintMore PrintShort PrintIsh
attribute [local go_sem] max2_int min2_int max_two min_two max_three min_three max_four min_four   -- for this text's walks alone
set_option linter.unusedVariables false
set_option maxHeartbeats 8000000
set_option maxRecDepth 100000
set_option linter.unusedSimpArgs false

mutual
def spec_Takes.j0 : Nat → Bool → List (S55) → Int → Int → Option (Int)
 | 0, _, _, _, _ => none
 | k + 1, x5, x122000, x123000, x123001 => if x5 = true then (some 2) else (if x123000 = 36 then (some 3) else (if x123000 = 32 then (if x123001 < 0 then (some 0) else (if x123001 ≥ (x122000.length : Int) then (some 0) else (if 0 ≤ x123001 then (if x123001 < (x122000.length : Int) then (some ((rd_T55 x122000 x123001).f0)) else (none)) else (none)))) else ((spec_l03Unary.f x123000).bind fun t125 => (if t125 = true then (some 1) else (if x123000 = 3 then (spec_Takes.j1 k (x123000 == 3)) else (if x123000 = 4 then (spec_Takes.j1 k (x123000 == 4)) else (if x123000 = 5 then (spec_Takes.j1 k (x123000 == 5)) else (if x123000 = 31 then (spec_Takes.j1 k (x123000 == 31)) else (if x123000 = 33 then (spec_Takes.j1 k (x123000 == 33)) else (if x123000 = 34 then (spec_Takes.j1 k (x123000 == 34)) else (if x123000 = 37 then (spec_Takes.j1 k (x123000 == 37)) else (spec_Takes.j1 k (x123000 == 38)))))))))))))
def spec_Takes.j1 : Nat → Bool → Option (Int)
 | 0, _ => none
 | k + 1, x46 => if x46 = true then (some 1) else (some 0)
end
def spec_Takes.f (k : Nat) (l0_0 : List (S55)) (a1_0 : Int) (a1_1 : Int) : Option (Int) := (spec_l03Binary.f a1_0).bind fun t123 => (if t123 = true then (spec_Takes.j0 k true l0_0 a1_0 a1_1) else (spec_Takes.j0 k (a1_0 == 35) l0_0 a1_0 a1_1))
theorem spec_Takes.mono_l : ∀ k, (∀ y0 y1 y2 y3, LeO (spec_Takes.j0 k y0 y1 y2 y3) (spec_Takes.j0 (k + 1) y0 y1 y2 y3)) ∧ (∀ y0, LeO (spec_Takes.j1 k y0) (spec_Takes.j1 (k + 1) y0))
 | 0 => ⟨fun _ _ _ _ r h => by simp [spec_Takes.j0] at h, fun _ r h => by simp [spec_Takes.j1] at h⟩
 | k + 1 => by
  obtain ⟨ih0, ih1⟩ := spec_Takes.mono_l k
  refine ⟨?_, ?_⟩
  ·intro y0 y1 y2 y3
   unfold spec_Takes.j0
   with_reducible repeat' first | exact ih0 .. | exact ih1 .. | exact LeO.refl _ | exact LeO.none _ | refine LeO.ite ?_ ?_ | refine LeO.bind ?_ (fun _ => ?_)
  ·intro y0
   unfold spec_Takes.j1
   with_reducible repeat' first | exact ih0 .. | exact ih1 .. | exact LeO.refl _ | exact LeO.none _ | refine LeO.ite ?_ ?_ | refine LeO.bind ?_ (fun _ => ?_)
theorem spec_Takes.mono : ∀ a0 a1 a2 k, LeO (spec_Takes.f k a0 a1 a2) (spec_Takes.f (k + 1) a0 a1 a2) := by
 intro a0 a1 a2 k
 obtain ⟨ih0, ih1⟩ := spec_Takes.mono_l k
 unfold spec_Takes.f
 with_reducible repeat' first | exact ih0 .. | exact ih1 .. | exact LeO.refl _ | exact LeO.none _ | refine LeO.ite ?_ ?_ | refine LeO.bind ?_ (fun _ => ?_)
theorem spec_Takes.calls (k : Nat) (A0_0 : Option Addr) (c0_0 : Nat) (l0_0 : List (S55)) (a1_0 : Int) (a1_1 : Int) (r : Int) (w : World) (hr0_0 : Kd.C k55 w A0_0 l0_0.length l0_0) (hc0_0 : l0_0.length ≤ c0_0) (h : spec_Takes.f k l0_0 a1_0 a1_1 = some r) :
  Calls Try.prog 63 #[.agg #[.slice A0_0 l0_0.length c0_0], .agg #[.int .i64 a1_0, .int .i64 a1_1]] w fun e w' => e = .returned (.int .i64 r) ∧ Below w.heap.size w w' := by
 have hu34 := Try.underlying34
 have hu85 := Try.underlying85
 have HR0_0 := am hr0_0
 have HC0_0 := am hc0_0
 clear hr0_0 hc0_0
 have HB := am (Below.refl w.heap.size w)
 have H : ((spec_l03Binary.f a1_0).bind fun t123 => (if t123 = true then (spec_Takes.j0 k true l0_0 a1_0 a1_1) else (spec_Takes.j0 k (a1_0 == 35) l0_0 a1_0 a1_1))) = some r := h
 clear h
 have HC3 := am H
 clear H
 go_enter Try.func63, Try.ntmps63
 go_upto_region 1 with (first | ((with_reducible refine gate_dst (N := 2) rfl ?_); (try (refine gate_guard (by rfl) ?_; dsimp only)); refine box_event ?hg (N := 2) ?hd (cs := #[.slice A0_0 l0_0.length c0_0]) (t := 34) ?hr ?_; (case hd => rfl); (case hg => rfl); (case hr => exact gs); intro gb121 hg w4 hbox hb; have BK121 := am (hbox); have GW121 := gw hg HB; replace HB := bs HB hb; clear hb hbox hg) | ((with_reducible refine gate_dst (N := 3) rfl ?_); (try (refine gate_guard (by rfl) ?_; dsimp only)); refine box_event ?hg (N := 3) ?hd (cs := #[.int .i64 a1_0, .int .i64 a1_1]) (t := 85) ?hr ?_; (case hd => rfl); (case hg => rfl); (case hr => exact gs); intro gb122 hg w5 hbox hb; have BK122 := am (hbox); have GW122 := gw hg HB; replace HB := bs HB hb; obtain ⟨NB121_122, NB122_121, BK121⟩ := b3 hg BK121 hb; clear hb hbox hg))
 (try simp only [Act.put, sa, sz, ss])
 go_cut [5] (fun v5 wc => ∃ (kq : Nat) (x5_2 : Bool), v5 = .bool x5_2 ∧ Aside0 (spec_Takes.j0 kq x5_2 l0_0 a1_0 a1_1 = some r) ∧ Aside0 (kq ≤ k) ∧ Aside0 (wc.heap[gb121]? = some (.cells #[(.slice A0_0 l0_0.length c0_0)] 34 (0, 0))) ∧ Aside0 (wc.heap[gb122]? = some (.cells #[.int .i64 a1_0, .int .i64 a1_1] 85 (0, 0))) ∧ Aside0 (Below w.heap.size w wc))
 case first =>
  have H := HC3.out
  clear HC3
  refine be H ?_; clear H; intro t123 A6 H
  refine qT H ?_ ?_ <;> clear H <;> intro c7 H <;> subst c7
  ·have H' := am H
   clear H
   have hnb8 := NB122_121.out
   have hnc8 := NB121_122.out
   have hcz9 := bK w5 BK122
   have hfz9 := bF BK122
   go_wp2_with (first | ((with_reducible refine gate_callee (f := 65) rfl ?_); refine goesL_ (some 8) rfl rfl Try.func65 (by kernel_rfl) rfl #[.int .i64 a1_0] rfl gl ?_; (with_reducible refine (spec_l03Binary.calls a1_0 true _ A6.out).mono ?_); rintro e w' ⟨rfl, ⟨nd, rfl⟩⟩; refine ⟨_, rfl, ?_⟩))
   go_meet
   case rel => exact ⟨_, (true), dr, H', ⟨lk0⟩, ⟨bp BK121⟩, ⟨bp BK122⟩, ⟨bw HB⟩⟩
  have H' := am H
  clear H
  have hnb10 := NB122_121.out
  have hnc10 := NB121_122.out
  have hcz11 := bK w5 BK122
  have hfz11 := bF BK122
  go_wp2_with (first | ((with_reducible refine gate_callee (f := 65) rfl ?_); refine goesL_ (some 8) rfl rfl Try.func65 (by kernel_rfl) rfl #[.int .i64 a1_0] rfl gl ?_; (with_reducible refine (spec_l03Binary.calls a1_0 false _ A6.out).mono ?_); rintro e w' ⟨rfl, ⟨nd, rfl⟩⟩; refine ⟨_, rfl, ?_⟩))
  go_meet
  case rel => exact ⟨_, ((a1_0 == 35)), dr, H', ⟨lk0⟩, ⟨bp BK121⟩, ⟨bp BK122⟩, ⟨bw HB⟩⟩
 clear HC3
 (try clear c1); (try clear p2); (try clear c6); (try clear c7); (try clear c8); (try clear c10); (try clear hcz11); (try clear hcz9); (try clear hfz11); (try clear hfz9)
 obtain ⟨kq, x5_2, rfl, HA, HJ2, BK121, BK122, HB⟩ := hcut
 rcases kq with _ | kj2
 ·exact absurd HA.out (by simp [spec_Takes.j0])
 have H := HA.out
 clear HA
 simp only [spec_Takes.j0] at H
 refine qT H ?_ ?_ <;> clear H <;> intro c12 H <;> subst c12
 ·obtain rfl := Option.some.inj H
  go_wp2
  go_ret
  exact ⟨er, bw HB⟩
 refine qE H ?_ ?_ <;> clear H
 ·intro c13b0 c13b1 H
  obtain rfl := Option.some.inj H
  have hnb14 := NB122_121.out
  have hnc14 := NB121_122.out
  have hcz15 := bK wc BK122
  have hfz15 := bF BK122
  go_wp2
  go_ret
  exact ⟨er, bw HB⟩
 intro c13 c13b0 c13b1 H
 refine qE H ?_ ?_ <;> clear H
 ·intro c16b0 c16b1 H
  refine qI H ?_ ?_ <;> clear H <;> intro c17b0 H
  ·obtain rfl := Option.some.inj H
   have hnb18 := NB122_121.out
   have hnc18 := NB121_122.out
   have hcz19 := bK wc BK122
   have hfz19 := bF BK122
   go_wp2
   go_ret
   exact ⟨er, bw HB⟩
  refine qL H ?_ ?_ <;> clear H <;> intro c20b0 H
  ·obtain rfl := Option.some.inj H
   have hnb21 := NB122_121.out
   have hnc21 := NB121_122.out
   have hcz22 := bK wc BK122
   have hfz22 := bF BK122
   have hcz23 := bK wc BK121
   have hfz23 := bF BK121
   go_wp2
   go_ret
   exact ⟨er, bw HB⟩
  refine iM H ?_; clear H; intro c24b0 H
  refine iM H ?_; clear H; intro c25b0 H
  obtain rfl := Option.some.inj H
  have hnb26 := NB122_121.out
  have hnc26 := NB121_122.out
  have hcz27 := bK wc BK122
  have hfz27 := bF BK122
  have hcz28 := bK wc BK121
  have hfz28 := bF BK121
  have p124 : 0 ≤ (a1_1 : Int) := of_decide_eq_true as1
  have q124 : a1_1 < (l0_0.length : Int) := of_decide_eq_true as1
  obtain ⟨ad124, A124_2, c124_2, e124, hx124_0, hx124_1, hx124_2, hl124_2, hi124_2⟩ := at_T55 HR0_0.out a1_1 p124 q124
  cases e124
  replace hx124_0 := cl HB hx124_0
  replace hx124_1 := cl HB hx124_1
  replace hx124_2 := cl HB hx124_2
  have HR124_2 := am hi124_2
  have HC124_2 := am hl124_2
  clear hi124_2 hl124_2
  replace p124 := eq_true p124
  replace q124 := eq_true q124
  go_wp2
  go_ret
  exact ⟨er, bw HB⟩
 intro c16 c16b0 c16b1 H
 refine be H ?_; clear H; intro t125 A29 H
 have HC30 := am H
 clear H
 have hnb31 := NB122_121.out
 have hnc31 := NB121_122.out
 have hcz32 := bK wc BK122
 have hfz32 := bF BK122
 go_upto_if 40 with (first | ((with_reducible refine gate_callee (f := 66) rfl ?_); refine goesL_ (some 43) rfl rfl Try.func66 (by kernel_rfl) rfl #[.int .i64 a1_0] rfl gl ?_; (with_reducible refine (spec_l03Unary.calls a1_0 t125 _ A29.out).mono ?_); rintro e w' ⟨rfl, ⟨nd, rfl⟩⟩; refine ⟨_, rfl, ?_⟩))
 (try simp only [Act.put, sa, sz, ss])
 (try simp only [World.drewN_drewN])
 generalize hq_ : World.drewN wc _ = w33
 replace BK121 : Aside0 (w33.heap[gb121]? = some (.cells #[.slice A0_0 l0_0.length c0_0] 34 (0, 0))) := ⟨by rw [← hq_]; exact (bp BK121)⟩
 replace BK122 : Aside0 (w33.heap[gb122]? = some (.cells #[.int .i64 a1_0, .int .i64 a1_1] 85 (0, 0))) := ⟨by rw [← hq_]; exact (bp BK122)⟩
 replace HB : Aside0 (Below w.heap.size w w33) := ⟨by rw [← hq_]; exact (bw HB)⟩
 clear hq_
 have H := HC30.out
 clear HC30
 refine qT H ?_ ?_ <;> clear H <;> intro c34 H <;> subst c34
 ·obtain rfl := Option.some.inj H
  go_wp2
  go_ret
  exact ⟨er, bw HB⟩
 have HC35 := am H
 clear H
 have hnb36 := NB122_121.out
 have hnc36 := NB121_122.out
 have hcz37 := bK w33 BK122
 have hfz37 := bF BK122
 go_upto_if 46 with (fail)
 go_cut [46] (fun v46 wc => ∃ (kq : Nat) (x46_34 : Bool), v46 = .bool x46_34 ∧ Aside0 (spec_Takes.j1 kq x46_34 = some r) ∧ Aside0 (kq ≤ kj2) ∧ Aside0 (wc.heap[gb121]? = some (.cells #[(.slice A0_0 l0_0.length c0_0)] 34 (0, 0))) ∧ Aside0 (wc.heap[gb122]? = some (.cells #[.int .i64 a1_0, .int .i64 a1_1] 85 (0, 0))) ∧ Aside0 (Below w.heap.size w wc))
 case first =>
  have H := HC35.out
  clear HC35
  refine qE H ?_ ?_ <;> clear H
  ·intro c38b0 c38b1 H
   (first | rw [c38b0] | (simp only [i64_w, i32_w]; rw [c38b0]) | skip)
   have H' := am H
   clear H
   go_wp2
   go_meet
   case rel => exact ⟨_, ((a1_0 == 3)), dr, H', ⟨lk1 HJ2⟩, ⟨bp BK121⟩, ⟨bp BK122⟩, ⟨bw HB⟩⟩
  intro c38 c38b0 c38b1 H
  (first | rw [c38b0] | (simp only [i64_w, i32_w]; rw [c38b0]) | skip)
  refine qE H ?_ ?_ <;> clear H
  ·intro c39b0 c39b1 H
   have H' := am H
   clear H
   go_wp2
   go_meet
   case rel => exact ⟨_, ((a1_0 == 4)), dr, H', ⟨lk1 HJ2⟩, ⟨bp BK121⟩, ⟨bp BK122⟩, ⟨bw HB⟩⟩
  intro c39 c39b0 c39b1 H
  refine qE H ?_ ?_ <;> clear H
  ·intro c40b0 c40b1 H
   have H' := am H
   clear H
   go_wp2
   go_meet
   case rel => exact ⟨_, ((a1_0 == 5)), dr, H', ⟨lk1 HJ2⟩, ⟨bp BK121⟩, ⟨bp BK122⟩, ⟨bw HB⟩⟩
  intro c40 c40b0 c40b1 H
  refine qE H ?_ ?_ <;> clear H
  ·intro c41b0 c41b1 H
   have H' := am H
   clear H
   go_wp2
   go_meet
   case rel => exact ⟨_, ((a1_0 == 31)), dr, H', ⟨lk1 HJ2⟩, ⟨bp BK121⟩, ⟨bp BK122⟩, ⟨bw HB⟩⟩
  intro c41 c41b0 c41b1 H
  refine qE H ?_ ?_ <;> clear H
  ·intro c42b0 c42b1 H
   have H' := am H
   clear H
   go_wp2
   go_meet
   case rel => exact ⟨_, ((a1_0 == 33)), dr, H', ⟨lk1 HJ2⟩, ⟨bp BK121⟩, ⟨bp BK122⟩, ⟨bw HB⟩⟩
  intro c42 c42b0 c42b1 H
  refine qE H ?_ ?_ <;> clear H
  ·intro c43b0 c43b1 H
   have H' := am H
   clear H
   go_wp2
   go_meet
   case rel => exact ⟨_, ((a1_0 == 34)), dr, H', ⟨lk1 HJ2⟩, ⟨bp BK121⟩, ⟨bp BK122⟩, ⟨bw HB⟩⟩
  intro c43 c43b0 c43b1 H
  refine qE H ?_ ?_ <;> clear H
  ·intro c44b0 c44b1 H
   have H' := am H
   clear H
   go_wp2
   go_meet
   case rel => exact ⟨_, ((a1_0 == 37)), dr, H', ⟨lk1 HJ2⟩, ⟨bp BK121⟩, ⟨bp BK122⟩, ⟨bw HB⟩⟩
  intro c44 c44b0 c44b1 H
  have H' := am H
  clear H
  go_wp2
  go_meet
  case rel => exact ⟨_, ((a1_0 == 38)), dr, H', ⟨lk1 HJ2⟩, ⟨bp BK121⟩, ⟨bp BK122⟩, ⟨bw HB⟩⟩
 clear HC35
 (try clear p1); (try clear q1); (try clear hx1); (try clear c2); (try clear c3); (try clear c4); (try clear c12); (try clear p12); (try clear q12); (try clear hx12); (try clear c13); (try clear c13b0); (try clear c13b1); (try clear c14); (try clear c16); (try clear c16b0); (try clear c16b1); (try clear c17); (try clear c17b0); (try clear c18); (try clear c20); (try clear c20b0); (try clear c21); (try clear c24); (try clear c24b0); (try clear c25); (try clear c25b0); (try clear c26); (try clear c31); (try clear c34); (try clear c36); (try clear c38); (try clear c38b0); (try clear c38b1); (try clear c39); (try clear c39b0); (try clear c39b1); (try clear c40); (try clear c40b0); (try clear c40b1); (try clear c41); (try clear c41b0); (try clear c41b1); (try clear c42); (try clear c42b0); (try clear c42b1); (try clear c43); (try clear c43b0); (try clear c43b1); (try clear c44); (try clear c44b0); (try clear c44b1); (try clear hcz15); (try clear hcz19); (try clear hcz22); (try clear hcz23); (try clear hcz27); (try clear hcz28); (try clear hcz32); (try clear hcz37); (try clear hfz15); (try clear hfz19); (try clear hfz22); (try clear hfz23); (try clear hfz27); (try clear hfz28); (try clear hfz32); (try clear hfz37); (try clear hx124_0); (try clear hx124_1); (try clear hx124_2); (try clear p124); (try clear q124)
 obtain ⟨kq, x46_34, rfl, HA, HJ34, BK121, BK122, HB⟩ := hcut
 rcases kq with _ | kj34
 ·exact absurd HA.out (by simp [spec_Takes.j1])
 have H := HA.out
 clear HA
 simp only [spec_Takes.j1] at H
 refine qT H ?_ ?_ <;> clear H <;> intro c45 H <;> subst c45
 ·obtain rfl := Option.some.inj H
  go_wp2
  go_ret
  exact ⟨er, bw HB⟩
 obtain rfl := Option.some.inj H
 go_wp2
 go_ret
 exact ⟨er, bw HB⟩

mutual
def spec_Puts.j0 : Nat → Bool → Int → Int → Option (Int)
 | 0, _, _, _ => none
 | k + 1, x10, x127000, x127001 => if x10 = true then (some 1) else (if x127000 = 4 then (some 2) else (if x127000 = 1 then (spec_Puts.j1 k (x127000 == 1)) else (if x127000 = 2 then (spec_Puts.j1 k (x127000 == 2)) else (if x127000 = 32 then (spec_Puts.j1 k (x127000 == 32)) else (if x127000 = 34 then (spec_Puts.j1 k (x127000 == 34)) else (if x127000 = 35 then (spec_Puts.j1 k (x127000 == 35)) else (spec_Puts.j1 k (x127000 == 37))))))))
def spec_Puts.j1 : Nat → Bool → Option (Int)
 | 0, _ => none
 | k + 1, x15 => if x15 = true then (some 1) else (some 0)
end
def spec_Puts.f (k : Nat) (a0_0 : Int) (a0_1 : Int) : Option (Int) := (spec_l03Binary.f a0_0).bind fun t127 => (if t127 = true then (spec_Puts.j0 k true a0_0 a0_1) else ((spec_l03Unary.f a0_0).bind fun t128 => (spec_Puts.j0 k t128 a0_0 a0_1)))
theorem spec_Puts.mono_l : ∀ k, (∀ y0 y1 y2, LeO (spec_Puts.j0 k y0 y1 y2) (spec_Puts.j0 (k + 1) y0 y1 y2)) ∧ (∀ y0, LeO (spec_Puts.j1 k y0) (spec_Puts.j1 (k + 1) y0))
 | 0 => ⟨fun _ _ _ r h => by simp [spec_Puts.j0] at h, fun _ r h => by simp [spec_Puts.j1] at h⟩
 | k + 1 => by
  obtain ⟨ih0, ih1⟩ := spec_Puts.mono_l k
  refine ⟨?_, ?_⟩
  ·intro y0 y1 y2
   unfold spec_Puts.j0
   with_reducible repeat' first | exact ih0 .. | exact ih1 .. | exact LeO.refl _ | exact LeO.none _ | refine LeO.ite ?_ ?_ | refine LeO.bind ?_ (fun _ => ?_)
  ·intro y0
   unfold spec_Puts.j1
   with_reducible repeat' first | exact ih0 .. | exact ih1 .. | exact LeO.refl _ | exact LeO.none _ | refine LeO.ite ?_ ?_ | refine LeO.bind ?_ (fun _ => ?_)
theorem spec_Puts.mono : ∀ a0 a1 k, LeO (spec_Puts.f k a0 a1) (spec_Puts.f (k + 1) a0 a1) := by
 intro a0 a1 k
 obtain ⟨ih0, ih1⟩ := spec_Puts.mono_l k
 unfold spec_Puts.f
 with_reducible repeat' first | exact ih0 .. | exact ih1 .. | exact LeO.refl _ | exact LeO.none _ | refine LeO.ite ?_ ?_ | refine LeO.bind ?_ (fun _ => ?_)
theorem spec_Puts.calls (k : Nat) (a0_0 : Int) (a0_1 : Int) (r : Int) (w : World) (h : spec_Puts.f k a0_0 a0_1 = some r) :
  Calls Try.prog 64 #[.agg #[.int .i64 a0_0, .int .i64 a0_1]] w fun e w' => e = .returned (.int .i64 r) ∧ Below w.heap.size w w' := by
 have hu85 := Try.underlying85
 have HB := am (Below.refl w.heap.size w)
 have H : ((spec_l03Binary.f a0_0).bind fun t127 => (if t127 = true then (spec_Puts.j0 k true a0_0 a0_1) else ((spec_l03Unary.f a0_0).bind fun t128 => (spec_Puts.j0 k t128 a0_0 a0_1)))) = some r := h
 clear h
 have HC2 := am H
 clear H
 go_enter Try.func64, Try.ntmps64
 go_upto_region 1 with (first | ((with_reducible refine gd 1 rfl ?_); refine bX 1 #[.int .i64 a0_0, .int .i64 a0_1] 85 HB ?_; clear HB; intro gb126 w3 hg hb BK126 GW126 HB; clear hb hg))
 (try simp only [Act.put, sa, sz, ss])
 go_cut [10] (fun v10 wc => ∃ (kq : Nat) (x10_1 : Bool), v10 = .bool x10_1 ∧ Aside0 (spec_Puts.j0 kq x10_1 a0_0 a0_1 = some r) ∧ Aside0 (kq ≤ k) ∧ Aside0 (wc.heap[gb126]? = some (.cells #[.int .i64 a0_0, .int .i64 a0_1] 85 (0, 0))) ∧ Aside0 (Below w.heap.size w wc))
 case first =>
  have H := HC2.out
  clear HC2
  refine be H ?_; clear H; intro t127 A4 H
  refine qT H ?_ ?_ <;> clear H <;> intro c5 H <;> subst c5
  ·have H' := am H
   clear H
   have hcz6 := bK w3 BK126
   have hfz6 := bF BK126
   go_wp2_with (first | ((with_reducible refine gate_callee (f := 65) rfl ?_); refine goesL_ (some 5) rfl rfl Try.func65 (by kernel_rfl) rfl #[.int .i64 a0_0] rfl gl ?_; (with_reducible refine (spec_l03Binary.calls a0_0 true _ A4.out).mono ?_); rintro e w' ⟨rfl, ⟨nd, rfl⟩⟩; refine ⟨_, rfl, ?_⟩))
   go_meet
   case rel => exact ⟨_, (true), dr, H', ⟨lk0⟩, ⟨bp BK126⟩, ⟨bw HB⟩⟩
  refine be H ?_; clear H; intro t128 A7 H
  have H' := am H
  clear H
  have hcz8 := bK w3 BK126
  have hfz8 := bF BK126
  go_wp2_with (first | ((with_reducible refine gate_callee (f := 65) rfl ?_); refine goesL_ (some 5) rfl rfl Try.func65 (by kernel_rfl) rfl #[.int .i64 a0_0] rfl gl ?_; (with_reducible refine (spec_l03Binary.calls a0_0 false _ A4.out).mono ?_); rintro e w' ⟨rfl, ⟨nd, rfl⟩⟩; refine ⟨_, rfl, ?_⟩) | (go_at_call 66; (with_reducible refine (spec_l03Unary.calls a0_0 t128 _ A7.out).mono ?_); rintro e w' ⟨rfl, ⟨nd, rfl⟩⟩))
  go_meet
  case rel => exact ⟨_, (t128), dr, H', ⟨lk0⟩, ⟨bp BK126⟩, ⟨bw HB⟩⟩
 clear HC2
 (try clear p2); (try clear c5); (try clear c6); (try clear hcz6); (try clear hcz8); (try clear hfz6); (try clear hfz8)
 obtain ⟨kq, x10_1, rfl, HA, HJ1, BK126, HB⟩ := hcut
 rcases kq with _ | kj1
 ·exact absurd HA.out (by simp [spec_Puts.j0])
 have H := HA.out
 clear HA
 simp only [spec_Puts.j0] at H
 refine qT H ?_ ?_ <;> clear H <;> intro c9 H <;> subst c9
 ·obtain rfl := Option.some.inj H
  go_wp2
  go_ret
  exact ⟨er, bw HB⟩
 refine qE H ?_ ?_ <;> clear H
 ·intro c10b0 c10b1 H
  obtain rfl := Option.some.inj H
  have hcz11 := bK wc BK126
  have hfz11 := bF BK126
  go_wp2
  go_ret
  exact ⟨er, bw HB⟩
 intro c10 c10b0 c10b1 H
 have HC12 := am H
 clear H
 have hcz13 := bK wc BK126
 have hfz13 := bF BK126
 go_upto_if 15 with (fail)
 go_cut [15] (fun v15 wc => ∃ (kq : Nat) (x15_11 : Bool), v15 = .bool x15_11 ∧ Aside0 (spec_Puts.j1 kq x15_11 = some r) ∧ Aside0 (kq ≤ kj1) ∧ Aside0 (wc.heap[gb126]? = some (.cells #[.int .i64 a0_0, .int .i64 a0_1] 85 (0, 0))) ∧ Aside0 (Below w.heap.size w wc))
 case first =>
  have H := HC12.out
  clear HC12
  refine qE H ?_ ?_ <;> clear H
  ·intro c14b0 c14b1 H
   (first | rw [c14b0] | (simp only [i64_w, i32_w]; rw [c14b0]) | skip)
   have H' := am H
   clear H
   go_wp2
   go_meet
   case rel => exact ⟨_, ((a0_0 == 1)), dr, H', ⟨lk1 HJ1⟩, ⟨bp BK126⟩, ⟨bw HB⟩⟩
  intro c14 c14b0 c14b1 H
  (first | rw [c14b0] | (simp only [i64_w, i32_w]; rw [c14b0]) | skip)
  refine qE H ?_ ?_ <;> clear H
  ·intro c15b0 c15b1 H
   have H' := am H
   clear H
   go_wp2
   go_meet
   case rel => exact ⟨_, ((a0_0 == 2)), dr, H', ⟨lk1 HJ1⟩, ⟨bp BK126⟩, ⟨bw HB⟩⟩
  intro c15 c15b0 c15b1 H
  refine qE H ?_ ?_ <;> clear H
  ·intro c16b0 c16b1 H
   have H' := am H
   clear H
   go_wp2
   go_meet
   case rel => exact ⟨_, ((a0_0 == 32)), dr, H', ⟨lk1 HJ1⟩, ⟨bp BK126⟩, ⟨bw HB⟩⟩
  intro c16 c16b0 c16b1 H
  refine qE H ?_ ?_ <;> clear H
  ·intro c17b0 c17b1 H
   have H' := am H
   clear H
   go_wp2
   go_meet
   case rel => exact ⟨_, ((a0_0 == 34)), dr, H', ⟨lk1 HJ1⟩, ⟨bp BK126⟩, ⟨bw HB⟩⟩
  intro c17 c17b0 c17b1 H
  refine qE H ?_ ?_ <;> clear H
  ·intro c18b0 c18b1 H
   have H' := am H
   clear H
   go_wp2
   go_meet
   case rel => exact ⟨_, ((a0_0 == 35)), dr, H', ⟨lk1 HJ1⟩, ⟨bp BK126⟩, ⟨bw HB⟩⟩
  intro c18 c18b0 c18b1 H
  have H' := am H
  clear H
  go_wp2
  go_meet
  case rel => exact ⟨_, ((a0_0 == 37)), dr, H', ⟨lk1 HJ1⟩, ⟨bp BK126⟩, ⟨bw HB⟩⟩
 clear HC12
 (try clear c1); (try clear c9); (try clear c10); (try clear c10b0); (try clear c10b1); (try clear c14); (try clear c14b0); (try clear c14b1); (try clear c15); (try clear c15b0); (try clear c15b1); (try clear c16); (try clear c16b0); (try clear c16b1); (try clear c17); (try clear c17b0); (try clear c17b1); (try clear c18); (try clear c18b0); (try clear c18b1); (try clear hcz11); (try clear hcz13); (try clear hfz11); (try clear hfz13)
 obtain ⟨kq, x15_11, rfl, HA, HJ11, BK126, HB⟩ := hcut
 rcases kq with _ | kj11
 ·exact absurd HA.out (by simp [spec_Puts.j1])
 have H := HA.out
 clear HA
 simp only [spec_Puts.j1] at H
 refine qT H ?_ ?_ <;> clear H <;> intro c19 H <;> subst c19
 ·obtain rfl := Option.some.inj H
  go_wp2
  go_ret
  exact ⟨er, bw HB⟩
 obtain rfl := Option.some.inj H
 go_wp2
 go_ret
 exact ⟨er, bw HB⟩

end Go.Proofs.Ytoegdbeajgddiaa.QFnExactBegin
