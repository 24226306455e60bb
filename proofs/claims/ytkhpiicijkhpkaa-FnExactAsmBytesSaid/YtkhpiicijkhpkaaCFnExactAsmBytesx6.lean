import Derived.Test.YtkhpiicijkhpkaaCFnExactAsmBytesx0
import Derived.Test.YtkhpiicijkhpkaaCFnExactAsmBytesx5
namespace Go.Proofs.Ytkhpiicijkhpkaa.QFnExactAsmBytes
open Go.RowKit Go.Proofs.YtkhpiicijkhpkaaW
open PrintWords PrintLast PrintMore PrintShort PrintIsh
attribute [local go_sem] max2_int min2_int max_two min_two max_three min_three max_four min_four
set_option linter.unusedVariables false
set_option maxHeartbeats 8000000
set_option maxRecDepth 100000
set_option linter.unusedSimpArgs false

mutual
def spec_Takes.j0 : Nat → Bool → List (S121) → Int → Int → Option (Int)
 | 0, _, _, _, _ => none
 | k + 1, x5, x165000, x166000, x166001 => if x5 = true then (some 2) else (if x166000 = 36 then (some 3) else (if x166000 = 32 then (if x166001 < 0 then (some 0) else (if x166001 ≥ (x165000.length : Int) then (some 0) else (if 0 ≤ x166001 then (if x166001 < (x165000.length : Int) then (some ((rd_T121 x165000 x166001).f0)) else (none)) else (none)))) else ((spec_l03Unary.f x166000).bind fun t168 => (if t168 = true then (some 1) else (if x166000 = 3 then (spec_Takes.j1 k (x166000 == 3)) else (if x166000 = 4 then (spec_Takes.j1 k (x166000 == 4)) else (if x166000 = 5 then (spec_Takes.j1 k (x166000 == 5)) else (if x166000 = 31 then (spec_Takes.j1 k (x166000 == 31)) else (if x166000 = 33 then (spec_Takes.j1 k (x166000 == 33)) else (if x166000 = 34 then (spec_Takes.j1 k (x166000 == 34)) else (if x166000 = 37 then (spec_Takes.j1 k (x166000 == 37)) else (spec_Takes.j1 k (x166000 == 38)))))))))))))
def spec_Takes.j1 : Nat → Bool → Option (Int)
 | 0, _ => none
 | k + 1, x46 => if x46 = true then (some 1) else (some 0)
end
def spec_Takes.f (k : Nat) (l0_0 : List (S121)) (a1_0 : Int) (a1_1 : Int) : Option (Int) := (spec_l03Binary.f a1_0).bind fun t166 => (if t166 = true then (spec_Takes.j0 k true l0_0 a1_0 a1_1) else (spec_Takes.j0 k (a1_0 == 35) l0_0 a1_0 a1_1))
theorem spec_Takes.mono_l : ∀ k, (∀ y0 y1 y2 y3, LeO (spec_Takes.j0 k y0 y1 y2 y3) (spec_Takes.j0 (k + 1) y0 y1 y2 y3)) ∧ (∀ y0, LeO (spec_Takes.j1 k y0) (spec_Takes.j1 (k + 1) y0))
 | 0 => ⟨fun _ _ _ _ r h => by simp [spec_Takes.j0] at h, fun _ r h => by simp [spec_Takes.j1] at h⟩
 | k + 1 => by
  obtain ⟨ih0, ih1⟩ := spec_Takes.mono_l k
  refine ⟨?_, ?_⟩
  ·intro y0 y1 y2 y3
   unfold spec_Takes.j0
   with_reducible repeat' first | exact ih0 .. | exact ih1 .. | exact LeO.refl _ | exact LeO.none _ | refine LeO.ite ?_ ?_ | refine LeO.bind ?_ (fun _ => ?_)
  ·intro y0
   unfold spec_Takes.j1
   with_reducible repeat' first | exact ih0 .. | exact ih1 .. | exact LeO.refl _ | exact LeO.none _ | refine LeO.ite ?_ ?_ | refine LeO.bind ?_ (fun _ => ?_)
theorem spec_Takes.mono : ∀ a0 a1 a2 k, LeO (spec_Takes.f k a0 a1 a2) (spec_Takes.f (k + 1) a0 a1 a2) := by
 intro a0 a1 a2 k
 obtain ⟨ih0, ih1⟩ := spec_Takes.mono_l k
 unfold spec_Takes.f
 with_reducible repeat' first | exact ih0 .. | exact ih1 .. | exact LeO.refl _ | exact LeO.none _ | refine LeO.ite ?_ ?_ | refine LeO.bind ?_ (fun _ => ?_)
theorem spec_Takes.calls (k : Nat) (A0_0 : Option Addr) (c0_0 : Nat) (l0_0 : List (S121)) (a1_0 : Int) (a1_1 : Int) (r : Int) (w : World) (hr0_0 : Kd.C k121 w A0_0 l0_0.length l0_0) (hc0_0 : l0_0.length ≤ c0_0) (h : spec_Takes.f k l0_0 a1_0 a1_1 = some r) :
  Calls Try.prog 127 #[.agg #[.slice A0_0 l0_0.length c0_0], .agg #[.int .i64 a1_0, .int .i64 a1_1]] w fun e w' => e = .returned (.int .i64 r) ∧ Below w.heap.size w w' := by
 have hu32 := Try.underlying32
 have hu153 := Try.underlying153
 have HR0_0 := am hr0_0
 have HC0_0 := am hc0_0
 clear hr0_0 hc0_0
 have HB := am (Below.refl w.heap.size w)
 have H : ((spec_l03Binary.f a1_0).bind fun t166 => (if t166 = true then (spec_Takes.j0 k true l0_0 a1_0 a1_1) else (spec_Takes.j0 k (a1_0 == 35) l0_0 a1_0 a1_1))) = some r := h
 clear h
 have HC3 := am H
 clear H
 go_enter Try.func127, Try.ntmps127
 go_upto_region 1 with (first | ((with_reducible refine gate_dst (N := 2) rfl ?_); (try (refine gate_guard (by rfl) ?_; dsimp only)); refine box_event ?hg (N := 2) ?hd (cs := #[.slice A0_0 l0_0.length c0_0]) (t := 32) ?hr ?_; (case hd => rfl); (case hg => rfl); (case hr => exact gs); intro gb164 hg w4 hbox hb; have BK164 := am (hbox); have GW164 := gw hg HB; replace HB := bs HB hb; clear hb hbox hg) | ((with_reducible refine gate_dst (N := 3) rfl ?_); (try (refine gate_guard (by rfl) ?_; dsimp only)); refine box_event ?hg (N := 3) ?hd (cs := #[.int .i64 a1_0, .int .i64 a1_1]) (t := 153) ?hr ?_; (case hd => rfl); (case hg => rfl); (case hr => exact gs); intro gb165 hg w5 hbox hb; have BK165 := am (hbox); have GW165 := gw hg HB; replace HB := bs HB hb; obtain ⟨NB164_165, NB165_164, BK164⟩ := b3 hg BK164 hb; clear hb hbox hg))
 (try simp only [Act.put, sa, sz, ss])
 go_cut [5] (fun v5 wc => ∃ (kq : Nat) (x5_2 : Bool), v5 = .bool x5_2 ∧ Aside0 (spec_Takes.j0 kq x5_2 l0_0 a1_0 a1_1 = some r) ∧ Aside0 (kq ≤ k) ∧ Aside0 (wc.heap[gb164]? = some (.cells #[(.slice A0_0 l0_0.length c0_0)] 32 (0, 0))) ∧ Aside0 (wc.heap[gb165]? = some (.cells #[.int .i64 a1_0, .int .i64 a1_1] 153 (0, 0))) ∧ Aside0 (Below w.heap.size w wc))
 case first =>
  have H := HC3.out
  clear HC3
  refine be H ?_; clear H; intro t166 A6 H
  refine qT H ?_ ?_ <;> clear H <;> intro c7 H <;> subst c7
  ·have H' := am H
   clear H
   have hnb8 := NB165_164.out
   have hnc8 := NB164_165.out
   have hcz9 := bK w5 BK165
   have hfz9 := bF BK165
   go_wp2_with (first | ((with_reducible refine gate_callee (f := 131) rfl ?_); refine goesL_ (some 8) rfl rfl Try.func131 (by kernel_rfl) rfl #[.int .i64 a1_0] rfl gl ?_; (with_reducible refine (spec_l03Binary.calls a1_0 true _ A6.out).mono ?_); rintro e w' ⟨rfl, ⟨nd, rfl⟩⟩; refine ⟨_, rfl, ?_⟩))
   go_meet
   case rel => exact ⟨_, (true), dr, H', ⟨lk0⟩, ⟨bp BK164⟩, ⟨bp BK165⟩, ⟨bw HB⟩⟩
  have H' := am H
  clear H
  have hnb10 := NB165_164.out
  have hnc10 := NB164_165.out
  have hcz11 := bK w5 BK165
  have hfz11 := bF BK165
  go_wp2_with (first | ((with_reducible refine gate_callee (f := 131) rfl ?_); refine goesL_ (some 8) rfl rfl Try.func131 (by kernel_rfl) rfl #[.int .i64 a1_0] rfl gl ?_; (with_reducible refine (spec_l03Binary.calls a1_0 false _ A6.out).mono ?_); rintro e w' ⟨rfl, ⟨nd, rfl⟩⟩; refine ⟨_, rfl, ?_⟩))
  go_meet
  case rel => exact ⟨_, ((a1_0 == 35)), dr, H', ⟨lk0⟩, ⟨bp BK164⟩, ⟨bp BK165⟩, ⟨bw HB⟩⟩
 clear HC3
 obtain ⟨kq, x5_2, rfl, HA, HJ2, BK164, BK165, HB⟩ := hcut
 rcases kq with _ | kj2
 ·exact absurd HA.out (by simp [spec_Takes.j0])
 have H := HA.out
 clear HA
 simp only [spec_Takes.j0] at H
 refine qT H ?_ ?_ <;> clear H <;> intro c12 H <;> subst c12
 ·obtain rfl := oi H
  go_wp2
  go_ret
  exact ⟨er, bw HB⟩
 refine qE H ?_ ?_ <;> clear H
 ·intro c13b0 c13b1 H
  obtain rfl := oi H
  have hnb14 := NB165_164.out
  have hnc14 := NB164_165.out
  have hcz15 := bK wc BK165
  have hfz15 := bF BK165
  go_wp2
  go_ret
  exact ⟨er, bw HB⟩
 intro c13 c13b0 c13b1 H
 refine qE H ?_ ?_ <;> clear H
 ·intro c16b0 c16b1 H
  refine qI H ?_ ?_ <;> clear H <;> intro c17b0 H
  ·obtain rfl := oi H
   have hnb18 := NB165_164.out
   have hnc18 := NB164_165.out
   have hcz19 := bK wc BK165
   have hfz19 := bF BK165
   go_wp2
   go_ret
   exact ⟨er, bw HB⟩
  refine qL H ?_ ?_ <;> clear H <;> intro c20b0 H
  ·obtain rfl := oi H
   have hnb21 := NB165_164.out
   have hnc21 := NB164_165.out
   have hcz22 := bK wc BK165
   have hfz22 := bF BK165
   have hcz23 := bK wc BK164
   have hfz23 := bF BK164
   go_wp2
   go_ret
   exact ⟨er, bw HB⟩
  refine iM H ?_; clear H; intro c24b0 H
  refine iM H ?_; clear H; intro c25b0 H
  obtain rfl := oi H
  have hnb26 := NB165_164.out
  have hnc26 := NB164_165.out
  have hcz27 := bK wc BK165
  have hfz27 := bF BK165
  have hcz28 := bK wc BK164
  have hfz28 := bF BK164
  have p167 : 0 ≤ (a1_1 : Int) := dt
  have q167 : a1_1 < (l0_0.length : Int) := dt
  obtain ⟨ad167, A167_2, c167_2, e167, hx167_0, hx167_1, hx167_2, hl167_2, hi167_2⟩ := at_T121 HR0_0.out a1_1 p167 q167
  cases e167
  replace hx167_0 := cl HB hx167_0
  replace hx167_1 := cl HB hx167_1
  replace hx167_2 := cl HB hx167_2
  have HR167_2 := am hi167_2
  have HC167_2 := am hl167_2
  clear hi167_2 hl167_2
  replace p167 := eq_true p167
  replace q167 := eq_true q167
  go_wp2
  go_ret
  exact ⟨er, bw HB⟩
 intro c16 c16b0 c16b1 H
 refine be H ?_; clear H; intro t168 A29 H
 have HC30 := am H
 clear H
 have hnb31 := NB165_164.out
 have hnc31 := NB164_165.out
 have hcz32 := bK wc BK165
 have hfz32 := bF BK165
 go_upto_if 40 with (first | ((with_reducible refine gate_callee (f := 132) rfl ?_); refine goesL_ (some 43) rfl rfl Try.func132 (by kernel_rfl) rfl #[.int .i64 a1_0] rfl gl ?_; (with_reducible refine (spec_l03Unary.calls a1_0 t168 _ A29.out).mono ?_); rintro e w' ⟨rfl, ⟨nd, rfl⟩⟩; refine ⟨_, rfl, ?_⟩))
 (try simp only [Act.put, sa, sz, ss])
 (try simp only [World.drewN_drewN])
 generalize hq_ : World.drewN wc _ = w33
 replace BK164 : Aside0 (w33.heap[gb164]? = some (.cells #[.slice A0_0 l0_0.length c0_0] 32 (0, 0))) := ⟨by rw [← hq_]; exact (bp BK164)⟩
 replace BK165 : Aside0 (w33.heap[gb165]? = some (.cells #[.int .i64 a1_0, .int .i64 a1_1] 153 (0, 0))) := ⟨by rw [← hq_]; exact (bp BK165)⟩
 replace HB : Aside0 (Below w.heap.size w w33) := ⟨by rw [← hq_]; exact (bw HB)⟩
 clear hq_
 have H := HC30.out
 clear HC30
 refine qT H ?_ ?_ <;> clear H <;> intro c34 H <;> subst c34
 ·obtain rfl := oi H
  go_wp2
  go_ret
  exact ⟨er, bw HB⟩
 have HC35 := am H
 clear H
 have hnb36 := NB165_164.out
 have hnc36 := NB164_165.out
 have hcz37 := bK w33 BK165
 have hfz37 := bF BK165
 go_upto_if 46 with (fail)
 go_cut [46] (fun v46 wc => ∃ (kq : Nat) (x46_34 : Bool), v46 = .bool x46_34 ∧ Aside0 (spec_Takes.j1 kq x46_34 = some r) ∧ Aside0 (kq ≤ kj2) ∧ Aside0 (wc.heap[gb164]? = some (.cells #[(.slice A0_0 l0_0.length c0_0)] 32 (0, 0))) ∧ Aside0 (wc.heap[gb165]? = some (.cells #[.int .i64 a1_0, .int .i64 a1_1] 153 (0, 0))) ∧ Aside0 (Below w.heap.size w wc))
 case first =>
  have H := HC35.out
  clear HC35
  refine qE H ?_ ?_ <;> clear H
  ·intro c38b0 c38b1 H
   (first | rw [c38b0] | (simp only [i64_w, i32_w]; rw [c38b0]) | skip)
   have H' := am H
   clear H
   go_wp2
   go_meet
   case rel => exact ⟨_, ((a1_0 == 3)), dr, H', ⟨lk1 HJ2⟩, ⟨bp BK164⟩, ⟨bp BK165⟩, ⟨bw HB⟩⟩
  intro c38 c38b0 c38b1 H
  (first | rw [c38b0] | (simp only [i64_w, i32_w]; rw [c38b0]) | skip)
  refine qE H ?_ ?_ <;> clear H
  ·intro c39b0 c39b1 H
   have H' := am H
   clear H
   go_wp2
   go_meet
   case rel => exact ⟨_, ((a1_0 == 4)), dr, H', ⟨lk1 HJ2⟩, ⟨bp BK164⟩, ⟨bp BK165⟩, ⟨bw HB⟩⟩
  intro c39 c39b0 c39b1 H
  refine qE H ?_ ?_ <;> clear H
  ·intro c40b0 c40b1 H
   have H' := am H
   clear H
   go_wp2
   go_meet
   case rel => exact ⟨_, ((a1_0 == 5)), dr, H', ⟨lk1 HJ2⟩, ⟨bp BK164⟩, ⟨bp BK165⟩, ⟨bw HB⟩⟩
  intro c40 c40b0 c40b1 H
  refine qE H ?_ ?_ <;> clear H
  ·intro c41b0 c41b1 H
   have H' := am H
   clear H
   go_wp2
   go_meet
   case rel => exact ⟨_, ((a1_0 == 31)), dr, H', ⟨lk1 HJ2⟩, ⟨bp BK164⟩, ⟨bp BK165⟩, ⟨bw HB⟩⟩
  intro c41 c41b0 c41b1 H
  refine qE H ?_ ?_ <;> clear H
  ·intro c42b0 c42b1 H
   have H' := am H
   clear H
   go_wp2
   go_meet
   case rel => exact ⟨_, ((a1_0 == 33)), dr, H', ⟨lk1 HJ2⟩, ⟨bp BK164⟩, ⟨bp BK165⟩, ⟨bw HB⟩⟩
  intro c42 c42b0 c42b1 H
  refine qE H ?_ ?_ <;> clear H
  ·intro c43b0 c43b1 H
   have H' := am H
   clear H
   go_wp2
   go_meet
   case rel => exact ⟨_, ((a1_0 == 34)), dr, H', ⟨lk1 HJ2⟩, ⟨bp BK164⟩, ⟨bp BK165⟩, ⟨bw HB⟩⟩
  intro c43 c43b0 c43b1 H
  refine qE H ?_ ?_ <;> clear H
  ·intro c44b0 c44b1 H
   have H' := am H
   clear H
   go_wp2
   go_meet
   case rel => exact ⟨_, ((a1_0 == 37)), dr, H', ⟨lk1 HJ2⟩, ⟨bp BK164⟩, ⟨bp BK165⟩, ⟨bw HB⟩⟩
  intro c44 c44b0 c44b1 H
  have H' := am H
  clear H
  go_wp2
  go_meet
  case rel => exact ⟨_, ((a1_0 == 38)), dr, H', ⟨lk1 HJ2⟩, ⟨bp BK164⟩, ⟨bp BK165⟩, ⟨bw HB⟩⟩
 clear HC35
 obtain ⟨kq, x46_34, rfl, HA, HJ34, BK164, BK165, HB⟩ := hcut
 rcases kq with _ | kj34
 ·exact absurd HA.out (by simp [spec_Takes.j1])
 have H := HA.out
 clear HA
 simp only [spec_Takes.j1] at H
 refine qT H ?_ ?_ <;> clear H <;> intro c45 H <;> subst c45
 ·obtain rfl := oi H
  go_wp2
  go_ret
  exact ⟨er, bw HB⟩
 obtain rfl := oi H
 go_wp2
 go_ret
 exact ⟨er, bw HB⟩

mutual
def spec_Puts.j0 : Nat → Bool → Int → Int → Option (Int)
 | 0, _, _, _ => none
 | k + 1, x10, x170000, x170001 => if x10 = true then (some 1) else (if x170000 = 4 then (some 2) else (if x170000 = 1 then (spec_Puts.j1 k (x170000 == 1)) else (if x170000 = 2 then (spec_Puts.j1 k (x170000 == 2)) else (if x170000 = 32 then (spec_Puts.j1 k (x170000 == 32)) else (if x170000 = 34 then (spec_Puts.j1 k (x170000 == 34)) else (if x170000 = 35 then (spec_Puts.j1 k (x170000 == 35)) else (spec_Puts.j1 k (x170000 == 37))))))))
def spec_Puts.j1 : Nat → Bool → Option (Int)
 | 0, _ => none
 | k + 1, x15 => if x15 = true then (some 1) else (some 0)
end
def spec_Puts.f (k : Nat) (a0_0 : Int) (a0_1 : Int) : Option (Int) := (spec_l03Binary.f a0_0).bind fun t170 => (if t170 = true then (spec_Puts.j0 k true a0_0 a0_1) else ((spec_l03Unary.f a0_0).bind fun t171 => (spec_Puts.j0 k t171 a0_0 a0_1)))
theorem spec_Puts.mono_l : ∀ k, (∀ y0 y1 y2, LeO (spec_Puts.j0 k y0 y1 y2) (spec_Puts.j0 (k + 1) y0 y1 y2)) ∧ (∀ y0, LeO (spec_Puts.j1 k y0) (spec_Puts.j1 (k + 1) y0))
 | 0 => ⟨fun _ _ _ r h => by simp [spec_Puts.j0] at h, fun _ r h => by simp [spec_Puts.j1] at h⟩
 | k + 1 => by
  obtain ⟨ih0, ih1⟩ := spec_Puts.mono_l k
  refine ⟨?_, ?_⟩
  ·intro y0 y1 y2
   unfold spec_Puts.j0
   with_reducible repeat' first | exact ih0 .. | exact ih1 .. | exact LeO.refl _ | exact LeO.none _ | refine LeO.ite ?_ ?_ | refine LeO.bind ?_ (fun _ => ?_)
  ·intro y0
   unfold spec_Puts.j1
   with_reducible repeat' first | exact ih0 .. | exact ih1 .. | exact LeO.refl _ | exact LeO.none _ | refine LeO.ite ?_ ?_ | refine LeO.bind ?_ (fun _ => ?_)
theorem spec_Puts.mono : ∀ a0 a1 k, LeO (spec_Puts.f k a0 a1) (spec_Puts.f (k + 1) a0 a1) := by
 intro a0 a1 k
 obtain ⟨ih0, ih1⟩ := spec_Puts.mono_l k
 unfold spec_Puts.f
 with_reducible repeat' first | exact ih0 .. | exact ih1 .. | exact LeO.refl _ | exact LeO.none _ | refine LeO.ite ?_ ?_ | refine LeO.bind ?_ (fun _ => ?_)
theorem spec_Puts.calls (k : Nat) (a0_0 : Int) (a0_1 : Int) (r : Int) (w : World) (h : spec_Puts.f k a0_0 a0_1 = some r) :
  Calls Try.prog 128 #[.agg #[.int .i64 a0_0, .int .i64 a0_1]] w fun e w' => e = .returned (.int .i64 r) ∧ Below w.heap.size w w' := by
 have hu153 := Try.underlying153
 have HB := am (Below.refl w.heap.size w)
 have H : ((spec_l03Binary.f a0_0).bind fun t170 => (if t170 = true then (spec_Puts.j0 k true a0_0 a0_1) else ((spec_l03Unary.f a0_0).bind fun t171 => (spec_Puts.j0 k t171 a0_0 a0_1)))) = some r := h
 clear h
 have HC2 := am H
 clear H
 go_enter Try.func128, Try.ntmps128
 go_upto_region 1 with (first | ((with_reducible refine gd 1 rfl ?_); refine bX 1 #[.int .i64 a0_0, .int .i64 a0_1] 153 HB ?_; clear HB; intro gb169 w3 hg hb BK169 GW169 HB; clear hb hg))
 (try simp only [Act.put, sa, sz, ss])
 go_cut [10] (fun v10 wc => ∃ (kq : Nat) (x10_1 : Bool), v10 = .bool x10_1 ∧ Aside0 (spec_Puts.j0 kq x10_1 a0_0 a0_1 = some r) ∧ Aside0 (kq ≤ k) ∧ Aside0 (wc.heap[gb169]? = some (.cells #[.int .i64 a0_0, .int .i64 a0_1] 153 (0, 0))) ∧ Aside0 (Below w.heap.size w wc))
 case first =>
  have H := HC2.out
  clear HC2
  refine be H ?_; clear H; intro t170 A4 H
  refine qT H ?_ ?_ <;> clear H <;> intro c5 H <;> subst c5
  ·have H' := am H
   clear H
   have hcz6 := bK w3 BK169
   have hfz6 := bF BK169
   go_wp2_with (first | ((with_reducible refine gate_callee (f := 131) rfl ?_); refine goesL_ (some 5) rfl rfl Try.func131 (by kernel_rfl) rfl #[.int .i64 a0_0] rfl gl ?_; (with_reducible refine (spec_l03Binary.calls a0_0 true _ A4.out).mono ?_); rintro e w' ⟨rfl, ⟨nd, rfl⟩⟩; refine ⟨_, rfl, ?_⟩))
   go_meet
   case rel => exact ⟨_, (true), dr, H', ⟨lk0⟩, ⟨bp BK169⟩, ⟨bw HB⟩⟩
  refine be H ?_; clear H; intro t171 A7 H
  have H' := am H
  clear H
  have hcz8 := bK w3 BK169
  have hfz8 := bF BK169
  go_wp2_with (first | ((with_reducible refine gate_callee (f := 131) rfl ?_); refine goesL_ (some 5) rfl rfl Try.func131 (by kernel_rfl) rfl #[.int .i64 a0_0] rfl gl ?_; (with_reducible refine (spec_l03Binary.calls a0_0 false _ A4.out).mono ?_); rintro e w' ⟨rfl, ⟨nd, rfl⟩⟩; refine ⟨_, rfl, ?_⟩) | (go_at_call 132; (with_reducible refine (spec_l03Unary.calls a0_0 t171 _ A7.out).mono ?_); rintro e w' ⟨rfl, ⟨nd, rfl⟩⟩))
  go_meet
  case rel => exact ⟨_, (t171), dr, H', ⟨lk0⟩, ⟨bp BK169⟩, ⟨bw HB⟩⟩
 clear HC2
 obtain ⟨kq, x10_1, rfl, HA, HJ1, BK169, HB⟩ := hcut
 rcases kq with _ | kj1
 ·exact absurd HA.out (by simp [spec_Puts.j0])
 have H := HA.out
 clear HA
 simp only [spec_Puts.j0] at H
 refine qT H ?_ ?_ <;> clear H <;> intro c9 H <;> subst c9
 ·obtain rfl := oi H
  go_wp2
  go_ret
  exact ⟨er, bw HB⟩
 refine qE H ?_ ?_ <;> clear H
 ·intro c10b0 c10b1 H
  obtain rfl := oi H
  have hcz11 := bK wc BK169
  have hfz11 := bF BK169
  go_wp2
  go_ret
  exact ⟨er, bw HB⟩
 intro c10 c10b0 c10b1 H
 have HC12 := am H
 clear H
 have hcz13 := bK wc BK169
 have hfz13 := bF BK169
 go_upto_if 15 with (fail)
 go_cut [15] (fun v15 wc => ∃ (kq : Nat) (x15_11 : Bool), v15 = .bool x15_11 ∧ Aside0 (spec_Puts.j1 kq x15_11 = some r) ∧ Aside0 (kq ≤ kj1) ∧ Aside0 (wc.heap[gb169]? = some (.cells #[.int .i64 a0_0, .int .i64 a0_1] 153 (0, 0))) ∧ Aside0 (Below w.heap.size w wc))
 case first =>
  have H := HC12.out
  clear HC12
  refine qE H ?_ ?_ <;> clear H
  ·intro c14b0 c14b1 H
   (first | rw [c14b0] | (simp only [i64_w, i32_w]; rw [c14b0]) | skip)
   have H' := am H
   clear H
   go_wp2
   go_meet
   case rel => exact ⟨_, ((a0_0 == 1)), dr, H', ⟨lk1 HJ1⟩, ⟨bp BK169⟩, ⟨bw HB⟩⟩
  intro c14 c14b0 c14b1 H
  (first | rw [c14b0] | (simp only [i64_w, i32_w]; rw [c14b0]) | skip)
  refine qE H ?_ ?_ <;> clear H
  ·intro c15b0 c15b1 H
   have H' := am H
   clear H
   go_wp2
   go_meet
   case rel => exact ⟨_, ((a0_0 == 2)), dr, H', ⟨lk1 HJ1⟩, ⟨bp BK169⟩, ⟨bw HB⟩⟩
  intro c15 c15b0 c15b1 H
  refine qE H ?_ ?_ <;> clear H
  ·intro c16b0 c16b1 H
   have H' := am H
   clear H
   go_wp2
   go_meet
   case rel => exact ⟨_, ((a0_0 == 32)), dr, H', ⟨lk1 HJ1⟩, ⟨bp BK169⟩, ⟨bw HB⟩⟩
  intro c16 c16b0 c16b1 H
  refine qE H ?_ ?_ <;> clear H
  ·intro c17b0 c17b1 H
   have H' := am H
   clear H
   go_wp2
   go_meet
   case rel => exact ⟨_, ((a0_0 == 34)), dr, H', ⟨lk1 HJ1⟩, ⟨bp BK169⟩, ⟨bw HB⟩⟩
  intro c17 c17b0 c17b1 H
  refine qE H ?_ ?_ <;> clear H
  ·intro c18b0 c18b1 H
   have H' := am H
   clear H
   go_wp2
   go_meet
   case rel => exact ⟨_, ((a0_0 == 35)), dr, H', ⟨lk1 HJ1⟩, ⟨bp BK169⟩, ⟨bw HB⟩⟩
  intro c18 c18b0 c18b1 H
  have H' := am H
  clear H
  go_wp2
  go_meet
  case rel => exact ⟨_, ((a0_0 == 37)), dr, H', ⟨lk1 HJ1⟩, ⟨bp BK169⟩, ⟨bw HB⟩⟩
 clear HC12
 obtain ⟨kq, x15_11, rfl, HA, HJ11, BK169, HB⟩ := hcut
 rcases kq with _ | kj11
 ·exact absurd HA.out (by simp [spec_Puts.j1])
 have H := HA.out
 clear HA
 simp only [spec_Puts.j1] at H
 refine qT H ?_ ?_ <;> clear H <;> intro c19 H <;> subst c19
 ·obtain rfl := oi H
  go_wp2
  go_ret
  exact ⟨er, bw HB⟩
 obtain rfl := oi H
 go_wp2
 go_ret
 exact ⟨er, bw HB⟩

end Go.Proofs.Ytkhpiicijkhpkaa.QFnExactAsmBytes
