import Derived.Test.YtopaefhfjioecaaCFnRangesx0
import Derived.Test.YtopaefhfjioecaaCFnRangesx10
namespace Go.Proofs.Ytopaefhfjioecaa.QFnRanges
open Go.RowKit Go.Proofs.YtopaefhfjioecaaW
open PrintWords PrintLast PrintMore PrintShort
attribute [local go_sem] max2_int min2_int max_two min_two max_three min_three max_four min_four   -- for this text's walks alone
set_option linter.unusedVariables false
set_option maxHeartbeats 8000000
set_option maxRecDepth 100000
set_option linter.unusedSimpArgs false

mutual
def impl_Takes.j0 : Nat → Bool → List (S35) → Int → Int → Option (Int)
 | 0, _, _, _, _ => none
 | k + 1, x5, x338000, x339000, x339001 => if x5 = true then (some 2) else (if x339000 = 36 then (some 3) else (if x339000 = 32 then ((impl_hasFunc.f x338000 x339001).bind fun t340 => (if t340 = true then (if 0 ≤ x339001 then (if x339001 < (x338000.length : Int) then (some ((rd_T35 x338000 x339001).f0)) else (none)) else (none)) else (some 0))) else ((impl_isUnary.f x339000).bind fun t342 => (if t342 = true then (some 1) else (if x339000 = 3 then (impl_Takes.j1 k (x339000 == 3)) else (if x339000 = 4 then (impl_Takes.j1 k (x339000 == 4)) else (if x339000 = 5 then (impl_Takes.j1 k (x339000 == 5)) else (if x339000 = 31 then (impl_Takes.j1 k (x339000 == 31)) else (if x339000 = 33 then (impl_Takes.j1 k (x339000 == 33)) else (if x339000 = 34 then (impl_Takes.j1 k (x339000 == 34)) else (if x339000 = 37 then (impl_Takes.j1 k (x339000 == 37)) else (impl_Takes.j1 k (x339000 == 38)))))))))))))
def impl_Takes.j1 : Nat → Bool → Option (Int)
 | 0, _ => none
 | k + 1, x37 => if x37 = true then (some 1) else (some 0)
end
def impl_Takes.f (k : Nat) (l0_0 : List (S35)) (a1_0 : Int) (a1_1 : Int) : Option (Int) := (impl_isBinary.f a1_0).bind fun t339 => (if t339 = true then (impl_Takes.j0 k t339 l0_0 a1_0 a1_1) else (impl_Takes.j0 k (a1_0 == 35) l0_0 a1_0 a1_1))
theorem impl_Takes.mono_l : ∀ k, (∀ y0 y1 y2 y3, LeO (impl_Takes.j0 k y0 y1 y2 y3) (impl_Takes.j0 (k + 1) y0 y1 y2 y3)) ∧ (∀ y0, LeO (impl_Takes.j1 k y0) (impl_Takes.j1 (k + 1) y0))
 | 0 => ⟨fun _ _ _ _ r h => by simp [impl_Takes.j0] at h, fun _ r h => by simp [impl_Takes.j1] at h⟩
 | k + 1 => by
  obtain ⟨ih0, ih1⟩ := impl_Takes.mono_l k
  refine ⟨?_, ?_⟩
  ·intro y0 y1 y2 y3
   unfold impl_Takes.j0
   with_reducible repeat' first | exact ih0 .. | exact ih1 .. | exact LeO.refl _ | exact LeO.none _ | refine LeO.ite ?_ ?_ | refine LeO.bind ?_ (fun _ => ?_)
  ·intro y0
   unfold impl_Takes.j1
   with_reducible repeat' first | exact ih0 .. | exact ih1 .. | exact LeO.refl _ | exact LeO.none _ | refine LeO.ite ?_ ?_ | refine LeO.bind ?_ (fun _ => ?_)
theorem impl_Takes.mono : ∀ a0 a1 a2 k, LeO (impl_Takes.f k a0 a1 a2) (impl_Takes.f (k + 1) a0 a1 a2) := by
 intro a0 a1 a2 k
 obtain ⟨ih0, ih1⟩ := impl_Takes.mono_l k
 unfold impl_Takes.f
 with_reducible repeat' first | exact ih0 .. | exact ih1 .. | exact LeO.refl _ | exact LeO.none _ | refine LeO.ite ?_ ?_ | refine LeO.bind ?_ (fun _ => ?_)
theorem impl_Takes.calls (k : Nat) (A0_0 : Option Addr) (c0_0 : Nat) (l0_0 : List (S35)) (a1_0 : Int) (a1_1 : Int) (r : Int) (w : World) (hr0_0 : Kd.C k35 w A0_0 l0_0.length l0_0) (hc0_0 : l0_0.length ≤ c0_0) (h : impl_Takes.f k l0_0 a1_0 a1_1 = some r) :
  Calls Try.prog 13 #[.agg #[.slice A0_0 l0_0.length c0_0], .agg #[.int .i64 a1_0, .int .i64 a1_1]] w fun e w' => e = .returned (.int .i64 r) ∧ Below w.heap.size w w' := by
 have hu25 := Try.underlying25
 have hu38 := Try.underlying38
 have HR0_0 := am hr0_0
 have HC0_0 := am hc0_0
 clear hr0_0 hc0_0
 have HB := am (Below.refl w.heap.size w)
 have H : ((impl_isBinary.f a1_0).bind fun t339 => (if t339 = true then (impl_Takes.j0 k t339 l0_0 a1_0 a1_1) else (impl_Takes.j0 k (a1_0 == 35) l0_0 a1_0 a1_1))) = some r := h
 clear h
 refine be H ?_; clear H; intro t339 A3 H
 have HC4 := am H
 clear H
 go_enter Try.func13, Try.ntmps13
 go_upto_if 5 with (first | ((with_reducible refine gd 2 rfl ?_); refine bX 2 #[.slice A0_0 l0_0.length c0_0] 25 HB ?_; clear HB; intro gb337 w5 hg hb BK337 GW337 HB; clear hb hg) | ((with_reducible refine gd 3 rfl ?_); refine bX 3 #[.int .i64 a1_0, .int .i64 a1_1] 38 HB ?_; clear HB; intro gb338 w6 hg hb BK338 GW338 HB; obtain ⟨NB337_338, NB338_337, BK337⟩ := b3 hg BK337 hb; clear hb hg; have hnb7 := NB338_337.out; have hnc7 := NB337_338.out; have hcz8 := bK w6 BK338; have hfz8 := bF BK338) | ((with_reducible refine gate_callee (f := 37) rfl ?_); refine goesL_ (some 8) rfl rfl Try.func37 (by kernel_rfl) rfl #[.int .i64 a1_0] rfl gl ?_; (with_reducible refine (impl_isBinary.calls a1_0 t339 _ A3.out).mono ?_); rintro e w' ⟨rfl, ⟨nd, rfl⟩⟩; refine ⟨_, rfl, ?_⟩))
 (try simp only [Act.put, sa, sz, ss])
 go_cut [5] (fun v5 wc => ∃ (kq : Nat) (x5_3 : Bool), v5 = .bool x5_3 ∧ Aside0 (impl_Takes.j0 kq x5_3 l0_0 a1_0 a1_1 = some r) ∧ Aside0 (kq ≤ k) ∧ Aside0 (wc.heap[gb337]? = some (.cells #[(.slice A0_0 l0_0.length c0_0)] 25 (0, 0))) ∧ Aside0 (wc.heap[gb338]? = some (.cells #[.int .i64 a1_0, .int .i64 a1_1] 38 (0, 0))) ∧ Aside0 (Below w.heap.size w wc))
 case first =>
  have H := HC4.out
  clear HC4
  refine qT H ?_ ?_ <;> clear H <;> intro c9 H <;> subst c9
  ·have H' := am H
   clear H
   go_wp2
   go_meet
   case rel => exact ⟨_, (true), dr, H', ⟨lk0⟩, ⟨bp BK337⟩, ⟨bp BK338⟩, ⟨bw HB⟩⟩
  have H' := am H
  clear H
  have hnb10 := NB338_337.out
  have hnc10 := NB337_338.out
  have hcz11 := bK w6 BK338
  have hfz11 := bF BK338
  go_wp2
  go_meet
  case rel => exact ⟨_, ((a1_0 == 35)), dr, H', ⟨lk0⟩, ⟨bp BK337⟩, ⟨bp BK338⟩, ⟨bw HB⟩⟩
 clear HC4
 (try clear c1); (try clear p2); (try clear c3); (try clear c7); (try clear c9); (try clear c10); (try clear hcz11); (try clear hcz8); (try clear hfz11); (try clear hfz8)
 obtain ⟨kq, x5_3, rfl, HA, HJ3, BK337, BK338, HB⟩ := hcut
 rcases kq with _ | kj3
 ·exact absurd HA.out (by simp [impl_Takes.j0])
 have H := HA.out
 clear HA
 simp only [impl_Takes.j0] at H
 refine qT H ?_ ?_ <;> clear H <;> intro c12 H <;> subst c12
 ·obtain rfl := Option.some.inj H
  go_wp2
  go_ret
  exact ⟨er, bw HB⟩
 refine qE H ?_ ?_ <;> clear H
 ·intro c13b0 c13b1 H
  obtain rfl := Option.some.inj H
  have hnb14 := NB338_337.out
  have hnc14 := NB337_338.out
  have hcz15 := bK wc BK338
  have hfz15 := bF BK338
  go_wp2
  go_ret
  exact ⟨er, bw HB⟩
 intro c13 c13b0 c13b1 H
 refine qE H ?_ ?_ <;> clear H
 ·intro c16b0 c16b1 H
  refine be H ?_; clear H; intro t340 A17 H
  have HC18 := am H
  clear H
  have hnb19 := NB338_337.out
  have hnc19 := NB337_338.out
  have hcz20 := bK wc BK338
  have hfz20 := bF BK338
  have hcz21 := bK wc BK337
  have hfz21 := bF BK337
  go_upto_if 23 with (first | ((with_reducible refine gk 38 rfl ?_); refine gB 38 (some 23) Try.func38 #[.agg #[.slice A0_0 l0_0.length c0_0], .int .i64 a1_1] (impl_hasFunc.calls _ _ l0_0 a1_1 t340 _ (cc (Kd.C_below HR0_0.out HB.out)) HC0_0.out A17.out) ?_; intro w22 hb; replace BK337 := bb BK337 hb; replace BK338 := bb BK338 hb; replace HB := bs HB hb; clear hb))
  (try simp only [Act.put, sa, sz, ss])
  have H := HC18.out
  clear HC18
  refine qT H ?_ ?_ <;> clear H <;> intro c23 H <;> subst c23
  ·refine iM H ?_; clear H; intro c24b0 H
   (first | rw [c24b0] | (simp only [i64_w, i32_w]; rw [c24b0]) | skip)
   refine iM H ?_; clear H; intro c25b0 H
   obtain rfl := Option.some.inj H
   have hnb26 := NB337_338.out
   have hnc26 := NB338_337.out
   have hcz27 := bK w22 BK337
   have hfz27 := bF BK337
   have hcz28 := bK w22 BK338
   have hfz28 := bF BK338
   have p341 : 0 ≤ (a1_1 : Int) := of_decide_eq_true as1
   have q341 : a1_1 < (l0_0.length : Int) := of_decide_eq_true as1
   obtain ⟨ad341, A341_2, c341_2, e341, hx341_0, hx341_1, hx341_2, hl341_2, hi341_2⟩ := at_T35 HR0_0.out a1_1 p341 q341
   cases e341
   replace hx341_0 := cl HB hx341_0
   replace hx341_1 := cl HB hx341_1
   replace hx341_2 := cl HB hx341_2
   have HR341_2 := am hi341_2
   have HC341_2 := am hl341_2
   clear hi341_2 hl341_2
   replace p341 := eq_true p341
   replace q341 := eq_true q341
   go_wp2
   go_ret
   exact ⟨er, bw HB⟩
  obtain rfl := Option.some.inj H
  go_wp2
  go_ret
  exact ⟨er, bw HB⟩
 intro c16 c16b0 c16b1 H
 refine be H ?_; clear H; intro t342 A29 H
 have HC30 := am H
 clear H
 have hnb31 := NB338_337.out
 have hnc31 := NB337_338.out
 have hcz32 := bK wc BK338
 have hfz32 := bF BK338
 go_upto_if 31 with (first | ((with_reducible refine gate_callee (f := 39) rfl ?_); refine goesL_ (some 34) rfl rfl Try.func39 (by kernel_rfl) rfl #[.int .i64 a1_0] rfl gl ?_; (with_reducible refine (impl_isUnary.calls a1_0 t342 _ A29.out).mono ?_); rintro e w' ⟨rfl, ⟨nd, rfl⟩⟩; refine ⟨_, rfl, ?_⟩))
 (try simp only [Act.put, sa, sz, ss])
 (try simp only [World.drewN_drewN])
 generalize hq_ : World.drewN wc _ = w33
 replace BK337 : Aside0 (w33.heap[gb337]? = some (.cells #[.slice A0_0 l0_0.length c0_0] 25 (0, 0))) := ⟨by rw [← hq_]; exact (bp BK337)⟩
 replace BK338 : Aside0 (w33.heap[gb338]? = some (.cells #[.int .i64 a1_0, .int .i64 a1_1] 38 (0, 0))) := ⟨by rw [← hq_]; exact (bp BK338)⟩
 replace HB : Aside0 (Below w.heap.size w w33) := ⟨by rw [← hq_]; exact (bw HB)⟩
 clear hq_
 have H := HC30.out
 clear HC30
 refine qT H ?_ ?_ <;> clear H <;> intro c34 H <;> subst c34
 ·obtain rfl := Option.some.inj H
  go_wp2
  go_ret
  exact ⟨er, bw HB⟩
 have HC35 := am H
 clear H
 have hnb36 := NB338_337.out
 have hnc36 := NB337_338.out
 have hcz37 := bK w33 BK338
 have hfz37 := bF BK338
 go_upto_if 37 with (fail)
 go_cut [37] (fun v37 wc => ∃ (kq : Nat) (x37_34 : Bool), v37 = .bool x37_34 ∧ Aside0 (impl_Takes.j1 kq x37_34 = some r) ∧ Aside0 (kq ≤ kj3) ∧ Aside0 (wc.heap[gb337]? = some (.cells #[(.slice A0_0 l0_0.length c0_0)] 25 (0, 0))) ∧ Aside0 (wc.heap[gb338]? = some (.cells #[.int .i64 a1_0, .int .i64 a1_1] 38 (0, 0))) ∧ Aside0 (Below w.heap.size w wc))
 case first =>
  have H := HC35.out
  clear HC35
  refine qE H ?_ ?_ <;> clear H
  ·intro c38b0 c38b1 H
   (first | rw [c38b0] | (simp only [i64_w, i32_w]; rw [c38b0]) | skip)
   have H' := am H
   clear H
   go_wp2
   go_meet
   case rel => exact ⟨_, ((a1_0 == 3)), dr, H', ⟨lk1 HJ3⟩, ⟨bp BK337⟩, ⟨bp BK338⟩, ⟨bw HB⟩⟩
  intro c38 c38b0 c38b1 H
  (first | rw [c38b0] | (simp only [i64_w, i32_w]; rw [c38b0]) | skip)
  refine qE H ?_ ?_ <;> clear H
  ·intro c39b0 c39b1 H
   have H' := am H
   clear H
   go_wp2
   go_meet
   case rel => exact ⟨_, ((a1_0 == 4)), dr, H', ⟨lk1 HJ3⟩, ⟨bp BK337⟩, ⟨bp BK338⟩, ⟨bw HB⟩⟩
  intro c39 c39b0 c39b1 H
  refine qE H ?_ ?_ <;> clear H
  ·intro c40b0 c40b1 H
   have H' := am H
   clear H
   go_wp2
   go_meet
   case rel => exact ⟨_, ((a1_0 == 5)), dr, H', ⟨lk1 HJ3⟩, ⟨bp BK337⟩, ⟨bp BK338⟩, ⟨bw HB⟩⟩
  intro c40 c40b0 c40b1 H
  refine qE H ?_ ?_ <;> clear H
  ·intro c41b0 c41b1 H
   have H' := am H
   clear H
   go_wp2
   go_meet
   case rel => exact ⟨_, ((a1_0 == 31)), dr, H', ⟨lk1 HJ3⟩, ⟨bp BK337⟩, ⟨bp BK338⟩, ⟨bw HB⟩⟩
  intro c41 c41b0 c41b1 H
  refine qE H ?_ ?_ <;> clear H
  ·intro c42b0 c42b1 H
   have H' := am H
   clear H
   go_wp2
   go_meet
   case rel => exact ⟨_, ((a1_0 == 33)), dr, H', ⟨lk1 HJ3⟩, ⟨bp BK337⟩, ⟨bp BK338⟩, ⟨bw HB⟩⟩
  intro c42 c42b0 c42b1 H
  refine qE H ?_ ?_ <;> clear H
  ·intro c43b0 c43b1 H
   have H' := am H
   clear H
   go_wp2
   go_meet
   case rel => exact ⟨_, ((a1_0 == 34)), dr, H', ⟨lk1 HJ3⟩, ⟨bp BK337⟩, ⟨bp BK338⟩, ⟨bw HB⟩⟩
  intro c43 c43b0 c43b1 H
  refine qE H ?_ ?_ <;> clear H
  ·intro c44b0 c44b1 H
   have H' := am H
   clear H
   go_wp2
   go_meet
   case rel => exact ⟨_, ((a1_0 == 37)), dr, H', ⟨lk1 HJ3⟩, ⟨bp BK337⟩, ⟨bp BK338⟩, ⟨bw HB⟩⟩
  intro c44 c44b0 c44b1 H
  have H' := am H
  clear H
  go_wp2
  go_meet
  case rel => exact ⟨_, ((a1_0 == 38)), dr, H', ⟨lk1 HJ3⟩, ⟨bp BK337⟩, ⟨bp BK338⟩, ⟨bw HB⟩⟩
 clear HC35
 (try clear c2); (try clear p3); (try clear q3); (try clear hx3); (try clear c4); (try clear c12); (try clear c13); (try clear c13b0); (try clear c13b1); (try clear c14); (try clear c16); (try clear c16b0); (try clear c16b1); (try clear c19); (try clear c23); (try clear c24); (try clear c24b0); (try clear c25); (try clear c25b0); (try clear c26); (try clear c31); (try clear c34); (try clear p34); (try clear q34); (try clear hx34); (try clear c36); (try clear c37); (try clear c38); (try clear c38b0); (try clear c38b1); (try clear c39); (try clear c39b0); (try clear c39b1); (try clear c40); (try clear c40b0); (try clear c40b1); (try clear c41); (try clear c41b0); (try clear c41b1); (try clear c42); (try clear c42b0); (try clear c42b1); (try clear c43); (try clear c43b0); (try clear c43b1); (try clear c44); (try clear c44b0); (try clear c44b1); (try clear hcz15); (try clear hcz20); (try clear hcz21); (try clear hcz27); (try clear hcz28); (try clear hcz32); (try clear hcz37); (try clear hfz15); (try clear hfz20); (try clear hfz21); (try clear hfz27); (try clear hfz28); (try clear hfz32); (try clear hfz37); (try clear hx341_0); (try clear hx341_1); (try clear hx341_2); (try clear p341); (try clear q341)
 obtain ⟨kq, x37_34, rfl, HA, HJ34, BK337, BK338, HB⟩ := hcut
 rcases kq with _ | kj34
 ·exact absurd HA.out (by simp [impl_Takes.j1])
 have H := HA.out
 clear HA
 simp only [impl_Takes.j1] at H
 refine qT H ?_ ?_ <;> clear H <;> intro c45 H <;> subst c45
 ·obtain rfl := Option.some.inj H
  go_wp2
  go_ret
  exact ⟨er, bw HB⟩
 obtain rfl := Option.some.inj H
 go_wp2
 go_ret
 exact ⟨er, bw HB⟩

def impl_isArith.f (a0 : Int) : Option (Bool) := (impl_in.f a0 10 29).bind fun t343 => (some t343)
theorem impl_isArith.calls (a0 : Int) (r : Bool) (w : World) (h : impl_isArith.f a0 = some r) :
  Calls Try.prog 40 #[.int .i64 a0] w fun e w' => e = .returned (.bool r) ∧ Drawn0 w w' := by
 have H : ((impl_in.f a0 10 29).bind fun t343 => (some t343)) = some r := h
 clear h
 refine be H ?_; clear H; intro t343 A2 H
 obtain rfl := Option.some.inj H
 go_enter Try.func40, Try.ntmps40
 go_wp2_with (first | ((with_reducible refine gate_callee (f := 71) rfl ?_); refine goesL_ (some 4) rfl rfl Try.func71 (by kernel_rfl) rfl #[.int .i64 a0, .int .i64 10, .int .i64 29] rfl gl ?_; (with_reducible refine (impl_in.calls a0 10 29 t343 _ A2.out).mono ?_); rintro e w' ⟨rfl, ⟨nd, rfl⟩⟩; refine ⟨_, rfl, ?_⟩))
 go_ret
 exact ⟨by first | rfl | (simp; done) | (simp [*]; done), by repeat (first | exact Drawn0.refl _ | apply Drawn0.step)⟩

def impl_Puts.j0 : Nat → Bool → Int → Int → Option (Int)
 | 0, _, _, _ => none
 | k + 1, x7, x345000, x345001 => if x7 = true then (some 1) else ((impl_isArith.f x345000).bind fun t345 => (if t345 = true then (some 1) else (some 0)))
def impl_Puts.f (k : Nat) (a0_0 : Int) (a0_1 : Int) : Option (Int) := if a0_0 = 4 then (some 2) else (if a0_0 = 1 then (impl_Puts.j0 k (a0_0 == 1) a0_0 a0_1) else (if a0_0 = 2 then (impl_Puts.j0 k (a0_0 == 2) a0_0 a0_1) else (if a0_0 = 32 then (impl_Puts.j0 k (a0_0 == 32) a0_0 a0_1) else (if a0_0 = 34 then (impl_Puts.j0 k (a0_0 == 34) a0_0 a0_1) else (if a0_0 = 35 then (impl_Puts.j0 k (a0_0 == 35) a0_0 a0_1) else (impl_Puts.j0 k (a0_0 == 37) a0_0 a0_1))))))
theorem impl_Puts.mono_l : ∀ k, (∀ y0 y1 y2, LeO (impl_Puts.j0 k y0 y1 y2) (impl_Puts.j0 (k + 1) y0 y1 y2))
 | 0 => fun _ _ _ r h => by simp [impl_Puts.j0] at h
 | k + 1 => by
  have ih0 := impl_Puts.mono_l k
  ·intro y0 y1 y2
   unfold impl_Puts.j0
   with_reducible repeat' first | exact ih0 .. | exact LeO.refl _ | exact LeO.none _ | refine LeO.ite ?_ ?_ | refine LeO.bind ?_ (fun _ => ?_)
theorem impl_Puts.mono : ∀ a0 a1 k, LeO (impl_Puts.f k a0 a1) (impl_Puts.f (k + 1) a0 a1) := by
 intro a0 a1 k
 have ih0 := impl_Puts.mono_l k
 unfold impl_Puts.f
 with_reducible repeat' first | exact ih0 .. | exact LeO.refl _ | exact LeO.none _ | refine LeO.ite ?_ ?_ | refine LeO.bind ?_ (fun _ => ?_)
theorem impl_Puts.calls (k : Nat) (a0_0 : Int) (a0_1 : Int) (r : Int) (w : World) (h : impl_Puts.f k a0_0 a0_1 = some r) :
  Calls Try.prog 14 #[.agg #[.int .i64 a0_0, .int .i64 a0_1]] w fun e w' => e = .returned (.int .i64 r) ∧ Below w.heap.size w w' := by
 have hu38 := Try.underlying38
 have HB := am (Below.refl w.heap.size w)
 have H : (if a0_0 = 4 then (some 2) else (if a0_0 = 1 then (impl_Puts.j0 k (a0_0 == 1) a0_0 a0_1) else (if a0_0 = 2 then (impl_Puts.j0 k (a0_0 == 2) a0_0 a0_1) else (if a0_0 = 32 then (impl_Puts.j0 k (a0_0 == 32) a0_0 a0_1) else (if a0_0 = 34 then (impl_Puts.j0 k (a0_0 == 34) a0_0 a0_1) else (if a0_0 = 35 then (impl_Puts.j0 k (a0_0 == 35) a0_0 a0_1) else (impl_Puts.j0 k (a0_0 == 37) a0_0 a0_1))))))) = some r := h
 clear h
 have HC2 := am H
 clear H
 go_enter Try.func14, Try.ntmps14
 go_upto_if 5 with (first | ((with_reducible refine gd 1 rfl ?_); refine bX 1 #[.int .i64 a0_0, .int .i64 a0_1] 38 HB ?_; clear HB; intro gb344 w3 hg hb BK344 GW344 HB; clear hb hg; have hcz4 := bK w3 BK344; have hfz4 := bF BK344))
 (try simp only [Act.put, sa, sz, ss])
 have H := HC2.out
 clear HC2
 refine qE H ?_ ?_ <;> clear H
 ·intro c5b0 c5b1 H
  (first | rw [c5b0] | (simp only [i64_w, i32_w]; rw [c5b0]) | skip)
  obtain rfl := Option.some.inj H
  go_wp2
  go_ret
  exact ⟨er, bw HB⟩
 intro c5 c5b0 c5b1 H
 (first | rw [c5b0] | (simp only [i64_w, i32_w]; rw [c5b0]) | skip)
 have HC6 := am H
 clear H
 go_upto_if 7 with (fail)
 go_cut [7] (fun v7 wc => ∃ (kq : Nat) (x7_5 : Bool), v7 = .bool x7_5 ∧ Aside0 (impl_Puts.j0 kq x7_5 a0_0 a0_1 = some r) ∧ Aside0 (kq ≤ k) ∧ Aside0 (wc.heap[gb344]? = some (.cells #[.int .i64 a0_0, .int .i64 a0_1] 38 (0, 0))) ∧ Aside0 (Below w.heap.size w wc))
 case first =>
  have H := HC6.out
  clear HC6
  refine qE H ?_ ?_ <;> clear H
  ·intro c7b0 c7b1 H
   (first | rw [c7b0] | (simp only [i64_w, i32_w]; rw [c7b0]) | skip)
   have H' := am H
   clear H
   go_wp2
   go_meet
   case rel => exact ⟨_, ((a0_0 == 1)), dr, H', ⟨lk0⟩, ⟨bp BK344⟩, ⟨bw HB⟩⟩
  intro c7 c7b0 c7b1 H
  (first | rw [c7b0] | (simp only [i64_w, i32_w]; rw [c7b0]) | skip)
  refine qE H ?_ ?_ <;> clear H
  ·intro c8b0 c8b1 H
   have H' := am H
   clear H
   go_wp2
   go_meet
   case rel => exact ⟨_, ((a0_0 == 2)), dr, H', ⟨lk0⟩, ⟨bp BK344⟩, ⟨bw HB⟩⟩
  intro c8 c8b0 c8b1 H
  refine qE H ?_ ?_ <;> clear H
  ·intro c9b0 c9b1 H
   have H' := am H
   clear H
   go_wp2
   go_meet
   case rel => exact ⟨_, ((a0_0 == 32)), dr, H', ⟨lk0⟩, ⟨bp BK344⟩, ⟨bw HB⟩⟩
  intro c9 c9b0 c9b1 H
  refine qE H ?_ ?_ <;> clear H
  ·intro c10b0 c10b1 H
   have H' := am H
   clear H
   go_wp2
   go_meet
   case rel => exact ⟨_, ((a0_0 == 34)), dr, H', ⟨lk0⟩, ⟨bp BK344⟩, ⟨bw HB⟩⟩
  intro c10 c10b0 c10b1 H
  refine qE H ?_ ?_ <;> clear H
  ·intro c11b0 c11b1 H
   have H' := am H
   clear H
   go_wp2
   go_meet
   case rel => exact ⟨_, ((a0_0 == 35)), dr, H', ⟨lk0⟩, ⟨bp BK344⟩, ⟨bw HB⟩⟩
  intro c11 c11b0 c11b1 H
  have H' := am H
  clear H
  go_wp2
  go_meet
  case rel => exact ⟨_, ((a0_0 == 37)), dr, H', ⟨lk0⟩, ⟨bp BK344⟩, ⟨bw HB⟩⟩
 clear HC6
 (try clear c1); (try clear p2); (try clear c5); (try clear c5b0); (try clear c5b1); (try clear c7); (try clear c7b0); (try clear c7b1); (try clear c8); (try clear c8b0); (try clear c8b1); (try clear c9); (try clear c9b0); (try clear c9b1); (try clear c10); (try clear c10b0); (try clear c10b1); (try clear c11); (try clear c11b0); (try clear c11b1); (try clear hcz4); (try clear hfz4)
 obtain ⟨kq, x7_5, rfl, HA, HJ5, BK344, HB⟩ := hcut
 rcases kq with _ | kj5
 ·exact absurd HA.out (by simp [impl_Puts.j0])
 have H := HA.out
 clear HA
 simp only [impl_Puts.j0] at H
 refine qT H ?_ ?_ <;> clear H <;> intro c12 H <;> subst c12
 ·obtain rfl := Option.some.inj H
  go_wp2
  go_ret
  exact ⟨er, bw HB⟩
 refine be H ?_; clear H; intro t345 A13 H
 have HC14 := am H
 clear H
 have hcz15 := bK wc BK344
 have hfz15 := bF BK344
 go_upto_if 16 with (first | ((with_reducible refine gate_callee (f := 40) rfl ?_); refine goesL_ (some 16) rfl rfl Try.func40 (by kernel_rfl) rfl #[.int .i64 a0_0] rfl gl ?_; (with_reducible refine (impl_isArith.calls a0_0 t345 _ A13.out).mono ?_); rintro e w' ⟨rfl, ⟨nd, rfl⟩⟩; refine ⟨_, rfl, ?_⟩))
 (try simp only [Act.put, sa, sz, ss])
 (try simp only [World.drewN_drewN])
 generalize hq_ : World.drewN wc _ = w16
 replace BK344 : Aside0 (w16.heap[gb344]? = some (.cells #[.int .i64 a0_0, .int .i64 a0_1] 38 (0, 0))) := ⟨by rw [← hq_]; exact (bp BK344)⟩
 replace HB : Aside0 (Below w.heap.size w w16) := ⟨by rw [← hq_]; exact (bw HB)⟩
 clear hq_
 have H := HC14.out
 clear HC14
 refine qT H ?_ ?_ <;> clear H <;> intro c17 H <;> subst c17
 ·obtain rfl := Option.some.inj H
  go_wp2
  go_ret
  exact ⟨er, bw HB⟩
 obtain rfl := Option.some.inj H
 go_wp2
 go_ret
 exact ⟨er, bw HB⟩

def impl_next.f (a0_0 : Int) (a0_1 : Int) (a1 : Int) : Option (List Int) := if a0_0 = 33 then (some ([] : List Int)) else (if a0_0 = 30 then (some (([a0_1] : List Int))) else (if a0_0 = 31 then (some (([wrap64 (a1 + 1), a0_1] : List Int))) else (some (([wrap64 (a1 + 1)] : List Int)))))
theorem impl_next.calls (a0_0 : Int) (a0_1 : Int) (a1 : Int) (r : List Int) (w : World) (h : impl_next.f a0_0 a0_1 a1 = some r) :
  Calls Try.prog 103 #[.agg #[.int .i64 a0_0, .int .i64 a0_1], .int .i64 a1] w fun e w' => ∃ v0_ : Value, e = .returned (v0_) ∧ Kd.R (Kd.int .i64) 2 w' w.heap.size (fun _ => True) v0_ r ∧ Below w.heap.size w w' := by
 have hu38 := Try.underlying38
 have HB := am (Below.refl w.heap.size w)
 have H : (if a0_0 = 33 then (some ([] : List Int)) else (if a0_0 = 30 then (some (([a0_1] : List Int))) else (if a0_0 = 31 then (some (([wrap64 (a1 + 1), a0_1] : List Int))) else (some (([wrap64 (a1 + 1)] : List Int)))))) = some r := h
 clear h
 have HC3 := am H
 clear H
 go_enter Try.func103, Try.ntmps103
 go_upto_if 7 with (first | ((with_reducible refine gd 2 rfl ?_); refine bX 2 #[.int .i64 a0_0, .int .i64 a0_1] 38 HB ?_; clear HB; intro gb346 w4 hg hb BK346 GW346 HB; clear hb hg; have hcz5 := bK w4 BK346; have hfz5 := bF BK346))
 (try simp only [Act.put, sa, sz, ss])
 have H := HC3.out
 clear HC3
 refine qE H ?_ ?_ <;> clear H
 ·intro c6b0 c6b1 H
  (first | rw [c6b0] | (simp only [i64_w, i32_w]; rw [c6b0]) | skip)
  obtain rfl := Option.some.inj H
  go_wp2
  go_ret
  exact ⟨_, er, by first | exact Kd.R_nil _ _ _ _ _ | exact Kd.N_nil _ _ _ _ _ | exact Kd.V_nil _ _ _ _ _ | exact Kd.Q_nil _ _ _ _ _ | exact Kd.S_nil _ _ _ _ _, bw HB⟩
 intro c6 c6b0 c6b1 H
 (first | rw [c6b0] | (simp only [i64_w, i32_w]; rw [c6b0]) | skip)
 refine qE H ?_ ?_ <;> clear H
 ·intro c7b0 c7b1 H
  obtain ⟨y347, hy347⟩ : ∃ y_ : List Int, y_ = (([a0_1] : List Int)) := ⟨_, rfl⟩
  replace H : (some y347) = some r := by first | (rw [hy347]; with_reducible exact H) | (have H2_ := (Option.bind_some _ _).symm.trans H; rw [hy347]; with_reducible exact H2_) | (have H2_ := (Option.bind_some _ _).symm.trans H; with_reducible exact H2_) | with_reducible exact H | (rw [hy347]; exact H) | exact H
  have Ny347 := am hy347
  clear hy347
  obtain rfl := Option.some.inj H
  have hcz8 := bK w4 BK346
  have hfz8 := bF BK346
  go_wp2_with (first | ((with_reducible refine gate_dst (N := 13) rfl ?_); refine Kd.R_lit (Kd.int .i64) _ 2 ?hg (N := 13) ?hd (xs := ([a0_1] : List Int)) (inner := [.int .i64 a0_1]) (ok := fun _ => True) (okp := fun _ => True) ?hr ?hp (fun _ hk => hk) trivial (Below.refl _ _) (Nat.le_refl _) (by simp) ?_; (case hd => rfl); (case hg => rfl); (case hr => exact gs); (case hp => exact (Reps.one (show Kd.M (Kd.int .i64) _ _ _ a0_1 [.int .i64 a0_1] from rfl) (Reps.none _ _))); intro v348 w9 ho10 hb hg_ hnew_; clear hg_ hnew_; (first | rw [← Ny347.out] at ho10 | (simp only [Int.reduceToNat] at ho10; rw [← Ny347.out] at ho10)); have HO349 := am (Kd.R_lower ho10 (below_size (bw HB))); replace BK346 := bb BK346 hb; replace HB := bs HB hb; clear hb ho10))
  go_ret
  exact ⟨_, er, kR HO349, bw HB⟩
 intro c7 c7b0 c7b1 H
 refine qE H ?_ ?_ <;> clear H
 ·intro c11b0 c11b1 H
  obtain ⟨y350, hy350⟩ : ∃ y_ : List Int, y_ = (([wrap64 (a1 + 1), a0_1] : List Int)) := ⟨_, rfl⟩
  replace H : (some y350) = some r := by first | (rw [hy350]; with_reducible exact H) | (have H2_ := (Option.bind_some _ _).symm.trans H; rw [hy350]; with_reducible exact H2_) | (have H2_ := (Option.bind_some _ _).symm.trans H; with_reducible exact H2_) | with_reducible exact H | (rw [hy350]; exact H) | exact H
  have Ny350 := am hy350
  clear hy350
  obtain rfl := Option.some.inj H
  have hcz12 := bK w4 BK346
  have hfz12 := bF BK346
  go_wp2_with (first | ((with_reducible refine gate_dst (N := 20) rfl ?_); refine Kd.R_lit (Kd.int .i64) _ 2 ?hg (N := 20) ?hd (xs := ([wrap64 (a1 + 1), a0_1] : List Int)) (inner := [.int .i64 (wrap64 (a1 + 1)), .int .i64 a0_1]) (ok := fun _ => True) (okp := fun _ => True) ?hr ?hp (fun _ hk => hk) trivial (Below.refl _ _) (Nat.le_refl _) (by simp) ?_; (case hd => rfl); (case hg => rfl); (case hr => exact gs); (case hp => exact (Reps.one (show Kd.M (Kd.int .i64) _ _ _ (wrap64 (a1 + 1)) [.int .i64 (wrap64 (a1 + 1))] from rfl) (Reps.one (show Kd.M (Kd.int .i64) _ _ _ a0_1 [.int .i64 a0_1] from rfl) (Reps.none _ _)))); intro v351 w13 ho14 hb hg_ hnew_; clear hg_ hnew_; (first | rw [← Ny350.out] at ho14 | (simp only [Int.reduceToNat] at ho14; rw [← Ny350.out] at ho14)); have HO352 := am (Kd.R_lower ho14 (below_size (bw HB))); replace BK346 := bb BK346 hb; replace HB := bs HB hb; clear hb ho14))
  go_ret
  exact ⟨_, er, kR HO352, bw HB⟩
 intro c11 c11b0 c11b1 H
 obtain ⟨y353, hy353⟩ : ∃ y_ : List Int, y_ = (([wrap64 (a1 + 1)] : List Int)) := ⟨_, rfl⟩
 replace H : (some y353) = some r := by first | (rw [hy353]; with_reducible exact H) | (have H2_ := (Option.bind_some _ _).symm.trans H; rw [hy353]; with_reducible exact H2_) | (have H2_ := (Option.bind_some _ _).symm.trans H; with_reducible exact H2_) | with_reducible exact H | (rw [hy353]; exact H) | exact H
 have Ny353 := am hy353
 clear hy353
 obtain rfl := Option.some.inj H
 go_wp2_with (first | ((with_reducible refine gate_dst (N := 23) rfl ?_); refine Kd.R_lit (Kd.int .i64) _ 2 ?hg (N := 23) ?hd (xs := ([wrap64 (a1 + 1)] : List Int)) (inner := [.int .i64 (wrap64 (a1 + 1))]) (ok := fun _ => True) (okp := fun _ => True) ?hr ?hp (fun _ hk => hk) trivial (Below.refl _ _) (Nat.le_refl _) (by simp) ?_; (case hd => rfl); (case hg => rfl); (case hr => exact gs); (case hp => exact (Reps.one (show Kd.M (Kd.int .i64) _ _ _ (wrap64 (a1 + 1)) [.int .i64 (wrap64 (a1 + 1))] from rfl) (Reps.none _ _))); intro v354 w15 ho16 hb hg_ hnew_; clear hg_ hnew_; (first | rw [← Ny353.out] at ho16 | (simp only [Int.reduceToNat] at ho16; rw [← Ny353.out] at ho16)); have HO355 := am (Kd.R_lower ho16 (below_size (bw HB))); replace BK346 := bb BK346 hb; replace HB := bs HB hb; clear hb ho16))
 go_ret
 exact ⟨_, er, kR HO355, bw HB⟩

end Go.Proofs.Ytopaefhfjioecaa.QFnRanges
