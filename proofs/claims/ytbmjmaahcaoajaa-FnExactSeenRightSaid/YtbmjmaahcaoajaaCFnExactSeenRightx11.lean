import Derived.Test.YtbmjmaahcaoajaaCFnExactSeenRightx0
import Derived.Test.YtbmjmaahcaoajaaCFnExactSeenRightx10
namespace Go.Proofs.Ytbmjmaahcaoajaa.QFnExactSeenRight
open Go.RowKit Go.Proofs.YtbmjmaahcaoajaaW
open PrintWords PrintLast PrintMore PrintShort
attribute [local go_sem] max2_int min2_int max_two min_two max_three min_three max_four min_four   -- for this text's walks alone
set_option linter.unusedVariables false
set_option maxHeartbeats 8000000
set_option maxRecDepth 100000
set_option linter.unusedSimpArgs false

mutual
def impl_Takes.j0 : Nat → Bool → List (S100) → Int → Int → Option (Int)
 | 0, _, _, _, _ => none
 | k + 1, x5, x283000, x284000, x284001 => if x5 = true then (some 2) else (if x284000 = 36 then (some 3) else (if x284000 = 32 then ((impl_hasFunc.f x283000 x284001).bind fun t285 => (if t285 = true then (if 0 ≤ x284001 then (if x284001 < (x283000.length : Int) then (some ((rd_T100 x283000 x284001).f0)) else (none)) else (none)) else (some 0))) else ((impl_isUnary.f x284000).bind fun t287 => (if t287 = true then (some 1) else (if x284000 = 3 then (impl_Takes.j1 k (x284000 == 3)) else (if x284000 = 4 then (impl_Takes.j1 k (x284000 == 4)) else (if x284000 = 5 then (impl_Takes.j1 k (x284000 == 5)) else (if x284000 = 31 then (impl_Takes.j1 k (x284000 == 31)) else (if x284000 = 33 then (impl_Takes.j1 k (x284000 == 33)) else (if x284000 = 34 then (impl_Takes.j1 k (x284000 == 34)) else (if x284000 = 37 then (impl_Takes.j1 k (x284000 == 37)) else (impl_Takes.j1 k (x284000 == 38)))))))))))))
def impl_Takes.j1 : Nat → Bool → Option (Int)
 | 0, _ => none
 | k + 1, x37 => if x37 = true then (some 1) else (some 0)
end
def impl_Takes.f (k : Nat) (l0_0 : List (S100)) (a1_0 : Int) (a1_1 : Int) : Option (Int) := (impl_isBinary.f a1_0).bind fun t284 => (if t284 = true then (impl_Takes.j0 k t284 l0_0 a1_0 a1_1) else (impl_Takes.j0 k (a1_0 == 35) l0_0 a1_0 a1_1))
theorem impl_Takes.mono_l : ∀ k, (∀ y0 y1 y2 y3, LeO (impl_Takes.j0 k y0 y1 y2 y3) (impl_Takes.j0 (k + 1) y0 y1 y2 y3)) ∧ (∀ y0, LeO (impl_Takes.j1 k y0) (impl_Takes.j1 (k + 1) y0))
 | 0 => ⟨fun _ _ _ _ r h => by simp [impl_Takes.j0] at h, fun _ r h => by simp [impl_Takes.j1] at h⟩
 | k + 1 => by
  obtain ⟨ih0, ih1⟩ := impl_Takes.mono_l k
  refine ⟨?_, ?_⟩
  ·intro y0 y1 y2 y3
   unfold impl_Takes.j0
   with_reducible repeat' first | exact ih0 .. | exact ih1 .. | exact LeO.refl _ | exact LeO.none _ | refine LeO.ite ?_ ?_ | refine LeO.bind ?_ (fun _ => ?_)
  ·intro y0
   unfold impl_Takes.j1
   with_reducible repeat' first | exact ih0 .. | exact ih1 .. | exact LeO.refl _ | exact LeO.none _ | refine LeO.ite ?_ ?_ | refine LeO.bind ?_ (fun _ => ?_)
theorem impl_Takes.mono : ∀ a0 a1 a2 k, LeO (impl_Takes.f k a0 a1 a2) (impl_Takes.f (k + 1) a0 a1 a2) := by
 intro a0 a1 a2 k
 obtain ⟨ih0, ih1⟩ := impl_Takes.mono_l k
 unfold impl_Takes.f
 with_reducible repeat' first | exact ih0 .. | exact ih1 .. | exact LeO.refl _ | exact LeO.none _ | refine LeO.ite ?_ ?_ | refine LeO.bind ?_ (fun _ => ?_)
theorem impl_Takes.calls (k : Nat) (A0_0 : Option Addr) (c0_0 : Nat) (l0_0 : List (S100)) (a1_0 : Int) (a1_1 : Int) (r : Int) (w : World) (hr0_0 : Kd.C k100 w A0_0 l0_0.length l0_0) (hc0_0 : l0_0.length ≤ c0_0) (h : impl_Takes.f k l0_0 a1_0 a1_1 = some r) :
  Calls Try.prog 134 #[.agg #[.slice A0_0 l0_0.length c0_0], .agg #[.int .i64 a1_0, .int .i64 a1_1]] w fun e w' => e = .returned (.int .i64 r) ∧ Below w.heap.size w w' := by
 have hu30 := Try.underlying30
 have hu102 := Try.underlying102
 have HR0_0 := am hr0_0
 have HC0_0 := am hc0_0
 clear hr0_0 hc0_0
 have HB := am (Below.refl w.heap.size w)
 have H : ((impl_isBinary.f a1_0).bind fun t284 => (if t284 = true then (impl_Takes.j0 k t284 l0_0 a1_0 a1_1) else (impl_Takes.j0 k (a1_0 == 35) l0_0 a1_0 a1_1))) = some r := h
 clear h
 refine be H ?_; clear H; intro t284 A3 H
 have HC4 := am H
 clear H
 go_enter Try.func134, Try.ntmps134
 go_upto_if 5 with (first | ((with_reducible refine gd 2 rfl ?_); refine bX 2 #[.slice A0_0 l0_0.length c0_0] 30 HB ?_; clear HB; intro gb282 w5 hg hb BK282 GW282 HB; clear hb hg) | ((with_reducible refine gd 3 rfl ?_); refine bX 3 #[.int .i64 a1_0, .int .i64 a1_1] 102 HB ?_; clear HB; intro gb283 w6 hg hb BK283 GW283 HB; obtain ⟨NB282_283, NB283_282, BK282⟩ := b3 hg BK282 hb; clear hb hg; have hnb7 := NB283_282.out; have hnc7 := NB282_283.out; have hcz8 := bK w6 BK283; have hfz8 := bF BK283) | ((with_reducible refine gate_callee (f := 175) rfl ?_); refine goesL_ (some 8) rfl rfl Try.func175 (by kernel_rfl) rfl #[.int .i64 a1_0] rfl gl ?_; (with_reducible refine (impl_isBinary.calls a1_0 t284 _ A3.out).mono ?_); rintro e w' ⟨rfl, ⟨nd, rfl⟩⟩; refine ⟨_, rfl, ?_⟩))
 (try simp only [Act.put, sa, sz, ss])
 go_cut [5] (fun v5 wc => ∃ (kq : Nat) (x5_3 : Bool), v5 = .bool x5_3 ∧ Aside0 (impl_Takes.j0 kq x5_3 l0_0 a1_0 a1_1 = some r) ∧ Aside0 (kq ≤ k) ∧ Aside0 (wc.heap[gb282]? = some (.cells #[(.slice A0_0 l0_0.length c0_0)] 30 (0, 0))) ∧ Aside0 (wc.heap[gb283]? = some (.cells #[.int .i64 a1_0, .int .i64 a1_1] 102 (0, 0))) ∧ Aside0 (Below w.heap.size w wc))
 case first =>
  have H := HC4.out
  clear HC4
  refine qT H ?_ ?_ <;> clear H <;> intro c9 H <;> subst c9
  ·have H' := am H
   clear H
   go_wp2
   go_meet
   case rel => exact ⟨_, (true), dr, H', ⟨lk0⟩, ⟨bp BK282⟩, ⟨bp BK283⟩, ⟨bw HB⟩⟩
  have H' := am H
  clear H
  have hnb10 := NB283_282.out
  have hnc10 := NB282_283.out
  have hcz11 := bK w6 BK283
  have hfz11 := bF BK283
  go_wp2
  go_meet
  case rel => exact ⟨_, ((a1_0 == 35)), dr, H', ⟨lk0⟩, ⟨bp BK282⟩, ⟨bp BK283⟩, ⟨bw HB⟩⟩
 clear HC4
 (try clear c1); (try clear p2); (try clear c7); (try clear c9); (try clear c10); (try clear hcz11); (try clear hcz8); (try clear hfz11); (try clear hfz8)
 obtain ⟨kq, x5_3, rfl, HA, HJ3, BK282, BK283, HB⟩ := hcut
 rcases kq with _ | kj3
 ·exact absurd HA.out (by simp [impl_Takes.j0])
 have H := HA.out
 clear HA
 simp only [impl_Takes.j0] at H
 refine qT H ?_ ?_ <;> clear H <;> intro c12 H <;> subst c12
 ·obtain rfl := Option.some.inj H
  go_wp2
  go_ret
  exact ⟨er, bw HB⟩
 refine qE H ?_ ?_ <;> clear H
 ·intro c13b0 c13b1 H
  obtain rfl := Option.some.inj H
  have hnb14 := NB283_282.out
  have hnc14 := NB282_283.out
  have hcz15 := bK wc BK283
  have hfz15 := bF BK283
  go_wp2
  go_ret
  exact ⟨er, bw HB⟩
 intro c13 c13b0 c13b1 H
 refine qE H ?_ ?_ <;> clear H
 ·intro c16b0 c16b1 H
  refine be H ?_; clear H; intro t285 A17 H
  refine qT H ?_ ?_ <;> clear H <;> intro c18 H <;> subst c18
  ·refine iM H ?_; clear H; intro c19b0 H
   refine iM H ?_; clear H; intro c20b0 H
   obtain rfl := Option.some.inj H
   have hnb21 := NB283_282.out
   have hnc21 := NB282_283.out
   have hcz22 := bK wc BK283
   have hfz22 := bF BK283
   have hcz23 := bK wc BK282
   have hfz23 := bF BK282
   go_wp2_with (first | ((with_reducible refine gk 121 rfl ?_); refine gB 121 (some 23) Try.func121 #[.agg #[.slice A0_0 l0_0.length c0_0], .int .i64 a1_1] (impl_hasFunc.calls _ _ l0_0 a1_1 true _ (cc (Kd.C_below HR0_0.out HB.out)) HC0_0.out A17.out) ?_; intro w24 hb; replace BK282 := bb BK282 hb; replace BK283 := bb BK283 hb; replace HB := bs HB hb; clear hb; have hcz25 := bK w24 BK282; have hfz25 := bF BK282; have hcz26 := bK w24 BK283; have hfz26 := bF BK283; have p286 : 0 ≤ (a1_1 : Int) := of_decide_eq_true as1; have q286 : a1_1 < (l0_0.length : Int) := of_decide_eq_true as1; obtain ⟨ad286, A286_2, c286_2, e286, hx286_0, hx286_1, hx286_2, hl286_2, hi286_2⟩ := at_T100 HR0_0.out a1_1 p286 q286; cases e286; replace hx286_0 := cl HB hx286_0; replace hx286_1 := cl HB hx286_1; replace hx286_2 := cl HB hx286_2; have HR286_2 := am hi286_2; have HC286_2 := am hl286_2; clear hi286_2 hl286_2; replace p286 := eq_true p286; replace q286 := eq_true q286))
   go_ret
   exact ⟨er, bw HB⟩
  obtain rfl := Option.some.inj H
  have hnb27 := NB283_282.out
  have hnc27 := NB282_283.out
  have hcz28 := bK wc BK283
  have hfz28 := bF BK283
  have hcz29 := bK wc BK282
  have hfz29 := bF BK282
  go_wp2_with (first | ((with_reducible refine gk 121 rfl ?_); refine gB 121 (some 23) Try.func121 #[.agg #[.slice A0_0 l0_0.length c0_0], .int .i64 a1_1] (impl_hasFunc.calls _ _ l0_0 a1_1 false _ (cc (Kd.C_below HR0_0.out HB.out)) HC0_0.out A17.out) ?_; intro w30 hb; replace BK282 := bb BK282 hb; replace BK283 := bb BK283 hb; replace HB := bs HB hb; clear hb))
  go_ret
  exact ⟨er, bw HB⟩
 intro c16 c16b0 c16b1 H
 refine be H ?_; clear H; intro t287 A31 H
 refine qT H ?_ ?_ <;> clear H <;> intro c32 H <;> subst c32
 ·obtain rfl := Option.some.inj H
  have hnb33 := NB283_282.out
  have hnc33 := NB282_283.out
  have hcz34 := bK wc BK283
  have hfz34 := bF BK283
  go_wp2_with (first | ((with_reducible refine gate_callee (f := 176) rfl ?_); refine goesL_ (some 34) rfl rfl Try.func176 (by kernel_rfl) rfl #[.int .i64 a1_0] rfl gl ?_; (with_reducible refine (impl_isUnary.calls a1_0 true _ A31.out).mono ?_); rintro e w' ⟨rfl, ⟨nd, rfl⟩⟩; refine ⟨_, rfl, ?_⟩))
  go_ret
  exact ⟨er, bw HB⟩
 have HC35 := am H
 clear H
 have hnb36 := NB283_282.out
 have hnc36 := NB282_283.out
 have hcz37 := bK wc BK283
 have hfz37 := bF BK283
 go_upto_if 37 with (first | ((with_reducible refine gate_callee (f := 176) rfl ?_); refine goesL_ (some 34) rfl rfl Try.func176 (by kernel_rfl) rfl #[.int .i64 a1_0] rfl gl ?_; (with_reducible refine (impl_isUnary.calls a1_0 false _ A31.out).mono ?_); rintro e w' ⟨rfl, ⟨nd, rfl⟩⟩; refine ⟨_, rfl, ?_⟩))
 (try simp only [Act.put, sa, sz, ss])
 go_cut [37] (fun v37 wc => ∃ (kq : Nat) (x37_34 : Bool), v37 = .bool x37_34 ∧ Aside0 (impl_Takes.j1 kq x37_34 = some r) ∧ Aside0 (kq ≤ kj3) ∧ Aside0 (wc.heap[gb282]? = some (.cells #[(.slice A0_0 l0_0.length c0_0)] 30 (0, 0))) ∧ Aside0 (wc.heap[gb283]? = some (.cells #[.int .i64 a1_0, .int .i64 a1_1] 102 (0, 0))) ∧ Aside0 (Below w.heap.size w wc))
 case first =>
  have H := HC35.out
  clear HC35
  refine qE H ?_ ?_ <;> clear H
  ·intro c38b0 c38b1 H
   (first | rw [c38b0] | (simp only [i64_w, i32_w]; rw [c38b0]) | skip)
   have H' := am H
   clear H
   go_wp2
   go_meet
   case rel => exact ⟨_, ((a1_0 == 3)), dr, H', ⟨lk1 HJ3⟩, ⟨bp BK282⟩, ⟨bp BK283⟩, ⟨bw HB⟩⟩
  intro c38 c38b0 c38b1 H
  (first | rw [c38b0] | (simp only [i64_w, i32_w]; rw [c38b0]) | skip)
  refine qE H ?_ ?_ <;> clear H
  ·intro c39b0 c39b1 H
   have H' := am H
   clear H
   go_wp2
   go_meet
   case rel => exact ⟨_, ((a1_0 == 4)), dr, H', ⟨lk1 HJ3⟩, ⟨bp BK282⟩, ⟨bp BK283⟩, ⟨bw HB⟩⟩
  intro c39 c39b0 c39b1 H
  refine qE H ?_ ?_ <;> clear H
  ·intro c40b0 c40b1 H
   have H' := am H
   clear H
   go_wp2
   go_meet
   case rel => exact ⟨_, ((a1_0 == 5)), dr, H', ⟨lk1 HJ3⟩, ⟨bp BK282⟩, ⟨bp BK283⟩, ⟨bw HB⟩⟩
  intro c40 c40b0 c40b1 H
  refine qE H ?_ ?_ <;> clear H
  ·intro c41b0 c41b1 H
   have H' := am H
   clear H
   go_wp2
   go_meet
   case rel => exact ⟨_, ((a1_0 == 31)), dr, H', ⟨lk1 HJ3⟩, ⟨bp BK282⟩, ⟨bp BK283⟩, ⟨bw HB⟩⟩
  intro c41 c41b0 c41b1 H
  refine qE H ?_ ?_ <;> clear H
  ·intro c42b0 c42b1 H
   have H' := am H
   clear H
   go_wp2
   go_meet
   case rel => exact ⟨_, ((a1_0 == 33)), dr, H', ⟨lk1 HJ3⟩, ⟨bp BK282⟩, ⟨bp BK283⟩, ⟨bw HB⟩⟩
  intro c42 c42b0 c42b1 H
  refine qE H ?_ ?_ <;> clear H
  ·intro c43b0 c43b1 H
   have H' := am H
   clear H
   go_wp2
   go_meet
   case rel => exact ⟨_, ((a1_0 == 34)), dr, H', ⟨lk1 HJ3⟩, ⟨bp BK282⟩, ⟨bp BK283⟩, ⟨bw HB⟩⟩
  intro c43 c43b0 c43b1 H
  refine qE H ?_ ?_ <;> clear H
  ·intro c44b0 c44b1 H
   have H' := am H
   clear H
   go_wp2
   go_meet
   case rel => exact ⟨_, ((a1_0 == 37)), dr, H', ⟨lk1 HJ3⟩, ⟨bp BK282⟩, ⟨bp BK283⟩, ⟨bw HB⟩⟩
  intro c44 c44b0 c44b1 H
  have H' := am H
  clear H
  go_wp2
  go_meet
  case rel => exact ⟨_, ((a1_0 == 38)), dr, H', ⟨lk1 HJ3⟩, ⟨bp BK282⟩, ⟨bp BK283⟩, ⟨bw HB⟩⟩
 clear HC35
 (try clear c2); (try clear q2); (try clear hx2); (try clear c3); (try clear c4); (try clear c12); (try clear c13); (try clear c13b0); (try clear c13b1); (try clear c14); (try clear c16); (try clear c16b0); (try clear c16b1); (try clear c17); (try clear c18); (try clear c19); (try clear c19b0); (try clear c20); (try clear c20b0); (try clear c21); (try clear c27); (try clear c28); (try clear p28); (try clear q28); (try clear hx28); (try clear c32); (try clear c33); (try clear c36); (try clear c38); (try clear c38b0); (try clear c38b1); (try clear c39); (try clear c39b0); (try clear c39b1); (try clear c40); (try clear c40b0); (try clear c40b1); (try clear c41); (try clear c41b0); (try clear c41b1); (try clear c42); (try clear c42b0); (try clear c42b1); (try clear c43); (try clear c43b0); (try clear c43b1); (try clear c44); (try clear c44b0); (try clear c44b1); (try clear hcz15); (try clear hcz22); (try clear hcz23); (try clear hcz25); (try clear hcz26); (try clear hcz28); (try clear hcz29); (try clear hcz34); (try clear hcz37); (try clear hfz15); (try clear hfz22); (try clear hfz23); (try clear hfz25); (try clear hfz26); (try clear hfz28); (try clear hfz29); (try clear hfz34); (try clear hfz37); (try clear hx286_0); (try clear hx286_1); (try clear hx286_2); (try clear p286); (try clear q286)
 obtain ⟨kq, x37_34, rfl, HA, HJ34, BK282, BK283, HB⟩ := hcut
 rcases kq with _ | kj34
 ·exact absurd HA.out (by simp [impl_Takes.j1])
 have H := HA.out
 clear HA
 simp only [impl_Takes.j1] at H
 refine qT H ?_ ?_ <;> clear H <;> intro c45 H <;> subst c45
 ·obtain rfl := Option.some.inj H
  go_wp2
  go_ret
  exact ⟨er, bw HB⟩
 obtain rfl := Option.some.inj H
 go_wp2
 go_ret
 exact ⟨er, bw HB⟩

def impl_isArith.f (a0 : Int) : Option (Bool) := (impl_in.f a0 10 29).bind fun t288 => (some t288)
theorem impl_isArith.calls (a0 : Int) (r : Bool) (w : World) (h : impl_isArith.f a0 = some r) :
  Calls Try.prog 177 #[.int .i64 a0] w fun e w' => e = .returned (.bool r) ∧ Drawn0 w w' := by
 have H : ((impl_in.f a0 10 29).bind fun t288 => (some t288)) = some r := h
 clear h
 refine be H ?_; clear H; intro t288 A2 H
 obtain rfl := Option.some.inj H
 go_enter Try.func177, Try.ntmps177
 go_wp2_with (first | ((with_reducible refine gate_callee (f := 85) rfl ?_); refine goesL_ (some 4) rfl rfl Try.func85 (by kernel_rfl) rfl #[.int .i64 a0, .int .i64 10, .int .i64 29] rfl gl ?_; (with_reducible refine (impl_in.calls a0 10 29 t288 _ A2.out).mono ?_); rintro e w' ⟨rfl, ⟨nd, rfl⟩⟩; refine ⟨_, rfl, ?_⟩))
 go_ret
 exact ⟨by first | rfl | (simp; done) | (simp [*]; done), by repeat (first | exact Drawn0.refl _ | apply Drawn0.step)⟩

def impl_Puts.j0 : Nat → Bool → Int → Int → Option (Int)
 | 0, _, _, _ => none
 | k + 1, x7, x290000, x290001 => if x7 = true then (some 1) else ((impl_isArith.f x290000).bind fun t290 => (if t290 = true then (some 1) else (some 0)))
def impl_Puts.f (k : Nat) (a0_0 : Int) (a0_1 : Int) : Option (Int) := if a0_0 = 4 then (some 2) else (if a0_0 = 1 then (impl_Puts.j0 k (a0_0 == 1) a0_0 a0_1) else (if a0_0 = 2 then (impl_Puts.j0 k (a0_0 == 2) a0_0 a0_1) else (if a0_0 = 32 then (impl_Puts.j0 k (a0_0 == 32) a0_0 a0_1) else (if a0_0 = 34 then (impl_Puts.j0 k (a0_0 == 34) a0_0 a0_1) else (if a0_0 = 35 then (impl_Puts.j0 k (a0_0 == 35) a0_0 a0_1) else (impl_Puts.j0 k (a0_0 == 37) a0_0 a0_1))))))
theorem impl_Puts.mono_l : ∀ k, (∀ y0 y1 y2, LeO (impl_Puts.j0 k y0 y1 y2) (impl_Puts.j0 (k + 1) y0 y1 y2))
 | 0 => fun _ _ _ r h => by simp [impl_Puts.j0] at h
 | k + 1 => by
  have ih0 := impl_Puts.mono_l k
  ·intro y0 y1 y2
   unfold impl_Puts.j0
   with_reducible repeat' first | exact ih0 .. | exact LeO.refl _ | exact LeO.none _ | refine LeO.ite ?_ ?_ | refine LeO.bind ?_ (fun _ => ?_)
theorem impl_Puts.mono : ∀ a0 a1 k, LeO (impl_Puts.f k a0 a1) (impl_Puts.f (k + 1) a0 a1) := by
 intro a0 a1 k
 have ih0 := impl_Puts.mono_l k
 unfold impl_Puts.f
 with_reducible repeat' first | exact ih0 .. | exact LeO.refl _ | exact LeO.none _ | refine LeO.ite ?_ ?_ | refine LeO.bind ?_ (fun _ => ?_)
theorem impl_Puts.calls (k : Nat) (a0_0 : Int) (a0_1 : Int) (r : Int) (w : World) (h : impl_Puts.f k a0_0 a0_1 = some r) :
  Calls Try.prog 140 #[.agg #[.int .i64 a0_0, .int .i64 a0_1]] w fun e w' => e = .returned (.int .i64 r) ∧ Below w.heap.size w w' := by
 have hu102 := Try.underlying102
 have HB := am (Below.refl w.heap.size w)
 have H : (if a0_0 = 4 then (some 2) else (if a0_0 = 1 then (impl_Puts.j0 k (a0_0 == 1) a0_0 a0_1) else (if a0_0 = 2 then (impl_Puts.j0 k (a0_0 == 2) a0_0 a0_1) else (if a0_0 = 32 then (impl_Puts.j0 k (a0_0 == 32) a0_0 a0_1) else (if a0_0 = 34 then (impl_Puts.j0 k (a0_0 == 34) a0_0 a0_1) else (if a0_0 = 35 then (impl_Puts.j0 k (a0_0 == 35) a0_0 a0_1) else (impl_Puts.j0 k (a0_0 == 37) a0_0 a0_1))))))) = some r := h
 clear h
 refine qE H ?_ ?_ <;> clear H
 ·intro c2b0 c2b1 H
  obtain rfl := Option.some.inj H
  go_enter Try.func140, Try.ntmps140
  go_wp2_with (first | ((with_reducible refine gd 1 rfl ?_); refine bX 1 #[.int .i64 a0_0, .int .i64 a0_1] 102 HB ?_; clear HB; intro gb289 w3 hg hb BK289 GW289 HB; clear hb hg; have hcz4 := bK w3 BK289; have hfz4 := bF BK289))
  go_ret
  exact ⟨er, bw HB⟩
 intro c2 c2b0 c2b1 H
 have HC5 := am H
 clear H
 go_enter Try.func140, Try.ntmps140
 go_upto_if 7 with (first | ((with_reducible refine gd 1 rfl ?_); refine bX 1 #[.int .i64 a0_0, .int .i64 a0_1] 102 HB ?_; clear HB; intro gb289 w6 hg hb BK289 GW289 HB; clear hb hg; have hcz7 := bK w6 BK289; have hfz7 := bF BK289))
 (try simp only [Act.put, sa, sz, ss])
 go_cut [7] (fun v7 wc => ∃ (kq : Nat) (x7_4 : Bool), v7 = .bool x7_4 ∧ Aside0 (impl_Puts.j0 kq x7_4 a0_0 a0_1 = some r) ∧ Aside0 (kq ≤ k) ∧ Aside0 (wc.heap[gb289]? = some (.cells #[.int .i64 a0_0, .int .i64 a0_1] 102 (0, 0))) ∧ Aside0 (Below w.heap.size w wc))
 case first =>
  have H := HC5.out
  clear HC5
  refine qE H ?_ ?_ <;> clear H
  ·intro c8b0 c8b1 H
   (first | rw [c8b0] | (simp only [i64_w, i32_w]; rw [c8b0]) | skip)
   have H' := am H
   clear H
   go_wp2
   go_meet
   case rel => exact ⟨_, ((a0_0 == 1)), dr, H', ⟨lk0⟩, ⟨bp BK289⟩, ⟨bw HB⟩⟩
  intro c8 c8b0 c8b1 H
  (first | rw [c8b0] | (simp only [i64_w, i32_w]; rw [c8b0]) | skip)
  refine qE H ?_ ?_ <;> clear H
  ·intro c9b0 c9b1 H
   have H' := am H
   clear H
   go_wp2
   go_meet
   case rel => exact ⟨_, ((a0_0 == 2)), dr, H', ⟨lk0⟩, ⟨bp BK289⟩, ⟨bw HB⟩⟩
  intro c9 c9b0 c9b1 H
  refine qE H ?_ ?_ <;> clear H
  ·intro c10b0 c10b1 H
   have H' := am H
   clear H
   go_wp2
   go_meet
   case rel => exact ⟨_, ((a0_0 == 32)), dr, H', ⟨lk0⟩, ⟨bp BK289⟩, ⟨bw HB⟩⟩
  intro c10 c10b0 c10b1 H
  refine qE H ?_ ?_ <;> clear H
  ·intro c11b0 c11b1 H
   have H' := am H
   clear H
   go_wp2
   go_meet
   case rel => exact ⟨_, ((a0_0 == 34)), dr, H', ⟨lk0⟩, ⟨bp BK289⟩, ⟨bw HB⟩⟩
  intro c11 c11b0 c11b1 H
  refine qE H ?_ ?_ <;> clear H
  ·intro c12b0 c12b1 H
   have H' := am H
   clear H
   go_wp2
   go_meet
   case rel => exact ⟨_, ((a0_0 == 35)), dr, H', ⟨lk0⟩, ⟨bp BK289⟩, ⟨bw HB⟩⟩
  intro c12 c12b0 c12b1 H
  have H' := am H
  clear H
  go_wp2
  go_meet
  case rel => exact ⟨_, ((a0_0 == 37)), dr, H', ⟨lk0⟩, ⟨bp BK289⟩, ⟨bw HB⟩⟩
 clear HC5
 (try clear c1); (try clear c2); (try clear c2b0); (try clear c2b1); (try clear p2); (try clear c8); (try clear c8b0); (try clear c8b1); (try clear c9); (try clear c9b0); (try clear c9b1); (try clear c10); (try clear c10b0); (try clear c10b1); (try clear c11); (try clear c11b0); (try clear c11b1); (try clear c12); (try clear c12b0); (try clear c12b1); (try clear hcz4); (try clear hcz7); (try clear hfz4); (try clear hfz7)
 obtain ⟨kq, x7_4, rfl, HA, HJ4, BK289, HB⟩ := hcut
 rcases kq with _ | kj4
 ·exact absurd HA.out (by simp [impl_Puts.j0])
 have H := HA.out
 clear HA
 simp only [impl_Puts.j0] at H
 refine qT H ?_ ?_ <;> clear H <;> intro c13 H <;> subst c13
 ·obtain rfl := Option.some.inj H
  go_wp2
  go_ret
  exact ⟨er, bw HB⟩
 refine be H ?_; clear H; intro t290 A14 H
 refine qT H ?_ ?_ <;> clear H <;> intro c15 H <;> subst c15
 ·obtain rfl := Option.some.inj H
  have hcz16 := bK wc BK289
  have hfz16 := bF BK289
  go_wp2_with (first | ((with_reducible refine gate_callee (f := 177) rfl ?_); refine goesL_ (some 16) rfl rfl Try.func177 (by kernel_rfl) rfl #[.int .i64 a0_0] rfl gl ?_; (with_reducible refine (impl_isArith.calls a0_0 true _ A14.out).mono ?_); rintro e w' ⟨rfl, ⟨nd, rfl⟩⟩; refine ⟨_, rfl, ?_⟩))
  go_ret
  exact ⟨er, bw HB⟩
 obtain rfl := Option.some.inj H
 have hcz17 := bK wc BK289
 have hfz17 := bF BK289
 go_wp2_with (first | ((with_reducible refine gate_callee (f := 177) rfl ?_); refine goesL_ (some 16) rfl rfl Try.func177 (by kernel_rfl) rfl #[.int .i64 a0_0] rfl gl ?_; (with_reducible refine (impl_isArith.calls a0_0 false _ A14.out).mono ?_); rintro e w' ⟨rfl, ⟨nd, rfl⟩⟩; refine ⟨_, rfl, ?_⟩))
 go_ret
 exact ⟨er, bw HB⟩

def impl_next.f (a0_0 : Int) (a0_1 : Int) (a1 : Int) : Option (List Int) := if a0_0 = 33 then (some ([] : List Int)) else (if a0_0 = 30 then (some (([a0_1] : List Int))) else (if a0_0 = 31 then (some (([wrap64 (a1 + 1), a0_1] : List Int))) else (some (([wrap64 (a1 + 1)] : List Int)))))
theorem impl_next.calls (a0_0 : Int) (a0_1 : Int) (a1 : Int) (r : List Int) (w : World) (h : impl_next.f a0_0 a0_1 a1 = some r) :
  Calls Try.prog 147 #[.agg #[.int .i64 a0_0, .int .i64 a0_1], .int .i64 a1] w fun e w' => ∃ v0_ : Value, e = .returned (v0_) ∧ Kd.R (Kd.int .i64) 2 w' w.heap.size (fun _ => True) v0_ r ∧ Below w.heap.size w w' := by
 have hu102 := Try.underlying102
 have HB := am (Below.refl w.heap.size w)
 have H : (if a0_0 = 33 then (some ([] : List Int)) else (if a0_0 = 30 then (some (([a0_1] : List Int))) else (if a0_0 = 31 then (some (([wrap64 (a1 + 1), a0_1] : List Int))) else (some (([wrap64 (a1 + 1)] : List Int)))))) = some r := h
 clear h
 refine qE H ?_ ?_ <;> clear H
 ·intro c3b0 c3b1 H
  obtain rfl := Option.some.inj H
  go_enter Try.func147, Try.ntmps147
  go_wp2_with (first | ((with_reducible refine gd 2 rfl ?_); refine bX 2 #[.int .i64 a0_0, .int .i64 a0_1] 102 HB ?_; clear HB; intro gb291 w4 hg hb BK291 GW291 HB; clear hb hg; have hcz5 := bK w4 BK291; have hfz5 := bF BK291))
  go_ret
  exact ⟨_, er, by first | exact Kd.R_nil _ _ _ _ _ | exact Kd.N_nil _ _ _ _ _ | exact Kd.V_nil _ _ _ _ _ | exact Kd.Q_nil _ _ _ _ _ | exact Kd.S_nil _ _ _ _ _, bw HB⟩
 intro c3 c3b0 c3b1 H
 refine qE H ?_ ?_ <;> clear H
 ·intro c6b0 c6b1 H
  obtain ⟨y292, hy292⟩ : ∃ y_ : List Int, y_ = (([a0_1] : List Int)) := ⟨_, rfl⟩
  replace H : (some y292) = some r := by first | (rw [hy292]; with_reducible exact H) | (have H2_ := (Option.bind_some _ _).symm.trans H; rw [hy292]; with_reducible exact H2_) | (have H2_ := (Option.bind_some _ _).symm.trans H; with_reducible exact H2_) | with_reducible exact H | (rw [hy292]; exact H) | exact H
  have Ny292 := am hy292
  clear hy292
  obtain rfl := Option.some.inj H
  go_enter Try.func147, Try.ntmps147
  go_wp2_with (first | ((with_reducible refine gd 2 rfl ?_); refine bX 2 #[.int .i64 a0_0, .int .i64 a0_1] 102 HB ?_; clear HB; intro gb291 w7 hg hb BK291 GW291 HB; clear hb hg; have hcz8 := bK w7 BK291; have hfz8 := bF BK291) | ((with_reducible refine gate_dst (N := 13) rfl ?_); refine Kd.R_lit (Kd.int .i64) _ 2 ?hg (N := 13) ?hd (xs := ([a0_1] : List Int)) (inner := [.int .i64 a0_1]) (ok := fun _ => True) (okp := fun _ => True) ?hr ?hp (fun _ hk => hk) trivial (Below.refl _ _) (Nat.le_refl _) (by simp) ?_; (case hd => rfl); (case hg => rfl); (case hr => exact gs); (case hp => exact (Reps.one (show Kd.M (Kd.int .i64) _ _ _ a0_1 [.int .i64 a0_1] from rfl) (Reps.none _ _))); intro v293 w9 ho10 hb hg_ hnew_; clear hg_ hnew_; (first | rw [← Ny292.out] at ho10 | (simp only [Int.reduceToNat] at ho10; rw [← Ny292.out] at ho10)); have HO294 := am (Kd.R_lower ho10 (below_size (bw HB))); replace BK291 := bb BK291 hb; replace HB := bs HB hb; clear hb ho10))
  go_ret
  exact ⟨_, er, kR HO294, bw HB⟩
 intro c6 c6b0 c6b1 H
 refine qE H ?_ ?_ <;> clear H
 ·intro c11b0 c11b1 H
  obtain ⟨y295, hy295⟩ : ∃ y_ : List Int, y_ = (([wrap64 (a1 + 1), a0_1] : List Int)) := ⟨_, rfl⟩
  replace H : (some y295) = some r := by first | (rw [hy295]; with_reducible exact H) | (have H2_ := (Option.bind_some _ _).symm.trans H; rw [hy295]; with_reducible exact H2_) | (have H2_ := (Option.bind_some _ _).symm.trans H; with_reducible exact H2_) | with_reducible exact H | (rw [hy295]; exact H) | exact H
  have Ny295 := am hy295
  clear hy295
  obtain rfl := Option.some.inj H
  go_enter Try.func147, Try.ntmps147
  go_wp2_with (first | ((with_reducible refine gd 2 rfl ?_); refine bX 2 #[.int .i64 a0_0, .int .i64 a0_1] 102 HB ?_; clear HB; intro gb291 w12 hg hb BK291 GW291 HB; clear hb hg; have hcz13 := bK w12 BK291; have hfz13 := bF BK291) | ((with_reducible refine gate_dst (N := 20) rfl ?_); refine Kd.R_lit (Kd.int .i64) _ 2 ?hg (N := 20) ?hd (xs := ([wrap64 (a1 + 1), a0_1] : List Int)) (inner := [.int .i64 (wrap64 (a1 + 1)), .int .i64 a0_1]) (ok := fun _ => True) (okp := fun _ => True) ?hr ?hp (fun _ hk => hk) trivial (Below.refl _ _) (Nat.le_refl _) (by simp) ?_; (case hd => rfl); (case hg => rfl); (case hr => exact gs); (case hp => exact (Reps.one (show Kd.M (Kd.int .i64) _ _ _ (wrap64 (a1 + 1)) [.int .i64 (wrap64 (a1 + 1))] from rfl) (Reps.one (show Kd.M (Kd.int .i64) _ _ _ a0_1 [.int .i64 a0_1] from rfl) (Reps.none _ _)))); intro v296 w14 ho15 hb hg_ hnew_; clear hg_ hnew_; (first | rw [← Ny295.out] at ho15 | (simp only [Int.reduceToNat] at ho15; rw [← Ny295.out] at ho15)); have HO297 := am (Kd.R_lower ho15 (below_size (bw HB))); replace BK291 := bb BK291 hb; replace HB := bs HB hb; clear hb ho15))
  go_ret
  exact ⟨_, er, kR HO297, bw HB⟩
 intro c11 c11b0 c11b1 H
 obtain ⟨y298, hy298⟩ : ∃ y_ : List Int, y_ = (([wrap64 (a1 + 1)] : List Int)) := ⟨_, rfl⟩
 replace H : (some y298) = some r := by first | (rw [hy298]; with_reducible exact H) | (have H2_ := (Option.bind_some _ _).symm.trans H; rw [hy298]; with_reducible exact H2_) | (have H2_ := (Option.bind_some _ _).symm.trans H; with_reducible exact H2_) | with_reducible exact H | (rw [hy298]; exact H) | exact H
 have Ny298 := am hy298
 clear hy298
 obtain rfl := Option.some.inj H
 go_enter Try.func147, Try.ntmps147
 go_wp2_with (first | ((with_reducible refine gd 2 rfl ?_); refine bX 2 #[.int .i64 a0_0, .int .i64 a0_1] 102 HB ?_; clear HB; intro gb291 w16 hg hb BK291 GW291 HB; clear hb hg; have hcz17 := bK w16 BK291; have hfz17 := bF BK291) | ((with_reducible refine gate_dst (N := 23) rfl ?_); refine Kd.R_lit (Kd.int .i64) _ 2 ?hg (N := 23) ?hd (xs := ([wrap64 (a1 + 1)] : List Int)) (inner := [.int .i64 (wrap64 (a1 + 1))]) (ok := fun _ => True) (okp := fun _ => True) ?hr ?hp (fun _ hk => hk) trivial (Below.refl _ _) (Nat.le_refl _) (by simp) ?_; (case hd => rfl); (case hg => rfl); (case hr => exact gs); (case hp => exact (Reps.one (show Kd.M (Kd.int .i64) _ _ _ (wrap64 (a1 + 1)) [.int .i64 (wrap64 (a1 + 1))] from rfl) (Reps.none _ _))); intro v299 w18 ho19 hb hg_ hnew_; clear hg_ hnew_; (first | rw [← Ny298.out] at ho19 | (simp only [Int.reduceToNat] at ho19; rw [← Ny298.out] at ho19)); have HO300 := am (Kd.R_lower ho19 (below_size (bw HB))); replace BK291 := bb BK291 hb; replace HB := bs HB hb; clear hb ho19))
 go_ret
 exact ⟨_, er, kR HO300, bw HB⟩

end Go.Proofs.Ytbmjmaahcaoajaa.QFnExactSeenRight
