import Derived.Test.YtcdohkilplgmjaaCFnExactPlainx0
import Derived.Test.YtcdohkilplgmjaaCFnExactPlainx8
namespace Go.Proofs.Ytcdohkilplgmjaa.QFnExactPlain
open Go.RowKit Go.Proofs.YtcdohkilplgmjaaW
open PrintWords PrintLast PrintMore PrintShort PrintIsh
attribute [local go_sem] max2_int min2_int max_two min_two max_three min_three max_four min_four   -- for this text's walks alone
set_option linter.unusedVariables false
set_option maxHeartbeats 8000000
set_option maxRecDepth 100000
set_option linter.unusedSimpArgs false

def impl_isBinary.f (a0 : Int) : Option (Bool) := (impl_in.f a0 10 23).bind fun t319 => (some t319)
theorem impl_isBinary.calls (a0 : Int) (r : Bool) (w : World) (h : impl_isBinary.f a0 = some r) :
  Calls Try.prog 62 #[.int .i64 a0] w fun e w' => e = .returned (.bool r) ∧ Drawn0 w w' := by
 have H : ((impl_in.f a0 10 23).bind fun t319 => (some t319)) = some r := h
 clear h
 refine be H ?_; clear H; intro t319 A2 H
 obtain rfl := Option.some.inj H
 go_enter Try.func62, Try.ntmps62
 go_wp2_with (first | ((with_reducible refine gate_callee (f := 70) rfl ?_); refine goesL_ (some 4) rfl rfl Try.func70 (by kernel_rfl) rfl #[.int .i64 a0, .int .i64 10, .int .i64 23] rfl gl ?_; (with_reducible refine (impl_in.calls a0 10 23 t319 _ A2.out).mono ?_); rintro e w' ⟨rfl, ⟨nd, rfl⟩⟩; refine ⟨_, rfl, ?_⟩))
 go_ret
 exact ⟨by first | rfl | (simp; done) | (simp [*]; done), by repeat (first | exact Drawn0.refl _ | apply Drawn0.step)⟩

def impl_isUnary.f (a0 : Int) : Option (Bool) := (impl_in.f a0 24 29).bind fun t320 => (some t320)
theorem impl_isUnary.calls (a0 : Int) (r : Bool) (w : World) (h : impl_isUnary.f a0 = some r) :
  Calls Try.prog 63 #[.int .i64 a0] w fun e w' => e = .returned (.bool r) ∧ Drawn0 w w' := by
 have H : ((impl_in.f a0 24 29).bind fun t320 => (some t320)) = some r := h
 clear h
 refine be H ?_; clear H; intro t320 A2 H
 obtain rfl := Option.some.inj H
 go_enter Try.func63, Try.ntmps63
 go_wp2_with (first | ((with_reducible refine gate_callee (f := 70) rfl ?_); refine goesL_ (some 4) rfl rfl Try.func70 (by kernel_rfl) rfl #[.int .i64 a0, .int .i64 24, .int .i64 29] rfl gl ?_; (with_reducible refine (impl_in.calls a0 24 29 t320 _ A2.out).mono ?_); rintro e w' ⟨rfl, ⟨nd, rfl⟩⟩; refine ⟨_, rfl, ?_⟩))
 go_ret
 exact ⟨by first | rfl | (simp; done) | (simp [*]; done), by repeat (first | exact Drawn0.refl _ | apply Drawn0.step)⟩

mutual
def impl_Takes.j0 : Nat → Bool → List (S53) → Int → Int → Option (Int)
 | 0, _, _, _, _ => none
 | k + 1, x5, x322000, x323000, x323001 => if x5 = true then (some 2) else (if x323000 = 36 then (some 3) else (if x323000 = 32 then ((impl_hasFunc.f x322000 x323001).bind fun t324 => (if t324 = true then (if 0 ≤ x323001 then (if x323001 < (x322000.length : Int) then (some ((rd_T53 x322000 x323001).f0)) else (none)) else (none)) else (some 0))) else ((impl_isUnary.f x323000).bind fun t326 => (if t326 = true then (some 1) else (if x323000 = 3 then (impl_Takes.j1 k (x323000 == 3)) else (if x323000 = 4 then (impl_Takes.j1 k (x323000 == 4)) else (if x323000 = 5 then (impl_Takes.j1 k (x323000 == 5)) else (if x323000 = 31 then (impl_Takes.j1 k (x323000 == 31)) else (if x323000 = 33 then (impl_Takes.j1 k (x323000 == 33)) else (if x323000 = 34 then (impl_Takes.j1 k (x323000 == 34)) else (if x323000 = 37 then (impl_Takes.j1 k (x323000 == 37)) else (impl_Takes.j1 k (x323000 == 38)))))))))))))
def impl_Takes.j1 : Nat → Bool → Option (Int)
 | 0, _ => none
 | k + 1, x37 => if x37 = true then (some 1) else (some 0)
end
def impl_Takes.f (k : Nat) (l0_0 : List (S53)) (a1_0 : Int) (a1_1 : Int) : Option (Int) := (impl_isBinary.f a1_0).bind fun t323 => (if t323 = true then (impl_Takes.j0 k t323 l0_0 a1_0 a1_1) else (impl_Takes.j0 k (a1_0 == 35) l0_0 a1_0 a1_1))
theorem impl_Takes.mono_l : ∀ k, (∀ y0 y1 y2 y3, LeO (impl_Takes.j0 k y0 y1 y2 y3) (impl_Takes.j0 (k + 1) y0 y1 y2 y3)) ∧ (∀ y0, LeO (impl_Takes.j1 k y0) (impl_Takes.j1 (k + 1) y0))
 | 0 => ⟨fun _ _ _ _ r h => by simp [impl_Takes.j0] at h, fun _ r h => by simp [impl_Takes.j1] at h⟩
 | k + 1 => by
  obtain ⟨ih0, ih1⟩ := impl_Takes.mono_l k
  refine ⟨?_, ?_⟩
  ·intro y0 y1 y2 y3
   unfold impl_Takes.j0
   with_reducible repeat' first | exact ih0 .. | exact ih1 .. | exact LeO.refl _ | exact LeO.none _ | refine LeO.ite ?_ ?_ | refine LeO.bind ?_ (fun _ => ?_)
  ·intro y0
   unfold impl_Takes.j1
   with_reducible repeat' first | exact ih0 .. | exact ih1 .. | exact LeO.refl _ | exact LeO.none _ | refine LeO.ite ?_ ?_ | refine LeO.bind ?_ (fun _ => ?_)
theorem impl_Takes.mono : ∀ a0 a1 a2 k, LeO (impl_Takes.f k a0 a1 a2) (impl_Takes.f (k + 1) a0 a1 a2) := by
 intro a0 a1 a2 k
 obtain ⟨ih0, ih1⟩ := impl_Takes.mono_l k
 unfold impl_Takes.f
 with_reducible repeat' first | exact ih0 .. | exact ih1 .. | exact LeO.refl _ | exact LeO.none _ | refine LeO.ite ?_ ?_ | refine LeO.bind ?_ (fun _ => ?_)
theorem impl_Takes.calls (k : Nat) (A0_0 : Option Addr) (c0_0 : Nat) (l0_0 : List (S53)) (a1_0 : Int) (a1_1 : Int) (r : Int) (w : World) (hr0_0 : Kd.C k53 w A0_0 l0_0.length l0_0) (hc0_0 : l0_0.length ≤ c0_0) (h : impl_Takes.f k l0_0 a1_0 a1_1 = some r) :
  Calls Try.prog 41 #[.agg #[.slice A0_0 l0_0.length c0_0], .agg #[.int .i64 a1_0, .int .i64 a1_1]] w fun e w' => e = .returned (.int .i64 r) ∧ Below w.heap.size w w' := by
 have hu33 := Try.underlying33
 have hu59 := Try.underlying59
 have HR0_0 := am hr0_0
 have HC0_0 := am hc0_0
 clear hr0_0 hc0_0
 have HB := am (Below.refl w.heap.size w)
 have H : ((impl_isBinary.f a1_0).bind fun t323 => (if t323 = true then (impl_Takes.j0 k t323 l0_0 a1_0 a1_1) else (impl_Takes.j0 k (a1_0 == 35) l0_0 a1_0 a1_1))) = some r := h
 clear h
 refine be H ?_; clear H; intro t323 A3 H
 have HC4 := am H
 clear H
 go_enter Try.func41, Try.ntmps41
 go_upto_if 5 with (first | ((with_reducible refine gd 2 rfl ?_); refine bX 2 #[.slice A0_0 l0_0.length c0_0] 33 HB ?_; clear HB; intro gb321 w5 hg hb BK321 GW321 HB; clear hb hg) | ((with_reducible refine gd 3 rfl ?_); refine bX 3 #[.int .i64 a1_0, .int .i64 a1_1] 59 HB ?_; clear HB; intro gb322 w6 hg hb BK322 GW322 HB; obtain ⟨NB321_322, NB322_321, BK321⟩ := b3 hg BK321 hb; clear hb hg; have hnb7 := NB322_321.out; have hnc7 := NB321_322.out; have hcz8 := bK w6 BK322; have hfz8 := bF BK322) | ((with_reducible refine gate_callee (f := 62) rfl ?_); refine goesL_ (some 8) rfl rfl Try.func62 (by kernel_rfl) rfl #[.int .i64 a1_0] rfl gl ?_; (with_reducible refine (impl_isBinary.calls a1_0 t323 _ A3.out).mono ?_); rintro e w' ⟨rfl, ⟨nd, rfl⟩⟩; refine ⟨_, rfl, ?_⟩))
 (try simp only [Act.put, sa, sz, ss])
 go_cut [5] (fun v5 wc => ∃ (kq : Nat) (x5_3 : Bool), v5 = .bool x5_3 ∧ Aside0 (impl_Takes.j0 kq x5_3 l0_0 a1_0 a1_1 = some r) ∧ Aside0 (kq ≤ k) ∧ Aside0 (wc.heap[gb321]? = some (.cells #[(.slice A0_0 l0_0.length c0_0)] 33 (0, 0))) ∧ Aside0 (wc.heap[gb322]? = some (.cells #[.int .i64 a1_0, .int .i64 a1_1] 59 (0, 0))) ∧ Aside0 (Below w.heap.size w wc))
 case first =>
  have H := HC4.out
  clear HC4
  refine qT H ?_ ?_ <;> clear H <;> intro c9 H <;> subst c9
  ·have H' := am H
   clear H
   go_wp2
   go_meet
   case rel => exact ⟨_, (true), dr, H', ⟨lk0⟩, ⟨bp BK321⟩, ⟨bp BK322⟩, ⟨bw HB⟩⟩
  have H' := am H
  clear H
  have hnb10 := NB322_321.out
  have hnc10 := NB321_322.out
  have hcz11 := bK w6 BK322
  have hfz11 := bF BK322
  go_wp2
  go_meet
  case rel => exact ⟨_, ((a1_0 == 35)), dr, H', ⟨lk0⟩, ⟨bp BK321⟩, ⟨bp BK322⟩, ⟨bw HB⟩⟩
 clear HC4
 (try clear c1); (try clear p2); (try clear c4); (try clear c6); (try clear c7); (try clear c9); (try clear c10); (try clear hcz11); (try clear hcz8); (try clear hfz11); (try clear hfz8)
 obtain ⟨kq, x5_3, rfl, HA, HJ3, BK321, BK322, HB⟩ := hcut
 rcases kq with _ | kj3
 ·exact absurd HA.out (by simp [impl_Takes.j0])
 have H := HA.out
 clear HA
 simp only [impl_Takes.j0] at H
 refine qT H ?_ ?_ <;> clear H <;> intro c12 H <;> subst c12
 ·obtain rfl := Option.some.inj H
  go_wp2
  go_ret
  exact ⟨er, bw HB⟩
 refine qE H ?_ ?_ <;> clear H
 ·intro c13b0 c13b1 H
  obtain rfl := Option.some.inj H
  have hnb14 := NB322_321.out
  have hnc14 := NB321_322.out
  have hcz15 := bK wc BK322
  have hfz15 := bF BK322
  go_wp2
  go_ret
  exact ⟨er, bw HB⟩
 intro c13 c13b0 c13b1 H
 refine qE H ?_ ?_ <;> clear H
 ·intro c16b0 c16b1 H
  refine be H ?_; clear H; intro t324 A17 H
  have HC18 := am H
  clear H
  have hnb19 := NB322_321.out
  have hnc19 := NB321_322.out
  have hcz20 := bK wc BK322
  have hfz20 := bF BK322
  have hcz21 := bK wc BK321
  have hfz21 := bF BK321
  go_upto_if 23 with (first | ((with_reducible refine gk 36 rfl ?_); refine gB 36 (some 23) Try.func36 #[.agg #[.slice A0_0 l0_0.length c0_0], .int .i64 a1_1] (impl_hasFunc.calls _ _ l0_0 a1_1 t324 _ (cc (Kd.C_below HR0_0.out HB.out)) HC0_0.out A17.out) ?_; intro w22 hb; replace BK321 := bb BK321 hb; replace BK322 := bb BK322 hb; replace HB := bs HB hb; clear hb))
  (try simp only [Act.put, sa, sz, ss])
  have H := HC18.out
  clear HC18
  refine qT H ?_ ?_ <;> clear H <;> intro c23 H <;> subst c23
  ·refine iM H ?_; clear H; intro c24b0 H
   (first | rw [c24b0] | (simp only [i64_w, i32_w]; rw [c24b0]) | skip)
   refine iM H ?_; clear H; intro c25b0 H
   obtain rfl := Option.some.inj H
   have hnb26 := NB321_322.out
   have hnc26 := NB322_321.out
   have hcz27 := bK w22 BK321
   have hfz27 := bF BK321
   have hcz28 := bK w22 BK322
   have hfz28 := bF BK322
   have p325 : 0 ≤ (a1_1 : Int) := of_decide_eq_true as1
   have q325 : a1_1 < (l0_0.length : Int) := of_decide_eq_true as1
   obtain ⟨ad325, A325_2, c325_2, e325, hx325_0, hx325_1, hx325_2, hl325_2, hi325_2⟩ := at_T53 HR0_0.out a1_1 p325 q325
   cases e325
   replace hx325_0 := cl HB hx325_0
   replace hx325_1 := cl HB hx325_1
   replace hx325_2 := cl HB hx325_2
   have HR325_2 := am hi325_2
   have HC325_2 := am hl325_2
   clear hi325_2 hl325_2
   replace p325 := eq_true p325
   replace q325 := eq_true q325
   go_wp2
   go_ret
   exact ⟨er, bw HB⟩
  obtain rfl := Option.some.inj H
  go_wp2
  go_ret
  exact ⟨er, bw HB⟩
 intro c16 c16b0 c16b1 H
 refine be H ?_; clear H; intro t326 A29 H
 have HC30 := am H
 clear H
 have hnb31 := NB322_321.out
 have hnc31 := NB321_322.out
 have hcz32 := bK wc BK322
 have hfz32 := bF BK322
 go_upto_if 31 with (first | ((with_reducible refine gate_callee (f := 63) rfl ?_); refine goesL_ (some 34) rfl rfl Try.func63 (by kernel_rfl) rfl #[.int .i64 a1_0] rfl gl ?_; (with_reducible refine (impl_isUnary.calls a1_0 t326 _ A29.out).mono ?_); rintro e w' ⟨rfl, ⟨nd, rfl⟩⟩; refine ⟨_, rfl, ?_⟩))
 (try simp only [Act.put, sa, sz, ss])
 (try simp only [World.drewN_drewN])
 generalize hq_ : World.drewN wc _ = w33
 replace BK321 : Aside0 (w33.heap[gb321]? = some (.cells #[.slice A0_0 l0_0.length c0_0] 33 (0, 0))) := ⟨by rw [← hq_]; exact (bp BK321)⟩
 replace BK322 : Aside0 (w33.heap[gb322]? = some (.cells #[.int .i64 a1_0, .int .i64 a1_1] 59 (0, 0))) := ⟨by rw [← hq_]; exact (bp BK322)⟩
 replace HB : Aside0 (Below w.heap.size w w33) := ⟨by rw [← hq_]; exact (bw HB)⟩
 clear hq_
 have H := HC30.out
 clear HC30
 refine qT H ?_ ?_ <;> clear H <;> intro c34 H <;> subst c34
 ·obtain rfl := Option.some.inj H
  go_wp2
  go_ret
  exact ⟨er, bw HB⟩
 have HC35 := am H
 clear H
 have hnb36 := NB322_321.out
 have hnc36 := NB321_322.out
 have hcz37 := bK w33 BK322
 have hfz37 := bF BK322
 go_upto_if 37 with (fail)
 go_cut [37] (fun v37 wc => ∃ (kq : Nat) (x37_34 : Bool), v37 = .bool x37_34 ∧ Aside0 (impl_Takes.j1 kq x37_34 = some r) ∧ Aside0 (kq ≤ kj3) ∧ Aside0 (wc.heap[gb321]? = some (.cells #[(.slice A0_0 l0_0.length c0_0)] 33 (0, 0))) ∧ Aside0 (wc.heap[gb322]? = some (.cells #[.int .i64 a1_0, .int .i64 a1_1] 59 (0, 0))) ∧ Aside0 (Below w.heap.size w wc))
 case first =>
  have H := HC35.out
  clear HC35
  refine qE H ?_ ?_ <;> clear H
  ·intro c38b0 c38b1 H
   (first | rw [c38b0] | (simp only [i64_w, i32_w]; rw [c38b0]) | skip)
   have H' := am H
   clear H
   go_wp2
   go_meet
   case rel => exact ⟨_, ((a1_0 == 3)), dr, H', ⟨lk1 HJ3⟩, ⟨bp BK321⟩, ⟨bp BK322⟩, ⟨bw HB⟩⟩
  intro c38 c38b0 c38b1 H
  (first | rw [c38b0] | (simp only [i64_w, i32_w]; rw [c38b0]) | skip)
  refine qE H ?_ ?_ <;> clear H
  ·intro c39b0 c39b1 H
   have H' := am H
   clear H
   go_wp2
   go_meet
   case rel => exact ⟨_, ((a1_0 == 4)), dr, H', ⟨lk1 HJ3⟩, ⟨bp BK321⟩, ⟨bp BK322⟩, ⟨bw HB⟩⟩
  intro c39 c39b0 c39b1 H
  refine qE H ?_ ?_ <;> clear H
  ·intro c40b0 c40b1 H
   have H' := am H
   clear H
   go_wp2
   go_meet
   case rel => exact ⟨_, ((a1_0 == 5)), dr, H', ⟨lk1 HJ3⟩, ⟨bp BK321⟩, ⟨bp BK322⟩, ⟨bw HB⟩⟩
  intro c40 c40b0 c40b1 H
  refine qE H ?_ ?_ <;> clear H
  ·intro c41b0 c41b1 H
   have H' := am H
   clear H
   go_wp2
   go_meet
   case rel => exact ⟨_, ((a1_0 == 31)), dr, H', ⟨lk1 HJ3⟩, ⟨bp BK321⟩, ⟨bp BK322⟩, ⟨bw HB⟩⟩
  intro c41 c41b0 c41b1 H
  refine qE H ?_ ?_ <;> clear H
  ·intro c42b0 c42b1 H
   have H' := am H
   clear H
   go_wp2
   go_meet
   case rel => exact ⟨_, ((a1_0 == 33)), dr, H', ⟨lk1 HJ3⟩, ⟨bp BK321⟩, ⟨bp BK322⟩, ⟨bw HB⟩⟩
  intro c42 c42b0 c42b1 H
  refine qE H ?_ ?_ <;> clear H
  ·intro c43b0 c43b1 H
   have H' := am H
   clear H
   go_wp2
   go_meet
   case rel => exact ⟨_, ((a1_0 == 34)), dr, H', ⟨lk1 HJ3⟩, ⟨bp BK321⟩, ⟨bp BK322⟩, ⟨bw HB⟩⟩
  intro c43 c43b0 c43b1 H
  refine qE H ?_ ?_ <;> clear H
  ·intro c44b0 c44b1 H
   have H' := am H
   clear H
   go_wp2
   go_meet
   case rel => exact ⟨_, ((a1_0 == 37)), dr, H', ⟨lk1 HJ3⟩, ⟨bp BK321⟩, ⟨bp BK322⟩, ⟨bw HB⟩⟩
  intro c44 c44b0 c44b1 H
  have H' := am H
  clear H
  go_wp2
  go_meet
  case rel => exact ⟨_, ((a1_0 == 38)), dr, H', ⟨lk1 HJ3⟩, ⟨bp BK321⟩, ⟨bp BK322⟩, ⟨bw HB⟩⟩
 clear HC35
 (try clear c2); (try clear c3); (try clear p3); (try clear q3); (try clear hx3); (try clear c12); (try clear c13); (try clear c13b0); (try clear c13b1); (try clear c14); (try clear c16); (try clear c16b0); (try clear c16b1); (try clear c19); (try clear c23); (try clear c24); (try clear c24b0); (try clear c25); (try clear c25b0); (try clear c26); (try clear c31); (try clear c32); (try clear p32); (try clear q32); (try clear hx32); (try clear c34); (try clear c36); (try clear c38); (try clear c38b0); (try clear c38b1); (try clear c39); (try clear c39b0); (try clear c39b1); (try clear c40); (try clear c40b0); (try clear c40b1); (try clear c41); (try clear c41b0); (try clear c41b1); (try clear c42); (try clear c42b0); (try clear c42b1); (try clear c43); (try clear c43b0); (try clear c43b1); (try clear c44); (try clear c44b0); (try clear c44b1); (try clear hcz15); (try clear hcz20); (try clear hcz21); (try clear hcz27); (try clear hcz28); (try clear hcz32); (try clear hcz37); (try clear hfz15); (try clear hfz20); (try clear hfz21); (try clear hfz27); (try clear hfz28); (try clear hfz32); (try clear hfz37); (try clear hx325_0); (try clear hx325_1); (try clear hx325_2); (try clear p325); (try clear q325)
 obtain ⟨kq, x37_34, rfl, HA, HJ34, BK321, BK322, HB⟩ := hcut
 rcases kq with _ | kj34
 ·exact absurd HA.out (by simp [impl_Takes.j1])
 have H := HA.out
 clear HA
 simp only [impl_Takes.j1] at H
 refine qT H ?_ ?_ <;> clear H <;> intro c45 H <;> subst c45
 ·obtain rfl := Option.some.inj H
  go_wp2
  go_ret
  exact ⟨er, bw HB⟩
 obtain rfl := Option.some.inj H
 go_wp2
 go_ret
 exact ⟨er, bw HB⟩

def impl_isArith.f (a0 : Int) : Option (Bool) := (impl_in.f a0 10 29).bind fun t327 => (some t327)
theorem impl_isArith.calls (a0 : Int) (r : Bool) (w : World) (h : impl_isArith.f a0 = some r) :
  Calls Try.prog 64 #[.int .i64 a0] w fun e w' => e = .returned (.bool r) ∧ Drawn0 w w' := by
 have H : ((impl_in.f a0 10 29).bind fun t327 => (some t327)) = some r := h
 clear h
 refine be H ?_; clear H; intro t327 A2 H
 obtain rfl := Option.some.inj H
 go_enter Try.func64, Try.ntmps64
 go_wp2_with (first | ((with_reducible refine gate_callee (f := 70) rfl ?_); refine goesL_ (some 4) rfl rfl Try.func70 (by kernel_rfl) rfl #[.int .i64 a0, .int .i64 10, .int .i64 29] rfl gl ?_; (with_reducible refine (impl_in.calls a0 10 29 t327 _ A2.out).mono ?_); rintro e w' ⟨rfl, ⟨nd, rfl⟩⟩; refine ⟨_, rfl, ?_⟩))
 go_ret
 exact ⟨by first | rfl | (simp; done) | (simp [*]; done), by repeat (first | exact Drawn0.refl _ | apply Drawn0.step)⟩

def impl_Puts.j0 : Nat → Bool → Int → Int → Option (Int)
 | 0, _, _, _ => none
 | k + 1, x7, x329000, x329001 => if x7 = true then (some 1) else ((impl_isArith.f x329000).bind fun t329 => (if t329 = true then (some 1) else (some 0)))
def impl_Puts.f (k : Nat) (a0_0 : Int) (a0_1 : Int) : Option (Int) := if a0_0 = 4 then (some 2) else (if a0_0 = 1 then (impl_Puts.j0 k (a0_0 == 1) a0_0 a0_1) else (if a0_0 = 2 then (impl_Puts.j0 k (a0_0 == 2) a0_0 a0_1) else (if a0_0 = 32 then (impl_Puts.j0 k (a0_0 == 32) a0_0 a0_1) else (if a0_0 = 34 then (impl_Puts.j0 k (a0_0 == 34) a0_0 a0_1) else (if a0_0 = 35 then (impl_Puts.j0 k (a0_0 == 35) a0_0 a0_1) else (impl_Puts.j0 k (a0_0 == 37) a0_0 a0_1))))))
theorem impl_Puts.mono_l : ∀ k, (∀ y0 y1 y2, LeO (impl_Puts.j0 k y0 y1 y2) (impl_Puts.j0 (k + 1) y0 y1 y2))
 | 0 => fun _ _ _ r h => by simp [impl_Puts.j0] at h
 | k + 1 => by
  have ih0 := impl_Puts.mono_l k
  ·intro y0 y1 y2
   unfold impl_Puts.j0
   with_reducible repeat' first | exact ih0 .. | exact LeO.refl _ | exact LeO.none _ | refine LeO.ite ?_ ?_ | refine LeO.bind ?_ (fun _ => ?_)
theorem impl_Puts.mono : ∀ a0 a1 k, LeO (impl_Puts.f k a0 a1) (impl_Puts.f (k + 1) a0 a1) := by
 intro a0 a1 k
 have ih0 := impl_Puts.mono_l k
 unfold impl_Puts.f
 with_reducible repeat' first | exact ih0 .. | exact LeO.refl _ | exact LeO.none _ | refine LeO.ite ?_ ?_ | refine LeO.bind ?_ (fun _ => ?_)
theorem impl_Puts.calls (k : Nat) (a0_0 : Int) (a0_1 : Int) (r : Int) (w : World) (h : impl_Puts.f k a0_0 a0_1 = some r) :
  Calls Try.prog 47 #[.agg #[.int .i64 a0_0, .int .i64 a0_1]] w fun e w' => e = .returned (.int .i64 r) ∧ Below w.heap.size w w' := by
 have hu59 := Try.underlying59
 have HB := am (Below.refl w.heap.size w)
 have H : (if a0_0 = 4 then (some 2) else (if a0_0 = 1 then (impl_Puts.j0 k (a0_0 == 1) a0_0 a0_1) else (if a0_0 = 2 then (impl_Puts.j0 k (a0_0 == 2) a0_0 a0_1) else (if a0_0 = 32 then (impl_Puts.j0 k (a0_0 == 32) a0_0 a0_1) else (if a0_0 = 34 then (impl_Puts.j0 k (a0_0 == 34) a0_0 a0_1) else (if a0_0 = 35 then (impl_Puts.j0 k (a0_0 == 35) a0_0 a0_1) else (impl_Puts.j0 k (a0_0 == 37) a0_0 a0_1))))))) = some r := h
 clear h
 have HC2 := am H
 clear H
 go_enter Try.func47, Try.ntmps47
 go_upto_if 5 with (first | ((with_reducible refine gd 1 rfl ?_); refine bX 1 #[.int .i64 a0_0, .int .i64 a0_1] 59 HB ?_; clear HB; intro gb328 w3 hg hb BK328 GW328 HB; clear hb hg; have hcz4 := bK w3 BK328; have hfz4 := bF BK328))
 (try simp only [Act.put, sa, sz, ss])
 have H := HC2.out
 clear HC2
 refine qE H ?_ ?_ <;> clear H
 ·intro c5b0 c5b1 H
  (first | rw [c5b0] | (simp only [i64_w, i32_w]; rw [c5b0]) | skip)
  obtain rfl := Option.some.inj H
  go_wp2
  go_ret
  exact ⟨er, bw HB⟩
 intro c5 c5b0 c5b1 H
 (first | rw [c5b0] | (simp only [i64_w, i32_w]; rw [c5b0]) | skip)
 have HC6 := am H
 clear H
 go_upto_if 7 with (fail)
 go_cut [7] (fun v7 wc => ∃ (kq : Nat) (x7_5 : Bool), v7 = .bool x7_5 ∧ Aside0 (impl_Puts.j0 kq x7_5 a0_0 a0_1 = some r) ∧ Aside0 (kq ≤ k) ∧ Aside0 (wc.heap[gb328]? = some (.cells #[.int .i64 a0_0, .int .i64 a0_1] 59 (0, 0))) ∧ Aside0 (Below w.heap.size w wc))
 case first =>
  have H := HC6.out
  clear HC6
  refine qE H ?_ ?_ <;> clear H
  ·intro c7b0 c7b1 H
   (first | rw [c7b0] | (simp only [i64_w, i32_w]; rw [c7b0]) | skip)
   have H' := am H
   clear H
   go_wp2
   go_meet
   case rel => exact ⟨_, ((a0_0 == 1)), dr, H', ⟨lk0⟩, ⟨bp BK328⟩, ⟨bw HB⟩⟩
  intro c7 c7b0 c7b1 H
  (first | rw [c7b0] | (simp only [i64_w, i32_w]; rw [c7b0]) | skip)
  refine qE H ?_ ?_ <;> clear H
  ·intro c8b0 c8b1 H
   have H' := am H
   clear H
   go_wp2
   go_meet
   case rel => exact ⟨_, ((a0_0 == 2)), dr, H', ⟨lk0⟩, ⟨bp BK328⟩, ⟨bw HB⟩⟩
  intro c8 c8b0 c8b1 H
  refine qE H ?_ ?_ <;> clear H
  ·intro c9b0 c9b1 H
   have H' := am H
   clear H
   go_wp2
   go_meet
   case rel => exact ⟨_, ((a0_0 == 32)), dr, H', ⟨lk0⟩, ⟨bp BK328⟩, ⟨bw HB⟩⟩
  intro c9 c9b0 c9b1 H
  refine qE H ?_ ?_ <;> clear H
  ·intro c10b0 c10b1 H
   have H' := am H
   clear H
   go_wp2
   go_meet
   case rel => exact ⟨_, ((a0_0 == 34)), dr, H', ⟨lk0⟩, ⟨bp BK328⟩, ⟨bw HB⟩⟩
  intro c10 c10b0 c10b1 H
  refine qE H ?_ ?_ <;> clear H
  ·intro c11b0 c11b1 H
   have H' := am H
   clear H
   go_wp2
   go_meet
   case rel => exact ⟨_, ((a0_0 == 35)), dr, H', ⟨lk0⟩, ⟨bp BK328⟩, ⟨bw HB⟩⟩
  intro c11 c11b0 c11b1 H
  have H' := am H
  clear H
  go_wp2
  go_meet
  case rel => exact ⟨_, ((a0_0 == 37)), dr, H', ⟨lk0⟩, ⟨bp BK328⟩, ⟨bw HB⟩⟩
 clear HC6
 (try clear c1); (try clear p2); (try clear c4); (try clear c5); (try clear c5b0); (try clear c5b1); (try clear c7); (try clear c7b0); (try clear c7b1); (try clear c8); (try clear c8b0); (try clear c8b1); (try clear c9); (try clear c9b0); (try clear c9b1); (try clear c10); (try clear c10b0); (try clear c10b1); (try clear c11); (try clear c11b0); (try clear c11b1); (try clear hcz4); (try clear hfz4)
 obtain ⟨kq, x7_5, rfl, HA, HJ5, BK328, HB⟩ := hcut
 rcases kq with _ | kj5
 ·exact absurd HA.out (by simp [impl_Puts.j0])
 have H := HA.out
 clear HA
 simp only [impl_Puts.j0] at H
 refine qT H ?_ ?_ <;> clear H <;> intro c12 H <;> subst c12
 ·obtain rfl := Option.some.inj H
  go_wp2
  go_ret
  exact ⟨er, bw HB⟩
 refine be H ?_; clear H; intro t329 A13 H
 have HC14 := am H
 clear H
 have hcz15 := bK wc BK328
 have hfz15 := bF BK328
 go_upto_if 16 with (first | ((with_reducible refine gate_callee (f := 64) rfl ?_); refine goesL_ (some 16) rfl rfl Try.func64 (by kernel_rfl) rfl #[.int .i64 a0_0] rfl gl ?_; (with_reducible refine (impl_isArith.calls a0_0 t329 _ A13.out).mono ?_); rintro e w' ⟨rfl, ⟨nd, rfl⟩⟩; refine ⟨_, rfl, ?_⟩))
 (try simp only [Act.put, sa, sz, ss])
 (try simp only [World.drewN_drewN])
 generalize hq_ : World.drewN wc _ = w16
 replace BK328 : Aside0 (w16.heap[gb328]? = some (.cells #[.int .i64 a0_0, .int .i64 a0_1] 59 (0, 0))) := ⟨by rw [← hq_]; exact (bp BK328)⟩
 replace HB : Aside0 (Below w.heap.size w w16) := ⟨by rw [← hq_]; exact (bw HB)⟩
 clear hq_
 have H := HC14.out
 clear HC14
 refine qT H ?_ ?_ <;> clear H <;> intro c17 H <;> subst c17
 ·obtain rfl := Option.some.inj H
  go_wp2
  go_ret
  exact ⟨er, bw HB⟩
 obtain rfl := Option.some.inj H
 go_wp2
 go_ret
 exact ⟨er, bw HB⟩

def impl_next.f (a0_0 : Int) (a0_1 : Int) (a1 : Int) : Option (List Int) := if a0_0 = 33 then (some ([] : List Int)) else (if a0_0 = 30 then (some (([a0_1] : List Int))) else (if a0_0 = 31 then (some (([wrap64 (a1 + 1), a0_1] : List Int))) else (some (([wrap64 (a1 + 1)] : List Int)))))
theorem impl_next.calls (a0_0 : Int) (a0_1 : Int) (a1 : Int) (r : List Int) (w : World) (h : impl_next.f a0_0 a0_1 a1 = some r) :
  Calls Try.prog 77 #[.agg #[.int .i64 a0_0, .int .i64 a0_1], .int .i64 a1] w fun e w' => ∃ v0_ : Value, e = .returned (v0_) ∧ Kd.R (Kd.int .i64) 2 w' w.heap.size (fun _ => True) v0_ r ∧ Below w.heap.size w w' := by
 have hu59 := Try.underlying59
 have HB := am (Below.refl w.heap.size w)
 have H : (if a0_0 = 33 then (some ([] : List Int)) else (if a0_0 = 30 then (some (([a0_1] : List Int))) else (if a0_0 = 31 then (some (([wrap64 (a1 + 1), a0_1] : List Int))) else (some (([wrap64 (a1 + 1)] : List Int)))))) = some r := h
 clear h
 have HC3 := am H
 clear H
 go_enter Try.func77, Try.ntmps77
 go_upto_if 7 with (first | ((with_reducible refine gd 2 rfl ?_); refine bX 2 #[.int .i64 a0_0, .int .i64 a0_1] 59 HB ?_; clear HB; intro gb330 w4 hg hb BK330 GW330 HB; clear hb hg; have hcz5 := bK w4 BK330; have hfz5 := bF BK330))
 (try simp only [Act.put, sa, sz, ss])
 have H := HC3.out
 clear HC3
 refine qE H ?_ ?_ <;> clear H
 ·intro c6b0 c6b1 H
  (first | rw [c6b0] | (simp only [i64_w, i32_w]; rw [c6b0]) | skip)
  obtain rfl := Option.some.inj H
  go_wp2
  go_ret
  exact ⟨_, er, by first | exact Kd.R_nil _ _ _ _ _ | exact Kd.N_nil _ _ _ _ _ | exact Kd.V_nil _ _ _ _ _ | exact Kd.Q_nil _ _ _ _ _ | exact Kd.S_nil _ _ _ _ _, bw HB⟩
 intro c6 c6b0 c6b1 H
 (first | rw [c6b0] | (simp only [i64_w, i32_w]; rw [c6b0]) | skip)
 refine qE H ?_ ?_ <;> clear H
 ·intro c7b0 c7b1 H
  obtain ⟨y331, hy331⟩ : ∃ y_ : List Int, y_ = (([a0_1] : List Int)) := ⟨_, rfl⟩
  replace H : (some y331) = some r := by first | (rw [hy331]; with_reducible exact H) | (have H2_ := (Option.bind_some _ _).symm.trans H; rw [hy331]; with_reducible exact H2_) | (have H2_ := (Option.bind_some _ _).symm.trans H; with_reducible exact H2_) | with_reducible exact H | (rw [hy331]; exact H) | exact H
  have Ny331 := am hy331
  clear hy331
  obtain rfl := Option.some.inj H
  have hcz8 := bK w4 BK330
  have hfz8 := bF BK330
  go_wp2_with (first | ((with_reducible refine gate_dst (N := 13) rfl ?_); refine Kd.R_lit (Kd.int .i64) _ 2 ?hg (N := 13) ?hd (xs := ([a0_1] : List Int)) (inner := [.int .i64 a0_1]) (ok := fun _ => True) (okp := fun _ => True) ?hr ?hp (fun _ hk => hk) trivial (Below.refl _ _) (Nat.le_refl _) (by simp) ?_; (case hd => rfl); (case hg => rfl); (case hr => exact gs); (case hp => exact (Reps.one (show Kd.M (Kd.int .i64) _ _ _ a0_1 [.int .i64 a0_1] from rfl) (Reps.none _ _))); intro v332 w9 ho10 hb hg_ hnew_; clear hg_ hnew_; (first | rw [← Ny331.out] at ho10 | (simp only [Int.reduceToNat] at ho10; rw [← Ny331.out] at ho10)); have HO333 := am (Kd.R_lower ho10 (below_size (bw HB))); replace BK330 := bb BK330 hb; replace HB := bs HB hb; clear hb ho10))
  go_ret
  exact ⟨_, er, kR HO333, bw HB⟩
 intro c7 c7b0 c7b1 H
 refine qE H ?_ ?_ <;> clear H
 ·intro c11b0 c11b1 H
  obtain ⟨y334, hy334⟩ : ∃ y_ : List Int, y_ = (([wrap64 (a1 + 1), a0_1] : List Int)) := ⟨_, rfl⟩
  replace H : (some y334) = some r := by first | (rw [hy334]; with_reducible exact H) | (have H2_ := (Option.bind_some _ _).symm.trans H; rw [hy334]; with_reducible exact H2_) | (have H2_ := (Option.bind_some _ _).symm.trans H; with_reducible exact H2_) | with_reducible exact H | (rw [hy334]; exact H) | exact H
  have Ny334 := am hy334
  clear hy334
  obtain rfl := Option.some.inj H
  have hcz12 := bK w4 BK330
  have hfz12 := bF BK330
  go_wp2_with (first | ((with_reducible refine gate_dst (N := 20) rfl ?_); refine Kd.R_lit (Kd.int .i64) _ 2 ?hg (N := 20) ?hd (xs := ([wrap64 (a1 + 1), a0_1] : List Int)) (inner := [.int .i64 (wrap64 (a1 + 1)), .int .i64 a0_1]) (ok := fun _ => True) (okp := fun _ => True) ?hr ?hp (fun _ hk => hk) trivial (Below.refl _ _) (Nat.le_refl _) (by simp) ?_; (case hd => rfl); (case hg => rfl); (case hr => exact gs); (case hp => exact (Reps.one (show Kd.M (Kd.int .i64) _ _ _ (wrap64 (a1 + 1)) [.int .i64 (wrap64 (a1 + 1))] from rfl) (Reps.one (show Kd.M (Kd.int .i64) _ _ _ a0_1 [.int .i64 a0_1] from rfl) (Reps.none _ _)))); intro v335 w13 ho14 hb hg_ hnew_; clear hg_ hnew_; (first | rw [← Ny334.out] at ho14 | (simp only [Int.reduceToNat] at ho14; rw [← Ny334.out] at ho14)); have HO336 := am (Kd.R_lower ho14 (below_size (bw HB))); replace BK330 := bb BK330 hb; replace HB := bs HB hb; clear hb ho14))
  go_ret
  exact ⟨_, er, kR HO336, bw HB⟩
 intro c11 c11b0 c11b1 H
 obtain ⟨y337, hy337⟩ : ∃ y_ : List Int, y_ = (([wrap64 (a1 + 1)] : List Int)) := ⟨_, rfl⟩
 replace H : (some y337) = some r := by first | (rw [hy337]; with_reducible exact H) | (have H2_ := (Option.bind_some _ _).symm.trans H; rw [hy337]; with_reducible exact H2_) | (have H2_ := (Option.bind_some _ _).symm.trans H; with_reducible exact H2_) | with_reducible exact H | (rw [hy337]; exact H) | exact H
 have Ny337 := am hy337
 clear hy337
 obtain rfl := Option.some.inj H
 go_wp2_with (first | ((with_reducible refine gate_dst (N := 23) rfl ?_); refine Kd.R_lit (Kd.int .i64) _ 2 ?hg (N := 23) ?hd (xs := ([wrap64 (a1 + 1)] : List Int)) (inner := [.int .i64 (wrap64 (a1 + 1))]) (ok := fun _ => True) (okp := fun _ => True) ?hr ?hp (fun _ hk => hk) trivial (Below.refl _ _) (Nat.le_refl _) (by simp) ?_; (case hd => rfl); (case hg => rfl); (case hr => exact gs); (case hp => exact (Reps.one (show Kd.M (Kd.int .i64) _ _ _ (wrap64 (a1 + 1)) [.int .i64 (wrap64 (a1 + 1))] from rfl) (Reps.none _ _))); intro v338 w15 ho16 hb hg_ hnew_; clear hg_ hnew_; (first | rw [← Ny337.out] at ho16 | (simp only [Int.reduceToNat] at ho16; rw [← Ny337.out] at ho16)); have HO339 := am (Kd.R_lower ho16 (below_size (bw HB))); replace BK330 := bb BK330 hb; replace HB := bs HB hb; clear hb ho16))
 go_ret
 exact ⟨_, er, kR HO339, bw HB⟩

end Go.Proofs.Ytcdohkilplgmjaa.QFnExactPlain
