import Derived.Test.YticdldoijkdffaaCFnExactMixToldx0
import Derived.Test.YticdldoijkdffaaCFnExactMixToldx6
namespace Go.Proofs.Yticdldoijkdffaa.QFnExactMixTold
open Go.RowKit Go.Proofs.YticdldoijkdffaaW
open PrintWords PrintLast PrintMore PrintShort PrintIsh
attribute [local go_sem] max2_int min2_int max_two min_two max_three min_three max_four min_four   -- for this text's walks alone
set_option linter.unusedVariables false
set_option maxHeartbeats 8000000
set_option maxRecDepth 100000
set_option linter.unusedSimpArgs false

def laws_eqMixFrame.f (k : Nat) (a0_0 : Bool) (a0_1 : Int) (a0_2 : Int) (l0_3 : List Int) (l0_4 : List Int) (l0_5 : List Int) (a1_0 : Bool) (a1_1 : Int) (a1_2 : Int) (l1_3 : List Int) (l1_4 : List Int) (l1_5 : List Int) : Option (Bool) := if (a0_0 != a1_0) = true then (some false) else (if a0_1 = a1_1 then (if a0_2 = a1_2 then ((laws_eqInt64S.f k l0_3 l1_3).bind fun t358 => (if t358 = true then ((laws_eqInt64S.f k l0_4 l1_4).bind fun t359 => (if t359 = true then ((laws_eqInt64S.f k l0_5 l1_5).bind fun t360 => (if t360 = true then (some true) else (some false))) else (some false))) else (some false))) else (some false)) else (some false))
theorem laws_eqMixFrame.mono : ∀ a0 a1 a2 a3 a4 a5 a6 a7 a8 a9 a10 a11 k, LeO (laws_eqMixFrame.f k a0 a1 a2 a3 a4 a5 a6 a7 a8 a9 a10 a11) (laws_eqMixFrame.f (k + 1) a0 a1 a2 a3 a4 a5 a6 a7 a8 a9 a10 a11) := by
 intro a0 a1 a2 a3 a4 a5 a6 a7 a8 a9 a10 a11 k
 unfold laws_eqMixFrame.f
 with_reducible repeat' first | exact laws_eqInt64S.mono .. | exact LeO.refl _ | exact LeO.none _ | refine LeO.ite ?_ ?_ | refine LeO.bind ?_ (fun _ => ?_)
theorem laws_eqMixFrame.calls (k : Nat) (a0_0 : Bool) (a0_1 : Int) (a0_2 : Int) (A0_3 : Option Addr) (c0_3 : Nat) (l0_3 : List Int) (A0_4 : Option Addr) (c0_4 : Nat) (l0_4 : List Int) (A0_5 : Option Addr) (c0_5 : Nat) (l0_5 : List Int) (a1_0 : Bool) (a1_1 : Int) (a1_2 : Int) (A1_3 : Option Addr) (c1_3 : Nat) (l1_3 : List Int) (A1_4 : Option Addr) (c1_4 : Nat) (l1_4 : List Int) (A1_5 : Option Addr) (c1_5 : Nat) (l1_5 : List Int) (r : Bool) (w : World) (hr0_3 : Kd.C (Kd.int .i64) w A0_3 l0_3.length l0_3) (hc0_3 : l0_3.length ≤ c0_3) (hr0_4 : Kd.C (Kd.int .i64) w A0_4 l0_4.length l0_4) (hc0_4 : l0_4.length ≤ c0_4) (hr0_5 : Kd.C (Kd.int .i64) w A0_5 l0_5.length l0_5) (hc0_5 : l0_5.length ≤ c0_5) (hr1_3 : Kd.C (Kd.int .i64) w A1_3 l1_3.length l1_3) (hc1_3 : l1_3.length ≤ c1_3) (hr1_4 : Kd.C (Kd.int .i64) w A1_4 l1_4.length l1_4) (hc1_4 : l1_4.length ≤ c1_4) (hr1_5 : Kd.C (Kd.int .i64) w A1_5 l1_5.length l1_5) (hc1_5 : l1_5.length ≤ c1_5) (h : laws_eqMixFrame.f k a0_0 a0_1 a0_2 l0_3 l0_4 l0_5 a1_0 a1_1 a1_2 l1_3 l1_4 l1_5 = some r) :
  Calls Try.prog 44 #[.agg #[.bool a0_0, .int .i64 a0_1, .int .i64 a0_2, .slice A0_3 l0_3.length c0_3, .slice A0_4 l0_4.length c0_4, .slice A0_5 l0_5.length c0_5], .agg #[.bool a1_0, .int .i64 a1_1, .int .i64 a1_2, .slice A1_3 l1_3.length c1_3, .slice A1_4 l1_4.length c1_4, .slice A1_5 l1_5.length c1_5]] w fun e w' => e = .returned (.bool r) ∧ Below w.heap.size w w' := by
 have hu75 := Try.underlying75
 have HR0_3 := am hr0_3
 have HC0_3 := am hc0_3
 clear hr0_3 hc0_3
 have HR0_4 := am hr0_4
 have HC0_4 := am hc0_4
 clear hr0_4 hc0_4
 have HR0_5 := am hr0_5
 have HC0_5 := am hc0_5
 clear hr0_5 hc0_5
 have HR1_3 := am hr1_3
 have HC1_3 := am hc1_3
 clear hr1_3 hc1_3
 have HR1_4 := am hr1_4
 have HC1_4 := am hc1_4
 clear hr1_4 hc1_4
 have HR1_5 := am hr1_5
 have HC1_5 := am hc1_5
 clear hr1_5 hc1_5
 have HB := am (Below.refl w.heap.size w)
 have H : (if (a0_0 != a1_0) = true then (some false) else (if a0_1 = a1_1 then (if a0_2 = a1_2 then ((laws_eqInt64S.f k l0_3 l1_3).bind fun t358 => (if t358 = true then ((laws_eqInt64S.f k l0_4 l1_4).bind fun t359 => (if t359 = true then ((laws_eqInt64S.f k l0_5 l1_5).bind fun t360 => (if t360 = true then (some true) else (some false))) else (some false))) else (some false))) else (some false)) else (some false))) = some r := h
 clear h
 have HC3 := am H
 clear H
 go_enter Try.func44, Try.ntmps44
 go_upto_if 9 with (first | ((with_reducible refine gd 2 rfl ?_); refine bX 2 #[.bool a0_0, .int .i64 a0_1, .int .i64 a0_2, .slice A0_3 l0_3.length c0_3, .slice A0_4 l0_4.length c0_4, .slice A0_5 l0_5.length c0_5] 75 HB ?_; clear HB; intro gb356 w4 hg hb BK356 GW356 HB; clear hb hg) | ((with_reducible refine gd 3 rfl ?_); refine bX 3 #[.bool a1_0, .int .i64 a1_1, .int .i64 a1_2, .slice A1_3 l1_3.length c1_3, .slice A1_4 l1_4.length c1_4, .slice A1_5 l1_5.length c1_5] 75 HB ?_; clear HB; intro gb357 w5 hg hb BK357 GW357 HB; obtain ⟨NB356_357, NB357_356, BK356⟩ := b3 hg BK356 hb; clear hb hg; have hnb6 := NB356_357.out; have hnc6 := NB357_356.out; have hcz7_0 := bk w5 BK356 0; have hcz7_1 := bk w5 BK356 1; have hcz7_2 := bk w5 BK356 2; have hcz7_3 := bk w5 BK356 3; have hcz7_4 := bk w5 BK356 4; have hcz7_5 := bk w5 BK356 5; have hfz7_0 := bf BK356 0; have hfz7_1 := bf BK356 1; have hfz7_2 := bf BK356 2; have hfz7_3 := bf BK356 3; have hfz7_4 := bf BK356 4; have hfz7_5 := bf BK356 5; have hcz8_0 := bk w5 BK357 0; have hcz8_1 := bk w5 BK357 1; have hcz8_2 := bk w5 BK357 2; have hcz8_3 := bk w5 BK357 3; have hcz8_4 := bk w5 BK357 4; have hcz8_5 := bk w5 BK357 5; have hfz8_0 := bf BK357 0; have hfz8_1 := bf BK357 1; have hfz8_2 := bf BK357 2; have hfz8_3 := bf BK357 3; have hfz8_4 := bf BK357 4; have hfz8_5 := bf BK357 5))
 (try simp only [Act.put, sa, sz, ss])
 have H := HC3.out
 clear HC3
 by_cases c9 : (a0_0 != a1_0) = true
 ·rw [if_pos c9] at H
  have c9b0 : (a0_0 != a1_0) = true := c9
  (try (have c9b1 : decide (a0_0 = a1_0) = false := by simpa using c9))
  (try (have c9b2 : (a0_0 == a1_0) = false := by simpa using c9))
  (try (have c9b3 : ¬ (a0_0 = a1_0) := by simpa using c9))
  clear c9
  (first | rw [c9b0] | (simp only [i64_w, i32_w]; rw [c9b0]) | (simp only [c9b2, Bool.not_false, Bool.not_true]) | skip)
  obtain rfl := Option.some.inj H
  go_wp2
  go_ret
  exact ⟨er, bw HB⟩
 rw [if_neg c9] at H
 have c9b0 : (a0_0 != a1_0) = false := by simpa using c9
 (try (have c9b1 : decide (a0_0 = a1_0) = true := by simpa using c9))
 (try (have c9b2 : (a0_0 == a1_0) = true := by simpa using c9))
 clear c9
 (first | rw [c9b0] | (simp only [i64_w, i32_w]; rw [c9b0]) | (simp only [c9b2, Bool.not_false, Bool.not_true]) | skip)
 refine qE H ?_ ?_ <;> clear H
 ·intro c10b0 c10b1 H
  refine qE H ?_ ?_ <;> clear H
  ·intro c11b0 c11b1 H
   refine be H ?_; clear H; intro t358 A12 H
   have HC13 := am H
   clear H
   have hnb14 := NB356_357.out
   have hnc14 := NB357_356.out
   have hcz15_0 := bk w5 BK356 0
   have hcz15_1 := bk w5 BK356 1
   have hcz15_2 := bk w5 BK356 2
   have hcz15_3 := bk w5 BK356 3
   have hcz15_4 := bk w5 BK356 4
   have hcz15_5 := bk w5 BK356 5
   have hfz15_0 := bf BK356 0
   have hfz15_1 := bf BK356 1
   have hfz15_2 := bf BK356 2
   have hfz15_3 := bf BK356 3
   have hfz15_4 := bf BK356 4
   have hfz15_5 := bf BK356 5
   have hcz16_0 := bk w5 BK357 0
   have hcz16_1 := bk w5 BK357 1
   have hcz16_2 := bk w5 BK357 2
   have hcz16_3 := bk w5 BK357 3
   have hcz16_4 := bk w5 BK357 4
   have hcz16_5 := bk w5 BK357 5
   have hfz16_0 := bf BK357 0
   have hfz16_1 := bf BK357 1
   have hfz16_2 := bf BK357 2
   have hfz16_3 := bf BK357 3
   have hfz16_4 := bf BK357 4
   have hfz16_5 := bf BK357 5
   go_upto_if 25 with (first | ((with_reducible refine gk 25 rfl ?_); refine gD 25 (some 24) Try.func25 #[.slice A0_3 l0_3.length c0_3, .slice A1_3 l1_3.length c1_3] (laws_eqInt64S.calls k _ _ l0_3 _ _ l1_3 t358 _ (cc (Kd.C_below HR0_3.out HB.out)) HC0_3.out (cc (Kd.C_below HR1_3.out HB.out)) HC1_3.out A12.out) ?_; intro nd))
   (try simp only [Act.put, sa, sz, ss])
   (try simp only [World.drewN_drewN])
   generalize hq_ : World.drewN w5 _ = w17
   replace BK356 : Aside0 (w17.heap[gb356]? = some (.cells #[.bool a0_0, .int .i64 a0_1, .int .i64 a0_2, .slice A0_3 l0_3.length c0_3, .slice A0_4 l0_4.length c0_4, .slice A0_5 l0_5.length c0_5] 75 (0, 0))) := ⟨by rw [← hq_]; exact (bp BK356)⟩
   replace BK357 : Aside0 (w17.heap[gb357]? = some (.cells #[.bool a1_0, .int .i64 a1_1, .int .i64 a1_2, .slice A1_3 l1_3.length c1_3, .slice A1_4 l1_4.length c1_4, .slice A1_5 l1_5.length c1_5] 75 (0, 0))) := ⟨by rw [← hq_]; exact (bp BK357)⟩
   replace HB : Aside0 (Below w.heap.size w w17) := ⟨by rw [← hq_]; exact (bw HB)⟩
   clear hq_
   have H := HC13.out
   clear HC13
   refine qT H ?_ ?_ <;> clear H <;> intro c18 H <;> subst c18
   ·refine be H ?_; clear H; intro t359 A19 H
    have HC20 := am H
    clear H
    have hnb21 := NB356_357.out
    have hnc21 := NB357_356.out
    have hcz22_0 := bk w17 BK356 0
    have hcz22_1 := bk w17 BK356 1
    have hcz22_2 := bk w17 BK356 2
    have hcz22_3 := bk w17 BK356 3
    have hcz22_4 := bk w17 BK356 4
    have hcz22_5 := bk w17 BK356 5
    have hfz22_0 := bf BK356 0
    have hfz22_1 := bf BK356 1
    have hfz22_2 := bf BK356 2
    have hfz22_3 := bf BK356 3
    have hfz22_4 := bf BK356 4
    have hfz22_5 := bf BK356 5
    have hcz23_0 := bk w17 BK357 0
    have hcz23_1 := bk w17 BK357 1
    have hcz23_2 := bk w17 BK357 2
    have hcz23_3 := bk w17 BK357 3
    have hcz23_4 := bk w17 BK357 4
    have hcz23_5 := bk w17 BK357 5
    have hfz23_0 := bf BK357 0
    have hfz23_1 := bf BK357 1
    have hfz23_2 := bf BK357 2
    have hfz23_3 := bf BK357 3
    have hfz23_4 := bf BK357 4
    have hfz23_5 := bf BK357 5
    go_upto_if 31 with (first | ((with_reducible refine gk 25 rfl ?_); refine gD 25 (some 30) Try.func25 #[.slice A0_4 l0_4.length c0_4, .slice A1_4 l1_4.length c1_4] (laws_eqInt64S.calls k _ _ l0_4 _ _ l1_4 t359 _ (cc (Kd.C_below HR0_4.out HB.out)) HC0_4.out (cc (Kd.C_below HR1_4.out HB.out)) HC1_4.out A19.out) ?_; intro nd))
    (try simp only [Act.put, sa, sz, ss])
    (try simp only [World.drewN_drewN])
    generalize hq_ : World.drewN w17 _ = w24
    replace BK356 : Aside0 (w24.heap[gb356]? = some (.cells #[.bool a0_0, .int .i64 a0_1, .int .i64 a0_2, .slice A0_3 l0_3.length c0_3, .slice A0_4 l0_4.length c0_4, .slice A0_5 l0_5.length c0_5] 75 (0, 0))) := ⟨by rw [← hq_]; exact (bp BK356)⟩
    replace BK357 : Aside0 (w24.heap[gb357]? = some (.cells #[.bool a1_0, .int .i64 a1_1, .int .i64 a1_2, .slice A1_3 l1_3.length c1_3, .slice A1_4 l1_4.length c1_4, .slice A1_5 l1_5.length c1_5] 75 (0, 0))) := ⟨by rw [← hq_]; exact (bp BK357)⟩
    replace HB : Aside0 (Below w.heap.size w w24) := ⟨by rw [← hq_]; exact (bw HB)⟩
    clear hq_
    have H := HC20.out
    clear HC20
    refine qT H ?_ ?_ <;> clear H <;> intro c25 H <;> subst c25
    ·refine be H ?_; clear H; intro t360 A26 H
     have HC27 := am H
     clear H
     have hnb28 := NB356_357.out
     have hnc28 := NB357_356.out
     have hcz29_0 := bk w24 BK356 0
     have hcz29_1 := bk w24 BK356 1
     have hcz29_2 := bk w24 BK356 2
     have hcz29_3 := bk w24 BK356 3
     have hcz29_4 := bk w24 BK356 4
     have hcz29_5 := bk w24 BK356 5
     have hfz29_0 := bf BK356 0
     have hfz29_1 := bf BK356 1
     have hfz29_2 := bf BK356 2
     have hfz29_3 := bf BK356 3
     have hfz29_4 := bf BK356 4
     have hfz29_5 := bf BK356 5
     have hcz30_0 := bk w24 BK357 0
     have hcz30_1 := bk w24 BK357 1
     have hcz30_2 := bk w24 BK357 2
     have hcz30_3 := bk w24 BK357 3
     have hcz30_4 := bk w24 BK357 4
     have hcz30_5 := bk w24 BK357 5
     have hfz30_0 := bf BK357 0
     have hfz30_1 := bf BK357 1
     have hfz30_2 := bf BK357 2
     have hfz30_3 := bf BK357 3
     have hfz30_4 := bf BK357 4
     have hfz30_5 := bf BK357 5
     go_upto_if 37 with (first | ((with_reducible refine gk 25 rfl ?_); refine gD 25 (some 36) Try.func25 #[.slice A0_5 l0_5.length c0_5, .slice A1_5 l1_5.length c1_5] (laws_eqInt64S.calls k _ _ l0_5 _ _ l1_5 t360 _ (cc (Kd.C_below HR0_5.out HB.out)) HC0_5.out (cc (Kd.C_below HR1_5.out HB.out)) HC1_5.out A26.out) ?_; intro nd))
     (try simp only [Act.put, sa, sz, ss])
     (try simp only [World.drewN_drewN])
     generalize hq_ : World.drewN w24 _ = w31
     replace BK356 : Aside0 (w31.heap[gb356]? = some (.cells #[.bool a0_0, .int .i64 a0_1, .int .i64 a0_2, .slice A0_3 l0_3.length c0_3, .slice A0_4 l0_4.length c0_4, .slice A0_5 l0_5.length c0_5] 75 (0, 0))) := ⟨by rw [← hq_]; exact (bp BK356)⟩
     replace BK357 : Aside0 (w31.heap[gb357]? = some (.cells #[.bool a1_0, .int .i64 a1_1, .int .i64 a1_2, .slice A1_3 l1_3.length c1_3, .slice A1_4 l1_4.length c1_4, .slice A1_5 l1_5.length c1_5] 75 (0, 0))) := ⟨by rw [← hq_]; exact (bp BK357)⟩
     replace HB : Aside0 (Below w.heap.size w w31) := ⟨by rw [← hq_]; exact (bw HB)⟩
     clear hq_
     have H := HC27.out
     clear HC27
     refine qT H ?_ ?_ <;> clear H <;> intro c32 H <;> subst c32
     ·obtain rfl := Option.some.inj H
      go_wp2
      go_ret
      exact ⟨er, bw HB⟩
     obtain rfl := Option.some.inj H
     go_wp2
     go_ret
     exact ⟨er, bw HB⟩
    obtain rfl := Option.some.inj H
    go_wp2
    go_ret
    exact ⟨er, bw HB⟩
   obtain rfl := Option.some.inj H
   go_wp2
   go_ret
   exact ⟨er, bw HB⟩
  intro c11 c11b0 c11b1 H
  obtain rfl := Option.some.inj H
  have hnb33 := NB356_357.out
  have hnc33 := NB357_356.out
  have hcz34_0 := bk w5 BK356 0
  have hcz34_1 := bk w5 BK356 1
  have hcz34_2 := bk w5 BK356 2
  have hcz34_3 := bk w5 BK356 3
  have hcz34_4 := bk w5 BK356 4
  have hcz34_5 := bk w5 BK356 5
  have hfz34_0 := bf BK356 0
  have hfz34_1 := bf BK356 1
  have hfz34_2 := bf BK356 2
  have hfz34_3 := bf BK356 3
  have hfz34_4 := bf BK356 4
  have hfz34_5 := bf BK356 5
  have hcz35_0 := bk w5 BK357 0
  have hcz35_1 := bk w5 BK357 1
  have hcz35_2 := bk w5 BK357 2
  have hcz35_3 := bk w5 BK357 3
  have hcz35_4 := bk w5 BK357 4
  have hcz35_5 := bk w5 BK357 5
  have hfz35_0 := bf BK357 0
  have hfz35_1 := bf BK357 1
  have hfz35_2 := bf BK357 2
  have hfz35_3 := bf BK357 3
  have hfz35_4 := bf BK357 4
  have hfz35_5 := bf BK357 5
  go_wp2
  go_ret
  exact ⟨er, bw HB⟩
 intro c10 c10b0 c10b1 H
 obtain rfl := Option.some.inj H
 have hnb36 := NB356_357.out
 have hnc36 := NB357_356.out
 have hcz37_0 := bk w5 BK356 0
 have hcz37_1 := bk w5 BK356 1
 have hcz37_2 := bk w5 BK356 2
 have hcz37_3 := bk w5 BK356 3
 have hcz37_4 := bk w5 BK356 4
 have hcz37_5 := bk w5 BK356 5
 have hfz37_0 := bf BK356 0
 have hfz37_1 := bf BK356 1
 have hfz37_2 := bf BK356 2
 have hfz37_3 := bf BK356 3
 have hfz37_4 := bf BK356 4
 have hfz37_5 := bf BK356 5
 have hcz38_0 := bk w5 BK357 0
 have hcz38_1 := bk w5 BK357 1
 have hcz38_2 := bk w5 BK357 2
 have hcz38_3 := bk w5 BK357 3
 have hcz38_4 := bk w5 BK357 4
 have hcz38_5 := bk w5 BK357 5
 have hfz38_0 := bf BK357 0
 have hfz38_1 := bf BK357 1
 have hfz38_2 := bf BK357 2
 have hfz38_3 := bf BK357 3
 have hfz38_4 := bf BK357 4
 have hfz38_5 := bf BK357 5
 go_wp2
 go_ret
 exact ⟨er, bw HB⟩

def laws_eqMixFrameS.l0 : Nat → List (S75) → List (S75) → Int → Option (Bool)
 | 0, _, _, _ => none
 | k + 1, x0, x1, x5 => if x5 < (x0.length : Int) then (if 0 ≤ x5 then (if x5 < (x1.length : Int) then ((laws_eqMixFrame.f k ((rd_T75 x0 x5).f0) ((rd_T75 x0 x5).f1) ((rd_T75 x0 x5).f2) ((rd_T75 x0 x5).f3) ((rd_T75 x0 x5).f4) ((rd_T75 x0 x5).f5) ((rd_T75 x1 x5).f0) ((rd_T75 x1 x5).f1) ((rd_T75 x1 x5).f2) ((rd_T75 x1 x5).f3) ((rd_T75 x1 x5).f4) ((rd_T75 x1 x5).f5)).bind fun t363 => (if t363 = true then (laws_eqMixFrameS.l0 k x0 x1 (wrap64 (x5 + 1))) else (some false))) else (none)) else (none)) else (some true)
def laws_eqMixFrameS.f (k : Nat) (l0 : List (S75)) (l1 : List (S75)) : Option (Bool) := if (l0.length : Int) = (l1.length : Int) then (laws_eqMixFrameS.l0 k l0 l1 0) else (some false)
theorem laws_eqMixFrameS.mono_l : ∀ k, (∀ y0 y1 y2, LeO (laws_eqMixFrameS.l0 k y0 y1 y2) (laws_eqMixFrameS.l0 (k + 1) y0 y1 y2))
 | 0 => fun _ _ _ r h => by simp [laws_eqMixFrameS.l0] at h
 | k + 1 => by
  have ih0 := laws_eqMixFrameS.mono_l k
  ·intro y0 y1 y2
   unfold laws_eqMixFrameS.l0
   with_reducible repeat' first | exact ih0 .. | exact laws_eqMixFrame.mono .. | exact LeO.refl _ | exact LeO.none _ | refine LeO.ite ?_ ?_ | refine LeO.bind ?_ (fun _ => ?_)
theorem laws_eqMixFrameS.mono : ∀ a0 a1 k, LeO (laws_eqMixFrameS.f k a0 a1) (laws_eqMixFrameS.f (k + 1) a0 a1) := by
 intro a0 a1 k
 have ih0 := laws_eqMixFrameS.mono_l k
 unfold laws_eqMixFrameS.f
 with_reducible repeat' first | exact ih0 .. | exact laws_eqMixFrame.mono .. | exact LeO.refl _ | exact LeO.none _ | refine LeO.ite ?_ ?_ | refine LeO.bind ?_ (fun _ => ?_)
def laws_eqMixFrameS.T6 : Bool × List (List Nat × List Nat) := (true, [([], []), ([], []), ([0, 1], [0, 1]), ([2], [2]), ([], []), ([], []), ([4, 5], [4, 5]), ([6], [6]), ([3, 7], [3, 7]), ([8], [8])])
def laws_eqMixFrameS.B6 : List Nat := [0, 0, 3, 7, 0, 0, 48, 112, 255, 511]
theorem laws_eqMixFrameS.tab6 : rtab .any (opsOf Try.f27 6) = laws_eqMixFrameS.T6 := by kernel_rfl
theorem laws_eqMixFrameS.bits6 : waitsOk laws_eqMixFrameS.T6.2 laws_eqMixFrameS.B6 = true := by kernel_rfl
theorem laws_eqMixFrameS.calls (k : Nat) (A0 : Option Addr) (c0 : Nat) (l0 : List (S75)) (A1 : Option Addr) (c1 : Nat) (l1 : List (S75)) (r : Bool) (w : World) (hr0 : Kd.C k75 w A0 l0.length l0) (hc0 : l0.length ≤ c0) (hr1 : Kd.C k75 w A1 l1.length l1) (hc1 : l1.length ≤ c1) (h : laws_eqMixFrameS.f k l0 l1 = some r) :
  Calls Try.prog 27 #[.slice A0 l0.length c0, .slice A1 l1.length c1] w fun e w' => e = .returned (.bool r) ∧ Below w.heap.size w w' := by
 have hu75 := Try.underlying75
 have HR0 := am hr0
 have HC0 := am hc0
 clear hr0 hc0
 have HR1 := am hr1
 have HC1 := am hc1
 clear hr1 hc1
 have HB := am (Below.refl w.heap.size w)
 have H : (if (l0.length : Int) = (l1.length : Int) then (laws_eqMixFrameS.l0 k l0 l1 0) else (some false)) = some r := h
 clear h
 by_cases c3 : (l0.length : Int) = (l1.length : Int)
 ·rw [if_pos c3] at H
  have c3b0 : ((l0.length : Int) == (l1.length : Int)) = true := beq_iff_eq.mpr c3
  have c3b1 : ((l0.length : Int) != (l1.length : Int)) = false := bne_eq_false_iff_eq.mpr c3
  have c3b2 : (l0.length == l1.length) = true := by first | simpa using c3 | (simp at c3 ⊢; omega)
  clear c3
  have H' := am H
  clear H
  go_enter Try.func27, Try.ntmps27
  go_wp2
  go_loopg [5] k (fun kq v5 w' => ∃ (x5_1 : Int), v5 = .int .i64 x5_1 ∧ Aside0 (laws_eqMixFrameS.l0 kq l0 l1 x5_1 = some r) ∧ Aside0 (kq ≤ k) ∧ Aside0 (Below w.heap.size w w'))
  case atStart => exact ⟨(0), dr, H', ⟨Nat.le_refl _⟩, ⟨bw HB⟩⟩
  clear H'
  (try clear c1); (try clear c2); (try clear p2); (try clear c3); (try clear c3b0); (try clear c3b1); (try clear c3b2)
  obtain ⟨x5_1, rfl, HA, HK1, HB⟩ := hrel
  rcases gk with _ | k1
  ·exact absurd HA.out (by simp [laws_eqMixFrameS.l0])
  have H := HA.out
  clear HA
  simp only [laws_eqMixFrameS.l0] at H
  refine qI H ?_ ?_ <;> clear H <;> intro c4b0 H
  ·refine iM H ?_; clear H; intro c5b0 H
   refine iM H ?_; clear H; intro c6b0 H
   refine be H ?_; clear H; intro t363 A7 H
   have HC8 := am H
   clear H
   try go_wp2
   replace HB := am (below_drew1 HB.out)
   have p361 : 0 ≤ (x5_1 : Int) := of_decide_eq_true as1
   have q361 : x5_1 < (l0.length : Int) := of_decide_eq_true as1
   obtain ⟨ad361, A361_3, c361_3, A361_4, c361_4, A361_5, c361_5, e361, hx361_0, hx361_1, hx361_2, hx361_3, hx361_4, hx361_5, hl361_3, hi361_3, hl361_4, hi361_4, hl361_5, hi361_5⟩ := at_T75 HR0.out x5_1 p361 q361
   have hw361_5 := hx361_5
   have hw361_4 := hx361_4
   have hw361_3 := hx361_3
   have hw361_2 := hx361_2
   have hw361_1 := hx361_1
   have hw361_0 := hx361_0
   cases e361
   replace hx361_0 := cl HB hx361_0
   replace hx361_1 := cl HB hx361_1
   replace hx361_2 := cl HB hx361_2
   replace hx361_3 := cl HB hx361_3
   replace hx361_4 := cl HB hx361_4
   replace hx361_5 := cl HB hx361_5
   have HR361_3 := am hi361_3
   have HC361_3 := am hl361_3
   clear hi361_3 hl361_3
   have HR361_4 := am hi361_4
   have HC361_4 := am hl361_4
   clear hi361_4 hl361_4
   have HR361_5 := am hi361_5
   have HC361_5 := am hl361_5
   clear hi361_5 hl361_5
   replace p361 := eq_true p361
   replace q361 := eq_true q361
   have p362 : 0 ≤ (x5_1 : Int) := of_decide_eq_true as1
   have q362 : x5_1 < (l1.length : Int) := of_decide_eq_true as1
   obtain ⟨ad362, A362_3, c362_3, A362_4, c362_4, A362_5, c362_5, e362, hx362_0, hx362_1, hx362_2, hx362_3, hx362_4, hx362_5, hl362_3, hi362_3, hl362_4, hi362_4, hl362_5, hi362_5⟩ := at_T75 HR1.out x5_1 p362 q362
   have hw362_5 := hx362_5
   have hw362_4 := hx362_4
   have hw362_3 := hx362_3
   have hw362_2 := hx362_2
   have hw362_1 := hx362_1
   have hw362_0 := hx362_0
   cases e362
   replace hx362_0 := cl HB hx362_0
   replace hx362_1 := cl HB hx362_1
   replace hx362_2 := cl HB hx362_2
   replace hx362_3 := cl HB hx362_3
   replace hx362_4 := cl HB hx362_4
   replace hx362_5 := cl HB hx362_5
   have HR362_3 := am hi362_3
   have HC362_3 := am hl362_3
   clear hi362_3 hl362_3
   have HR362_4 := am hi362_4
   have HC362_4 := am hl362_4
   clear hi362_4 hl362_4
   have HR362_5 := am hi362_5
   have HC362_5 := am hl362_5
   clear hi362_5 hl362_5
   replace p362 := eq_true p362
   replace q362 := eq_true q362
   refine start_ (n := 10) (S := fun w' => w'.cell? (ad361.add ((x5_1).toNat * 6)) = some (.bool ((rd_T75 l0 x5_1).f0)) ∧ w'.cell? ⟨(ad361.add ((x5_1).toNat * 6)).block, (ad361.add ((x5_1).toNat * 6)).off + 1, none⟩ = some (.int .i64 ((rd_T75 l0 x5_1).f1)) ∧ w'.cell? ⟨(ad361.add ((x5_1).toNat * 6)).block, (ad361.add ((x5_1).toNat * 6)).off + 2, none⟩ = some (.int .i64 ((rd_T75 l0 x5_1).f2)) ∧ w'.cell? ⟨(ad361.add ((x5_1).toNat * 6)).block, (ad361.add ((x5_1).toNat * 6)).off + 3, none⟩ = some (.slice A361_3 ((rd_T75 l0 x5_1).f3).length c361_3) ∧ w'.cell? ⟨(ad361.add ((x5_1).toNat * 6)).block, (ad361.add ((x5_1).toNat * 6)).off + 4, none⟩ = some (.slice A361_4 ((rd_T75 l0 x5_1).f4).length c361_4) ∧ w'.cell? ⟨(ad361.add ((x5_1).toNat * 6)).block, (ad361.add ((x5_1).toNat * 6)).off + 5, none⟩ = some (.slice A361_5 ((rd_T75 l0 x5_1).f5).length c361_5) ∧ w'.cell? (ad362.add ((x5_1).toNat * 6)) = some (.bool ((rd_T75 l1 x5_1).f0)) ∧ w'.cell? ⟨(ad362.add ((x5_1).toNat * 6)).block, (ad362.add ((x5_1).toNat * 6)).off + 1, none⟩ = some (.int .i64 ((rd_T75 l1 x5_1).f1)) ∧ w'.cell? ⟨(ad362.add ((x5_1).toNat * 6)).block, (ad362.add ((x5_1).toNat * 6)).off + 2, none⟩ = some (.int .i64 ((rd_T75 l1 x5_1).f2)) ∧ w'.cell? ⟨(ad362.add ((x5_1).toNat * 6)).block, (ad362.add ((x5_1).toNat * 6)).off + 3, none⟩ = some (.slice A362_3 ((rd_T75 l1 x5_1).f3).length c362_3) ∧ w'.cell? ⟨(ad362.add ((x5_1).toNat * 6)).block, (ad362.add ((x5_1).toNat * 6)).off + 4, none⟩ = some (.slice A362_4 ((rd_T75 l1 x5_1).f4).length c362_4) ∧ w'.cell? ⟨(ad362.add ((x5_1).toNat * 6)).block, (ad362.add ((x5_1).toNat * 6)).off + 5, none⟩ = some (.slice A362_5 ((rd_T75 l1 x5_1).f5).length c362_5)) (ds := []) (bv 10 0) (by kernel_rfl) rfl (by kernel_rfl) ⟨(cq HB hw361_0), (cq HB hw361_1), (cq HB hw361_2), (cq HB hw361_3), (cq HB hw361_4), (cq HB hw361_5), (cq HB hw362_0), (cq HB hw362_1), (cq HB hw362_2), (cq HB hw362_3), (cq HB hw362_4), (cq HB hw362_5)⟩ (fun hHeld => ?_); refine with_tabW laws_eqMixFrameS.tab6 laws_eqMixFrameS.bits6 (fun HT_ HW_ => ?_)
   generalize wr.drew = w9 at HB HR361_3 HR361_4 HR361_5 HR362_3 HR362_4 HR362_5 hx361_0 hx361_1 hx361_2 hx361_3 hx361_4 hx361_5 hx362_0 hx362_1 hx362_2 hx362_3 hx362_4 hx362_5 hHeld ⊢
   refine pu 0 17 10 1 HT_ ?_
   refine pu 1 18 10 3 HT_ ?_
   refine pu 2 19 10 7 HT_ ?_
   refine pu 4 21 10 23 HT_ ?_
   refine pu 5 22 10 55 HT_ ?_
   refine pu 6 23 10 119 HT_ ?_
   refine tk 3 20 10 127 HT_ HW_ hHeld ?_
   refine tk 7 24 10 255 HT_ HW_ hHeld ?_
   refine on 8 (some 25) 10 511 HT_ fun K hK => ?_
   refine goes_ Try.func44 (by kernel_rfl) rfl #[.agg #[.bool ((rd_T75 l0 x5_1).f0), .int .i64 ((rd_T75 l0 x5_1).f1), .int .i64 ((rd_T75 l0 x5_1).f2), .slice A361_3 ((rd_T75 l0 x5_1).f3).length c361_3, .slice A361_4 ((rd_T75 l0 x5_1).f4).length c361_4, .slice A361_5 ((rd_T75 l0 x5_1).f5).length c361_5], .agg #[.bool ((rd_T75 l1 x5_1).f0), .int .i64 ((rd_T75 l1 x5_1).f1), .int .i64 ((rd_T75 l1 x5_1).f2), .slice A362_3 ((rd_T75 l1 x5_1).f3).length c362_3, .slice A362_4 ((rd_T75 l1 x5_1).f4).length c362_4, .slice A362_5 ((rd_T75 l1 x5_1).f5).length c362_5]] (by rfl) rfl rfl gl ?_
   with_reducible refine (laws_eqMixFrame.calls k1 ((rd_T75 l0 x5_1).f0) ((rd_T75 l0 x5_1).f1) ((rd_T75 l0 x5_1).f2) _ _ ((rd_T75 l0 x5_1).f3) _ _ ((rd_T75 l0 x5_1).f4) _ _ ((rd_T75 l0 x5_1).f5) ((rd_T75 l1 x5_1).f0) ((rd_T75 l1 x5_1).f1) ((rd_T75 l1 x5_1).f2) _ _ ((rd_T75 l1 x5_1).f3) _ _ ((rd_T75 l1 x5_1).f4) _ _ ((rd_T75 l1 x5_1).f5) t363 _ ?side1 ?side2 ?side3 ?side4 ?side5 ?side6 ?side7 ?side8 ?side9 ?side10 ?side11 ?side12 A7.out).mono ?_
   (case side1 => exact cc (Kd.C_below HR361_3.out HB.out))
   (case side2 => exact HC361_3.out)
   (case side3 => exact cc (Kd.C_below HR361_4.out HB.out))
   (case side4 => exact HC361_4.out)
   (case side5 => exact cc (Kd.C_below HR361_5.out HB.out))
   (case side6 => exact HC361_5.out)
   (case side7 => exact cc (Kd.C_below HR362_3.out HB.out))
   (case side8 => exact HC362_3.out)
   (case side9 => exact cc (Kd.C_below HR362_4.out HB.out))
   (case side10 => exact HC362_4.out)
   (case side11 => exact cc (Kd.C_below HR362_5.out HB.out))
   (case side12 => exact HC362_5.out)
   rintro e w10 ⟨rfl, hb⟩
   refine ⟨_, rfl, ?_⟩
   replace HB := am (below_step (bw HB) hb)
   clear hb
   refine hK.out _ _ ⟨(cq HB hw361_0), (cq HB hw361_1), (cq HB hw361_2), (cq HB hw361_3), (cq HB hw361_4), (cq HB hw361_5), (cq HB hw362_0), (cq HB hw362_1), (cq HB hw362_2), (cq HB hw362_3), (cq HB hw362_4), (cq HB hw362_5)⟩ (fun hHeld => ?_)
   clear hK K
   refine nm (some 25) ?_
   refine pu 9 26 10 1023 HT_ ?_
   refine done_ (done_of HT_.out (by kernel_rfl)) ?_
   go_upto_if 26 with (fail)
   (try simp only [Act.put, sa, sz, ss])
   have H := HC8.out
   clear HC8
   refine qT H ?_ ?_ <;> clear H <;> intro c11 H <;> subst c11
   ·have H' := am H
    clear H
    go_wp2
    go_roundg k1
    case measure => have := HK1.out; omega
    case rel => exact ⟨(wrap64 (x5_1 + 1)), dr, H', ⟨by have := HK1.out; omega⟩, ⟨bw HB⟩⟩
   obtain rfl := Option.some.inj H
   go_wp2
   go_ret
   exact ⟨er, bw HB⟩
  obtain rfl := Option.some.inj H
  go_wp2
  go_ret
  exact ⟨er, bw HB⟩
 rw [if_neg c3] at H
 have c3b0 : ((l0.length : Int) == (l1.length : Int)) = false := beq_eq_false_iff_ne.mpr c3
 have c3b1 : ((l0.length : Int) != (l1.length : Int)) = true := bne_iff_ne.mpr c3
 have c3b2 : (l0.length == l1.length) = false := by first | simpa using c3 | (simp at c3 ⊢; omega)
 obtain rfl := Option.some.inj H
 go_enter Try.func27, Try.ntmps27
 go_wp2
 go_ret
 exact ⟨er, bw HB⟩

end Go.Proofs.Yticdldoijkdffaa.QFnExactMixTold
