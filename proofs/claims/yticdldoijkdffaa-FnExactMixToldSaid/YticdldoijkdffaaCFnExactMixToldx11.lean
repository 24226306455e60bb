import Derived.Test.YticdldoijkdffaaCFnExactMixToldx0
import Derived.Test.YticdldoijkdffaaCFnExactMixToldx6
import Derived.Test.YticdldoijkdffaaCFnExactMixToldx9
import Derived.Test.YticdldoijkdffaaCFnExactMixToldx10
namespace Go.Proofs.Yticdldoijkdffaa.QFnExactMixTold
open Go.RowKit Go.Proofs.YticdldoijkdffaaW
open PrintWords PrintLast PrintMore PrintShort PrintIsh
attribute [local go_sem] max2_int min2_int max_two min_two max_three min_three max_four min_four   -- for this text's walks alone
set_option linter.unusedVariables false
set_option maxHeartbeats 8000000
set_option maxRecDepth 100000
set_option linter.unusedSimpArgs false

def laws_eqMixed.f (k : Nat) (l0_0 : List (S73)) (l0_1 : List (S75)) (l0_2 : List (List Int)) (l0_3 : List Int) (a0_4 : Int) (a0_5 : Bool) (a0_6 : Int) (a0_7 : Int) (l1_0 : List (S73)) (l1_1 : List (S75)) (l1_2 : List (List Int)) (l1_3 : List Int) (a1_4 : Int) (a1_5 : Bool) (a1_6 : Int) (a1_7 : Int) : Option (Bool) := (laws_eqAsmS.f k l0_0 l1_0).bind fun t366 => (if t366 = true then ((laws_eqMixFrameS.f k l0_1 l1_1).bind fun t367 => (if t367 = true then ((laws_eqInt64SS.f k l0_2 l1_2).bind fun t368 => (if t368 = true then ((laws_eqInt64S.f k l0_3 l1_3).bind fun t369 => (if t369 = true then (if a0_4 = a1_4 then (if (a0_5 != a1_5) = true then (some false) else (if a0_6 = a1_6 then (if a0_7 = a1_7 then (some true) else (some false)) else (some false))) else (some false)) else (some false))) else (some false))) else (some false))) else (some false))
theorem laws_eqMixed.mono : ∀ a0 a1 a2 a3 a4 a5 a6 a7 a8 a9 a10 a11 a12 a13 a14 a15 k, LeO (laws_eqMixed.f k a0 a1 a2 a3 a4 a5 a6 a7 a8 a9 a10 a11 a12 a13 a14 a15) (laws_eqMixed.f (k + 1) a0 a1 a2 a3 a4 a5 a6 a7 a8 a9 a10 a11 a12 a13 a14 a15) := by
 intro a0 a1 a2 a3 a4 a5 a6 a7 a8 a9 a10 a11 a12 a13 a14 a15 k
 unfold laws_eqMixed.f
 with_reducible repeat' first | exact laws_eqAsmS.mono .. | exact laws_eqInt64S.mono .. | exact laws_eqInt64SS.mono .. | exact laws_eqMixFrameS.mono .. | exact LeO.refl _ | exact LeO.none _ | refine LeO.ite ?_ ?_ | refine LeO.bind ?_ (fun _ => ?_)
theorem laws_eqMixed.calls (k : Nat) (A0_0 : Option Addr) (c0_0 : Nat) (l0_0 : List (S73)) (A0_1 : Option Addr) (c0_1 : Nat) (l0_1 : List (S75)) (A0_2 : Option Addr) (c0_2 : Nat) (l0_2 : List (List Int)) (A0_3 : Option Addr) (c0_3 : Nat) (l0_3 : List Int) (a0_4 : Int) (a0_5 : Bool) (a0_6 : Int) (a0_7 : Int) (A1_0 : Option Addr) (c1_0 : Nat) (l1_0 : List (S73)) (A1_1 : Option Addr) (c1_1 : Nat) (l1_1 : List (S75)) (A1_2 : Option Addr) (c1_2 : Nat) (l1_2 : List (List Int)) (A1_3 : Option Addr) (c1_3 : Nat) (l1_3 : List Int) (a1_4 : Int) (a1_5 : Bool) (a1_6 : Int) (a1_7 : Int) (r : Bool) (w : World) (hr0_0 : Kd.C k73 w A0_0 l0_0.length l0_0) (hc0_0 : l0_0.length ≤ c0_0) (hr0_1 : Kd.C k75 w A0_1 l0_1.length l0_1) (hc0_1 : l0_1.length ≤ c0_1) (hr0_2 : Kd.C (Kd.slice 2 (Kd.int .i64)) w A0_2 l0_2.length l0_2) (hc0_2 : l0_2.length ≤ c0_2) (hr0_3 : Kd.C (Kd.int .i64) w A0_3 l0_3.length l0_3) (hc0_3 : l0_3.length ≤ c0_3) (hr1_0 : Kd.C k73 w A1_0 l1_0.length l1_0) (hc1_0 : l1_0.length ≤ c1_0) (hr1_1 : Kd.C k75 w A1_1 l1_1.length l1_1) (hc1_1 : l1_1.length ≤ c1_1) (hr1_2 : Kd.C (Kd.slice 2 (Kd.int .i64)) w A1_2 l1_2.length l1_2) (hc1_2 : l1_2.length ≤ c1_2) (hr1_3 : Kd.C (Kd.int .i64) w A1_3 l1_3.length l1_3) (hc1_3 : l1_3.length ≤ c1_3) (h : laws_eqMixed.f k l0_0 l0_1 l0_2 l0_3 a0_4 a0_5 a0_6 a0_7 l1_0 l1_1 l1_2 l1_3 a1_4 a1_5 a1_6 a1_7 = some r) :
  Calls Try.prog 9 #[.agg #[.slice A0_0 l0_0.length c0_0, .slice A0_1 l0_1.length c0_1, .slice A0_2 l0_2.length c0_2, .slice A0_3 l0_3.length c0_3, .int .i64 a0_4, .bool a0_5, .int .i64 a0_6, .int .i64 a0_7], .agg #[.slice A1_0 l1_0.length c1_0, .slice A1_1 l1_1.length c1_1, .slice A1_2 l1_2.length c1_2, .slice A1_3 l1_3.length c1_3, .int .i64 a1_4, .bool a1_5, .int .i64 a1_6, .int .i64 a1_7]] w fun e w' => e = .returned (.bool r) ∧ Below w.heap.size w w' := by
 have hu36 := Try.underlying36
 have HR0_0 := am hr0_0
 have HC0_0 := am hc0_0
 clear hr0_0 hc0_0
 have HR0_1 := am hr0_1
 have HC0_1 := am hc0_1
 clear hr0_1 hc0_1
 have HR0_2 := am hr0_2
 have HC0_2 := am hc0_2
 clear hr0_2 hc0_2
 have HR0_3 := am hr0_3
 have HC0_3 := am hc0_3
 clear hr0_3 hc0_3
 have HR1_0 := am hr1_0
 have HC1_0 := am hc1_0
 clear hr1_0 hc1_0
 have HR1_1 := am hr1_1
 have HC1_1 := am hc1_1
 clear hr1_1 hc1_1
 have HR1_2 := am hr1_2
 have HC1_2 := am hc1_2
 clear hr1_2 hc1_2
 have HR1_3 := am hr1_3
 have HC1_3 := am hc1_3
 clear hr1_3 hc1_3
 have HB := am (Below.refl w.heap.size w)
 have H : ((laws_eqAsmS.f k l0_0 l1_0).bind fun t366 => (if t366 = true then ((laws_eqMixFrameS.f k l0_1 l1_1).bind fun t367 => (if t367 = true then ((laws_eqInt64SS.f k l0_2 l1_2).bind fun t368 => (if t368 = true then ((laws_eqInt64S.f k l0_3 l1_3).bind fun t369 => (if t369 = true then (if a0_4 = a1_4 then (if (a0_5 != a1_5) = true then (some false) else (if a0_6 = a1_6 then (if a0_7 = a1_7 then (some true) else (some false)) else (some false))) else (some false)) else (some false))) else (some false))) else (some false))) else (some false))) = some r := h
 clear h
 refine be H ?_; clear H; intro t366 A3 H
 have HC4 := am H
 clear H
 go_enter Try.func9, Try.ntmps9
 go_upto_if 10 with (first | ((with_reducible refine gd 2 rfl ?_); refine bX 2 #[.slice A0_0 l0_0.length c0_0, .slice A0_1 l0_1.length c0_1, .slice A0_2 l0_2.length c0_2, .slice A0_3 l0_3.length c0_3, .int .i64 a0_4, .bool a0_5, .int .i64 a0_6, .int .i64 a0_7] 36 HB ?_; clear HB; intro gb364 w5 hg hb BK364 GW364 HB; clear hb hg) | ((with_reducible refine gd 3 rfl ?_); refine bX 3 #[.slice A1_0 l1_0.length c1_0, .slice A1_1 l1_1.length c1_1, .slice A1_2 l1_2.length c1_2, .slice A1_3 l1_3.length c1_3, .int .i64 a1_4, .bool a1_5, .int .i64 a1_6, .int .i64 a1_7] 36 HB ?_; clear HB; intro gb365 w6 hg hb BK365 GW365 HB; obtain ⟨NB364_365, NB365_364, BK364⟩ := b3 hg BK364 hb; clear hb hg; have hnb7 := NB364_365.out; have hnc7 := NB365_364.out; have hcz8_0 := bk w6 BK364 0; have hcz8_1 := bk w6 BK364 1; have hcz8_2 := bk w6 BK364 2; have hcz8_3 := bk w6 BK364 3; have hcz8_4 := bk w6 BK364 4; have hcz8_5 := bk w6 BK364 5; have hcz8_6 := bk w6 BK364 6; have hcz8_7 := bk w6 BK364 7; have hfz8_0 := bf BK364 0; have hfz8_1 := bf BK364 1; have hfz8_2 := bf BK364 2; have hfz8_3 := bf BK364 3; have hfz8_4 := bf BK364 4; have hfz8_5 := bf BK364 5; have hfz8_6 := bf BK364 6; have hfz8_7 := bf BK364 7; have hcz9_0 := bk w6 BK365 0; have hcz9_1 := bk w6 BK365 1; have hcz9_2 := bk w6 BK365 2; have hcz9_3 := bk w6 BK365 3; have hcz9_4 := bk w6 BK365 4; have hcz9_5 := bk w6 BK365 5; have hcz9_6 := bk w6 BK365 6; have hcz9_7 := bk w6 BK365 7; have hfz9_0 := bf BK365 0; have hfz9_1 := bf BK365 1; have hfz9_2 := bf BK365 2; have hfz9_3 := bf BK365 3; have hfz9_4 := bf BK365 4; have hfz9_5 := bf BK365 5; have hfz9_6 := bf BK365 6; have hfz9_7 := bf BK365 7) | ((with_reducible refine gk 26 rfl ?_); refine gB 26 (some 9) Try.func26 #[.slice A0_0 l0_0.length c0_0, .slice A1_0 l1_0.length c1_0] (laws_eqAsmS.calls k _ _ l0_0 _ _ l1_0 t366 _ (cc (Kd.C_below HR0_0.out HB.out)) HC0_0.out (cc (Kd.C_below HR1_0.out HB.out)) HC1_0.out A3.out) ?_; intro w10 hb; replace BK364 := bb BK364 hb; replace BK365 := bb BK365 hb; replace HB := bs HB hb; clear hb))
 (try simp only [Act.put, sa, sz, ss])
 have H := HC4.out
 clear HC4
 refine qT H ?_ ?_ <;> clear H <;> intro c11 H <;> subst c11
 ·refine be H ?_; clear H; intro t367 A12 H
  have HC13 := am H
  clear H
  have hnb14 := NB364_365.out
  have hnc14 := NB365_364.out
  have hcz15_0 := bk w10 BK364 0
  have hcz15_1 := bk w10 BK364 1
  have hcz15_2 := bk w10 BK364 2
  have hcz15_3 := bk w10 BK364 3
  have hcz15_4 := bk w10 BK364 4
  have hcz15_5 := bk w10 BK364 5
  have hcz15_6 := bk w10 BK364 6
  have hcz15_7 := bk w10 BK364 7
  have hfz15_0 := bf BK364 0
  have hfz15_1 := bf BK364 1
  have hfz15_2 := bf BK364 2
  have hfz15_3 := bf BK364 3
  have hfz15_4 := bf BK364 4
  have hfz15_5 := bf BK364 5
  have hfz15_6 := bf BK364 6
  have hfz15_7 := bf BK364 7
  have hcz16_0 := bk w10 BK365 0
  have hcz16_1 := bk w10 BK365 1
  have hcz16_2 := bk w10 BK365 2
  have hcz16_3 := bk w10 BK365 3
  have hcz16_4 := bk w10 BK365 4
  have hcz16_5 := bk w10 BK365 5
  have hcz16_6 := bk w10 BK365 6
  have hcz16_7 := bk w10 BK365 7
  have hfz16_0 := bf BK365 0
  have hfz16_1 := bf BK365 1
  have hfz16_2 := bf BK365 2
  have hfz16_3 := bf BK365 3
  have hfz16_4 := bf BK365 4
  have hfz16_5 := bf BK365 5
  have hfz16_6 := bf BK365 6
  have hfz16_7 := bf BK365 7
  go_upto_if 16 with (first | ((with_reducible refine gk 27 rfl ?_); refine gB 27 (some 15) Try.func27 #[.slice A0_1 l0_1.length c0_1, .slice A1_1 l1_1.length c1_1] (laws_eqMixFrameS.calls k _ _ l0_1 _ _ l1_1 t367 _ (cc (Kd.C_below HR0_1.out HB.out)) HC0_1.out (cc (Kd.C_below HR1_1.out HB.out)) HC1_1.out A12.out) ?_; intro w17 hb; replace BK364 := bb BK364 hb; replace BK365 := bb BK365 hb; replace HB := bs HB hb; clear hb))
  (try simp only [Act.put, sa, sz, ss])
  have H := HC13.out
  clear HC13
  refine qT H ?_ ?_ <;> clear H <;> intro c18 H <;> subst c18
  ·refine be H ?_; clear H; intro t368 A19 H
   have HC20 := am H
   clear H
   have hnb21 := NB364_365.out
   have hnc21 := NB365_364.out
   have hcz22_0 := bk w17 BK364 0
   have hcz22_1 := bk w17 BK364 1
   have hcz22_2 := bk w17 BK364 2
   have hcz22_3 := bk w17 BK364 3
   have hcz22_4 := bk w17 BK364 4
   have hcz22_5 := bk w17 BK364 5
   have hcz22_6 := bk w17 BK364 6
   have hcz22_7 := bk w17 BK364 7
   have hfz22_0 := bf BK364 0
   have hfz22_1 := bf BK364 1
   have hfz22_2 := bf BK364 2
   have hfz22_3 := bf BK364 3
   have hfz22_4 := bf BK364 4
   have hfz22_5 := bf BK364 5
   have hfz22_6 := bf BK364 6
   have hfz22_7 := bf BK364 7
   have hcz23_0 := bk w17 BK365 0
   have hcz23_1 := bk w17 BK365 1
   have hcz23_2 := bk w17 BK365 2
   have hcz23_3 := bk w17 BK365 3
   have hcz23_4 := bk w17 BK365 4
   have hcz23_5 := bk w17 BK365 5
   have hcz23_6 := bk w17 BK365 6
   have hcz23_7 := bk w17 BK365 7
   have hfz23_0 := bf BK365 0
   have hfz23_1 := bf BK365 1
   have hfz23_2 := bf BK365 2
   have hfz23_3 := bf BK365 3
   have hfz23_4 := bf BK365 4
   have hfz23_5 := bf BK365 5
   have hfz23_6 := bf BK365 6
   have hfz23_7 := bf BK365 7
   go_upto_if 22 with (first | ((with_reducible refine gk 24 rfl ?_); refine gD 24 (some 21) Try.func24 #[.slice A0_2 l0_2.length c0_2, .slice A1_2 l1_2.length c1_2] (laws_eqInt64SS.calls k _ _ l0_2 _ _ l1_2 t368 _ (cc (Kd.C_below HR0_2.out HB.out)) HC0_2.out (cc (Kd.C_below HR1_2.out HB.out)) HC1_2.out A19.out) ?_; intro nd))
   (try simp only [Act.put, sa, sz, ss])
   (try simp only [World.drewN_drewN])
   generalize hq_ : World.drewN w17 _ = w24
   replace BK364 : Aside0 (w24.heap[gb364]? = some (.cells #[.slice A0_0 l0_0.length c0_0, .slice A0_1 l0_1.length c0_1, .slice A0_2 l0_2.length c0_2, .slice A0_3 l0_3.length c0_3, .int .i64 a0_4, .bool a0_5, .int .i64 a0_6, .int .i64 a0_7] 36 (0, 0))) := ⟨by rw [← hq_]; exact (bp BK364)⟩
   replace BK365 : Aside0 (w24.heap[gb365]? = some (.cells #[.slice A1_0 l1_0.length c1_0, .slice A1_1 l1_1.length c1_1, .slice A1_2 l1_2.length c1_2, .slice A1_3 l1_3.length c1_3, .int .i64 a1_4, .bool a1_5, .int .i64 a1_6, .int .i64 a1_7] 36 (0, 0))) := ⟨by rw [← hq_]; exact (bp BK365)⟩
   replace HB : Aside0 (Below w.heap.size w w24) := ⟨by rw [← hq_]; exact (bw HB)⟩
   clear hq_
   have H := HC20.out
   clear HC20
   refine qT H ?_ ?_ <;> clear H <;> intro c25 H <;> subst c25
   ·refine be H ?_; clear H; intro t369 A26 H
    have HC27 := am H
    clear H
    have hnb28 := NB364_365.out
    have hnc28 := NB365_364.out
    have hcz29_0 := bk w24 BK364 0
    have hcz29_1 := bk w24 BK364 1
    have hcz29_2 := bk w24 BK364 2
    have hcz29_3 := bk w24 BK364 3
    have hcz29_4 := bk w24 BK364 4
    have hcz29_5 := bk w24 BK364 5
    have hcz29_6 := bk w24 BK364 6
    have hcz29_7 := bk w24 BK364 7
    have hfz29_0 := bf BK364 0
    have hfz29_1 := bf BK364 1
    have hfz29_2 := bf BK364 2
    have hfz29_3 := bf BK364 3
    have hfz29_4 := bf BK364 4
    have hfz29_5 := bf BK364 5
    have hfz29_6 := bf BK364 6
    have hfz29_7 := bf BK364 7
    have hcz30_0 := bk w24 BK365 0
    have hcz30_1 := bk w24 BK365 1
    have hcz30_2 := bk w24 BK365 2
    have hcz30_3 := bk w24 BK365 3
    have hcz30_4 := bk w24 BK365 4
    have hcz30_5 := bk w24 BK365 5
    have hcz30_6 := bk w24 BK365 6
    have hcz30_7 := bk w24 BK365 7
    have hfz30_0 := bf BK365 0
    have hfz30_1 := bf BK365 1
    have hfz30_2 := bf BK365 2
    have hfz30_3 := bf BK365 3
    have hfz30_4 := bf BK365 4
    have hfz30_5 := bf BK365 5
    have hfz30_6 := bf BK365 6
    have hfz30_7 := bf BK365 7
    go_upto_if 28 with (first | ((with_reducible refine gk 25 rfl ?_); refine gD 25 (some 27) Try.func25 #[.slice A0_3 l0_3.length c0_3, .slice A1_3 l1_3.length c1_3] (laws_eqInt64S.calls k _ _ l0_3 _ _ l1_3 t369 _ (cc (Kd.C_below HR0_3.out HB.out)) HC0_3.out (cc (Kd.C_below HR1_3.out HB.out)) HC1_3.out A26.out) ?_; intro nd))
    (try simp only [Act.put, sa, sz, ss])
    (try simp only [World.drewN_drewN])
    generalize hq_ : World.drewN w24 _ = w31
    replace BK364 : Aside0 (w31.heap[gb364]? = some (.cells #[.slice A0_0 l0_0.length c0_0, .slice A0_1 l0_1.length c0_1, .slice A0_2 l0_2.length c0_2, .slice A0_3 l0_3.length c0_3, .int .i64 a0_4, .bool a0_5, .int .i64 a0_6, .int .i64 a0_7] 36 (0, 0))) := ⟨by rw [← hq_]; exact (bp BK364)⟩
    replace BK365 : Aside0 (w31.heap[gb365]? = some (.cells #[.slice A1_0 l1_0.length c1_0, .slice A1_1 l1_1.length c1_1, .slice A1_2 l1_2.length c1_2, .slice A1_3 l1_3.length c1_3, .int .i64 a1_4, .bool a1_5, .int .i64 a1_6, .int .i64 a1_7] 36 (0, 0))) := ⟨by rw [← hq_]; exact (bp BK365)⟩
    replace HB : Aside0 (Below w.heap.size w w31) := ⟨by rw [← hq_]; exact (bw HB)⟩
    clear hq_
    have H := HC27.out
    clear HC27
    refine qT H ?_ ?_ <;> clear H <;> intro c32 H <;> subst c32
    ·refine qE H ?_ ?_ <;> clear H
     ·intro c33b0 c33b1 H
      (first | rw [c33b0] | (simp only [i64_w, i32_w]; rw [c33b0]) | skip)
      by_cases c34 : (a0_5 != a1_5) = true
      ·rw [if_pos c34] at H
       have c34b0 : (a0_5 != a1_5) = true := c34
       (try (have c34b1 : decide (a0_5 = a1_5) = false := by simpa using c34))
       (try (have c34b2 : (a0_5 == a1_5) = false := by simpa using c34))
       (try (have c34b3 : ¬ (a0_5 = a1_5) := by simpa using c34))
       clear c34
       obtain rfl := Option.some.inj H
       have hnb35 := NB364_365.out
       have hnc35 := NB365_364.out
       have hcz36_0 := bk w31 BK364 0
       have hcz36_1 := bk w31 BK364 1
       have hcz36_2 := bk w31 BK364 2
       have hcz36_3 := bk w31 BK364 3
       have hcz36_4 := bk w31 BK364 4
       have hcz36_5 := bk w31 BK364 5
       have hcz36_6 := bk w31 BK364 6
       have hcz36_7 := bk w31 BK364 7
       have hfz36_0 := bf BK364 0
       have hfz36_1 := bf BK364 1
       have hfz36_2 := bf BK364 2
       have hfz36_3 := bf BK364 3
       have hfz36_4 := bf BK364 4
       have hfz36_5 := bf BK364 5
       have hfz36_6 := bf BK364 6
       have hfz36_7 := bf BK364 7
       have hcz37_0 := bk w31 BK365 0
       have hcz37_1 := bk w31 BK365 1
       have hcz37_2 := bk w31 BK365 2
       have hcz37_3 := bk w31 BK365 3
       have hcz37_4 := bk w31 BK365 4
       have hcz37_5 := bk w31 BK365 5
       have hcz37_6 := bk w31 BK365 6
       have hcz37_7 := bk w31 BK365 7
       have hfz37_0 := bf BK365 0
       have hfz37_1 := bf BK365 1
       have hfz37_2 := bf BK365 2
       have hfz37_3 := bf BK365 3
       have hfz37_4 := bf BK365 4
       have hfz37_5 := bf BK365 5
       have hfz37_6 := bf BK365 6
       have hfz37_7 := bf BK365 7
       go_wp2
       go_ret
       exact ⟨er, bw HB⟩
      rw [if_neg c34] at H
      have c34b0 : (a0_5 != a1_5) = false := by simpa using c34
      (try (have c34b1 : decide (a0_5 = a1_5) = true := by simpa using c34))
      (try (have c34b2 : (a0_5 == a1_5) = true := by simpa using c34))
      clear c34
      refine qE H ?_ ?_ <;> clear H
      ·intro c38b0 c38b1 H
       refine qE H ?_ ?_ <;> clear H
       ·intro c39b0 c39b1 H
        obtain rfl := Option.some.inj H
        have hnb40 := NB364_365.out
        have hnc40 := NB365_364.out
        have hcz41_0 := bk w31 BK364 0
        have hcz41_1 := bk w31 BK364 1
        have hcz41_2 := bk w31 BK364 2
        have hcz41_3 := bk w31 BK364 3
        have hcz41_4 := bk w31 BK364 4
        have hcz41_5 := bk w31 BK364 5
        have hcz41_6 := bk w31 BK364 6
        have hcz41_7 := bk w31 BK364 7
        have hfz41_0 := bf BK364 0
        have hfz41_1 := bf BK364 1
        have hfz41_2 := bf BK364 2
        have hfz41_3 := bf BK364 3
        have hfz41_4 := bf BK364 4
        have hfz41_5 := bf BK364 5
        have hfz41_6 := bf BK364 6
        have hfz41_7 := bf BK364 7
        have hcz42_0 := bk w31 BK365 0
        have hcz42_1 := bk w31 BK365 1
        have hcz42_2 := bk w31 BK365 2
        have hcz42_3 := bk w31 BK365 3
        have hcz42_4 := bk w31 BK365 4
        have hcz42_5 := bk w31 BK365 5
        have hcz42_6 := bk w31 BK365 6
        have hcz42_7 := bk w31 BK365 7
        have hfz42_0 := bf BK365 0
        have hfz42_1 := bf BK365 1
        have hfz42_2 := bf BK365 2
        have hfz42_3 := bf BK365 3
        have hfz42_4 := bf BK365 4
        have hfz42_5 := bf BK365 5
        have hfz42_6 := bf BK365 6
        have hfz42_7 := bf BK365 7
        go_wp2
        go_ret
        exact ⟨er, bw HB⟩
       intro c39 c39b0 c39b1 H
       obtain rfl := Option.some.inj H
       have hnb43 := NB364_365.out
       have hnc43 := NB365_364.out
       have hcz44_0 := bk w31 BK364 0
       have hcz44_1 := bk w31 BK364 1
       have hcz44_2 := bk w31 BK364 2
       have hcz44_3 := bk w31 BK364 3
       have hcz44_4 := bk w31 BK364 4
       have hcz44_5 := bk w31 BK364 5
       have hcz44_6 := bk w31 BK364 6
       have hcz44_7 := bk w31 BK364 7
       have hfz44_0 := bf BK364 0
       have hfz44_1 := bf BK364 1
       have hfz44_2 := bf BK364 2
       have hfz44_3 := bf BK364 3
       have hfz44_4 := bf BK364 4
       have hfz44_5 := bf BK364 5
       have hfz44_6 := bf BK364 6
       have hfz44_7 := bf BK364 7
       have hcz45_0 := bk w31 BK365 0
       have hcz45_1 := bk w31 BK365 1
       have hcz45_2 := bk w31 BK365 2
       have hcz45_3 := bk w31 BK365 3
       have hcz45_4 := bk w31 BK365 4
       have hcz45_5 := bk w31 BK365 5
       have hcz45_6 := bk w31 BK365 6
       have hcz45_7 := bk w31 BK365 7
       have hfz45_0 := bf BK365 0
       have hfz45_1 := bf BK365 1
       have hfz45_2 := bf BK365 2
       have hfz45_3 := bf BK365 3
       have hfz45_4 := bf BK365 4
       have hfz45_5 := bf BK365 5
       have hfz45_6 := bf BK365 6
       have hfz45_7 := bf BK365 7
       go_wp2
       go_ret
       exact ⟨er, bw HB⟩
      intro c38 c38b0 c38b1 H
      obtain rfl := Option.some.inj H
      have hnb46 := NB364_365.out
      have hnc46 := NB365_364.out
      have hcz47_0 := bk w31 BK364 0
      have hcz47_1 := bk w31 BK364 1
      have hcz47_2 := bk w31 BK364 2
      have hcz47_3 := bk w31 BK364 3
      have hcz47_4 := bk w31 BK364 4
      have hcz47_5 := bk w31 BK364 5
      have hcz47_6 := bk w31 BK364 6
      have hcz47_7 := bk w31 BK364 7
      have hfz47_0 := bf BK364 0
      have hfz47_1 := bf BK364 1
      have hfz47_2 := bf BK364 2
      have hfz47_3 := bf BK364 3
      have hfz47_4 := bf BK364 4
      have hfz47_5 := bf BK364 5
      have hfz47_6 := bf BK364 6
      have hfz47_7 := bf BK364 7
      have hcz48_0 := bk w31 BK365 0
      have hcz48_1 := bk w31 BK365 1
      have hcz48_2 := bk w31 BK365 2
      have hcz48_3 := bk w31 BK365 3
      have hcz48_4 := bk w31 BK365 4
      have hcz48_5 := bk w31 BK365 5
      have hcz48_6 := bk w31 BK365 6
      have hcz48_7 := bk w31 BK365 7
      have hfz48_0 := bf BK365 0
      have hfz48_1 := bf BK365 1
      have hfz48_2 := bf BK365 2
      have hfz48_3 := bf BK365 3
      have hfz48_4 := bf BK365 4
      have hfz48_5 := bf BK365 5
      have hfz48_6 := bf BK365 6
      have hfz48_7 := bf BK365 7
      go_wp2
      go_ret
      exact ⟨er, bw HB⟩
     intro c33 c33b0 c33b1 H
     (first | rw [c33b0] | (simp only [i64_w, i32_w]; rw [c33b0]) | skip)
     obtain rfl := Option.some.inj H
     have hnb49 := NB364_365.out
     have hnc49 := NB365_364.out
     have hcz50_0 := bk w31 BK364 0
     have hcz50_1 := bk w31 BK364 1
     have hcz50_2 := bk w31 BK364 2
     have hcz50_3 := bk w31 BK364 3
     have hcz50_4 := bk w31 BK364 4
     have hcz50_5 := bk w31 BK364 5
     have hcz50_6 := bk w31 BK364 6
     have hcz50_7 := bk w31 BK364 7
     have hfz50_0 := bf BK364 0
     have hfz50_1 := bf BK364 1
     have hfz50_2 := bf BK364 2
     have hfz50_3 := bf BK364 3
     have hfz50_4 := bf BK364 4
     have hfz50_5 := bf BK364 5
     have hfz50_6 := bf BK364 6
     have hfz50_7 := bf BK364 7
     have hcz51_0 := bk w31 BK365 0
     have hcz51_1 := bk w31 BK365 1
     have hcz51_2 := bk w31 BK365 2
     have hcz51_3 := bk w31 BK365 3
     have hcz51_4 := bk w31 BK365 4
     have hcz51_5 := bk w31 BK365 5
     have hcz51_6 := bk w31 BK365 6
     have hcz51_7 := bk w31 BK365 7
     have hfz51_0 := bf BK365 0
     have hfz51_1 := bf BK365 1
     have hfz51_2 := bf BK365 2
     have hfz51_3 := bf BK365 3
     have hfz51_4 := bf BK365 4
     have hfz51_5 := bf BK365 5
     have hfz51_6 := bf BK365 6
     have hfz51_7 := bf BK365 7
     go_wp2
     go_ret
     exact ⟨er, bw HB⟩
    obtain rfl := Option.some.inj H
    go_wp2
    go_ret
    exact ⟨er, bw HB⟩
   obtain rfl := Option.some.inj H
   go_wp2
   go_ret
   exact ⟨er, bw HB⟩
  obtain rfl := Option.some.inj H
  go_wp2
  go_ret
  exact ⟨er, bw HB⟩
 obtain rfl := Option.some.inj H
 go_wp2
 go_ret
 exact ⟨er, bw HB⟩

def sh107 (x y : S107) : Prop := (fun _ _ => True) x.f0 y.f0 ∧ (fun _ _ => True) x.f1 y.f1
theorem twn107 : Twn k107 sh107 := twn_iso (twn_pair (twn_int .i64) (twn_int .i64)) (fun x : S107 => (x.f0, x.f1)) (fun a => (⟨a.1, a.2⟩ : S107)) (fun _ => rfl)
def sh109 (x y : S109) : Prop := (fun _ _ => True) x.f0 y.f0 ∧ sh107 x.f1 y.f1
theorem twn109 : Twn k109 sh109 := twn_iso (twn_pair (twn_int .i64) twn107) (fun x : S109 => (x.f0, x.f1)) (fun a => (⟨a.1, a.2⟩ : S109)) (fun _ => rfl)
def laws_markMovS.g (k : Int) (x : S109) : Int := (wrap64 ((wrap64 ((wrap64 (k + 1)) + 1)) + 1))
theorem laws_markMovS.g_sh {k : Int} {x y : S109} (h : sh109 x y) : laws_markMovS.g k x = laws_markMovS.g k y := by
 unfold laws_markMovS.g
 rfl
def laws_markMovS.mk (k : Int) (l : List (S109)) : Int := l.foldl laws_markMovS.g k
theorem laws_markMovS.mk_sh {k : Int} {xs ys : List (S109)} (h : All2 sh109 xs ys) : laws_markMovS.mk k xs = laws_markMovS.mk k ys := fold_sh (g := laws_markMovS.g) (sh := sh109) (fun _ _ _ h => laws_markMovS.g_sh h) k h
theorem laws_markMovS.ish (P0_ : Nat → Prop) (u : Value) (l0 : List (S109)) (a1 : Int) (w0 w : World) (hB : Below w0.heap.size w0 w) (ho0 : Kd.R k109 109 w w0.heap.size P0_ u l0) :
  Calls Try.prog 53 #[u, .int .i64 a1] w fun e w' => e = .returned (.int .i64 (laws_markMovS.mk a1 l0)) ∧ Below w0.heap.size w0 w' ∧ Ish w w' P0_ := by
 have HB := am hB
 have HI := am (Ish.refl w P0_)
 have HO := am ho0
 have hln : l0.length ≤ 9223372036854775807 := by obtain ⟨_, _, rfl⟩ := Kd.R_slice ho0; exact (Kd.R_reads' ho0).2.2.2.1
 clear hB
 obtain ⟨Aa, ca, rfl⟩ := Kd.R_slice ho0
 clear ho0
 go_enter Try.func53, Try.ntmps53
 go_wp2
 go_loopg [1, 5] (l0.length + 1) (fun kq v1 v5 w' => ∃ (x1_1 : Int) (x5_1 : Int), v1 = .int .i64 x1_1 ∧ v5 = .int .i64 x5_1 ∧ Aside0 (kq + x5_1.toNat = l0.length + 1 ∧ 0 ≤ x5_1 ∧ x5_1 ≤ l0.length) ∧ Aside0 (laws_markMovS.mk x1_1 (l0.drop x5_1.toNat) = laws_markMovS.mk a1 l0) ∧ Aside0 (Ish w w' P0_) ∧ Aside0 (Below w0.heap.size w0 w'))
 case atStart => exact ⟨a1, 0, dr, dr, ⟨by simp, by omega, by omega⟩, ⟨rfl⟩, ⟨iw HI⟩, ⟨bw HB⟩⟩
 obtain ⟨x1_1, x5_1, rfl, rfl, HA, HV, HI, HB⟩ := hrel
 by_cases c3 : x5_1 < (l0.length : Int)
 ·have c3b0 := decide_eq_true c3
  obtain ⟨k1, rfl⟩ : ∃ k1, gk = k1 + 1 := ⟨gk - 1, by have := HA.out; omega⟩
  obtain ⟨la, hsa, hRa⟩ := R_twn twn109 HI.out HO.out
  have hla := hsa.1
  obtain ⟨go5, co5, eo5, gb5, gl5, cl5, HG5⟩ := Kd.R_form hRa (by have h00 := HA.out.2.1; omega)
  (first | cases eo5 | (injection eo5 with ea_ en_ ec_; (first | subst ea_ | (injection ea_ with ea_; subst ea_)); subst ec_; clear en_))
  have GB5 := am gb5
  have GP5 := am (show P0_ go5 from HO.out.1 _ rfl)
  clear gb5 gl5 HG5 hRa hsa
  have p5 : 0 ≤ x5_1 := HA.out.2.1
  have q5 := c3
  replace p5 := eq_true p5
  replace q5 := eq_true q5
  clear c3
  obtain ⟨l1, hs0, hR0⟩ := R_twn twn109 HI.out HO.out
  obtain ⟨ce0, hcl0, hM0, hcc0, hfr0⟩ := Kd.R_elem hR0 z109 x5_1 (of_eq_true p5) (of_eq_true q5)
  obtain rfl := k109_openM hM0
  have hx0 : wr.cell? ⟨go5, x5_1.toNat * 3, none⟩ = some _ := (hcc0 0 _ rfl)
  have hf0 : wr.frozen? ⟨go5, x5_1.toNat * 3, none⟩ = false := (hfr0 0)
  (try clear hM0)
  (try clear hfr0)
  (try clear hcc0)
  (try clear hcl0)
  (try clear hs0)
  (try clear hR0)
  go_wp2_with (first | ((with_reducible refine gt 2 16 rfl ?_); refine sE 2 16 (wr.setCell ⟨go5, x5_1.toNat * 3, none⟩ (.int .i64 x1_1)) ?_; intro wq0 hw; replace HI := am (show Ish w wq0 P0_ by rw [hw]; exact HI.out.set hx0 (twin.ofInt _ _ _) (fun _ => GP5.out)); replace HB := am ((by rw [hw]; exact below_set (HB.out) GB5.out : Below w0.heap.size w0 wq0)); clear hw; clear hx0; clear hf0; obtain ⟨l2, hs1, hR1⟩ := R_twn twn109 HI.out HO.out; obtain ⟨ce1, hcl1, hM1, hcc1, hfr1⟩ := Kd.R_elem hR1 z109 x5_1 (of_eq_true p5) (of_eq_true q5); obtain rfl := k109_openM hM1; have hx1 : wq0.cell? ⟨go5, x5_1.toNat * 3 + 1, none⟩ = some _ := (hcc1 1 _ rfl); have hf1 : wq0.frozen? ⟨go5, x5_1.toNat * 3 + 1, none⟩ = false := (hfr1 1); (try clear hM1); (try clear hfr1); (try clear hcc1); (try clear hcl1); (try clear hs1); (try clear hR1)) | ((with_reducible refine gt 2 24 rfl ?_); refine sE 2 24 (wq0.setCell ⟨go5, x5_1.toNat * 3 + 1, none⟩ (.int .i64 (wrap64 (x1_1 + 1)))) ?_; intro wq1 hw; replace HI := am (show Ish w wq1 P0_ by rw [hw]; exact HI.out.set hx1 (twin.ofInt _ _ _) (fun _ => GP5.out)); replace HB := am ((by rw [hw]; exact below_set (HB.out) GB5.out : Below w0.heap.size w0 wq1)); clear hw; clear hx1; clear hf1; obtain ⟨l3, hs2, hR2⟩ := R_twn twn109 HI.out HO.out; obtain ⟨ce2, hcl2, hM2, hcc2, hfr2⟩ := Kd.R_elem hR2 z109 x5_1 (of_eq_true p5) (of_eq_true q5); obtain rfl := k109_openM hM2; have hx2 : wq1.cell? ⟨go5, x5_1.toNat * 3 + 2, none⟩ = some _ := (hcc2 2 _ rfl); have hf2 : wq1.frozen? ⟨go5, x5_1.toNat * 3 + 2, none⟩ = false := (hfr2 2); (try clear hM2); (try clear hfr2); (try clear hcc2); (try clear hcl2); (try clear hs2); (try clear hR2)) | ((with_reducible refine gt 2 32 rfl ?_); refine sE 2 32 (wq1.setCell ⟨go5, x5_1.toNat * 3 + 2, none⟩ (.int .i64 (wrap64 ((wrap64 (x1_1 + 1)) + 1)))) ?_; intro wq2 hw; replace HI := am (show Ish w wq2 P0_ by rw [hw]; exact HI.out.set hx2 (twin.ofInt _ _ _) (fun _ => GP5.out)); replace HB := am ((by rw [hw]; exact below_set (HB.out) GB5.out : Below w0.heap.size w0 wq2)); clear hw; clear hx2; clear hf2))
  go_roundg k1
  case measure => omega
  case rel =>
   have h1 := HA.out
   have hq : x5_1 < (l0.length : Int) := of_eq_true q5
   have hw1 : wrap64 (x5_1 + 1) = x5_1 + 1 := by unfold wrap64; omega
   have hlt : x5_1.toNat < l0.length := by omega
   refine ⟨(wrap64 ((wrap64 ((wrap64 (x1_1 + 1)) + 1)) + 1)), wrap64 (x5_1 + 1), dr, dr, ⟨by omega, by omega, by omega⟩, ⟨?_⟩, ⟨iw HI⟩, ⟨bw HB⟩⟩
   have h2 := HV.out
   rw [List.drop_eq_getElem_cons hlt] at h2
   rw [hw1, show (x5_1 + 1).toNat = x5_1.toNat + 1 by omega]
   exact h2
 have c3b0 := decide_eq_false c3
 have hv := HV.out
 have h1 := HA.out
 rw [List.drop_of_length_le (by omega)] at hv
 have hv : x1_1 = laws_markMovS.mk a1 l0 := hv
 clear c3
 go_wp2
 go_ret
 exact ⟨by first | rfl | (simp; done) | (simp [*]; done), bw HB, iw HI⟩
def laws_markMovS.f (l0 : List (S109)) (a1 : Int) : Option Int := some (laws_markMovS.mk a1 l0)
theorem laws_markMovS.calls (P0_ : Nat → Prop) (u9000_ : Value) (l0 : List (S109)) (a1 : Int) (r1 : Int) (w0 w : World) (hB : Below w0.heap.size w0 w) (ho0 : Kd.R k109 109 w w0.heap.size P0_ u9000_ l0) (h : laws_markMovS.f l0 a1 = some r1) :
  Calls Try.prog 53 #[u9000_, .int .i64 a1] w fun e w' => e = .returned (.int .i64 r1) ∧ Below w0.heap.size w0 w' ∧ Kept w w' (fun k_ => P0_ k_) := by
 have e : laws_markMovS.mk a1 l0 = r1 := Option.some.inj h
 subst e
 exact (laws_markMovS.ish P0_ u9000_ l0 a1 w0 w hB ho0).mono fun e w' hq => ⟨hq.1, hq.2.1, hq.2.2.kept⟩

def laws_markValS.g (k : Int) (x : S107) : Int := (wrap64 ((wrap64 (k + 1)) + 1))
theorem laws_markValS.g_sh {k : Int} {x y : S107} (h : sh107 x y) : laws_markValS.g k x = laws_markValS.g k y := by
 unfold laws_markValS.g
 rfl
def laws_markValS.mk (k : Int) (l : List (S107)) : Int := l.foldl laws_markValS.g k
theorem laws_markValS.mk_sh {k : Int} {xs ys : List (S107)} (h : All2 sh107 xs ys) : laws_markValS.mk k xs = laws_markValS.mk k ys := fold_sh (g := laws_markValS.g) (sh := sh107) (fun _ _ _ h => laws_markValS.g_sh h) k h
theorem laws_markValS.ish (P0_ : Nat → Prop) (u : Value) (l0 : List (S107)) (a1 : Int) (w0 w : World) (hB : Below w0.heap.size w0 w) (ho0 : Kd.R k107 107 w w0.heap.size P0_ u l0) :
  Calls Try.prog 54 #[u, .int .i64 a1] w fun e w' => e = .returned (.int .i64 (laws_markValS.mk a1 l0)) ∧ Below w0.heap.size w0 w' ∧ Ish w w' P0_ := by
 have HB := am hB
 have HI := am (Ish.refl w P0_)
 have HO := am ho0
 have hln : l0.length ≤ 9223372036854775807 := by obtain ⟨_, _, rfl⟩ := Kd.R_slice ho0; exact (Kd.R_reads' ho0).2.2.2.1
 clear hB
 obtain ⟨Aa, ca, rfl⟩ := Kd.R_slice ho0
 clear ho0
 go_enter Try.func54, Try.ntmps54
 go_wp2
 go_loopg [1, 5] (l0.length + 1) (fun kq v1 v5 w' => ∃ (x1_1 : Int) (x5_1 : Int), v1 = .int .i64 x1_1 ∧ v5 = .int .i64 x5_1 ∧ Aside0 (kq + x5_1.toNat = l0.length + 1 ∧ 0 ≤ x5_1 ∧ x5_1 ≤ l0.length) ∧ Aside0 (laws_markValS.mk x1_1 (l0.drop x5_1.toNat) = laws_markValS.mk a1 l0) ∧ Aside0 (Ish w w' P0_) ∧ Aside0 (Below w0.heap.size w0 w'))
 case atStart => exact ⟨a1, 0, dr, dr, ⟨by simp, by omega, by omega⟩, ⟨rfl⟩, ⟨iw HI⟩, ⟨bw HB⟩⟩
 obtain ⟨x1_1, x5_1, rfl, rfl, HA, HV, HI, HB⟩ := hrel
 by_cases c3 : x5_1 < (l0.length : Int)
 ·have c3b0 := decide_eq_true c3
  obtain ⟨k1, rfl⟩ : ∃ k1, gk = k1 + 1 := ⟨gk - 1, by have := HA.out; omega⟩
  obtain ⟨la, hsa, hRa⟩ := R_twn twn107 HI.out HO.out
  have hla := hsa.1
  obtain ⟨go5, co5, eo5, gb5, gl5, cl5, HG5⟩ := Kd.R_form hRa (by have h00 := HA.out.2.1; omega)
  (first | cases eo5 | (injection eo5 with ea_ en_ ec_; (first | subst ea_ | (injection ea_ with ea_; subst ea_)); subst ec_; clear en_))
  have GB5 := am gb5
  have GP5 := am (show P0_ go5 from HO.out.1 _ rfl)
  clear gb5 gl5 HG5 hRa hsa
  have p5 : 0 ≤ x5_1 := HA.out.2.1
  have q5 := c3
  replace p5 := eq_true p5
  replace q5 := eq_true q5
  clear c3
  obtain ⟨l1, hs0, hR0⟩ := R_twn twn107 HI.out HO.out
  obtain ⟨ce0, hcl0, hM0, hcc0, hfr0⟩ := Kd.R_elem hR0 z107 x5_1 (of_eq_true p5) (of_eq_true q5)
  obtain rfl := k107_openM hM0
  have hx0 : wr.cell? ⟨go5, x5_1.toNat * 2, none⟩ = some _ := (hcc0 0 _ rfl)
  have hf0 : wr.frozen? ⟨go5, x5_1.toNat * 2, none⟩ = false := (hfr0 0)
  (try clear hM0)
  (try clear hfr0)
  (try clear hcc0)
  (try clear hcl0)
  (try clear hs0)
  (try clear hR0)
  go_wp2_with (first | ((with_reducible refine gt 2 16 rfl ?_); refine sE 2 16 (wr.setCell ⟨go5, x5_1.toNat * 2, none⟩ (.int .i64 x1_1)) ?_; intro wq0 hw; replace HI := am (show Ish w wq0 P0_ by rw [hw]; exact HI.out.set hx0 (twin.ofInt _ _ _) (fun _ => GP5.out)); replace HB := am ((by rw [hw]; exact below_set (HB.out) GB5.out : Below w0.heap.size w0 wq0)); clear hw; clear hx0; clear hf0; obtain ⟨l2, hs1, hR1⟩ := R_twn twn107 HI.out HO.out; obtain ⟨ce1, hcl1, hM1, hcc1, hfr1⟩ := Kd.R_elem hR1 z107 x5_1 (of_eq_true p5) (of_eq_true q5); obtain rfl := k107_openM hM1; have hx1 : wq0.cell? ⟨go5, x5_1.toNat * 2 + 1, none⟩ = some _ := (hcc1 1 _ rfl); have hf1 : wq0.frozen? ⟨go5, x5_1.toNat * 2 + 1, none⟩ = false := (hfr1 1); (try clear hM1); (try clear hfr1); (try clear hcc1); (try clear hcl1); (try clear hs1); (try clear hR1)) | ((with_reducible refine gt 2 23 rfl ?_); refine sE 2 23 (wq0.setCell ⟨go5, x5_1.toNat * 2 + 1, none⟩ (.int .i64 (wrap64 (x1_1 + 1)))) ?_; intro wq1 hw; replace HI := am (show Ish w wq1 P0_ by rw [hw]; exact HI.out.set hx1 (twin.ofInt _ _ _) (fun _ => GP5.out)); replace HB := am ((by rw [hw]; exact below_set (HB.out) GB5.out : Below w0.heap.size w0 wq1)); clear hw; clear hx1; clear hf1))
  go_roundg k1
  case measure => omega
  case rel =>
   have h1 := HA.out
   have hq : x5_1 < (l0.length : Int) := of_eq_true q5
   have hw1 : wrap64 (x5_1 + 1) = x5_1 + 1 := by unfold wrap64; omega
   have hlt : x5_1.toNat < l0.length := by omega
   refine ⟨(wrap64 ((wrap64 (x1_1 + 1)) + 1)), wrap64 (x5_1 + 1), dr, dr, ⟨by omega, by omega, by omega⟩, ⟨?_⟩, ⟨iw HI⟩, ⟨bw HB⟩⟩
   have h2 := HV.out
   rw [List.drop_eq_getElem_cons hlt] at h2
   rw [hw1, show (x5_1 + 1).toNat = x5_1.toNat + 1 by omega]
   exact h2
 have c3b0 := decide_eq_false c3
 have hv := HV.out
 have h1 := HA.out
 rw [List.drop_of_length_le (by omega)] at hv
 have hv : x1_1 = laws_markValS.mk a1 l0 := hv
 clear c3
 go_wp2
 go_ret
 exact ⟨by first | rfl | (simp; done) | (simp [*]; done), bw HB, iw HI⟩
def laws_markValS.f (l0 : List (S107)) (a1 : Int) : Option Int := some (laws_markValS.mk a1 l0)
theorem laws_markValS.calls (P0_ : Nat → Prop) (u9000_ : Value) (l0 : List (S107)) (a1 : Int) (r1 : Int) (w0 w : World) (hB : Below w0.heap.size w0 w) (ho0 : Kd.R k107 107 w w0.heap.size P0_ u9000_ l0) (h : laws_markValS.f l0 a1 = some r1) :
  Calls Try.prog 54 #[u9000_, .int .i64 a1] w fun e w' => e = .returned (.int .i64 r1) ∧ Below w0.heap.size w0 w' ∧ Kept w w' (fun k_ => P0_ k_) := by
 have e : laws_markValS.mk a1 l0 = r1 := Option.some.inj h
 subst e
 exact (laws_markValS.ish P0_ u9000_ l0 a1 w0 w hB ho0).mono fun e w' hq => ⟨hq.1, hq.2.1, hq.2.2.kept⟩

def sh94 (x y : S94) : Prop := (All2 sh109) x.f0 y.f0 ∧ (fun _ _ => True) x.f1 y.f1 ∧ (fun _ _ => True) x.f2 y.f2 ∧ (All2 sh107) x.f3 y.f3 ∧ (fun _ _ => True) x.f4 y.f4
theorem twn94 : Twn k94 sh94 := twn_iso (twn_pair (twn_slice twn109 109) (twn_pair (twn_int .i64) (twn_pair (twn_int .i64) (twn_pair (twn_slice twn107 107) (twn_int .i64))))) (fun x : S94 => (x.f0, x.f1, x.f2, x.f3, x.f4)) (fun a => (⟨a.1, a.2.1, a.2.2.1, a.2.2.2.1, a.2.2.2.2⟩ : S94)) (fun _ => rfl)
def laws_markAsmInsS.g (k : Int) (x : S94) : Int := (wrap64 ((laws_markValS.mk (wrap64 ((wrap64 ((laws_markMovS.mk k x.f0) + 1)) + 1)) x.f3) + 1))
theorem laws_markAsmInsS.g_sh {k : Int} {x y : S94} (h : sh94 x y) : laws_markAsmInsS.g k x = laws_markAsmInsS.g k y := by
 unfold laws_markAsmInsS.g
 rw [laws_markValS.mk_sh (show All2 _ _ _ from h.2.2.2.1), laws_markMovS.mk_sh (show All2 _ _ _ from h.1)]
def laws_markAsmInsS.mk (k : Int) (l : List (S94)) : Int := l.foldl laws_markAsmInsS.g k
theorem laws_markAsmInsS.mk_sh {k : Int} {xs ys : List (S94)} (h : All2 sh94 xs ys) : laws_markAsmInsS.mk k xs = laws_markAsmInsS.mk k ys := fold_sh (g := laws_markAsmInsS.g) (sh := sh94) (fun _ _ _ h => laws_markAsmInsS.g_sh h) k h
theorem laws_markAsmInsS.ish (P0_ : Nat → Prop) (u : Value) (l0 : List (S94)) (a1 : Int) (w0 w : World) (hB : Below w0.heap.size w0 w) (ho0 : Kd.R k94 94 w w0.heap.size P0_ u l0) :
  Calls Try.prog 45 #[u, .int .i64 a1] w fun e w' => e = .returned (.int .i64 (laws_markAsmInsS.mk a1 l0)) ∧ Below w0.heap.size w0 w' ∧ Ish w w' P0_ := by
 have HB := am hB
 have HI := am (Ish.refl w P0_)
 have HO := am ho0
 have hln : l0.length ≤ 9223372036854775807 := by obtain ⟨_, _, rfl⟩ := Kd.R_slice ho0; exact (Kd.R_reads' ho0).2.2.2.1
 clear hB
 obtain ⟨Aa, ca, rfl⟩ := Kd.R_slice ho0
 clear ho0
 go_enter Try.func45, Try.ntmps45
 go_wp2
 go_loopg [1, 5] (l0.length + 1) (fun kq v1 v5 w' => ∃ (x1_1 : Int) (x5_1 : Int), v1 = .int .i64 x1_1 ∧ v5 = .int .i64 x5_1 ∧ Aside0 (kq + x5_1.toNat = l0.length + 1 ∧ 0 ≤ x5_1 ∧ x5_1 ≤ l0.length) ∧ Aside0 (laws_markAsmInsS.mk x1_1 (l0.drop x5_1.toNat) = laws_markAsmInsS.mk a1 l0) ∧ Aside0 (Ish w w' P0_) ∧ Aside0 (Below w0.heap.size w0 w'))
 case atStart => exact ⟨a1, 0, dr, dr, ⟨by simp, by omega, by omega⟩, ⟨rfl⟩, ⟨iw HI⟩, ⟨bw HB⟩⟩
 obtain ⟨x1_1, x5_1, rfl, rfl, HA, HV, HI, HB⟩ := hrel
 by_cases c3 : x5_1 < (l0.length : Int)
 ·have c3b0 := decide_eq_true c3
  obtain ⟨k1, rfl⟩ : ∃ k1, gk = k1 + 1 := ⟨gk - 1, by have := HA.out; omega⟩
  obtain ⟨la, hsa, hRa⟩ := R_twn twn94 HI.out HO.out
  have hla := hsa.1
  obtain ⟨go5, co5, eo5, gb5, gl5, cl5, HG5⟩ := Kd.R_form hRa (by have h00 := HA.out.2.1; omega)
  (first | cases eo5 | (injection eo5 with ea_ en_ ec_; (first | subst ea_ | (injection ea_ with ea_; subst ea_)); subst ec_; clear en_))
  have GB5 := am gb5
  have GP5 := am (show P0_ go5 from HO.out.1 _ rfl)
  clear gb5 gl5 HG5 hRa hsa
  have p5 : 0 ≤ x5_1 := HA.out.2.1
  have q5 := c3
  replace p5 := eq_true p5
  replace q5 := eq_true q5
  clear c3
  obtain ⟨l1, hs0, hR0⟩ := R_twn twn94 HI.out HO.out
  obtain ⟨ce0, hcl0, hM0, hcc0, hfr0⟩ := Kd.R_elem hR0 z94 x5_1 (of_eq_true p5) (of_eq_true q5)
  obtain ⟨v0_0, v0_3, rfl, hr0_0, hr0_3⟩ := k94_openM hM0
  obtain ⟨A0, c0, rfl⟩ := Kd.R_slice hr0_0
  have hx0 : wr.cell? ⟨go5, x5_1.toNat * 5, none⟩ = some _ := (hcc0 0 _ rfl)
  have HR0 := am hr0_0
  have HS0 := am hs0
  (try clear hM0)
  (try clear hfr0)
  (try clear hcc0)
  (try clear hcl0)
  (try clear hs0)
  (try clear hR0)
  (try clear hr0_0)
  (try clear hr0_3)
  go_wp2_with (first | (go_at_call 53; (refine (laws_markMovS.ish _ _ _ _ _ _ (bw HB) HR0.out).mono ?_); rintro e wq0 ⟨rfl, hb, hi⟩; replace HB := am hb; replace HI := am (HI.out.trans hi (fun b _ h_ => h_.1)); clear hb hi; clear hx0 HR0; obtain ⟨l2, hs1, hR1⟩ := R_twn twn94 HI.out HO.out; obtain ⟨ce1, hcl1, hM1, hcc1, hfr1⟩ := Kd.R_elem hR1 z94 x5_1 (of_eq_true p5) (of_eq_true q5); obtain ⟨v1_0, v1_3, rfl, hr1_0, hr1_3⟩ := k94_openM hM1; have hx1 : wq0.cell? ⟨go5, x5_1.toNat * 5 + 1, none⟩ = some _ := (hcc1 1 _ rfl); have hf1 : wq0.frozen? ⟨go5, x5_1.toNat * 5 + 1, none⟩ = false := (hfr1 1); (try clear hM1); (try clear hfr1); (try clear hcc1); (try clear hcl1); (try clear hs1); (try clear hR1); (try clear hr1_0); (try clear hr1_3)) | ((with_reducible refine gt 2 23 rfl ?_); refine sE 2 23 (wq0.setCell ⟨go5, x5_1.toNat * 5 + 1, none⟩ (.int .i64 (laws_markMovS.mk x1_1 (l1.getD x5_1.toNat z94).f0))) ?_; intro wq1 hw; replace HI := am (show Ish w wq1 P0_ by rw [hw]; exact HI.out.set hx1 (twin.ofInt _ _ _) (fun _ => GP5.out)); replace HB := am ((by rw [hw]; exact below_set (HB.out) GB5.out : Below w0.heap.size w0 wq1)); clear hw; clear hx1; clear hf1; obtain ⟨l3, hs2, hR2⟩ := R_twn twn94 HI.out HO.out; obtain ⟨ce2, hcl2, hM2, hcc2, hfr2⟩ := Kd.R_elem hR2 z94 x5_1 (of_eq_true p5) (of_eq_true q5); obtain ⟨v2_0, v2_3, rfl, hr2_0, hr2_3⟩ := k94_openM hM2; have hx2 : wq1.cell? ⟨go5, x5_1.toNat * 5 + 2, none⟩ = some _ := (hcc2 2 _ rfl); have hf2 : wq1.frozen? ⟨go5, x5_1.toNat * 5 + 2, none⟩ = false := (hfr2 2); (try clear hM2); (try clear hfr2); (try clear hcc2); (try clear hcl2); (try clear hs2); (try clear hR2); (try clear hr2_0); (try clear hr2_3)) | ((with_reducible refine gt 2 30 rfl ?_); refine sE 2 30 (wq1.setCell ⟨go5, x5_1.toNat * 5 + 2, none⟩ (.int .i64 (wrap64 ((laws_markMovS.mk x1_1 (l1.getD x5_1.toNat z94).f0) + 1)))) ?_; intro wq2 hw; replace HI := am (show Ish w wq2 P0_ by rw [hw]; exact HI.out.set hx2 (twin.ofInt _ _ _) (fun _ => GP5.out)); replace HB := am ((by rw [hw]; exact below_set (HB.out) GB5.out : Below w0.heap.size w0 wq2)); clear hw; clear hx2; clear hf2; obtain ⟨l4, hs3, hR3⟩ := R_twn twn94 HI.out HO.out; obtain ⟨ce3, hcl3, hM3, hcc3, hfr3⟩ := Kd.R_elem hR3 z94 x5_1 (of_eq_true p5) (of_eq_true q5); obtain ⟨v3_0, v3_3, rfl, hr3_0, hr3_3⟩ := k94_openM hM3; obtain ⟨A3, c3, rfl⟩ := Kd.R_slice hr3_3; have hx3 : wq2.cell? ⟨go5, x5_1.toNat * 5 + 3, none⟩ = some _ := (hcc3 3 _ rfl); have HR3 := am hr3_3; have HS3 := am hs3; (try clear hM3); (try clear hfr3); (try clear hcc3); (try clear hcl3); (try clear hs3); (try clear hR3); (try clear hr3_0); (try clear hr3_3)) | (go_at_call 54; (refine (laws_markValS.ish _ _ _ _ _ _ (bw HB) HR3.out).mono ?_); rintro e wq3 ⟨rfl, hb, hi⟩; replace HB := am hb; replace HI := am (HI.out.trans hi (fun b _ h_ => h_.1)); clear hb hi; clear hx3 HR3; obtain ⟨l5, hs4, hR4⟩ := R_twn twn94 HI.out HO.out; obtain ⟨ce4, hcl4, hM4, hcc4, hfr4⟩ := Kd.R_elem hR4 z94 x5_1 (of_eq_true p5) (of_eq_true q5); obtain ⟨v4_0, v4_3, rfl, hr4_0, hr4_3⟩ := k94_openM hM4; have hx4 : wq3.cell? ⟨go5, x5_1.toNat * 5 + 4, none⟩ = some _ := (hcc4 4 _ rfl); have hf4 : wq3.frozen? ⟨go5, x5_1.toNat * 5 + 4, none⟩ = false := (hfr4 4); (try clear hM4); (try clear hfr4); (try clear hcc4); (try clear hcl4); (try clear hs4); (try clear hR4); (try clear hr4_0); (try clear hr4_3)) | ((with_reducible refine gt 2 44 rfl ?_); refine sE 2 44 (wq3.setCell ⟨go5, x5_1.toNat * 5 + 4, none⟩ (.int .i64 (laws_markValS.mk (wrap64 ((wrap64 ((laws_markMovS.mk x1_1 (l1.getD x5_1.toNat z94).f0) + 1)) + 1)) (l4.getD x5_1.toNat z94).f3))) ?_; intro wq4 hw; replace HI := am (show Ish w wq4 P0_ by rw [hw]; exact HI.out.set hx4 (twin.ofInt _ _ _) (fun _ => GP5.out)); replace HB := am ((by rw [hw]; exact below_set (HB.out) GB5.out : Below w0.heap.size w0 wq4)); clear hw; clear hx4; clear hf4))
  go_roundg k1
  case measure => omega
  case rel =>
   have h1 := HA.out
   have hq : x5_1 < (l0.length : Int) := of_eq_true q5
   have hw1 : wrap64 (x5_1 + 1) = x5_1 + 1 := by unfold wrap64; omega
   have hlt : x5_1.toNat < l0.length := by omega
   have hsh0 := HS0.out.2 x5_1.toNat l0[x5_1.toNat] (l1.getD x5_1.toNat z94) (List.getElem?_eq_getElem hlt) (by rw [List.getD_eq_getElem?_getD, List.getElem?_eq_getElem (by have := HS0.out.1; omega)]; rfl)
   have hsh3 := HS3.out.2 x5_1.toNat l0[x5_1.toNat] (l4.getD x5_1.toNat z94) (List.getElem?_eq_getElem hlt) (by rw [List.getD_eq_getElem?_getD, List.getElem?_eq_getElem (by have := HS3.out.1; omega)]; rfl)
   refine ⟨(wrap64 ((laws_markValS.mk (wrap64 ((wrap64 ((laws_markMovS.mk x1_1 (l1.getD x5_1.toNat z94).f0) + 1)) + 1)) (l4.getD x5_1.toNat z94).f3) + 1)), wrap64 (x5_1 + 1), dr, dr, ⟨by omega, by omega, by omega⟩, ⟨?_⟩, ⟨iw HI⟩, ⟨bw HB⟩⟩
   have h2 := HV.out
   rw [List.drop_eq_getElem_cons hlt] at h2
   rw [hw1, show (x5_1 + 1).toNat = x5_1.toNat + 1 by omega]
   rw [← laws_markValS.mk_sh (show All2 _ _ _ from hsh3.2.2.2.1), ← laws_markMovS.mk_sh (show All2 _ _ _ from hsh0.1)]
   exact h2
 have c3b0 := decide_eq_false c3
 have hv := HV.out
 have h1 := HA.out
 rw [List.drop_of_length_le (by omega)] at hv
 have hv : x1_1 = laws_markAsmInsS.mk a1 l0 := hv
 clear c3
 go_wp2
 go_ret
 exact ⟨by first | rfl | (simp; done) | (simp [*]; done), bw HB, iw HI⟩
def laws_markAsmInsS.f (l0 : List (S94)) (a1 : Int) : Option Int := some (laws_markAsmInsS.mk a1 l0)
theorem laws_markAsmInsS.calls (P0_ : Nat → Prop) (u9000_ : Value) (l0 : List (S94)) (a1 : Int) (r1 : Int) (w0 w : World) (hB : Below w0.heap.size w0 w) (ho0 : Kd.R k94 94 w w0.heap.size P0_ u9000_ l0) (h : laws_markAsmInsS.f l0 a1 = some r1) :
  Calls Try.prog 45 #[u9000_, .int .i64 a1] w fun e w' => e = .returned (.int .i64 r1) ∧ Below w0.heap.size w0 w' ∧ Kept w w' (fun k_ => P0_ k_) := by
 have e : laws_markAsmInsS.mk a1 l0 = r1 := Option.some.inj h
 subst e
 exact (laws_markAsmInsS.ish P0_ u9000_ l0 a1 w0 w hB ho0).mono fun e w' hq => ⟨hq.1, hq.2.1, hq.2.2.kept⟩

def laws_markValSS.g (k : Int) (x : List (S107)) : Int := (laws_markValS.mk k x)
theorem laws_markValSS.g_sh {k : Int} {x y : List (S107)} (h : (All2 sh107) x y) : laws_markValSS.g k x = laws_markValSS.g k y := by
 unfold laws_markValSS.g
 rw [laws_markValS.mk_sh (show All2 _ _ _ from h)]
def laws_markValSS.mk (k : Int) (l : List (List (S107))) : Int := l.foldl laws_markValSS.g k
theorem laws_markValSS.mk_sh {k : Int} {xs ys : List (List (S107))} (h : All2 (All2 sh107) xs ys) : laws_markValSS.mk k xs = laws_markValSS.mk k ys := fold_sh (g := laws_markValSS.g) (sh := (All2 sh107)) (fun _ _ _ h => laws_markValSS.g_sh h) k h
theorem laws_markValSS.ish (P0_ : Nat → Prop) (u : Value) (l0 : List (List (S107))) (a1 : Int) (w0 w : World) (hB : Below w0.heap.size w0 w) (ho0 : Kd.R (Kd.slice 107 k107) 92 w w0.heap.size P0_ u l0) :
  Calls Try.prog 46 #[u, .int .i64 a1] w fun e w' => e = .returned (.int .i64 (laws_markValSS.mk a1 l0)) ∧ Below w0.heap.size w0 w' ∧ Ish w w' P0_ := by
 have HB := am hB
 have HI := am (Ish.refl w P0_)
 have HO := am ho0
 have hln : l0.length ≤ 9223372036854775807 := by obtain ⟨_, _, rfl⟩ := Kd.R_slice ho0; exact (Kd.R_reads' ho0).2.2.2.1
 clear hB
 obtain ⟨Aa, ca, rfl⟩ := Kd.R_slice ho0
 clear ho0
 go_enter Try.func46, Try.ntmps46
 go_wp2
 go_loopg [1, 5] (l0.length + 1) (fun kq v1 v5 w' => ∃ (x1_1 : Int) (x5_1 : Int), v1 = .int .i64 x1_1 ∧ v5 = .int .i64 x5_1 ∧ Aside0 (kq + x5_1.toNat = l0.length + 1 ∧ 0 ≤ x5_1 ∧ x5_1 ≤ l0.length) ∧ Aside0 (laws_markValSS.mk x1_1 (l0.drop x5_1.toNat) = laws_markValSS.mk a1 l0) ∧ Aside0 (Ish w w' P0_) ∧ Aside0 (Below w0.heap.size w0 w'))
 case atStart => exact ⟨a1, 0, dr, dr, ⟨by simp, by omega, by omega⟩, ⟨rfl⟩, ⟨iw HI⟩, ⟨bw HB⟩⟩
 obtain ⟨x1_1, x5_1, rfl, rfl, HA, HV, HI, HB⟩ := hrel
 by_cases c3 : x5_1 < (l0.length : Int)
 ·have c3b0 := decide_eq_true c3
  obtain ⟨k1, rfl⟩ : ∃ k1, gk = k1 + 1 := ⟨gk - 1, by have := HA.out; omega⟩
  obtain ⟨la, hsa, hRa⟩ := R_twn (twn_slice twn107 107) HI.out HO.out
  have hla := hsa.1
  obtain ⟨go5, co5, eo5, gb5, gl5, cl5, HG5⟩ := Kd.R_form hRa (by have h00 := HA.out.2.1; omega)
  (first | cases eo5 | (injection eo5 with ea_ en_ ec_; (first | subst ea_ | (injection ea_ with ea_; subst ea_)); subst ec_; clear en_))
  have GB5 := am gb5
  have GP5 := am (show P0_ go5 from HO.out.1 _ rfl)
  clear gb5 gl5 HG5 hRa hsa
  have p5 : 0 ≤ x5_1 := HA.out.2.1
  have q5 := c3
  replace p5 := eq_true p5
  replace q5 := eq_true q5
  clear c3
  obtain ⟨l1, hs0, hR0⟩ := R_twn (twn_slice twn107 107) HI.out HO.out
  obtain ⟨ce0, hcl0, hM0, hcc0, hfr0⟩ := Kd.R_elem hR0 [] x5_1 (of_eq_true p5) (of_eq_true q5)
  obtain ⟨v0_0, rfl, hr0_0⟩ := hM0
  obtain ⟨A0, c0, rfl⟩ := Kd.R_slice hr0_0
  have hx0 : wr.cell? ⟨go5, x5_1.toNat, none⟩ = some _ := cell1 (hcc0 0 _ rfl)
  have HR0 := am hr0_0
  have HS0 := am hs0
  (try clear hM0)
  (try clear hfr0)
  (try clear hcc0)
  (try clear hcl0)
  (try clear hs0)
  (try clear hR0)
  (try clear hr0_0)
  go_wp2_with (first | (go_at_call 54; (refine (laws_markValS.ish _ _ _ _ _ _ (bw HB) HR0.out).mono ?_); rintro e wq0 ⟨rfl, hb, hi⟩; replace HB := am hb; replace HI := am (HI.out.trans hi (fun b _ h_ => h_.1)); clear hb hi; clear hx0 HR0))
  go_roundg k1
  case measure => omega
  case rel =>
   have h1 := HA.out
   have hq : x5_1 < (l0.length : Int) := of_eq_true q5
   have hw1 : wrap64 (x5_1 + 1) = x5_1 + 1 := by unfold wrap64; omega
   have hlt : x5_1.toNat < l0.length := by omega
   have hsh0 := HS0.out.2 x5_1.toNat l0[x5_1.toNat] (l1.getD x5_1.toNat []) (List.getElem?_eq_getElem hlt) (by rw [List.getD_eq_getElem?_getD, List.getElem?_eq_getElem (by have := HS0.out.1; omega)]; rfl)
   refine ⟨(laws_markValS.mk x1_1 (l1.getD x5_1.toNat [])), wrap64 (x5_1 + 1), dr, dr, ⟨by omega, by omega, by omega⟩, ⟨?_⟩, ⟨iw HI⟩, ⟨bw HB⟩⟩
   have h2 := HV.out
   rw [List.drop_eq_getElem_cons hlt] at h2
   rw [hw1, show (x5_1 + 1).toNat = x5_1.toNat + 1 by omega]
   rw [← laws_markValS.mk_sh (show All2 _ _ _ from hsh0)]
   exact h2
 have c3b0 := decide_eq_false c3
 have hv := HV.out
 have h1 := HA.out
 rw [List.drop_of_length_le (by omega)] at hv
 have hv : x1_1 = laws_markValSS.mk a1 l0 := hv
 clear c3
 go_wp2
 go_ret
 exact ⟨by first | rfl | (simp; done) | (simp [*]; done), bw HB, iw HI⟩
def laws_markValSS.f (l0 : List (List (S107))) (a1 : Int) : Option Int := some (laws_markValSS.mk a1 l0)
theorem laws_markValSS.calls (P0_ : Nat → Prop) (u9000_ : Value) (l0 : List (List (S107))) (a1 : Int) (r1 : Int) (w0 w : World) (hB : Below w0.heap.size w0 w) (ho0 : Kd.R (Kd.slice 107 k107) 92 w w0.heap.size P0_ u9000_ l0) (h : laws_markValSS.f l0 a1 = some r1) :
  Calls Try.prog 46 #[u9000_, .int .i64 a1] w fun e w' => e = .returned (.int .i64 r1) ∧ Below w0.heap.size w0 w' ∧ Kept w w' (fun k_ => P0_ k_) := by
 have e : laws_markValSS.mk a1 l0 = r1 := Option.some.inj h
 subst e
 exact (laws_markValSS.ish P0_ u9000_ l0 a1 w0 w hB ho0).mono fun e w' hq => ⟨hq.1, hq.2.1, hq.2.2.kept⟩

end Go.Proofs.Yticdldoijkdffaa.QFnExactMixTold
