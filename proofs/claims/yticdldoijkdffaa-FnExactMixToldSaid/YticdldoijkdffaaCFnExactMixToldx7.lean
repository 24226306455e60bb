import Derived.Test.YticdldoijkdffaaCFnExactMixToldx0
import Derived.Test.YticdldoijkdffaaCFnExactMixToldx6
namespace Go.Proofs.Yticdldoijkdffaa.QFnExactMixTold
open Go.RowKit Go.Proofs.YticdldoijkdffaaW
open PrintWords PrintLast PrintMore PrintShort PrintIsh
attribute [local go_sem] max2_int min2_int max_two min_two max_three min_three max_four min_four   -- for this text's walks alone
set_option linter.unusedVariables false
set_option maxHeartbeats 8000000
set_option maxRecDepth 100000
set_option linter.unusedSimpArgs false

def laws_eqState.f (k : Nat) (l0_0 : List (S79)) (l0_1 : List (List Int)) (l0_2 : List Int) (a0_3 : Int) (a0_4 : Bool) (a0_5 : Int) (a0_6 : Int) (l1_0 : List (S79)) (l1_1 : List (List Int)) (l1_2 : List Int) (a1_3 : Int) (a1_4 : Bool) (a1_5 : Int) (a1_6 : Int) : Option (Bool) := (laws_eqFrameS.f k l0_0 l1_0).bind fun t325 => (if t325 = true then ((laws_eqInt64SS.f k l0_1 l1_1).bind fun t326 => (if t326 = true then ((laws_eqInt64S.f k l0_2 l1_2).bind fun t327 => (if t327 = true then (if a0_3 = a1_3 then (if (a0_4 != a1_4) = true then (some false) else (if a0_5 = a1_5 then (if a0_6 = a1_6 then (some true) else (some false)) else (some false))) else (some false)) else (some false))) else (some false))) else (some false))
theorem laws_eqState.mono : ∀ a0 a1 a2 a3 a4 a5 a6 a7 a8 a9 a10 a11 a12 a13 k, LeO (laws_eqState.f k a0 a1 a2 a3 a4 a5 a6 a7 a8 a9 a10 a11 a12 a13) (laws_eqState.f (k + 1) a0 a1 a2 a3 a4 a5 a6 a7 a8 a9 a10 a11 a12 a13) := by
 intro a0 a1 a2 a3 a4 a5 a6 a7 a8 a9 a10 a11 a12 a13 k
 unfold laws_eqState.f
 with_reducible repeat' first | exact laws_eqFrameS.mono .. | exact laws_eqInt64S.mono .. | exact laws_eqInt64SS.mono .. | exact LeO.refl _ | exact LeO.none _ | refine LeO.ite ?_ ?_ | refine LeO.bind ?_ (fun _ => ?_)
theorem laws_eqState.calls (k : Nat) (A0_0 : Option Addr) (c0_0 : Nat) (l0_0 : List (S79)) (A0_1 : Option Addr) (c0_1 : Nat) (l0_1 : List (List Int)) (A0_2 : Option Addr) (c0_2 : Nat) (l0_2 : List Int) (a0_3 : Int) (a0_4 : Bool) (a0_5 : Int) (a0_6 : Int) (A1_0 : Option Addr) (c1_0 : Nat) (l1_0 : List (S79)) (A1_1 : Option Addr) (c1_1 : Nat) (l1_1 : List (List Int)) (A1_2 : Option Addr) (c1_2 : Nat) (l1_2 : List Int) (a1_3 : Int) (a1_4 : Bool) (a1_5 : Int) (a1_6 : Int) (r : Bool) (w : World) (hr0_0 : Kd.C k79 w A0_0 l0_0.length l0_0) (hc0_0 : l0_0.length ≤ c0_0) (hr0_1 : Kd.C (Kd.slice 2 (Kd.int .i64)) w A0_1 l0_1.length l0_1) (hc0_1 : l0_1.length ≤ c0_1) (hr0_2 : Kd.C (Kd.int .i64) w A0_2 l0_2.length l0_2) (hc0_2 : l0_2.length ≤ c0_2) (hr1_0 : Kd.C k79 w A1_0 l1_0.length l1_0) (hc1_0 : l1_0.length ≤ c1_0) (hr1_1 : Kd.C (Kd.slice 2 (Kd.int .i64)) w A1_1 l1_1.length l1_1) (hc1_1 : l1_1.length ≤ c1_1) (hr1_2 : Kd.C (Kd.int .i64) w A1_2 l1_2.length l1_2) (hc1_2 : l1_2.length ≤ c1_2) (h : laws_eqState.f k l0_0 l0_1 l0_2 a0_3 a0_4 a0_5 a0_6 l1_0 l1_1 l1_2 a1_3 a1_4 a1_5 a1_6 = some r) :
  Calls Try.prog 8 #[.agg #[.slice A0_0 l0_0.length c0_0, .slice A0_1 l0_1.length c0_1, .slice A0_2 l0_2.length c0_2, .int .i64 a0_3, .bool a0_4, .int .i64 a0_5, .int .i64 a0_6], .agg #[.slice A1_0 l1_0.length c1_0, .slice A1_1 l1_1.length c1_1, .slice A1_2 l1_2.length c1_2, .int .i64 a1_3, .bool a1_4, .int .i64 a1_5, .int .i64 a1_6]] w fun e w' => e = .returned (.bool r) ∧ Below w.heap.size w w' := by
 have hu31 := Try.underlying31
 have HR0_0 := am hr0_0
 have HC0_0 := am hc0_0
 clear hr0_0 hc0_0
 have HR0_1 := am hr0_1
 have HC0_1 := am hc0_1
 clear hr0_1 hc0_1
 have HR0_2 := am hr0_2
 have HC0_2 := am hc0_2
 clear hr0_2 hc0_2
 have HR1_0 := am hr1_0
 have HC1_0 := am hc1_0
 clear hr1_0 hc1_0
 have HR1_1 := am hr1_1
 have HC1_1 := am hc1_1
 clear hr1_1 hc1_1
 have HR1_2 := am hr1_2
 have HC1_2 := am hc1_2
 clear hr1_2 hc1_2
 have HB := am (Below.refl w.heap.size w)
 have H : ((laws_eqFrameS.f k l0_0 l1_0).bind fun t325 => (if t325 = true then ((laws_eqInt64SS.f k l0_1 l1_1).bind fun t326 => (if t326 = true then ((laws_eqInt64S.f k l0_2 l1_2).bind fun t327 => (if t327 = true then (if a0_3 = a1_3 then (if (a0_4 != a1_4) = true then (some false) else (if a0_5 = a1_5 then (if a0_6 = a1_6 then (some true) else (some false)) else (some false))) else (some false)) else (some false))) else (some false))) else (some false))) = some r := h
 clear h
 refine be H ?_; clear H; intro t325 A3 H
 have HC4 := am H
 clear H
 go_enter Try.func8, Try.ntmps8
 go_upto_if 10 with (first | ((with_reducible refine gd 2 rfl ?_); refine bX 2 #[.slice A0_0 l0_0.length c0_0, .slice A0_1 l0_1.length c0_1, .slice A0_2 l0_2.length c0_2, .int .i64 a0_3, .bool a0_4, .int .i64 a0_5, .int .i64 a0_6] 31 HB ?_; clear HB; intro gb323 w5 hg hb BK323 GW323 HB; clear hb hg) | ((with_reducible refine gd 3 rfl ?_); refine bX 3 #[.slice A1_0 l1_0.length c1_0, .slice A1_1 l1_1.length c1_1, .slice A1_2 l1_2.length c1_2, .int .i64 a1_3, .bool a1_4, .int .i64 a1_5, .int .i64 a1_6] 31 HB ?_; clear HB; intro gb324 w6 hg hb BK324 GW324 HB; obtain ⟨NB323_324, NB324_323, BK323⟩ := b3 hg BK323 hb; clear hb hg; have hnb7 := NB323_324.out; have hnc7 := NB324_323.out; have hcz8_0 := bk w6 BK323 0; have hcz8_1 := bk w6 BK323 1; have hcz8_2 := bk w6 BK323 2; have hcz8_3 := bk w6 BK323 3; have hcz8_4 := bk w6 BK323 4; have hcz8_5 := bk w6 BK323 5; have hcz8_6 := bk w6 BK323 6; have hfz8_0 := bf BK323 0; have hfz8_1 := bf BK323 1; have hfz8_2 := bf BK323 2; have hfz8_3 := bf BK323 3; have hfz8_4 := bf BK323 4; have hfz8_5 := bf BK323 5; have hfz8_6 := bf BK323 6; have hcz9_0 := bk w6 BK324 0; have hcz9_1 := bk w6 BK324 1; have hcz9_2 := bk w6 BK324 2; have hcz9_3 := bk w6 BK324 3; have hcz9_4 := bk w6 BK324 4; have hcz9_5 := bk w6 BK324 5; have hcz9_6 := bk w6 BK324 6; have hfz9_0 := bf BK324 0; have hfz9_1 := bf BK324 1; have hfz9_2 := bf BK324 2; have hfz9_3 := bf BK324 3; have hfz9_4 := bf BK324 4; have hfz9_5 := bf BK324 5; have hfz9_6 := bf BK324 6) | ((with_reducible refine gk 23 rfl ?_); refine gB 23 (some 9) Try.func23 #[.slice A0_0 l0_0.length c0_0, .slice A1_0 l1_0.length c1_0] (laws_eqFrameS.calls k _ _ l0_0 _ _ l1_0 t325 _ (cc (Kd.C_below HR0_0.out HB.out)) HC0_0.out (cc (Kd.C_below HR1_0.out HB.out)) HC1_0.out A3.out) ?_; intro w10 hb; replace BK323 := bb BK323 hb; replace BK324 := bb BK324 hb; replace HB := bs HB hb; clear hb))
 (try simp only [Act.put, sa, sz, ss])
 have H := HC4.out
 clear HC4
 refine qT H ?_ ?_ <;> clear H <;> intro c11 H <;> subst c11
 ·refine be H ?_; clear H; intro t326 A12 H
  have HC13 := am H
  clear H
  have hnb14 := NB323_324.out
  have hnc14 := NB324_323.out
  have hcz15_0 := bk w10 BK323 0
  have hcz15_1 := bk w10 BK323 1
  have hcz15_2 := bk w10 BK323 2
  have hcz15_3 := bk w10 BK323 3
  have hcz15_4 := bk w10 BK323 4
  have hcz15_5 := bk w10 BK323 5
  have hcz15_6 := bk w10 BK323 6
  have hfz15_0 := bf BK323 0
  have hfz15_1 := bf BK323 1
  have hfz15_2 := bf BK323 2
  have hfz15_3 := bf BK323 3
  have hfz15_4 := bf BK323 4
  have hfz15_5 := bf BK323 5
  have hfz15_6 := bf BK323 6
  have hcz16_0 := bk w10 BK324 0
  have hcz16_1 := bk w10 BK324 1
  have hcz16_2 := bk w10 BK324 2
  have hcz16_3 := bk w10 BK324 3
  have hcz16_4 := bk w10 BK324 4
  have hcz16_5 := bk w10 BK324 5
  have hcz16_6 := bk w10 BK324 6
  have hfz16_0 := bf BK324 0
  have hfz16_1 := bf BK324 1
  have hfz16_2 := bf BK324 2
  have hfz16_3 := bf BK324 3
  have hfz16_4 := bf BK324 4
  have hfz16_5 := bf BK324 5
  have hfz16_6 := bf BK324 6
  go_upto_if 16 with (first | ((with_reducible refine gk 24 rfl ?_); refine gD 24 (some 15) Try.func24 #[.slice A0_1 l0_1.length c0_1, .slice A1_1 l1_1.length c1_1] (laws_eqInt64SS.calls k _ _ l0_1 _ _ l1_1 t326 _ (cc (Kd.C_below HR0_1.out HB.out)) HC0_1.out (cc (Kd.C_below HR1_1.out HB.out)) HC1_1.out A12.out) ?_; intro nd))
  (try simp only [Act.put, sa, sz, ss])
  (try simp only [World.drewN_drewN])
  generalize hq_ : World.drewN w10 _ = w17
  replace BK323 : Aside0 (w17.heap[gb323]? = some (.cells #[.slice A0_0 l0_0.length c0_0, .slice A0_1 l0_1.length c0_1, .slice A0_2 l0_2.length c0_2, .int .i64 a0_3, .bool a0_4, .int .i64 a0_5, .int .i64 a0_6] 31 (0, 0))) := ⟨by rw [← hq_]; exact (bp BK323)⟩
  replace BK324 : Aside0 (w17.heap[gb324]? = some (.cells #[.slice A1_0 l1_0.length c1_0, .slice A1_1 l1_1.length c1_1, .slice A1_2 l1_2.length c1_2, .int .i64 a1_3, .bool a1_4, .int .i64 a1_5, .int .i64 a1_6] 31 (0, 0))) := ⟨by rw [← hq_]; exact (bp BK324)⟩
  replace HB : Aside0 (Below w.heap.size w w17) := ⟨by rw [← hq_]; exact (bw HB)⟩
  clear hq_
  have H := HC13.out
  clear HC13
  refine qT H ?_ ?_ <;> clear H <;> intro c18 H <;> subst c18
  ·refine be H ?_; clear H; intro t327 A19 H
   have HC20 := am H
   clear H
   have hnb21 := NB323_324.out
   have hnc21 := NB324_323.out
   have hcz22_0 := bk w17 BK323 0
   have hcz22_1 := bk w17 BK323 1
   have hcz22_2 := bk w17 BK323 2
   have hcz22_3 := bk w17 BK323 3
   have hcz22_4 := bk w17 BK323 4
   have hcz22_5 := bk w17 BK323 5
   have hcz22_6 := bk w17 BK323 6
   have hfz22_0 := bf BK323 0
   have hfz22_1 := bf BK323 1
   have hfz22_2 := bf BK323 2
   have hfz22_3 := bf BK323 3
   have hfz22_4 := bf BK323 4
   have hfz22_5 := bf BK323 5
   have hfz22_6 := bf BK323 6
   have hcz23_0 := bk w17 BK324 0
   have hcz23_1 := bk w17 BK324 1
   have hcz23_2 := bk w17 BK324 2
   have hcz23_3 := bk w17 BK324 3
   have hcz23_4 := bk w17 BK324 4
   have hcz23_5 := bk w17 BK324 5
   have hcz23_6 := bk w17 BK324 6
   have hfz23_0 := bf BK324 0
   have hfz23_1 := bf BK324 1
   have hfz23_2 := bf BK324 2
   have hfz23_3 := bf BK324 3
   have hfz23_4 := bf BK324 4
   have hfz23_5 := bf BK324 5
   have hfz23_6 := bf BK324 6
   go_upto_if 22 with (first | ((with_reducible refine gk 25 rfl ?_); refine gD 25 (some 21) Try.func25 #[.slice A0_2 l0_2.length c0_2, .slice A1_2 l1_2.length c1_2] (laws_eqInt64S.calls k _ _ l0_2 _ _ l1_2 t327 _ (cc (Kd.C_below HR0_2.out HB.out)) HC0_2.out (cc (Kd.C_below HR1_2.out HB.out)) HC1_2.out A19.out) ?_; intro nd))
   (try simp only [Act.put, sa, sz, ss])
   (try simp only [World.drewN_drewN])
   generalize hq_ : World.drewN w17 _ = w24
   replace BK323 : Aside0 (w24.heap[gb323]? = some (.cells #[.slice A0_0 l0_0.length c0_0, .slice A0_1 l0_1.length c0_1, .slice A0_2 l0_2.length c0_2, .int .i64 a0_3, .bool a0_4, .int .i64 a0_5, .int .i64 a0_6] 31 (0, 0))) := ⟨by rw [← hq_]; exact (bp BK323)⟩
   replace BK324 : Aside0 (w24.heap[gb324]? = some (.cells #[.slice A1_0 l1_0.length c1_0, .slice A1_1 l1_1.length c1_1, .slice A1_2 l1_2.length c1_2, .int .i64 a1_3, .bool a1_4, .int .i64 a1_5, .int .i64 a1_6] 31 (0, 0))) := ⟨by rw [← hq_]; exact (bp BK324)⟩
   replace HB : Aside0 (Below w.heap.size w w24) := ⟨by rw [← hq_]; exact (bw HB)⟩
   clear hq_
   have H := HC20.out
   clear HC20
   refine qT H ?_ ?_ <;> clear H <;> intro c25 H <;> subst c25
   ·refine qE H ?_ ?_ <;> clear H
    ·intro c26b0 c26b1 H
     (first | rw [c26b0] | (simp only [i64_w, i32_w]; rw [c26b0]) | skip)
     by_cases c27 : (a0_4 != a1_4) = true
     ·rw [if_pos c27] at H
      have c27b0 : (a0_4 != a1_4) = true := c27
      (try (have c27b1 : decide (a0_4 = a1_4) = false := by simpa using c27))
      (try (have c27b2 : (a0_4 == a1_4) = false := by simpa using c27))
      (try (have c27b3 : ¬ (a0_4 = a1_4) := by simpa using c27))
      clear c27
      obtain rfl := Option.some.inj H
      have hnb28 := NB323_324.out
      have hnc28 := NB324_323.out
      have hcz29_0 := bk w24 BK323 0
      have hcz29_1 := bk w24 BK323 1
      have hcz29_2 := bk w24 BK323 2
      have hcz29_3 := bk w24 BK323 3
      have hcz29_4 := bk w24 BK323 4
      have hcz29_5 := bk w24 BK323 5
      have hcz29_6 := bk w24 BK323 6
      have hfz29_0 := bf BK323 0
      have hfz29_1 := bf BK323 1
      have hfz29_2 := bf BK323 2
      have hfz29_3 := bf BK323 3
      have hfz29_4 := bf BK323 4
      have hfz29_5 := bf BK323 5
      have hfz29_6 := bf BK323 6
      have hcz30_0 := bk w24 BK324 0
      have hcz30_1 := bk w24 BK324 1
      have hcz30_2 := bk w24 BK324 2
      have hcz30_3 := bk w24 BK324 3
      have hcz30_4 := bk w24 BK324 4
      have hcz30_5 := bk w24 BK324 5
      have hcz30_6 := bk w24 BK324 6
      have hfz30_0 := bf BK324 0
      have hfz30_1 := bf BK324 1
      have hfz30_2 := bf BK324 2
      have hfz30_3 := bf BK324 3
      have hfz30_4 := bf BK324 4
      have hfz30_5 := bf BK324 5
      have hfz30_6 := bf BK324 6
      go_wp2
      go_ret
      exact ⟨er, bw HB⟩
     rw [if_neg c27] at H
     have c27b0 : (a0_4 != a1_4) = false := by simpa using c27
     (try (have c27b1 : decide (a0_4 = a1_4) = true := by simpa using c27))
     (try (have c27b2 : (a0_4 == a1_4) = true := by simpa using c27))
     clear c27
     refine qE H ?_ ?_ <;> clear H
     ·intro c31b0 c31b1 H
      refine qE H ?_ ?_ <;> clear H
      ·intro c32b0 c32b1 H
       obtain rfl := Option.some.inj H
       have hnb33 := NB323_324.out
       have hnc33 := NB324_323.out
       have hcz34_0 := bk w24 BK323 0
       have hcz34_1 := bk w24 BK323 1
       have hcz34_2 := bk w24 BK323 2
       have hcz34_3 := bk w24 BK323 3
       have hcz34_4 := bk w24 BK323 4
       have hcz34_5 := bk w24 BK323 5
       have hcz34_6 := bk w24 BK323 6
       have hfz34_0 := bf BK323 0
       have hfz34_1 := bf BK323 1
       have hfz34_2 := bf BK323 2
       have hfz34_3 := bf BK323 3
       have hfz34_4 := bf BK323 4
       have hfz34_5 := bf BK323 5
       have hfz34_6 := bf BK323 6
       have hcz35_0 := bk w24 BK324 0
       have hcz35_1 := bk w24 BK324 1
       have hcz35_2 := bk w24 BK324 2
       have hcz35_3 := bk w24 BK324 3
       have hcz35_4 := bk w24 BK324 4
       have hcz35_5 := bk w24 BK324 5
       have hcz35_6 := bk w24 BK324 6
       have hfz35_0 := bf BK324 0
       have hfz35_1 := bf BK324 1
       have hfz35_2 := bf BK324 2
       have hfz35_3 := bf BK324 3
       have hfz35_4 := bf BK324 4
       have hfz35_5 := bf BK324 5
       have hfz35_6 := bf BK324 6
       go_wp2
       go_ret
       exact ⟨er, bw HB⟩
      intro c32 c32b0 c32b1 H
      obtain rfl := Option.some.inj H
      have hnb36 := NB323_324.out
      have hnc36 := NB324_323.out
      have hcz37_0 := bk w24 BK323 0
      have hcz37_1 := bk w24 BK323 1
      have hcz37_2 := bk w24 BK323 2
      have hcz37_3 := bk w24 BK323 3
      have hcz37_4 := bk w24 BK323 4
      have hcz37_5 := bk w24 BK323 5
      have hcz37_6 := bk w24 BK323 6
      have hfz37_0 := bf BK323 0
      have hfz37_1 := bf BK323 1
      have hfz37_2 := bf BK323 2
      have hfz37_3 := bf BK323 3
      have hfz37_4 := bf BK323 4
      have hfz37_5 := bf BK323 5
      have hfz37_6 := bf BK323 6
      have hcz38_0 := bk w24 BK324 0
      have hcz38_1 := bk w24 BK324 1
      have hcz38_2 := bk w24 BK324 2
      have hcz38_3 := bk w24 BK324 3
      have hcz38_4 := bk w24 BK324 4
      have hcz38_5 := bk w24 BK324 5
      have hcz38_6 := bk w24 BK324 6
      have hfz38_0 := bf BK324 0
      have hfz38_1 := bf BK324 1
      have hfz38_2 := bf BK324 2
      have hfz38_3 := bf BK324 3
      have hfz38_4 := bf BK324 4
      have hfz38_5 := bf BK324 5
      have hfz38_6 := bf BK324 6
      go_wp2
      go_ret
      exact ⟨er, bw HB⟩
     intro c31 c31b0 c31b1 H
     obtain rfl := Option.some.inj H
     have hnb39 := NB323_324.out
     have hnc39 := NB324_323.out
     have hcz40_0 := bk w24 BK323 0
     have hcz40_1 := bk w24 BK323 1
     have hcz40_2 := bk w24 BK323 2
     have hcz40_3 := bk w24 BK323 3
     have hcz40_4 := bk w24 BK323 4
     have hcz40_5 := bk w24 BK323 5
     have hcz40_6 := bk w24 BK323 6
     have hfz40_0 := bf BK323 0
     have hfz40_1 := bf BK323 1
     have hfz40_2 := bf BK323 2
     have hfz40_3 := bf BK323 3
     have hfz40_4 := bf BK323 4
     have hfz40_5 := bf BK323 5
     have hfz40_6 := bf BK323 6
     have hcz41_0 := bk w24 BK324 0
     have hcz41_1 := bk w24 BK324 1
     have hcz41_2 := bk w24 BK324 2
     have hcz41_3 := bk w24 BK324 3
     have hcz41_4 := bk w24 BK324 4
     have hcz41_5 := bk w24 BK324 5
     have hcz41_6 := bk w24 BK324 6
     have hfz41_0 := bf BK324 0
     have hfz41_1 := bf BK324 1
     have hfz41_2 := bf BK324 2
     have hfz41_3 := bf BK324 3
     have hfz41_4 := bf BK324 4
     have hfz41_5 := bf BK324 5
     have hfz41_6 := bf BK324 6
     go_wp2
     go_ret
     exact ⟨er, bw HB⟩
    intro c26 c26b0 c26b1 H
    (first | rw [c26b0] | (simp only [i64_w, i32_w]; rw [c26b0]) | skip)
    obtain rfl := Option.some.inj H
    have hnb42 := NB323_324.out
    have hnc42 := NB324_323.out
    have hcz43_0 := bk w24 BK323 0
    have hcz43_1 := bk w24 BK323 1
    have hcz43_2 := bk w24 BK323 2
    have hcz43_3 := bk w24 BK323 3
    have hcz43_4 := bk w24 BK323 4
    have hcz43_5 := bk w24 BK323 5
    have hcz43_6 := bk w24 BK323 6
    have hfz43_0 := bf BK323 0
    have hfz43_1 := bf BK323 1
    have hfz43_2 := bf BK323 2
    have hfz43_3 := bf BK323 3
    have hfz43_4 := bf BK323 4
    have hfz43_5 := bf BK323 5
    have hfz43_6 := bf BK323 6
    have hcz44_0 := bk w24 BK324 0
    have hcz44_1 := bk w24 BK324 1
    have hcz44_2 := bk w24 BK324 2
    have hcz44_3 := bk w24 BK324 3
    have hcz44_4 := bk w24 BK324 4
    have hcz44_5 := bk w24 BK324 5
    have hcz44_6 := bk w24 BK324 6
    have hfz44_0 := bf BK324 0
    have hfz44_1 := bf BK324 1
    have hfz44_2 := bf BK324 2
    have hfz44_3 := bf BK324 3
    have hfz44_4 := bf BK324 4
    have hfz44_5 := bf BK324 5
    have hfz44_6 := bf BK324 6
    go_wp2
    go_ret
    exact ⟨er, bw HB⟩
   obtain rfl := Option.some.inj H
   go_wp2
   go_ret
   exact ⟨er, bw HB⟩
  obtain rfl := Option.some.inj H
  go_wp2
  go_ret
  exact ⟨er, bw HB⟩
 obtain rfl := Option.some.inj H
 go_wp2
 go_ret
 exact ⟨er, bw HB⟩

def laws_eqVal.f (a0_0 : Int) (a0_1 : Int) (a1_0 : Int) (a1_1 : Int) : Option (Bool) := if a0_0 = a1_0 then (if a0_1 = a1_1 then (some true) else (some false)) else (some false)
theorem laws_eqVal.calls (a0_0 : Int) (a0_1 : Int) (a1_0 : Int) (a1_1 : Int) (r : Bool) (w : World) (h : laws_eqVal.f a0_0 a0_1 a1_0 a1_1 = some r) :
  Calls Try.prog 65 #[.agg #[.int .i64 a0_0, .int .i64 a0_1], .agg #[.int .i64 a1_0, .int .i64 a1_1]] w fun e w' => e = .returned (.bool r) ∧ Below w.heap.size w w' := by
 have hu107 := Try.underlying107
 have HB := am (Below.refl w.heap.size w)
 have H : (if a0_0 = a1_0 then (if a0_1 = a1_1 then (some true) else (some false)) else (some false)) = some r := h
 clear h
 have HC3 := am H
 clear H
 go_enter Try.func65, Try.ntmps65
 go_upto_if 9 with (first | ((with_reducible refine gd 2 rfl ?_); refine bX 2 #[.int .i64 a0_0, .int .i64 a0_1] 107 HB ?_; clear HB; intro gb328 w4 hg hb BK328 GW328 HB; clear hb hg) | ((with_reducible refine gd 3 rfl ?_); refine bX 3 #[.int .i64 a1_0, .int .i64 a1_1] 107 HB ?_; clear HB; intro gb329 w5 hg hb BK329 GW329 HB; obtain ⟨NB328_329, NB329_328, BK328⟩ := b3 hg BK328 hb; clear hb hg; have hnb6 := NB328_329.out; have hnc6 := NB329_328.out; have hcz7 := bK w5 BK328; have hfz7 := bF BK328; have hcz8 := bK w5 BK329; have hfz8 := bF BK329))
 (try simp only [Act.put, sa, sz, ss])
 have H := HC3.out
 clear HC3
 refine qE H ?_ ?_ <;> clear H
 ·intro c9b0 c9b1 H
  (first | rw [c9b0] | (simp only [i64_w, i32_w]; rw [c9b0]) | skip)
  refine qE H ?_ ?_ <;> clear H
  ·intro c10b0 c10b1 H
   obtain rfl := Option.some.inj H
   have hnb11 := NB328_329.out
   have hnc11 := NB329_328.out
   have hcz12 := bK w5 BK328
   have hfz12 := bF BK328
   have hcz13 := bK w5 BK329
   have hfz13 := bF BK329
   go_wp2
   go_ret
   exact ⟨er, bw HB⟩
  intro c10 c10b0 c10b1 H
  obtain rfl := Option.some.inj H
  have hnb14 := NB328_329.out
  have hnc14 := NB329_328.out
  have hcz15 := bK w5 BK328
  have hfz15 := bF BK328
  have hcz16 := bK w5 BK329
  have hfz16 := bF BK329
  go_wp2
  go_ret
  exact ⟨er, bw HB⟩
 intro c9 c9b0 c9b1 H
 (first | rw [c9b0] | (simp only [i64_w, i32_w]; rw [c9b0]) | skip)
 obtain rfl := Option.some.inj H
 go_wp2
 go_ret
 exact ⟨er, bw HB⟩

def laws_eqValS.l0 : Nat → List (S107) → List (S107) → Int → Option (Bool)
 | 0, _, _, _ => none
 | k + 1, x0, x1, x5 => if x5 < (x0.length : Int) then (if 0 ≤ x5 then (if x5 < (x1.length : Int) then ((laws_eqVal.f ((rd_T107 x0 x5).f0) ((rd_T107 x0 x5).f1) ((rd_T107 x1 x5).f0) ((rd_T107 x1 x5).f1)).bind fun t332 => (if t332 = true then (laws_eqValS.l0 k x0 x1 (wrap64 (x5 + 1))) else (some false))) else (none)) else (none)) else (some true)
def laws_eqValS.f (k : Nat) (l0 : List (S107)) (l1 : List (S107)) : Option (Bool) := if (l0.length : Int) = (l1.length : Int) then (laws_eqValS.l0 k l0 l1 0) else (some false)
theorem laws_eqValS.mono_l : ∀ k, (∀ y0 y1 y2, LeO (laws_eqValS.l0 k y0 y1 y2) (laws_eqValS.l0 (k + 1) y0 y1 y2))
 | 0 => fun _ _ _ r h => by simp [laws_eqValS.l0] at h
 | k + 1 => by
  have ih0 := laws_eqValS.mono_l k
  ·intro y0 y1 y2
   unfold laws_eqValS.l0
   with_reducible repeat' first | exact ih0 .. | exact LeO.refl _ | exact LeO.none _ | refine LeO.ite ?_ ?_ | refine LeO.bind ?_ (fun _ => ?_)
theorem laws_eqValS.mono : ∀ a0 a1 k, LeO (laws_eqValS.f k a0 a1) (laws_eqValS.f (k + 1) a0 a1) := by
 intro a0 a1 k
 have ih0 := laws_eqValS.mono_l k
 unfold laws_eqValS.f
 with_reducible repeat' first | exact ih0 .. | exact LeO.refl _ | exact LeO.none _ | refine LeO.ite ?_ ?_ | refine LeO.bind ?_ (fun _ => ?_)
def laws_eqValS.T6 : Bool × List (List Nat × List Nat) := (true, [([], []), ([], []), ([0, 1], [0, 1]), ([2], [2]), ([], []), ([], []), ([4, 5], [4, 5]), ([6], [6]), ([3, 7], [3, 7]), ([8], [8])])
def laws_eqValS.B6 : List Nat := [0, 0, 3, 7, 0, 0, 48, 112, 255, 511]
theorem laws_eqValS.tab6 : rtab .any (opsOf Try.f60 6) = laws_eqValS.T6 := by kernel_rfl
theorem laws_eqValS.bits6 : waitsOk laws_eqValS.T6.2 laws_eqValS.B6 = true := by kernel_rfl
theorem laws_eqValS.calls (k : Nat) (A0 : Option Addr) (c0 : Nat) (l0 : List (S107)) (A1 : Option Addr) (c1 : Nat) (l1 : List (S107)) (r : Bool) (w : World) (hr0 : Kd.C k107 w A0 l0.length l0) (hc0 : l0.length ≤ c0) (hr1 : Kd.C k107 w A1 l1.length l1) (hc1 : l1.length ≤ c1) (h : laws_eqValS.f k l0 l1 = some r) :
  Calls Try.prog 60 #[.slice A0 l0.length c0, .slice A1 l1.length c1] w fun e w' => e = .returned (.bool r) ∧ Below w.heap.size w w' := by
 have hu107 := Try.underlying107
 have HR0 := am hr0
 have HC0 := am hc0
 clear hr0 hc0
 have HR1 := am hr1
 have HC1 := am hc1
 clear hr1 hc1
 have HB := am (Below.refl w.heap.size w)
 have H : (if (l0.length : Int) = (l1.length : Int) then (laws_eqValS.l0 k l0 l1 0) else (some false)) = some r := h
 clear h
 by_cases c3 : (l0.length : Int) = (l1.length : Int)
 ·rw [if_pos c3] at H
  have c3b0 : ((l0.length : Int) == (l1.length : Int)) = true := beq_iff_eq.mpr c3
  have c3b1 : ((l0.length : Int) != (l1.length : Int)) = false := bne_eq_false_iff_eq.mpr c3
  have c3b2 : (l0.length == l1.length) = true := by first | simpa using c3 | (simp at c3 ⊢; omega)
  clear c3
  have H' := am H
  clear H
  go_enter Try.func60, Try.ntmps60
  go_wp2
  go_loopg [5] k (fun kq v5 w' => ∃ (x5_1 : Int), v5 = .int .i64 x5_1 ∧ Aside0 (laws_eqValS.l0 kq l0 l1 x5_1 = some r) ∧ Aside0 (kq ≤ k) ∧ Aside0 (Below w.heap.size w w'))
  case atStart => exact ⟨(0), dr, H', ⟨Nat.le_refl _⟩, ⟨bw HB⟩⟩
  clear H'
  (try clear c1); (try clear p2); (try clear c3); (try clear c3b0); (try clear c3b1); (try clear c3b2)
  obtain ⟨x5_1, rfl, HA, HK1, HB⟩ := hrel
  rcases gk with _ | k1
  ·exact absurd HA.out (by simp [laws_eqValS.l0])
  have H := HA.out
  clear HA
  simp only [laws_eqValS.l0] at H
  refine qI H ?_ ?_ <;> clear H <;> intro c4b0 H
  ·refine iM H ?_; clear H; intro c5b0 H
   refine iM H ?_; clear H; intro c6b0 H
   refine be H ?_; clear H; intro t332 A7 H
   have HC8 := am H
   clear H
   try go_wp2
   replace HB := am (below_drew1 HB.out)
   have p330 : 0 ≤ (x5_1 : Int) := of_decide_eq_true as1
   have q330 : x5_1 < (l0.length : Int) := of_decide_eq_true as1
   obtain ⟨ad330, e330, hx330_0, hx330_1⟩ := at_T107 HR0.out x5_1 p330 q330
   have hw330_1 := hx330_1
   have hw330_0 := hx330_0
   cases e330
   replace hx330_0 := cl HB hx330_0
   replace hx330_1 := cl HB hx330_1
   replace p330 := eq_true p330
   replace q330 := eq_true q330
   have p331 : 0 ≤ (x5_1 : Int) := of_decide_eq_true as1
   have q331 : x5_1 < (l1.length : Int) := of_decide_eq_true as1
   obtain ⟨ad331, e331, hx331_0, hx331_1⟩ := at_T107 HR1.out x5_1 p331 q331
   have hw331_1 := hx331_1
   have hw331_0 := hx331_0
   cases e331
   replace hx331_0 := cl HB hx331_0
   replace hx331_1 := cl HB hx331_1
   replace p331 := eq_true p331
   replace q331 := eq_true q331
   refine start_ (n := 10) (S := fun w' => w'.cell? (ad330.add ((x5_1).toNat * 2)) = some (.int .i64 ((rd_T107 l0 x5_1).f0)) ∧ w'.cell? ⟨(ad330.add ((x5_1).toNat * 2)).block, (ad330.add ((x5_1).toNat * 2)).off + 1, none⟩ = some (.int .i64 ((rd_T107 l0 x5_1).f1)) ∧ w'.cell? (ad331.add ((x5_1).toNat * 2)) = some (.int .i64 ((rd_T107 l1 x5_1).f0)) ∧ w'.cell? ⟨(ad331.add ((x5_1).toNat * 2)).block, (ad331.add ((x5_1).toNat * 2)).off + 1, none⟩ = some (.int .i64 ((rd_T107 l1 x5_1).f1))) (ds := []) (bv 10 0) (by kernel_rfl) rfl (by kernel_rfl) ⟨(cq HB hw330_0), (cq HB hw330_1), (cq HB hw331_0), (cq HB hw331_1)⟩ (fun hHeld => ?_); refine with_tabW laws_eqValS.tab6 laws_eqValS.bits6 (fun HT_ HW_ => ?_)
   generalize wr.drew = w9 at HB hx330_0 hx330_1 hx331_0 hx331_1 hHeld ⊢
   refine pu 0 17 10 1 HT_ ?_
   refine pu 1 18 10 3 HT_ ?_
   refine pu 2 19 10 7 HT_ ?_
   refine pu 4 21 10 23 HT_ ?_
   refine pu 5 22 10 55 HT_ ?_
   refine pu 6 23 10 119 HT_ ?_
   refine tk 3 20 10 127 HT_ HW_ hHeld ?_
   refine tk 7 24 10 255 HT_ HW_ hHeld ?_
   refine on 8 (some 25) 10 511 HT_ fun K hK => ?_
   refine goes_ Try.func65 (by kernel_rfl) rfl #[.agg #[.int .i64 ((rd_T107 l0 x5_1).f0), .int .i64 ((rd_T107 l0 x5_1).f1)], .agg #[.int .i64 ((rd_T107 l1 x5_1).f0), .int .i64 ((rd_T107 l1 x5_1).f1)]] (by rfl) rfl rfl gl ?_
   with_reducible refine (laws_eqVal.calls ((rd_T107 l0 x5_1).f0) ((rd_T107 l0 x5_1).f1) ((rd_T107 l1 x5_1).f0) ((rd_T107 l1 x5_1).f1) t332 _ A7.out).mono ?_
   rintro e w10 ⟨rfl, hb⟩
   refine ⟨_, rfl, ?_⟩
   replace HB := am (below_step (bw HB) hb)
   clear hb
   refine hK.out _ _ ⟨(cq HB hw330_0), (cq HB hw330_1), (cq HB hw331_0), (cq HB hw331_1)⟩ (fun hHeld => ?_)
   clear hK K
   refine nm (some 25) ?_
   refine pu 9 26 10 1023 HT_ ?_
   refine done_ (done_of HT_.out (by kernel_rfl)) ?_
   go_upto_if 26 with (fail)
   (try simp only [Act.put, sa, sz, ss])
   have H := HC8.out
   clear HC8
   refine qT H ?_ ?_ <;> clear H <;> intro c11 H <;> subst c11
   ·have H' := am H
    clear H
    go_wp2
    go_roundg k1
    case measure => have := HK1.out; omega
    case rel => exact ⟨(wrap64 (x5_1 + 1)), dr, H', ⟨by have := HK1.out; omega⟩, ⟨bw HB⟩⟩
   obtain rfl := Option.some.inj H
   go_wp2
   go_ret
   exact ⟨er, bw HB⟩
  obtain rfl := Option.some.inj H
  go_wp2
  go_ret
  exact ⟨er, bw HB⟩
 rw [if_neg c3] at H
 have c3b0 : ((l0.length : Int) == (l1.length : Int)) = false := beq_eq_false_iff_ne.mpr c3
 have c3b1 : ((l0.length : Int) != (l1.length : Int)) = true := bne_iff_ne.mpr c3
 have c3b2 : (l0.length == l1.length) = false := by first | simpa using c3 | (simp at c3 ⊢; omega)
 obtain rfl := Option.some.inj H
 go_enter Try.func60, Try.ntmps60
 go_wp2
 go_ret
 exact ⟨er, bw HB⟩

def laws_eqMov.f (a0_0 : Int) (a0_1 : Int) (a0_2 : Int) (a1_0 : Int) (a1_1 : Int) (a1_2 : Int) : Option (Bool) := if a0_0 = a1_0 then ((laws_eqVal.f a0_1 a0_2 a1_1 a1_2).bind fun t335 => (if t335 = true then (some true) else (some false))) else (some false)
theorem laws_eqMov.calls (a0_0 : Int) (a0_1 : Int) (a0_2 : Int) (a1_0 : Int) (a1_1 : Int) (a1_2 : Int) (r : Bool) (w : World) (h : laws_eqMov.f a0_0 a0_1 a0_2 a1_0 a1_1 a1_2 = some r) :
  Calls Try.prog 67 #[.agg #[.int .i64 a0_0, .int .i64 a0_1, .int .i64 a0_2], .agg #[.int .i64 a1_0, .int .i64 a1_1, .int .i64 a1_2]] w fun e w' => e = .returned (.bool r) ∧ Below w.heap.size w w' := by
 have hu109 := Try.underlying109
 have hu107 := Try.underlying107
 have HB := am (Below.refl w.heap.size w)
 have H : (if a0_0 = a1_0 then ((laws_eqVal.f a0_1 a0_2 a1_1 a1_2).bind fun t335 => (if t335 = true then (some true) else (some false))) else (some false)) = some r := h
 clear h
 have HC3 := am H
 clear H
 go_enter Try.func67, Try.ntmps67
 go_upto_if 9 with (first | ((with_reducible refine gd 2 rfl ?_); refine bX 2 #[.int .i64 a0_0, .int .i64 a0_1, .int .i64 a0_2] 109 HB ?_; clear HB; intro gb333 w4 hg hb BK333 GW333 HB; clear hb hg) | ((with_reducible refine gd 3 rfl ?_); refine bX 3 #[.int .i64 a1_0, .int .i64 a1_1, .int .i64 a1_2] 109 HB ?_; clear HB; intro gb334 w5 hg hb BK334 GW334 HB; obtain ⟨NB333_334, NB334_333, BK333⟩ := b3 hg BK333 hb; clear hb hg; have hnb6 := NB333_334.out; have hnc6 := NB334_333.out; have hcz7 := bK w5 BK333; have hfz7 := bF BK333; have hcz8 := bK w5 BK334; have hfz8 := bF BK334))
 (try simp only [Act.put, sa, sz, ss])
 have H := HC3.out
 clear HC3
 refine qE H ?_ ?_ <;> clear H
 ·intro c9b0 c9b1 H
  (first | rw [c9b0] | (simp only [i64_w, i32_w]; rw [c9b0]) | skip)
  refine be H ?_; clear H; intro t335 A10 H
  have HC11 := am H
  clear H
  have hnb12 := NB333_334.out
  have hnc12 := NB334_333.out
  have hcz13 := bK w5 BK333
  have hfz13 := bF BK333
  have hcz14 := bK w5 BK334
  have hfz14 := bF BK334
  go_upto_if 15 with (first | ((with_reducible refine gate_callee (f := 65) rfl ?_); refine goesL_ (some 14) rfl rfl Try.func65 (by kernel_rfl) rfl #[.agg #[.int .i64 a0_1, .int .i64 a0_2], .agg #[.int .i64 a1_1, .int .i64 a1_2]] rfl gl ?_; (with_reducible refine (laws_eqVal.calls a0_1 a0_2 a1_1 a1_2 t335 _ A10.out).mono ?_); rintro e w15 ⟨rfl, hb⟩; refine ⟨_, rfl, ?_⟩; replace BK333 := bb BK333 hb; replace BK334 := bb BK334 hb; replace HB := bs HB hb; clear hb))
  (try simp only [Act.put, sa, sz, ss])
  have H := HC11.out
  clear HC11
  refine qT H ?_ ?_ <;> clear H <;> intro c16 H <;> subst c16
  ·obtain rfl := Option.some.inj H
   go_wp2
   go_ret
   exact ⟨er, bw HB⟩
  obtain rfl := Option.some.inj H
  go_wp2
  go_ret
  exact ⟨er, bw HB⟩
 intro c9 c9b0 c9b1 H
 (first | rw [c9b0] | (simp only [i64_w, i32_w]; rw [c9b0]) | skip)
 obtain rfl := Option.some.inj H
 go_wp2
 go_ret
 exact ⟨er, bw HB⟩

end Go.Proofs.Yticdldoijkdffaa.QFnExactMixTold
