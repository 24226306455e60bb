import Derived.Test.YtbmjmaahcaoajaaCFnExactStateRightx0
import Derived.Test.YtbmjmaahcaoajaaCFnExactStateRightx3
import Derived.Test.YtbmjmaahcaoajaaCFnExactStateRightx4
namespace Go.Proofs.Ytbmjmaahcaoajaa.QFnExactStateRight
open Go.RowKit Go.Proofs.YtbmjmaahcaoajaaW
open PrintWords PrintLast PrintMore PrintShort
attribute [local go_sem] max2_int min2_int max_two min_two max_three min_three max_four min_four   -- for this text's walks alone
set_option linter.unusedVariables false
set_option maxHeartbeats 8000000
set_option maxRecDepth 100000
set_option linter.unusedSimpArgs false

def laws_eqState.f (k : Nat) (l0_0 : List (S129)) (l0_1 : List (List Int)) (l0_2 : List Int) (a0_3 : Int) (a0_4 : Bool) (a0_5 : Int) (a0_6 : Int) (l1_0 : List (S129)) (l1_1 : List (List Int)) (l1_2 : List Int) (a1_3 : Int) (a1_4 : Bool) (a1_5 : Int) (a1_6 : Int) : Option (Bool) := (laws_eqFrameS.f k l0_0 l1_0).bind fun t167 => (if t167 = true then ((laws_eqInt64SS.f k l0_1 l1_1).bind fun t168 => (if t168 = true then ((laws_eqInt64S.f k l0_2 l1_2).bind fun t169 => (if t169 = true then (if a0_3 = a1_3 then (if (a0_4 != a1_4) = true then (some false) else (if a0_5 = a1_5 then (if a0_6 = a1_6 then (some true) else (some false)) else (some false))) else (some false)) else (some false))) else (some false))) else (some false))
theorem laws_eqState.mono : ∀ a0 a1 a2 a3 a4 a5 a6 a7 a8 a9 a10 a11 a12 a13 k, LeO (laws_eqState.f k a0 a1 a2 a3 a4 a5 a6 a7 a8 a9 a10 a11 a12 a13) (laws_eqState.f (k + 1) a0 a1 a2 a3 a4 a5 a6 a7 a8 a9 a10 a11 a12 a13) := by
 intro a0 a1 a2 a3 a4 a5 a6 a7 a8 a9 a10 a11 a12 a13 k
 unfold laws_eqState.f
 with_reducible repeat' first | exact laws_eqFrameS.mono .. | exact laws_eqInt64S.mono .. | exact laws_eqInt64SS.mono .. | exact LeO.refl _ | exact LeO.none _ | refine LeO.ite ?_ ?_ | refine LeO.bind ?_ (fun _ => ?_)
theorem laws_eqState.calls (k : Nat) (A0_0 : Option Addr) (c0_0 : Nat) (l0_0 : List (S129)) (A0_1 : Option Addr) (c0_1 : Nat) (l0_1 : List (List Int)) (A0_2 : Option Addr) (c0_2 : Nat) (l0_2 : List Int) (a0_3 : Int) (a0_4 : Bool) (a0_5 : Int) (a0_6 : Int) (A1_0 : Option Addr) (c1_0 : Nat) (l1_0 : List (S129)) (A1_1 : Option Addr) (c1_1 : Nat) (l1_1 : List (List Int)) (A1_2 : Option Addr) (c1_2 : Nat) (l1_2 : List Int) (a1_3 : Int) (a1_4 : Bool) (a1_5 : Int) (a1_6 : Int) (r : Bool) (w : World) (hr0_0 : Kd.C k129 w A0_0 l0_0.length l0_0) (hc0_0 : l0_0.length ≤ c0_0) (hr0_1 : Kd.C (Kd.slice 2 (Kd.int .i64)) w A0_1 l0_1.length l0_1) (hc0_1 : l0_1.length ≤ c0_1) (hr0_2 : Kd.C (Kd.int .i64) w A0_2 l0_2.length l0_2) (hc0_2 : l0_2.length ≤ c0_2) (hr1_0 : Kd.C k129 w A1_0 l1_0.length l1_0) (hc1_0 : l1_0.length ≤ c1_0) (hr1_1 : Kd.C (Kd.slice 2 (Kd.int .i64)) w A1_1 l1_1.length l1_1) (hc1_1 : l1_1.length ≤ c1_1) (hr1_2 : Kd.C (Kd.int .i64) w A1_2 l1_2.length l1_2) (hc1_2 : l1_2.length ≤ c1_2) (h : laws_eqState.f k l0_0 l0_1 l0_2 a0_3 a0_4 a0_5 a0_6 l1_0 l1_1 l1_2 a1_3 a1_4 a1_5 a1_6 = some r) :
  Calls Try.prog 41 #[.agg #[.slice A0_0 l0_0.length c0_0, .slice A0_1 l0_1.length c0_1, .slice A0_2 l0_2.length c0_2, .int .i64 a0_3, .bool a0_4, .int .i64 a0_5, .int .i64 a0_6], .agg #[.slice A1_0 l1_0.length c1_0, .slice A1_1 l1_1.length c1_1, .slice A1_2 l1_2.length c1_2, .int .i64 a1_3, .bool a1_4, .int .i64 a1_5, .int .i64 a1_6]] w fun e w' => e = .returned (.bool r) ∧ Below w.heap.size w w' := by
 have hu52 := Try.underlying52
 have HR0_0 := am hr0_0
 have HC0_0 := am hc0_0
 clear hr0_0 hc0_0
 have HR0_1 := am hr0_1
 have HC0_1 := am hc0_1
 clear hr0_1 hc0_1
 have HR0_2 := am hr0_2
 have HC0_2 := am hc0_2
 clear hr0_2 hc0_2
 have HR1_0 := am hr1_0
 have HC1_0 := am hc1_0
 clear hr1_0 hc1_0
 have HR1_1 := am hr1_1
 have HC1_1 := am hc1_1
 clear hr1_1 hc1_1
 have HR1_2 := am hr1_2
 have HC1_2 := am hc1_2
 clear hr1_2 hc1_2
 have HB := am (Below.refl w.heap.size w)
 have H : ((laws_eqFrameS.f k l0_0 l1_0).bind fun t167 => (if t167 = true then ((laws_eqInt64SS.f k l0_1 l1_1).bind fun t168 => (if t168 = true then ((laws_eqInt64S.f k l0_2 l1_2).bind fun t169 => (if t169 = true then (if a0_3 = a1_3 then (if (a0_4 != a1_4) = true then (some false) else (if a0_5 = a1_5 then (if a0_6 = a1_6 then (some true) else (some false)) else (some false))) else (some false)) else (some false))) else (some false))) else (some false))) = some r := h
 clear h
 refine be H ?_; clear H; intro t167 A3 H
 have HC4 := am H
 clear H
 go_enter Try.func41, Try.ntmps41
 go_upto_if 10 with (first | ((with_reducible refine gd 2 rfl ?_); refine bX 2 #[.slice A0_0 l0_0.length c0_0, .slice A0_1 l0_1.length c0_1, .slice A0_2 l0_2.length c0_2, .int .i64 a0_3, .bool a0_4, .int .i64 a0_5, .int .i64 a0_6] 52 HB ?_; clear HB; intro gb165 w5 hg hb BK165 GW165 HB; clear hb hg) | ((with_reducible refine gd 3 rfl ?_); refine bX 3 #[.slice A1_0 l1_0.length c1_0, .slice A1_1 l1_1.length c1_1, .slice A1_2 l1_2.length c1_2, .int .i64 a1_3, .bool a1_4, .int .i64 a1_5, .int .i64 a1_6] 52 HB ?_; clear HB; intro gb166 w6 hg hb BK166 GW166 HB; obtain ⟨NB165_166, NB166_165, BK165⟩ := b3 hg BK165 hb; clear hb hg; have hnb7 := NB165_166.out; have hnc7 := NB166_165.out; have hcz8_0 := bk w6 BK165 0; have hcz8_1 := bk w6 BK165 1; have hcz8_2 := bk w6 BK165 2; have hcz8_3 := bk w6 BK165 3; have hcz8_4 := bk w6 BK165 4; have hcz8_5 := bk w6 BK165 5; have hcz8_6 := bk w6 BK165 6; have hfz8_0 := bf BK165 0; have hfz8_1 := bf BK165 1; have hfz8_2 := bf BK165 2; have hfz8_3 := bf BK165 3; have hfz8_4 := bf BK165 4; have hfz8_5 := bf BK165 5; have hfz8_6 := bf BK165 6; have hcz9_0 := bk w6 BK166 0; have hcz9_1 := bk w6 BK166 1; have hcz9_2 := bk w6 BK166 2; have hcz9_3 := bk w6 BK166 3; have hcz9_4 := bk w6 BK166 4; have hcz9_5 := bk w6 BK166 5; have hcz9_6 := bk w6 BK166 6; have hfz9_0 := bf BK166 0; have hfz9_1 := bf BK166 1; have hfz9_2 := bf BK166 2; have hfz9_3 := bf BK166 3; have hfz9_4 := bf BK166 4; have hfz9_5 := bf BK166 5; have hfz9_6 := bf BK166 6) | ((with_reducible refine gk 87 rfl ?_); refine gB 87 (some 9) Try.func87 #[.slice A0_0 l0_0.length c0_0, .slice A1_0 l1_0.length c1_0] (laws_eqFrameS.calls k _ _ l0_0 _ _ l1_0 t167 _ (cc (Kd.C_below HR0_0.out HB.out)) HC0_0.out (cc (Kd.C_below HR1_0.out HB.out)) HC1_0.out A3.out) ?_; intro w10 hb; replace BK165 := bb BK165 hb; replace BK166 := bb BK166 hb; replace HB := bs HB hb; clear hb))
 (try simp only [Act.put, sa, sz, ss])
 have H := HC4.out
 clear HC4
 refine qT H ?_ ?_ <;> clear H <;> intro c11 H <;> subst c11
 ·refine be H ?_; clear H; intro t168 A12 H
  have HC13 := am H
  clear H
  have hnb14 := NB165_166.out
  have hnc14 := NB166_165.out
  have hcz15_0 := bk w10 BK165 0
  have hcz15_1 := bk w10 BK165 1
  have hcz15_2 := bk w10 BK165 2
  have hcz15_3 := bk w10 BK165 3
  have hcz15_4 := bk w10 BK165 4
  have hcz15_5 := bk w10 BK165 5
  have hcz15_6 := bk w10 BK165 6
  have hfz15_0 := bf BK165 0
  have hfz15_1 := bf BK165 1
  have hfz15_2 := bf BK165 2
  have hfz15_3 := bf BK165 3
  have hfz15_4 := bf BK165 4
  have hfz15_5 := bf BK165 5
  have hfz15_6 := bf BK165 6
  have hcz16_0 := bk w10 BK166 0
  have hcz16_1 := bk w10 BK166 1
  have hcz16_2 := bk w10 BK166 2
  have hcz16_3 := bk w10 BK166 3
  have hcz16_4 := bk w10 BK166 4
  have hcz16_5 := bk w10 BK166 5
  have hcz16_6 := bk w10 BK166 6
  have hfz16_0 := bf BK166 0
  have hfz16_1 := bf BK166 1
  have hfz16_2 := bf BK166 2
  have hfz16_3 := bf BK166 3
  have hfz16_4 := bf BK166 4
  have hfz16_5 := bf BK166 5
  have hfz16_6 := bf BK166 6
  go_upto_if 16 with (first | ((with_reducible refine gk 88 rfl ?_); refine gD 88 (some 15) Try.func88 #[.slice A0_1 l0_1.length c0_1, .slice A1_1 l1_1.length c1_1] (laws_eqInt64SS.calls k _ _ l0_1 _ _ l1_1 t168 _ (cc (Kd.C_below HR0_1.out HB.out)) HC0_1.out (cc (Kd.C_below HR1_1.out HB.out)) HC1_1.out A12.out) ?_; intro nd))
  (try simp only [Act.put, sa, sz, ss])
  (try simp only [World.drewN_drewN])
  generalize hq_ : World.drewN w10 _ = w17
  replace BK165 : Aside0 (w17.heap[gb165]? = some (.cells #[.slice A0_0 l0_0.length c0_0, .slice A0_1 l0_1.length c0_1, .slice A0_2 l0_2.length c0_2, .int .i64 a0_3, .bool a0_4, .int .i64 a0_5, .int .i64 a0_6] 52 (0, 0))) := ⟨by rw [← hq_]; exact (bp BK165)⟩
  replace BK166 : Aside0 (w17.heap[gb166]? = some (.cells #[.slice A1_0 l1_0.length c1_0, .slice A1_1 l1_1.length c1_1, .slice A1_2 l1_2.length c1_2, .int .i64 a1_3, .bool a1_4, .int .i64 a1_5, .int .i64 a1_6] 52 (0, 0))) := ⟨by rw [← hq_]; exact (bp BK166)⟩
  replace HB : Aside0 (Below w.heap.size w w17) := ⟨by rw [← hq_]; exact (bw HB)⟩
  clear hq_
  have H := HC13.out
  clear HC13
  refine qT H ?_ ?_ <;> clear H <;> intro c18 H <;> subst c18
  ·refine be H ?_; clear H; intro t169 A19 H
   have HC20 := am H
   clear H
   have hnb21 := NB165_166.out
   have hnc21 := NB166_165.out
   have hcz22_0 := bk w17 BK165 0
   have hcz22_1 := bk w17 BK165 1
   have hcz22_2 := bk w17 BK165 2
   have hcz22_3 := bk w17 BK165 3
   have hcz22_4 := bk w17 BK165 4
   have hcz22_5 := bk w17 BK165 5
   have hcz22_6 := bk w17 BK165 6
   have hfz22_0 := bf BK165 0
   have hfz22_1 := bf BK165 1
   have hfz22_2 := bf BK165 2
   have hfz22_3 := bf BK165 3
   have hfz22_4 := bf BK165 4
   have hfz22_5 := bf BK165 5
   have hfz22_6 := bf BK165 6
   have hcz23_0 := bk w17 BK166 0
   have hcz23_1 := bk w17 BK166 1
   have hcz23_2 := bk w17 BK166 2
   have hcz23_3 := bk w17 BK166 3
   have hcz23_4 := bk w17 BK166 4
   have hcz23_5 := bk w17 BK166 5
   have hcz23_6 := bk w17 BK166 6
   have hfz23_0 := bf BK166 0
   have hfz23_1 := bf BK166 1
   have hfz23_2 := bf BK166 2
   have hfz23_3 := bf BK166 3
   have hfz23_4 := bf BK166 4
   have hfz23_5 := bf BK166 5
   have hfz23_6 := bf BK166 6
   go_upto_if 22 with (first | ((with_reducible refine gk 18 rfl ?_); refine gD 18 (some 21) Try.func18 #[.slice A0_2 l0_2.length c0_2, .slice A1_2 l1_2.length c1_2] (laws_eqInt64S.calls k _ _ l0_2 _ _ l1_2 t169 _ (cc (Kd.C_below HR0_2.out HB.out)) HC0_2.out (cc (Kd.C_below HR1_2.out HB.out)) HC1_2.out A19.out) ?_; intro nd))
   (try simp only [Act.put, sa, sz, ss])
   (try simp only [World.drewN_drewN])
   generalize hq_ : World.drewN w17 _ = w24
   replace BK165 : Aside0 (w24.heap[gb165]? = some (.cells #[.slice A0_0 l0_0.length c0_0, .slice A0_1 l0_1.length c0_1, .slice A0_2 l0_2.length c0_2, .int .i64 a0_3, .bool a0_4, .int .i64 a0_5, .int .i64 a0_6] 52 (0, 0))) := ⟨by rw [← hq_]; exact (bp BK165)⟩
   replace BK166 : Aside0 (w24.heap[gb166]? = some (.cells #[.slice A1_0 l1_0.length c1_0, .slice A1_1 l1_1.length c1_1, .slice A1_2 l1_2.length c1_2, .int .i64 a1_3, .bool a1_4, .int .i64 a1_5, .int .i64 a1_6] 52 (0, 0))) := ⟨by rw [← hq_]; exact (bp BK166)⟩
   replace HB : Aside0 (Below w.heap.size w w24) := ⟨by rw [← hq_]; exact (bw HB)⟩
   clear hq_
   have H := HC20.out
   clear HC20
   refine qT H ?_ ?_ <;> clear H <;> intro c25 H <;> subst c25
   ·refine qE H ?_ ?_ <;> clear H
    ·intro c26b0 c26b1 H
     (first | rw [c26b0] | (simp only [i64_w, i32_w]; rw [c26b0]) | skip)
     by_cases c27 : (a0_4 != a1_4) = true
     ·rw [if_pos c27] at H
      have c27b0 : (a0_4 != a1_4) = true := c27
      (try (have c27b1 : decide (a0_4 = a1_4) = false := by simpa using c27))
      (try (have c27b2 : (a0_4 == a1_4) = false := by simpa using c27))
      (try (have c27b3 : ¬ (a0_4 = a1_4) := by simpa using c27))
      clear c27
      obtain rfl := Option.some.inj H
      have hnb28 := NB165_166.out
      have hnc28 := NB166_165.out
      have hcz29_0 := bk w24 BK165 0
      have hcz29_1 := bk w24 BK165 1
      have hcz29_2 := bk w24 BK165 2
      have hcz29_3 := bk w24 BK165 3
      have hcz29_4 := bk w24 BK165 4
      have hcz29_5 := bk w24 BK165 5
      have hcz29_6 := bk w24 BK165 6
      have hfz29_0 := bf BK165 0
      have hfz29_1 := bf BK165 1
      have hfz29_2 := bf BK165 2
      have hfz29_3 := bf BK165 3
      have hfz29_4 := bf BK165 4
      have hfz29_5 := bf BK165 5
      have hfz29_6 := bf BK165 6
      have hcz30_0 := bk w24 BK166 0
      have hcz30_1 := bk w24 BK166 1
      have hcz30_2 := bk w24 BK166 2
      have hcz30_3 := bk w24 BK166 3
      have hcz30_4 := bk w24 BK166 4
      have hcz30_5 := bk w24 BK166 5
      have hcz30_6 := bk w24 BK166 6
      have hfz30_0 := bf BK166 0
      have hfz30_1 := bf BK166 1
      have hfz30_2 := bf BK166 2
      have hfz30_3 := bf BK166 3
      have hfz30_4 := bf BK166 4
      have hfz30_5 := bf BK166 5
      have hfz30_6 := bf BK166 6
      go_wp2
      go_ret
      exact ⟨er, bw HB⟩
     rw [if_neg c27] at H
     have c27b0 : (a0_4 != a1_4) = false := by simpa using c27
     (try (have c27b1 : decide (a0_4 = a1_4) = true := by simpa using c27))
     (try (have c27b2 : (a0_4 == a1_4) = true := by simpa using c27))
     clear c27
     refine qE H ?_ ?_ <;> clear H
     ·intro c31b0 c31b1 H
      refine qE H ?_ ?_ <;> clear H
      ·intro c32b0 c32b1 H
       obtain rfl := Option.some.inj H
       have hnb33 := NB165_166.out
       have hnc33 := NB166_165.out
       have hcz34_0 := bk w24 BK165 0
       have hcz34_1 := bk w24 BK165 1
       have hcz34_2 := bk w24 BK165 2
       have hcz34_3 := bk w24 BK165 3
       have hcz34_4 := bk w24 BK165 4
       have hcz34_5 := bk w24 BK165 5
       have hcz34_6 := bk w24 BK165 6
       have hfz34_0 := bf BK165 0
       have hfz34_1 := bf BK165 1
       have hfz34_2 := bf BK165 2
       have hfz34_3 := bf BK165 3
       have hfz34_4 := bf BK165 4
       have hfz34_5 := bf BK165 5
       have hfz34_6 := bf BK165 6
       have hcz35_0 := bk w24 BK166 0
       have hcz35_1 := bk w24 BK166 1
       have hcz35_2 := bk w24 BK166 2
       have hcz35_3 := bk w24 BK166 3
       have hcz35_4 := bk w24 BK166 4
       have hcz35_5 := bk w24 BK166 5
       have hcz35_6 := bk w24 BK166 6
       have hfz35_0 := bf BK166 0
       have hfz35_1 := bf BK166 1
       have hfz35_2 := bf BK166 2
       have hfz35_3 := bf BK166 3
       have hfz35_4 := bf BK166 4
       have hfz35_5 := bf BK166 5
       have hfz35_6 := bf BK166 6
       go_wp2
       go_ret
       exact ⟨er, bw HB⟩
      intro c32 c32b0 c32b1 H
      obtain rfl := Option.some.inj H
      have hnb36 := NB165_166.out
      have hnc36 := NB166_165.out
      have hcz37_0 := bk w24 BK165 0
      have hcz37_1 := bk w24 BK165 1
      have hcz37_2 := bk w24 BK165 2
      have hcz37_3 := bk w24 BK165 3
      have hcz37_4 := bk w24 BK165 4
      have hcz37_5 := bk w24 BK165 5
      have hcz37_6 := bk w24 BK165 6
      have hfz37_0 := bf BK165 0
      have hfz37_1 := bf BK165 1
      have hfz37_2 := bf BK165 2
      have hfz37_3 := bf BK165 3
      have hfz37_4 := bf BK165 4
      have hfz37_5 := bf BK165 5
      have hfz37_6 := bf BK165 6
      have hcz38_0 := bk w24 BK166 0
      have hcz38_1 := bk w24 BK166 1
      have hcz38_2 := bk w24 BK166 2
      have hcz38_3 := bk w24 BK166 3
      have hcz38_4 := bk w24 BK166 4
      have hcz38_5 := bk w24 BK166 5
      have hcz38_6 := bk w24 BK166 6
      have hfz38_0 := bf BK166 0
      have hfz38_1 := bf BK166 1
      have hfz38_2 := bf BK166 2
      have hfz38_3 := bf BK166 3
      have hfz38_4 := bf BK166 4
      have hfz38_5 := bf BK166 5
      have hfz38_6 := bf BK166 6
      go_wp2
      go_ret
      exact ⟨er, bw HB⟩
     intro c31 c31b0 c31b1 H
     obtain rfl := Option.some.inj H
     have hnb39 := NB165_166.out
     have hnc39 := NB166_165.out
     have hcz40_0 := bk w24 BK165 0
     have hcz40_1 := bk w24 BK165 1
     have hcz40_2 := bk w24 BK165 2
     have hcz40_3 := bk w24 BK165 3
     have hcz40_4 := bk w24 BK165 4
     have hcz40_5 := bk w24 BK165 5
     have hcz40_6 := bk w24 BK165 6
     have hfz40_0 := bf BK165 0
     have hfz40_1 := bf BK165 1
     have hfz40_2 := bf BK165 2
     have hfz40_3 := bf BK165 3
     have hfz40_4 := bf BK165 4
     have hfz40_5 := bf BK165 5
     have hfz40_6 := bf BK165 6
     have hcz41_0 := bk w24 BK166 0
     have hcz41_1 := bk w24 BK166 1
     have hcz41_2 := bk w24 BK166 2
     have hcz41_3 := bk w24 BK166 3
     have hcz41_4 := bk w24 BK166 4
     have hcz41_5 := bk w24 BK166 5
     have hcz41_6 := bk w24 BK166 6
     have hfz41_0 := bf BK166 0
     have hfz41_1 := bf BK166 1
     have hfz41_2 := bf BK166 2
     have hfz41_3 := bf BK166 3
     have hfz41_4 := bf BK166 4
     have hfz41_5 := bf BK166 5
     have hfz41_6 := bf BK166 6
     go_wp2
     go_ret
     exact ⟨er, bw HB⟩
    intro c26 c26b0 c26b1 H
    (first | rw [c26b0] | (simp only [i64_w, i32_w]; rw [c26b0]) | skip)
    obtain rfl := Option.some.inj H
    have hnb42 := NB165_166.out
    have hnc42 := NB166_165.out
    have hcz43_0 := bk w24 BK165 0
    have hcz43_1 := bk w24 BK165 1
    have hcz43_2 := bk w24 BK165 2
    have hcz43_3 := bk w24 BK165 3
    have hcz43_4 := bk w24 BK165 4
    have hcz43_5 := bk w24 BK165 5
    have hcz43_6 := bk w24 BK165 6
    have hfz43_0 := bf BK165 0
    have hfz43_1 := bf BK165 1
    have hfz43_2 := bf BK165 2
    have hfz43_3 := bf BK165 3
    have hfz43_4 := bf BK165 4
    have hfz43_5 := bf BK165 5
    have hfz43_6 := bf BK165 6
    have hcz44_0 := bk w24 BK166 0
    have hcz44_1 := bk w24 BK166 1
    have hcz44_2 := bk w24 BK166 2
    have hcz44_3 := bk w24 BK166 3
    have hcz44_4 := bk w24 BK166 4
    have hcz44_5 := bk w24 BK166 5
    have hcz44_6 := bk w24 BK166 6
    have hfz44_0 := bf BK166 0
    have hfz44_1 := bf BK166 1
    have hfz44_2 := bf BK166 2
    have hfz44_3 := bf BK166 3
    have hfz44_4 := bf BK166 4
    have hfz44_5 := bf BK166 5
    have hfz44_6 := bf BK166 6
    go_wp2
    go_ret
    exact ⟨er, bw HB⟩
   obtain rfl := Option.some.inj H
   go_wp2
   go_ret
   exact ⟨er, bw HB⟩
  obtain rfl := Option.some.inj H
  go_wp2
  go_ret
  exact ⟨er, bw HB⟩
 obtain rfl := Option.some.inj H
 go_wp2
 go_ret
 exact ⟨er, bw HB⟩

def laws_szInt64S.f (l0 : List Int) (a1 : Int) : Option (Int) := if (wrap64 (a1 - (l0.length : Int))) < 0 then (some (-1)) else (some (wrap64 (a1 - (l0.length : Int))))
theorem laws_szInt64S.calls (A0 : Option Addr) (c0 : Nat) (l0 : List Int) (a1 : Int) (r : Int) (w : World) (hr0 : Kd.C (Kd.int .i64) w A0 l0.length l0) (hc0 : l0.length ≤ c0) (h : laws_szInt64S.f l0 a1 = some r) :
  Calls Try.prog 100 #[.slice A0 l0.length c0, .int .i64 a1] w fun e w' => e = .returned (.int .i64 r) ∧ Drawn0 w w' := by
 have HR0 := am hr0
 have HC0 := am hc0
 clear hr0 hc0
 have H : (if (wrap64 (a1 - (l0.length : Int))) < 0 then (some (-1)) else (some (wrap64 (a1 - (l0.length : Int))))) = some r := h
 clear h
 refine qI H ?_ ?_ <;> clear H <;> intro c3b0 H
 ·obtain rfl := Option.some.inj H
  go_enter Try.func100, Try.ntmps100
  go_wp2
  go_ret
  exact ⟨by first | rfl | (simp; done) | (simp [*]; done), by repeat (first | exact Drawn0.refl _ | apply Drawn0.step)⟩
 obtain rfl := Option.some.inj H
 go_enter Try.func100, Try.ntmps100
 go_wp2
 go_ret
 exact ⟨by first | rfl | (simp; done) | (simp [*]; done), by repeat (first | exact Drawn0.refl _ | apply Drawn0.step)⟩

def laws_szInt64SS.l0 : Nat → List (List Int) → Int → Int → Option (Int)
 | 0, _, _, _ => none
 | k + 1, x0, x1, x5 => if x5 < (x0.length : Int) then (if 0 ≤ x5 then ((laws_szInt64S.f (rd_L7 x0 x5) x1).bind fun t171 => (if t171 < 0 then (some (-1)) else (laws_szInt64SS.l0 k x0 t171 (wrap64 (x5 + 1))))) else (none)) else (some x1)
def laws_szInt64SS.f (k : Nat) (l0 : List (List Int)) (a1 : Int) : Option (Int) := if (wrap64 (a1 - (l0.length : Int))) < 0 then (some (-1)) else (laws_szInt64SS.l0 k l0 (wrap64 (a1 - (l0.length : Int))) 0)
theorem laws_szInt64SS.mono_l : ∀ k, (∀ y0 y1 y2, LeO (laws_szInt64SS.l0 k y0 y1 y2) (laws_szInt64SS.l0 (k + 1) y0 y1 y2))
 | 0 => fun _ _ _ r h => by simp [laws_szInt64SS.l0] at h
 | k + 1 => by
  have ih0 := laws_szInt64SS.mono_l k
  ·intro y0 y1 y2
   unfold laws_szInt64SS.l0
   with_reducible repeat' first | exact ih0 .. | exact LeO.refl _ | exact LeO.none _ | refine LeO.ite ?_ ?_ | refine LeO.bind ?_ (fun _ => ?_)
theorem laws_szInt64SS.mono : ∀ a0 a1 k, LeO (laws_szInt64SS.f k a0 a1) (laws_szInt64SS.f (k + 1) a0 a1) := by
 intro a0 a1 k
 have ih0 := laws_szInt64SS.mono_l k
 unfold laws_szInt64SS.f
 with_reducible repeat' first | exact ih0 .. | exact LeO.refl _ | exact LeO.none _ | refine LeO.ite ?_ ?_ | refine LeO.bind ?_ (fun _ => ?_)
theorem laws_szInt64SS.calls (k : Nat) (A0 : Option Addr) (c0 : Nat) (l0 : List (List Int)) (a1 : Int) (r : Int) (w : World) (hr0 : Kd.C (Kd.slice 2 (Kd.int .i64)) w A0 l0.length l0) (hc0 : l0.length ≤ c0) (h : laws_szInt64SS.f k l0 a1 = some r) :
  Calls Try.prog 99 #[.slice A0 l0.length c0, .int .i64 a1] w fun e w' => e = .returned (.int .i64 r) ∧ Drawn0 w w' := by
 have HR0 := am hr0
 have HC0 := am hc0
 clear hr0 hc0
 have H : (if (wrap64 (a1 - (l0.length : Int))) < 0 then (some (-1)) else (laws_szInt64SS.l0 k l0 (wrap64 (a1 - (l0.length : Int))) 0)) = some r := h
 clear h
 by_cases c3 : (wrap64 (a1 - (l0.length : Int))) < 0
 ·rw [if_pos c3] at H
  have c3b0 := decide_eq_true c3
  clear c3
  obtain rfl := Option.some.inj H
  go_enter Try.func99, Try.ntmps99
  go_wp2
  go_ret
  exact ⟨by first | rfl | (simp; done) | (simp [*]; done), by repeat (first | exact Drawn0.refl _ | apply Drawn0.step)⟩
 rw [if_neg c3] at H
 have c3b0 := decide_eq_false c3
 clear c3
 have H' := am H
 clear H
 go_enter Try.func99, Try.ntmps99
 go_wp2
 go_loopg [1, 5] k (fun kq v1 v5 w' => ∃ (x1_1 : Int) (x5_1 : Int), v1 = .int .i64 x1_1 ∧ v5 = .int .i64 x5_1 ∧ Aside0 (laws_szInt64SS.l0 kq l0 x1_1 x5_1 = some r) ∧ Aside0 (kq ≤ k) ∧ Drawn0 w w')
 case atStart => exact ⟨(wrap64 (a1 - (l0.length : Int))), (0), dr, dr, H', ⟨Nat.le_refl _⟩, by repeat (first | exact Drawn0.refl _ | apply Drawn0.step)⟩
 clear H'
 (try clear p2); (try clear c3); (try clear c3b0)
 obtain ⟨x1_1, x5_1, rfl, rfl, HA, HK1, ⟨m1, rfl⟩⟩ := hrel
 rcases gk with _ | k1
 ·exact absurd HA.out (by simp [laws_szInt64SS.l0])
 have H := HA.out
 clear HA
 simp only [laws_szInt64SS.l0] at H
 refine qI H ?_ ?_ <;> clear H <;> intro c4b0 H
 ·refine iM H ?_; clear H; intro c5b0 H
  refine be H ?_; clear H; intro t171 A6 H
  have HC7 := am H
  clear H
  have p170 : 0 ≤ (x5_1 : Int) := of_decide_eq_true as1
  have q170 : x5_1 < (l0.length : Int) := of_decide_eq_true as1
  obtain ⟨ad170, A170_0, c170_0, e170, hx170_0, hl170_0, hi170_0⟩ := at_L7 HR0.out x5_1 p170 q170
  cases e170
  have HR170_0 := am hi170_0
  have HC170_0 := am hl170_0
  clear hi170_0 hl170_0
  replace p170 := eq_true p170
  replace q170 := eq_true q170
  go_upto_if 25 with (first | ((with_reducible refine gk 100 rfl ?_); refine gD 100 (some 23) Try.func100 #[.slice A170_0 (rd_L7 l0 x5_1).length c170_0, .int .i64 x1_1] (laws_szInt64S.calls _ _ (rd_L7 l0 x5_1) x1_1 t171 _ (by repeat (first | exact HR170_0.out | (with_reducible refine Kd.C_alloc ?_ _) | (with_reducible refine Kd.C_drewN ?_ _) | (with_reducible refine Kd.C_drew ?_))) HC170_0.out A6.out) ?_; intro nd))
  (try simp only [Act.put, sa, sz, ss])
  have H := HC7.out
  clear HC7
  refine qI H ?_ ?_ <;> clear H <;> intro c8b0 H
  ·(first | rw [c8b0] | (simp only [i64_w, i32_w]; rw [c8b0]) | skip)
   obtain rfl := Option.some.inj H
   go_wp2
   go_ret
   exact ⟨by first | rfl | (simp; done) | (simp [*]; done), by repeat (first | exact Drawn0.refl _ | apply Drawn0.step)⟩
  (first | rw [c8b0] | (simp only [i64_w, i32_w]; rw [c8b0]) | skip)
  have H' := am H
  clear H
  go_wp2
  go_roundg k1
  case measure => have := HK1.out; omega
  case rel => exact ⟨(t171), (wrap64 (x5_1 + 1)), dr, dr, H', ⟨by have := HK1.out; omega⟩, by repeat (first | exact Drawn0.refl _ | apply Drawn0.step)⟩
 obtain rfl := Option.some.inj H
 go_wp2
 go_ret
 exact ⟨by first | rfl | (simp; done) | (simp [*]; done), by repeat (first | exact Drawn0.refl _ | apply Drawn0.step)⟩

def laws_szFrame.f (a0_0 : Int) (a0_1 : Int) (l0_2 : List Int) (l0_3 : List Int) (a1 : Int) : Option (Int) := (laws_szInt64S.f l0_2 a1).bind fun t173 => (if t173 < 0 then (some (-1)) else ((laws_szInt64S.f l0_3 t173).bind fun t174 => (if t174 < 0 then (some (-1)) else (some t174))))
theorem laws_szFrame.calls (a0_0 : Int) (a0_1 : Int) (A0_2 : Option Addr) (c0_2 : Nat) (l0_2 : List Int) (A0_3 : Option Addr) (c0_3 : Nat) (l0_3 : List Int) (a1 : Int) (r : Int) (w : World) (hr0_2 : Kd.C (Kd.int .i64) w A0_2 l0_2.length l0_2) (hc0_2 : l0_2.length ≤ c0_2) (hr0_3 : Kd.C (Kd.int .i64) w A0_3 l0_3.length l0_3) (hc0_3 : l0_3.length ≤ c0_3) (h : laws_szFrame.f a0_0 a0_1 l0_2 l0_3 a1 = some r) :
  Calls Try.prog 163 #[.agg #[.int .i64 a0_0, .int .i64 a0_1, .slice A0_2 l0_2.length c0_2, .slice A0_3 l0_3.length c0_3], .int .i64 a1] w fun e w' => e = .returned (.int .i64 r) ∧ Below w.heap.size w w' := by
 have hu213 := Try.underlying213
 have HR0_2 := am hr0_2
 have HC0_2 := am hc0_2
 clear hr0_2 hc0_2
 have HR0_3 := am hr0_3
 have HC0_3 := am hc0_3
 clear hr0_3 hc0_3
 have HB := am (Below.refl w.heap.size w)
 have H : ((laws_szInt64S.f l0_2 a1).bind fun t173 => (if t173 < 0 then (some (-1)) else ((laws_szInt64S.f l0_3 t173).bind fun t174 => (if t174 < 0 then (some (-1)) else (some t174))))) = some r := h
 clear h
 refine be H ?_; clear H; intro t173 A3 H
 have HC4 := am H
 clear H
 go_enter Try.func163, Try.ntmps163
 go_upto_if 10 with (first | ((with_reducible refine gd 2 rfl ?_); refine bX 2 #[.int .i64 a0_0, .int .i64 a0_1, .slice A0_2 l0_2.length c0_2, .slice A0_3 l0_3.length c0_3] 213 HB ?_; clear HB; intro gb172 w5 hg hb BK172 GW172 HB; clear hb hg; have hcz6 := bK w5 BK172; have hfz6 := bF BK172) | ((with_reducible refine gk 100 rfl ?_); refine gD 100 (some 8) Try.func100 #[.slice A0_2 l0_2.length c0_2, .int .i64 a1] (laws_szInt64S.calls _ _ l0_2 a1 t173 _ (cc (Kd.C_below HR0_2.out HB.out)) HC0_2.out A3.out) ?_; intro nd))
 (try simp only [Act.put, sa, sz, ss])
 (try simp only [World.drewN_drewN])
 generalize hq_ : World.drewN w5 _ = w7
 replace BK172 : Aside0 (w7.heap[gb172]? = some (.cells #[.int .i64 a0_0, .int .i64 a0_1, .slice A0_2 l0_2.length c0_2, .slice A0_3 l0_3.length c0_3] 213 (0, 0))) := ⟨by rw [← hq_]; exact (bp BK172)⟩
 replace HB : Aside0 (Below w.heap.size w w7) := ⟨by rw [← hq_]; exact (bw HB)⟩
 clear hq_
 have H := HC4.out
 clear HC4
 refine qI H ?_ ?_ <;> clear H <;> intro c8b0 H
 ·(first | rw [c8b0] | (simp only [i64_w, i32_w]; rw [c8b0]) | skip)
  obtain rfl := Option.some.inj H
  go_wp2
  go_ret
  exact ⟨er, bw HB⟩
 (first | rw [c8b0] | (simp only [i64_w, i32_w]; rw [c8b0]) | skip)
 refine be H ?_; clear H; intro t174 A9 H
 have HC10 := am H
 clear H
 have hcz11 := bK w7 BK172
 have hfz11 := bF BK172
 go_upto_if 16 with (first | ((with_reducible refine gk 100 rfl ?_); refine gD 100 (some 14) Try.func100 #[.slice A0_3 l0_3.length c0_3, .int .i64 t173] (laws_szInt64S.calls _ _ l0_3 t173 t174 _ (cc (Kd.C_below HR0_3.out HB.out)) HC0_3.out A9.out) ?_; intro nd))
 (try simp only [Act.put, sa, sz, ss])
 (try simp only [World.drewN_drewN])
 generalize hq_ : World.drewN w7 _ = w12
 replace BK172 : Aside0 (w12.heap[gb172]? = some (.cells #[.int .i64 a0_0, .int .i64 a0_1, .slice A0_2 l0_2.length c0_2, .slice A0_3 l0_3.length c0_3] 213 (0, 0))) := ⟨by rw [← hq_]; exact (bp BK172)⟩
 replace HB : Aside0 (Below w.heap.size w w12) := ⟨by rw [← hq_]; exact (bw HB)⟩
 clear hq_
 have H := HC10.out
 clear HC10
 refine qI H ?_ ?_ <;> clear H <;> intro c13b0 H
 ·(first | rw [c13b0] | (simp only [i64_w, i32_w]; rw [c13b0]) | skip)
  obtain rfl := Option.some.inj H
  go_wp2
  go_ret
  exact ⟨er, bw HB⟩
 (first | rw [c13b0] | (simp only [i64_w, i32_w]; rw [c13b0]) | skip)
 obtain rfl := Option.some.inj H
 go_wp2
 go_ret
 exact ⟨er, bw HB⟩

def laws_szFrameS.l0 : Nat → List (S213) → Int → Int → Option (Int)
 | 0, _, _, _ => none
 | k + 1, x0, x1, x5 => if x5 < (x0.length : Int) then (if 0 ≤ x5 then ((laws_szFrame.f ((rd_T213 x0 x5).f0) ((rd_T213 x0 x5).f1) ((rd_T213 x0 x5).f2) ((rd_T213 x0 x5).f3) x1).bind fun t176 => (if t176 < 0 then (some (-1)) else (laws_szFrameS.l0 k x0 t176 (wrap64 (x5 + 1))))) else (none)) else (some x1)
def laws_szFrameS.f (k : Nat) (l0 : List (S213)) (a1 : Int) : Option (Int) := if (wrap64 (a1 - (l0.length : Int))) < 0 then (some (-1)) else (laws_szFrameS.l0 k l0 (wrap64 (a1 - (l0.length : Int))) 0)
theorem laws_szFrameS.mono_l : ∀ k, (∀ y0 y1 y2, LeO (laws_szFrameS.l0 k y0 y1 y2) (laws_szFrameS.l0 (k + 1) y0 y1 y2))
 | 0 => fun _ _ _ r h => by simp [laws_szFrameS.l0] at h
 | k + 1 => by
  have ih0 := laws_szFrameS.mono_l k
  ·intro y0 y1 y2
   unfold laws_szFrameS.l0
   with_reducible repeat' first | exact ih0 .. | exact LeO.refl _ | exact LeO.none _ | refine LeO.ite ?_ ?_ | refine LeO.bind ?_ (fun _ => ?_)
theorem laws_szFrameS.mono : ∀ a0 a1 k, LeO (laws_szFrameS.f k a0 a1) (laws_szFrameS.f (k + 1) a0 a1) := by
 intro a0 a1 k
 have ih0 := laws_szFrameS.mono_l k
 unfold laws_szFrameS.f
 with_reducible repeat' first | exact ih0 .. | exact LeO.refl _ | exact LeO.none _ | refine LeO.ite ?_ ?_ | refine LeO.bind ?_ (fun _ => ?_)
theorem laws_szFrameS.calls (k : Nat) (A0 : Option Addr) (c0 : Nat) (l0 : List (S213)) (a1 : Int) (r : Int) (w : World) (hr0 : Kd.C k213 w A0 l0.length l0) (hc0 : l0.length ≤ c0) (h : laws_szFrameS.f k l0 a1 = some r) :
  Calls Try.prog 110 #[.slice A0 l0.length c0, .int .i64 a1] w fun e w' => e = .returned (.int .i64 r) ∧ Below w.heap.size w w' := by
 have hu213 := Try.underlying213
 have HR0 := am hr0
 have HC0 := am hc0
 clear hr0 hc0
 have HB := am (Below.refl w.heap.size w)
 have H : (if (wrap64 (a1 - (l0.length : Int))) < 0 then (some (-1)) else (laws_szFrameS.l0 k l0 (wrap64 (a1 - (l0.length : Int))) 0)) = some r := h
 clear h
 by_cases c3 : (wrap64 (a1 - (l0.length : Int))) < 0
 ·rw [if_pos c3] at H
  have c3b0 := decide_eq_true c3
  clear c3
  obtain rfl := Option.some.inj H
  go_enter Try.func110, Try.ntmps110
  go_wp2
  go_ret
  exact ⟨er, bw HB⟩
 rw [if_neg c3] at H
 have c3b0 := decide_eq_false c3
 clear c3
 have H' := am H
 clear H
 go_enter Try.func110, Try.ntmps110
 go_wp2
 go_loopg [1, 5] k (fun kq v1 v5 w' => ∃ (x1_1 : Int) (x5_1 : Int), v1 = .int .i64 x1_1 ∧ v5 = .int .i64 x5_1 ∧ Aside0 (laws_szFrameS.l0 kq l0 x1_1 x5_1 = some r) ∧ Aside0 (kq ≤ k) ∧ Aside0 (Below w.heap.size w w'))
 case atStart => exact ⟨(wrap64 (a1 - (l0.length : Int))), (0), dr, dr, H', ⟨Nat.le_refl _⟩, ⟨bw HB⟩⟩
 clear H'
 (try clear c1); (try clear p2); (try clear c3); (try clear c3b0)
 obtain ⟨x1_1, x5_1, rfl, rfl, HA, HK1, HB⟩ := hrel
 rcases gk with _ | k1
 ·exact absurd HA.out (by simp [laws_szFrameS.l0])
 have H := HA.out
 clear HA
 simp only [laws_szFrameS.l0] at H
 refine qI H ?_ ?_ <;> clear H <;> intro c4b0 H
 ·refine iM H ?_; clear H; intro c5b0 H
  refine be H ?_; clear H; intro t176 A6 H
  have HC7 := am H
  clear H
  have p175 : 0 ≤ (x5_1 : Int) := of_decide_eq_true as1
  have q175 : x5_1 < (l0.length : Int) := of_decide_eq_true as1
  obtain ⟨ad175, A175_2, c175_2, A175_3, c175_3, e175, hx175_0, hx175_1, hx175_2, hx175_3, hl175_2, hi175_2, hl175_3, hi175_3⟩ := at_T213 HR0.out x5_1 p175 q175
  cases e175
  replace hx175_0 := cl HB hx175_0
  replace hx175_1 := cl HB hx175_1
  replace hx175_2 := cl HB hx175_2
  replace hx175_3 := cl HB hx175_3
  have HR175_2 := am hi175_2
  have HC175_2 := am hl175_2
  clear hi175_2 hl175_2
  have HR175_3 := am hi175_3
  have HC175_3 := am hl175_3
  clear hi175_3 hl175_3
  replace p175 := eq_true p175
  replace q175 := eq_true q175
  go_upto_if 25 with (first | ((with_reducible refine gk 163 rfl ?_); refine gB 163 (some 23) Try.func163 #[.agg #[.int .i64 ((rd_T213 l0 x5_1).f0), .int .i64 ((rd_T213 l0 x5_1).f1), .slice A175_2 ((rd_T213 l0 x5_1).f2).length c175_2, .slice A175_3 ((rd_T213 l0 x5_1).f3).length c175_3], .int .i64 x1_1] (laws_szFrame.calls ((rd_T213 l0 x5_1).f0) ((rd_T213 l0 x5_1).f1) _ _ ((rd_T213 l0 x5_1).f2) _ _ ((rd_T213 l0 x5_1).f3) x1_1 t176 _ (cc (Kd.C_below HR175_2.out HB.out)) HC175_2.out (cc (Kd.C_below HR175_3.out HB.out)) HC175_3.out A6.out) ?_; intro w8 hb; replace HB := bs HB hb; clear hb))
  (try simp only [Act.put, sa, sz, ss])
  have H := HC7.out
  clear HC7
  refine qI H ?_ ?_ <;> clear H <;> intro c9b0 H
  ·(first | rw [c9b0] | (simp only [i64_w, i32_w]; rw [c9b0]) | skip)
   obtain rfl := Option.some.inj H
   go_wp2
   go_ret
   exact ⟨er, bw HB⟩
  (first | rw [c9b0] | (simp only [i64_w, i32_w]; rw [c9b0]) | skip)
  have H' := am H
  clear H
  go_wp2
  go_roundg k1
  case measure => have := HK1.out; omega
  case rel => exact ⟨(t176), (wrap64 (x5_1 + 1)), dr, dr, H', ⟨by have := HK1.out; omega⟩, ⟨bw HB⟩⟩
 obtain rfl := Option.some.inj H
 go_wp2
 go_ret
 exact ⟨er, bw HB⟩

end Go.Proofs.Ytbmjmaahcaoajaa.QFnExactStateRight
