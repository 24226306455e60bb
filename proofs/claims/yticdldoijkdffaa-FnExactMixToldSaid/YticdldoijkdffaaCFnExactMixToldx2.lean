import Derived.Test.YticdldoijkdffaaCFnExactMixToldx0
import Derived.Test.YticdldoijkdffaaCFnExactMixToldx1
namespace Go.Proofs.Yticdldoijkdffaa.QFnExactMixTold
open Go.RowKit Go.Proofs.YticdldoijkdffaaW
open PrintWords PrintLast PrintMore PrintShort PrintIsh
attribute [local go_sem] max2_int min2_int max_two min_two max_three min_three max_four min_four   -- for this text's walks alone
set_option linter.unusedVariables false
set_option maxHeartbeats 8000000
set_option maxRecDepth 100000
set_option linter.unusedSimpArgs false

def laws_szMixFrameS.l0 : Nat → List (S69) → Int → Int → Option (Int)
 | 0, _, _, _ => none
 | k + 1, x0, x1, x5 => if x5 < (x0.length : Int) then (if 0 ≤ x5 then ((laws_szMixFrame.f ((rd_T69 x0 x5).f0) ((rd_T69 x0 x5).f1) ((rd_T69 x0 x5).f2) ((rd_T69 x0 x5).f3) ((rd_T69 x0 x5).f4) ((rd_T69 x0 x5).f5) x1).bind fun t118 => (if t118 < 0 then (some (-1)) else (laws_szMixFrameS.l0 k x0 t118 (wrap64 (x5 + 1))))) else (none)) else (some x1)
def laws_szMixFrameS.f (k : Nat) (l0 : List (S69)) (a1 : Int) : Option (Int) := if (wrap64 (a1 - (l0.length : Int))) < 0 then (some (-1)) else (laws_szMixFrameS.l0 k l0 (wrap64 (a1 - (l0.length : Int))) 0)
theorem laws_szMixFrameS.mono_l : ∀ k, (∀ y0 y1 y2, LeO (laws_szMixFrameS.l0 k y0 y1 y2) (laws_szMixFrameS.l0 (k + 1) y0 y1 y2))
 | 0 => fun _ _ _ r h => by simp [laws_szMixFrameS.l0] at h
 | k + 1 => by
  have ih0 := laws_szMixFrameS.mono_l k
  ·intro y0 y1 y2
   unfold laws_szMixFrameS.l0
   with_reducible repeat' first | exact ih0 .. | exact LeO.refl _ | exact LeO.none _ | refine LeO.ite ?_ ?_ | refine LeO.bind ?_ (fun _ => ?_)
theorem laws_szMixFrameS.mono : ∀ a0 a1 k, LeO (laws_szMixFrameS.f k a0 a1) (laws_szMixFrameS.f (k + 1) a0 a1) := by
 intro a0 a1 k
 have ih0 := laws_szMixFrameS.mono_l k
 unfold laws_szMixFrameS.f
 with_reducible repeat' first | exact ih0 .. | exact LeO.refl _ | exact LeO.none _ | refine LeO.ite ?_ ?_ | refine LeO.bind ?_ (fun _ => ?_)
theorem laws_szMixFrameS.calls (k : Nat) (A0 : Option Addr) (c0 : Nat) (l0 : List (S69)) (a1 : Int) (r : Int) (w : World) (hr0 : Kd.C k69 w A0 l0.length l0) (hc0 : l0.length ≤ c0) (h : laws_szMixFrameS.f k l0 a1 = some r) :
  Calls Try.prog 14 #[.slice A0 l0.length c0, .int .i64 a1] w fun e w' => e = .returned (.int .i64 r) ∧ Below w.heap.size w w' := by
 have hu69 := Try.underlying69
 have HR0 := am hr0
 have HC0 := am hc0
 clear hr0 hc0
 have HB := am (Below.refl w.heap.size w)
 have H : (if (wrap64 (a1 - (l0.length : Int))) < 0 then (some (-1)) else (laws_szMixFrameS.l0 k l0 (wrap64 (a1 - (l0.length : Int))) 0)) = some r := h
 clear h
 by_cases c3 : (wrap64 (a1 - (l0.length : Int))) < 0
 ·rw [if_pos c3] at H
  have c3b0 := decide_eq_true c3
  clear c3
  obtain rfl := Option.some.inj H
  go_enter Try.func14, Try.ntmps14
  go_wp2
  go_ret
  exact ⟨er, bw HB⟩
 rw [if_neg c3] at H
 have c3b0 := decide_eq_false c3
 clear c3
 have H' := am H
 clear H
 go_enter Try.func14, Try.ntmps14
 go_wp2
 go_loopg [1, 5] k (fun kq v1 v5 w' => ∃ (x1_1 : Int) (x5_1 : Int), v1 = .int .i64 x1_1 ∧ v5 = .int .i64 x5_1 ∧ Aside0 (laws_szMixFrameS.l0 kq l0 x1_1 x5_1 = some r) ∧ Aside0 (kq ≤ k) ∧ Aside0 (Below w.heap.size w w'))
 case atStart => exact ⟨(wrap64 (a1 - (l0.length : Int))), (0), dr, dr, H', ⟨Nat.le_refl _⟩, ⟨bw HB⟩⟩
 clear H'
 (try clear c1); (try clear p2); (try clear c3); (try clear c3b0)
 obtain ⟨x1_1, x5_1, rfl, rfl, HA, HK1, HB⟩ := hrel
 rcases gk with _ | k1
 ·exact absurd HA.out (by simp [laws_szMixFrameS.l0])
 have H := HA.out
 clear HA
 simp only [laws_szMixFrameS.l0] at H
 refine qI H ?_ ?_ <;> clear H <;> intro c4b0 H
 ·refine iM H ?_; clear H; intro c5b0 H
  refine be H ?_; clear H; intro t118 A6 H
  have HC7 := am H
  clear H
  have p117 : 0 ≤ (x5_1 : Int) := of_decide_eq_true as1
  have q117 : x5_1 < (l0.length : Int) := of_decide_eq_true as1
  obtain ⟨ad117, A117_3, c117_3, A117_4, c117_4, A117_5, c117_5, e117, hx117_0, hx117_1, hx117_2, hx117_3, hx117_4, hx117_5, hl117_3, hi117_3, hl117_4, hi117_4, hl117_5, hi117_5⟩ := at_T69 HR0.out x5_1 p117 q117
  cases e117
  replace hx117_0 := cl HB hx117_0
  replace hx117_1 := cl HB hx117_1
  replace hx117_2 := cl HB hx117_2
  replace hx117_3 := cl HB hx117_3
  replace hx117_4 := cl HB hx117_4
  replace hx117_5 := cl HB hx117_5
  have HR117_3 := am hi117_3
  have HC117_3 := am hl117_3
  clear hi117_3 hl117_3
  have HR117_4 := am hi117_4
  have HC117_4 := am hl117_4
  clear hi117_4 hl117_4
  have HR117_5 := am hi117_5
  have HC117_5 := am hl117_5
  clear hi117_5 hl117_5
  replace p117 := eq_true p117
  replace q117 := eq_true q117
  go_upto_if 25 with (first | ((with_reducible refine gk 37 rfl ?_); refine gB 37 (some 23) Try.func37 #[.agg #[.bool ((rd_T69 l0 x5_1).f0), .int .i64 ((rd_T69 l0 x5_1).f1), .int .i64 ((rd_T69 l0 x5_1).f2), .slice A117_3 ((rd_T69 l0 x5_1).f3).length c117_3, .slice A117_4 ((rd_T69 l0 x5_1).f4).length c117_4, .slice A117_5 ((rd_T69 l0 x5_1).f5).length c117_5], .int .i64 x1_1] (laws_szMixFrame.calls ((rd_T69 l0 x5_1).f0) ((rd_T69 l0 x5_1).f1) ((rd_T69 l0 x5_1).f2) _ _ ((rd_T69 l0 x5_1).f3) _ _ ((rd_T69 l0 x5_1).f4) _ _ ((rd_T69 l0 x5_1).f5) x1_1 t118 _ (cc (Kd.C_below HR117_3.out HB.out)) HC117_3.out (cc (Kd.C_below HR117_4.out HB.out)) HC117_4.out (cc (Kd.C_below HR117_5.out HB.out)) HC117_5.out A6.out) ?_; intro w8 hb; replace HB := bs HB hb; clear hb))
  (try simp only [Act.put, sa, sz, ss])
  have H := HC7.out
  clear HC7
  refine qI H ?_ ?_ <;> clear H <;> intro c9b0 H
  ·(first | rw [c9b0] | (simp only [i64_w, i32_w]; rw [c9b0]) | skip)
   obtain rfl := Option.some.inj H
   go_wp2
   go_ret
   exact ⟨er, bw HB⟩
  (first | rw [c9b0] | (simp only [i64_w, i32_w]; rw [c9b0]) | skip)
  have H' := am H
  clear H
  go_wp2
  go_roundg k1
  case measure => have := HK1.out; omega
  case rel => exact ⟨(t118), (wrap64 (x5_1 + 1)), dr, dr, H', ⟨by have := HK1.out; omega⟩, ⟨bw HB⟩⟩
 obtain rfl := Option.some.inj H
 go_wp2
 go_ret
 exact ⟨er, bw HB⟩

def laws_szInt64SS.l0 : Nat → List (List Int) → Int → Int → Option (Int)
 | 0, _, _, _ => none
 | k + 1, x0, x1, x5 => if x5 < (x0.length : Int) then (if 0 ≤ x5 then ((laws_szInt64S.f (rd_L10 x0 x5) x1).bind fun t120 => (if t120 < 0 then (some (-1)) else (laws_szInt64SS.l0 k x0 t120 (wrap64 (x5 + 1))))) else (none)) else (some x1)
def laws_szInt64SS.f (k : Nat) (l0 : List (List Int)) (a1 : Int) : Option (Int) := if (wrap64 (a1 - (l0.length : Int))) < 0 then (some (-1)) else (laws_szInt64SS.l0 k l0 (wrap64 (a1 - (l0.length : Int))) 0)
theorem laws_szInt64SS.mono_l : ∀ k, (∀ y0 y1 y2, LeO (laws_szInt64SS.l0 k y0 y1 y2) (laws_szInt64SS.l0 (k + 1) y0 y1 y2))
 | 0 => fun _ _ _ r h => by simp [laws_szInt64SS.l0] at h
 | k + 1 => by
  have ih0 := laws_szInt64SS.mono_l k
  ·intro y0 y1 y2
   unfold laws_szInt64SS.l0
   with_reducible repeat' first | exact ih0 .. | exact LeO.refl _ | exact LeO.none _ | refine LeO.ite ?_ ?_ | refine LeO.bind ?_ (fun _ => ?_)
theorem laws_szInt64SS.mono : ∀ a0 a1 k, LeO (laws_szInt64SS.f k a0 a1) (laws_szInt64SS.f (k + 1) a0 a1) := by
 intro a0 a1 k
 have ih0 := laws_szInt64SS.mono_l k
 unfold laws_szInt64SS.f
 with_reducible repeat' first | exact ih0 .. | exact LeO.refl _ | exact LeO.none _ | refine LeO.ite ?_ ?_ | refine LeO.bind ?_ (fun _ => ?_)
theorem laws_szInt64SS.calls (k : Nat) (A0 : Option Addr) (c0 : Nat) (l0 : List (List Int)) (a1 : Int) (r : Int) (w : World) (hr0 : Kd.C (Kd.slice 2 (Kd.int .i64)) w A0 l0.length l0) (hc0 : l0.length ≤ c0) (h : laws_szInt64SS.f k l0 a1 = some r) :
  Calls Try.prog 15 #[.slice A0 l0.length c0, .int .i64 a1] w fun e w' => e = .returned (.int .i64 r) ∧ Drawn0 w w' := by
 have HR0 := am hr0
 have HC0 := am hc0
 clear hr0 hc0
 have H : (if (wrap64 (a1 - (l0.length : Int))) < 0 then (some (-1)) else (laws_szInt64SS.l0 k l0 (wrap64 (a1 - (l0.length : Int))) 0)) = some r := h
 clear h
 by_cases c3 : (wrap64 (a1 - (l0.length : Int))) < 0
 ·rw [if_pos c3] at H
  have c3b0 := decide_eq_true c3
  clear c3
  obtain rfl := Option.some.inj H
  go_enter Try.func15, Try.ntmps15
  go_wp2
  go_ret
  exact ⟨by first | rfl | (simp; done) | (simp [*]; done), by repeat (first | exact Drawn0.refl _ | apply Drawn0.step)⟩
 rw [if_neg c3] at H
 have c3b0 := decide_eq_false c3
 clear c3
 have H' := am H
 clear H
 go_enter Try.func15, Try.ntmps15
 go_wp2
 go_loopg [1, 5] k (fun kq v1 v5 w' => ∃ (x1_1 : Int) (x5_1 : Int), v1 = .int .i64 x1_1 ∧ v5 = .int .i64 x5_1 ∧ Aside0 (laws_szInt64SS.l0 kq l0 x1_1 x5_1 = some r) ∧ Aside0 (kq ≤ k) ∧ Drawn0 w w')
 case atStart => exact ⟨(wrap64 (a1 - (l0.length : Int))), (0), dr, dr, H', ⟨Nat.le_refl _⟩, by repeat (first | exact Drawn0.refl _ | apply Drawn0.step)⟩
 clear H'
 (try clear c1); (try clear p2); (try clear c3); (try clear c3b0)
 obtain ⟨x1_1, x5_1, rfl, rfl, HA, HK1, ⟨m1, rfl⟩⟩ := hrel
 rcases gk with _ | k1
 ·exact absurd HA.out (by simp [laws_szInt64SS.l0])
 have H := HA.out
 clear HA
 simp only [laws_szInt64SS.l0] at H
 refine qI H ?_ ?_ <;> clear H <;> intro c4b0 H
 ·refine iM H ?_; clear H; intro c5b0 H
  refine be H ?_; clear H; intro t120 A6 H
  have HC7 := am H
  clear H
  have p119 : 0 ≤ (x5_1 : Int) := of_decide_eq_true as1
  have q119 : x5_1 < (l0.length : Int) := of_decide_eq_true as1
  obtain ⟨ad119, A119_0, c119_0, e119, hx119_0, hl119_0, hi119_0⟩ := at_L10 HR0.out x5_1 p119 q119
  cases e119
  have HR119_0 := am hi119_0
  have HC119_0 := am hl119_0
  clear hi119_0 hl119_0
  replace p119 := eq_true p119
  replace q119 := eq_true q119
  go_upto_if 25 with (first | ((with_reducible refine gk 16 rfl ?_); refine gD 16 (some 23) Try.func16 #[.slice A119_0 (rd_L10 l0 x5_1).length c119_0, .int .i64 x1_1] (laws_szInt64S.calls _ _ (rd_L10 l0 x5_1) x1_1 t120 _ (by repeat (first | exact HR119_0.out | (with_reducible refine Kd.C_alloc ?_ _) | (with_reducible refine Kd.C_drewN ?_ _) | (with_reducible refine Kd.C_drew ?_))) HC119_0.out A6.out) ?_; intro nd))
  (try simp only [Act.put, sa, sz, ss])
  have H := HC7.out
  clear HC7
  refine qI H ?_ ?_ <;> clear H <;> intro c8b0 H
  ·(first | rw [c8b0] | (simp only [i64_w, i32_w]; rw [c8b0]) | skip)
   obtain rfl := Option.some.inj H
   go_wp2
   go_ret
   exact ⟨by first | rfl | (simp; done) | (simp [*]; done), by repeat (first | exact Drawn0.refl _ | apply Drawn0.step)⟩
  (first | rw [c8b0] | (simp only [i64_w, i32_w]; rw [c8b0]) | skip)
  have H' := am H
  clear H
  go_wp2
  go_roundg k1
  case measure => have := HK1.out; omega
  case rel => exact ⟨(t120), (wrap64 (x5_1 + 1)), dr, dr, H', ⟨by have := HK1.out; omega⟩, by repeat (first | exact Drawn0.refl _ | apply Drawn0.step)⟩
 obtain rfl := Option.some.inj H
 go_wp2
 go_ret
 exact ⟨by first | rfl | (simp; done) | (simp [*]; done), by repeat (first | exact Drawn0.refl _ | apply Drawn0.step)⟩

def laws_szMixed.f (k : Nat) (l0_0 : List (S66)) (l0_1 : List (S69)) (l0_2 : List (List Int)) (l0_3 : List Int) (a0_4 : Int) (a0_5 : Bool) (a0_6 : Int) (a0_7 : Int) (a1 : Int) : Option (Int) := (laws_szAsmS.f k l0_0 a1).bind fun t122 => (if t122 < 0 then (some (-1)) else ((laws_szMixFrameS.f k l0_1 t122).bind fun t123 => (if t123 < 0 then (some (-1)) else ((laws_szInt64SS.f k l0_2 t123).bind fun t124 => (if t124 < 0 then (some (-1)) else ((laws_szInt64S.f l0_3 t124).bind fun t125 => (if t125 < 0 then (some (-1)) else (some t125))))))))
theorem laws_szMixed.mono : ∀ a0 a1 a2 a3 a4 a5 a6 a7 a8 k, LeO (laws_szMixed.f k a0 a1 a2 a3 a4 a5 a6 a7 a8) (laws_szMixed.f (k + 1) a0 a1 a2 a3 a4 a5 a6 a7 a8) := by
 intro a0 a1 a2 a3 a4 a5 a6 a7 a8 k
 unfold laws_szMixed.f
 with_reducible repeat' first | exact laws_szAsmS.mono .. | exact laws_szInt64SS.mono .. | exact laws_szMixFrameS.mono .. | exact LeO.refl _ | exact LeO.none _ | refine LeO.ite ?_ ?_ | refine LeO.bind ?_ (fun _ => ?_)
theorem laws_szMixed.calls (k : Nat) (A0_0 : Option Addr) (c0_0 : Nat) (l0_0 : List (S66)) (A0_1 : Option Addr) (c0_1 : Nat) (l0_1 : List (S69)) (A0_2 : Option Addr) (c0_2 : Nat) (l0_2 : List (List Int)) (A0_3 : Option Addr) (c0_3 : Nat) (l0_3 : List Int) (a0_4 : Int) (a0_5 : Bool) (a0_6 : Int) (a0_7 : Int) (a1 : Int) (r : Int) (w : World) (hr0_0 : Kd.C k66 w A0_0 l0_0.length l0_0) (hc0_0 : l0_0.length ≤ c0_0) (hr0_1 : Kd.C k69 w A0_1 l0_1.length l0_1) (hc0_1 : l0_1.length ≤ c0_1) (hr0_2 : Kd.C (Kd.slice 2 (Kd.int .i64)) w A0_2 l0_2.length l0_2) (hc0_2 : l0_2.length ≤ c0_2) (hr0_3 : Kd.C (Kd.int .i64) w A0_3 l0_3.length l0_3) (hc0_3 : l0_3.length ≤ c0_3) (h : laws_szMixed.f k l0_0 l0_1 l0_2 l0_3 a0_4 a0_5 a0_6 a0_7 a1 = some r) :
  Calls Try.prog 4 #[.agg #[.slice A0_0 l0_0.length c0_0, .slice A0_1 l0_1.length c0_1, .slice A0_2 l0_2.length c0_2, .slice A0_3 l0_3.length c0_3, .int .i64 a0_4, .bool a0_5, .int .i64 a0_6, .int .i64 a0_7], .int .i64 a1] w fun e w' => e = .returned (.int .i64 r) ∧ Below w.heap.size w w' := by
 have hu27 := Try.underlying27
 have HR0_0 := am hr0_0
 have HC0_0 := am hc0_0
 clear hr0_0 hc0_0
 have HR0_1 := am hr0_1
 have HC0_1 := am hc0_1
 clear hr0_1 hc0_1
 have HR0_2 := am hr0_2
 have HC0_2 := am hc0_2
 clear hr0_2 hc0_2
 have HR0_3 := am hr0_3
 have HC0_3 := am hc0_3
 clear hr0_3 hc0_3
 have HB := am (Below.refl w.heap.size w)
 have H : ((laws_szAsmS.f k l0_0 a1).bind fun t122 => (if t122 < 0 then (some (-1)) else ((laws_szMixFrameS.f k l0_1 t122).bind fun t123 => (if t123 < 0 then (some (-1)) else ((laws_szInt64SS.f k l0_2 t123).bind fun t124 => (if t124 < 0 then (some (-1)) else ((laws_szInt64S.f l0_3 t124).bind fun t125 => (if t125 < 0 then (some (-1)) else (some t125))))))))) = some r := h
 clear h
 refine be H ?_; clear H; intro t122 A3 H
 have HC4 := am H
 clear H
 go_enter Try.func4, Try.ntmps4
 go_upto_if 10 with (first | ((with_reducible refine gd 2 rfl ?_); refine bX 2 #[.slice A0_0 l0_0.length c0_0, .slice A0_1 l0_1.length c0_1, .slice A0_2 l0_2.length c0_2, .slice A0_3 l0_3.length c0_3, .int .i64 a0_4, .bool a0_5, .int .i64 a0_6, .int .i64 a0_7] 27 HB ?_; clear HB; intro gb121 w5 hg hb BK121 GW121 HB; clear hb hg; have hcz6_0 := bk w5 BK121 0; have hcz6_1 := bk w5 BK121 1; have hcz6_2 := bk w5 BK121 2; have hcz6_3 := bk w5 BK121 3; have hcz6_4 := bk w5 BK121 4; have hcz6_5 := bk w5 BK121 5; have hcz6_6 := bk w5 BK121 6; have hcz6_7 := bk w5 BK121 7; have hfz6_0 := bf BK121 0; have hfz6_1 := bf BK121 1; have hfz6_2 := bf BK121 2; have hfz6_3 := bf BK121 3; have hfz6_4 := bf BK121 4; have hfz6_5 := bf BK121 5; have hfz6_6 := bf BK121 6; have hfz6_7 := bf BK121 7) | ((with_reducible refine gk 13 rfl ?_); refine gB 13 (some 8) Try.func13 #[.slice A0_0 l0_0.length c0_0, .int .i64 a1] (laws_szAsmS.calls k _ _ l0_0 a1 t122 _ (cc (Kd.C_below HR0_0.out HB.out)) HC0_0.out A3.out) ?_; intro w7 hb; replace BK121 := bb BK121 hb; replace HB := bs HB hb; clear hb))
 (try simp only [Act.put, sa, sz, ss])
 have H := HC4.out
 clear HC4
 refine qI H ?_ ?_ <;> clear H <;> intro c8b0 H
 ·(first | rw [c8b0] | (simp only [i64_w, i32_w]; rw [c8b0]) | skip)
  obtain rfl := Option.some.inj H
  go_wp2
  go_ret
  exact ⟨er, bw HB⟩
 (first | rw [c8b0] | (simp only [i64_w, i32_w]; rw [c8b0]) | skip)
 refine be H ?_; clear H; intro t123 A9 H
 have HC10 := am H
 clear H
 have hcz11_0 := bk w7 BK121 0
 have hcz11_1 := bk w7 BK121 1
 have hcz11_2 := bk w7 BK121 2
 have hcz11_3 := bk w7 BK121 3
 have hcz11_4 := bk w7 BK121 4
 have hcz11_5 := bk w7 BK121 5
 have hcz11_6 := bk w7 BK121 6
 have hcz11_7 := bk w7 BK121 7
 have hfz11_0 := bf BK121 0
 have hfz11_1 := bf BK121 1
 have hfz11_2 := bf BK121 2
 have hfz11_3 := bf BK121 3
 have hfz11_4 := bf BK121 4
 have hfz11_5 := bf BK121 5
 have hfz11_6 := bf BK121 6
 have hfz11_7 := bf BK121 7
 go_upto_if 16 with (first | ((with_reducible refine gk 14 rfl ?_); refine gB 14 (some 14) Try.func14 #[.slice A0_1 l0_1.length c0_1, .int .i64 t122] (laws_szMixFrameS.calls k _ _ l0_1 t122 t123 _ (cc (Kd.C_below HR0_1.out HB.out)) HC0_1.out A9.out) ?_; intro w12 hb; replace BK121 := bb BK121 hb; replace HB := bs HB hb; clear hb))
 (try simp only [Act.put, sa, sz, ss])
 have H := HC10.out
 clear HC10
 refine qI H ?_ ?_ <;> clear H <;> intro c13b0 H
 ·(first | rw [c13b0] | (simp only [i64_w, i32_w]; rw [c13b0]) | skip)
  obtain rfl := Option.some.inj H
  go_wp2
  go_ret
  exact ⟨er, bw HB⟩
 (first | rw [c13b0] | (simp only [i64_w, i32_w]; rw [c13b0]) | skip)
 refine be H ?_; clear H; intro t124 A14 H
 have HC15 := am H
 clear H
 have hcz16_0 := bk w12 BK121 0
 have hcz16_1 := bk w12 BK121 1
 have hcz16_2 := bk w12 BK121 2
 have hcz16_3 := bk w12 BK121 3
 have hcz16_4 := bk w12 BK121 4
 have hcz16_5 := bk w12 BK121 5
 have hcz16_6 := bk w12 BK121 6
 have hcz16_7 := bk w12 BK121 7
 have hfz16_0 := bf BK121 0
 have hfz16_1 := bf BK121 1
 have hfz16_2 := bf BK121 2
 have hfz16_3 := bf BK121 3
 have hfz16_4 := bf BK121 4
 have hfz16_5 := bf BK121 5
 have hfz16_6 := bf BK121 6
 have hfz16_7 := bf BK121 7
 go_upto_if 22 with (first | ((with_reducible refine gk 15 rfl ?_); refine gD 15 (some 20) Try.func15 #[.slice A0_2 l0_2.length c0_2, .int .i64 t123] (laws_szInt64SS.calls k _ _ l0_2 t123 t124 _ (cc (Kd.C_below HR0_2.out HB.out)) HC0_2.out A14.out) ?_; intro nd))
 (try simp only [Act.put, sa, sz, ss])
 (try simp only [World.drewN_drewN])
 generalize hq_ : World.drewN w12 _ = w17
 replace BK121 : Aside0 (w17.heap[gb121]? = some (.cells #[.slice A0_0 l0_0.length c0_0, .slice A0_1 l0_1.length c0_1, .slice A0_2 l0_2.length c0_2, .slice A0_3 l0_3.length c0_3, .int .i64 a0_4, .bool a0_5, .int .i64 a0_6, .int .i64 a0_7] 27 (0, 0))) := ⟨by rw [← hq_]; exact (bp BK121)⟩
 replace HB : Aside0 (Below w.heap.size w w17) := ⟨by rw [← hq_]; exact (bw HB)⟩
 clear hq_
 have H := HC15.out
 clear HC15
 refine qI H ?_ ?_ <;> clear H <;> intro c18b0 H
 ·(first | rw [c18b0] | (simp only [i64_w, i32_w]; rw [c18b0]) | skip)
  obtain rfl := Option.some.inj H
  go_wp2
  go_ret
  exact ⟨er, bw HB⟩
 (first | rw [c18b0] | (simp only [i64_w, i32_w]; rw [c18b0]) | skip)
 refine be H ?_; clear H; intro t125 A19 H
 have HC20 := am H
 clear H
 have hcz21_0 := bk w17 BK121 0
 have hcz21_1 := bk w17 BK121 1
 have hcz21_2 := bk w17 BK121 2
 have hcz21_3 := bk w17 BK121 3
 have hcz21_4 := bk w17 BK121 4
 have hcz21_5 := bk w17 BK121 5
 have hcz21_6 := bk w17 BK121 6
 have hcz21_7 := bk w17 BK121 7
 have hfz21_0 := bf BK121 0
 have hfz21_1 := bf BK121 1
 have hfz21_2 := bf BK121 2
 have hfz21_3 := bf BK121 3
 have hfz21_4 := bf BK121 4
 have hfz21_5 := bf BK121 5
 have hfz21_6 := bf BK121 6
 have hfz21_7 := bf BK121 7
 go_upto_if 28 with (first | ((with_reducible refine gk 16 rfl ?_); refine gD 16 (some 26) Try.func16 #[.slice A0_3 l0_3.length c0_3, .int .i64 t124] (laws_szInt64S.calls _ _ l0_3 t124 t125 _ (cc (Kd.C_below HR0_3.out HB.out)) HC0_3.out A19.out) ?_; intro nd))
 (try simp only [Act.put, sa, sz, ss])
 (try simp only [World.drewN_drewN])
 generalize hq_ : World.drewN w17 _ = w22
 replace BK121 : Aside0 (w22.heap[gb121]? = some (.cells #[.slice A0_0 l0_0.length c0_0, .slice A0_1 l0_1.length c0_1, .slice A0_2 l0_2.length c0_2, .slice A0_3 l0_3.length c0_3, .int .i64 a0_4, .bool a0_5, .int .i64 a0_6, .int .i64 a0_7] 27 (0, 0))) := ⟨by rw [← hq_]; exact (bp BK121)⟩
 replace HB : Aside0 (Below w.heap.size w w22) := ⟨by rw [← hq_]; exact (bw HB)⟩
 clear hq_
 have H := HC20.out
 clear HC20
 refine qI H ?_ ?_ <;> clear H <;> intro c23b0 H
 ·(first | rw [c23b0] | (simp only [i64_w, i32_w]; rw [c23b0]) | skip)
  obtain rfl := Option.some.inj H
  go_wp2
  go_ret
  exact ⟨er, bw HB⟩
 (first | rw [c23b0] | (simp only [i64_w, i32_w]; rw [c23b0]) | skip)
 obtain rfl := Option.some.inj H
 go_wp2
 go_ret
 exact ⟨er, bw HB⟩

def spec_l06Nums.f (l0 : List Int) : Option (List Int) := (some (([] : List Int) : List Int)).bind fun y126 => (if y126.length + l0.length < 17592186044416 then (some (y126 ++ l0)) else (none))
theorem spec_l06Nums.calls (A0 : Option Addr) (c0 : Nat) (l0 : List Int) (r : List Int) (w : World) (hr0 : Kd.C (Kd.int .i64) w A0 l0.length l0) (hc0 : l0.length ≤ c0) (h : spec_l06Nums.f l0 = some r) :
  Calls Try.prog 17 #[.slice A0 l0.length c0] w fun e w' => ∃ v0_ : Value, e = .returned (v0_) ∧ Kd.R (Kd.int .i64) 2 w' w.heap.size (fun _ => True) v0_ r ∧ Below w.heap.size w w' := by
 have HR0 := am hr0
 have HC0 := am hc0
 clear hr0 hc0
 have HB := am (Below.refl w.heap.size w)
 have H : ((some (([] : List Int) : List Int)).bind fun y126 => (if y126.length + l0.length < 17592186044416 then (some (y126 ++ l0)) else (none))) = some r := h
 clear h
 obtain ⟨y126, hy126⟩ : ∃ y_ : List Int, y_ = (([] : List Int)) := ⟨_, rfl⟩
 replace H : (if y126.length + l0.length < 17592186044416 then (some (y126 ++ l0)) else (none)) = some r := by first | (rw [hy126]; with_reducible exact H) | (have H2_ := (Option.bind_some _ _).symm.trans H; rw [hy126]; with_reducible exact H2_) | (have H2_ := (Option.bind_some _ _).symm.trans H; with_reducible exact H2_) | with_reducible exact H | (rw [hy126]; exact H) | exact H
 have Ny126 := am hy126
 clear hy126
 refine iN H ?_; clear H; intro c2 H
 have LMc2 := am c2
 clear c2
 obtain ⟨y129, hy129⟩ : ∃ y_ : List Int, y_ = (y126 ++ l0) := ⟨_, rfl⟩
 replace H : (some y129) = some r := by first | (rw [hy129]; with_reducible exact H) | (have H2_ := (Option.bind_some _ _).symm.trans H; rw [hy129]; with_reducible exact H2_) | (have H2_ := (Option.bind_some _ _).symm.trans H; with_reducible exact H2_) | with_reducible exact H | (rw [hy129]; exact H) | exact H
 have Ny129 := am hy129
 clear hy129
 obtain rfl := Option.some.inj H
 go_enter Try.func17, Try.ntmps17
 go_wp2_with (first | ((with_reducible refine gate_dst (N := 3) rfl ?_); refine Kd.R_lit (Kd.int .i64) _ 2 ?hg (N := 3) ?hd (xs := ([] : List Int)) (inner := []) (ok := fun _ => True) (okp := fun _ => True) ?hr ?hp (fun _ hk => hk) trivial (Below.refl _ _) (Nat.le_refl _) (by simp) ?_; (case hd => rfl); (case hg => rfl); (case hr => exact gs); (case hp => exact (Reps.none _ _)); intro v127 w3 ho4 hb hg_ hnew_; clear hg_ hnew_; (first | rw [← Ny126.out] at ho4 | (simp only [Int.reduceToNat] at ho4; rw [← Ny126.out] at ho4)); have HO128 := am (Kd.R_lower ho4 (below_size (bw HB))); replace HB := bs HB hb; clear hb ho4) | ((with_reducible refine gate_builtin (b := .append) (xs := #[.tmp 3, .tmp 4]) rfl ?_); at_builtin; refine Kd.R_append_rows (Kd.int .i64) (w0 := w) w.heap.size rfl (.tmp 3) (.tmp 4) 25 2 (.int .i64 0) 8 rfl Try.underlying25 info2 rfl (by decide) (by omega) v127 y126 l0 _ _ _ (fun _ => True) (fun _ => False) rfl rfl ?aO ?aR (fun _ _ h => h) (fun _ h => h.elim) ?aF ?aB ?aS ?aL ?_; (case aR => exact cc (Kd.C_below HR0.out HB.out)); (case aB => exact (bw HB)); (case aF => exact (fun _ _ => trivial)); (case aO => exact (kR HO128)); (case aS => exact (below_size (bw HB))); (case aL => have := LMc2.out; omega); intro v130 w5 ho hb hg hat; rw [← Ny129.out] at ho; replace HB := am (hb); have HO131 := am (ho); clear HO128; clear ho hb hg hat))
 go_ret
 exact ⟨_, er, kR HO131, bw HB⟩

end Go.Proofs.Yticdldoijkdffaa.QFnExactMixTold
