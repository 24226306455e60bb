import Derived.Test.YticdldoijkdffaaCFnExactMixToldx0
import Derived.Test.YticdldoijkdffaaCFnExactMixToldx12
namespace Go.Proofs.Yticdldoijkdffaa.QFnExactMixTold
open Go.RowKit Go.Proofs.YticdldoijkdffaaW
open PrintWords PrintLast PrintMore PrintShort PrintIsh
attribute [local go_sem] max2_int min2_int max_two min_two max_three min_three max_four min_four   -- for this text's walks alone
set_option linter.unusedVariables false
set_option maxHeartbeats 8000000
set_option maxRecDepth 100000
set_option linter.unusedSimpArgs false

def laws_heldInt64SS.l0 : Nat → List (List Int) → Int → Int → Option (Int)
 | 0, _, _, _ => none
 | k + 1, x0, x1, x5 => if x5 < (x0.length : Int) then (if 0 ≤ x5 then ((laws_heldInt64S.f k (rd_L10 x0 x5) x1).bind fun t378 => (if t378 < 0 then (some (-1)) else (laws_heldInt64SS.l0 k x0 t378 (wrap64 (x5 + 1))))) else (none)) else (some x1)
def laws_heldInt64SS.f (k : Nat) (l0 : List (List Int)) (a1 : Int) : Option (Int) := laws_heldInt64SS.l0 k l0 a1 0
theorem laws_heldInt64SS.mono_l : ∀ k, (∀ y0 y1 y2, LeO (laws_heldInt64SS.l0 k y0 y1 y2) (laws_heldInt64SS.l0 (k + 1) y0 y1 y2))
 | 0 => fun _ _ _ r h => by simp [laws_heldInt64SS.l0] at h
 | k + 1 => by
  have ih0 := laws_heldInt64SS.mono_l k
  ·intro y0 y1 y2
   unfold laws_heldInt64SS.l0
   with_reducible repeat' first | exact ih0 .. | exact laws_heldInt64S.mono .. | exact LeO.refl _ | exact LeO.none _ | refine LeO.ite ?_ ?_ | refine LeO.bind ?_ (fun _ => ?_)
theorem laws_heldInt64SS.mono : ∀ a0 a1 k, LeO (laws_heldInt64SS.f k a0 a1) (laws_heldInt64SS.f (k + 1) a0 a1) := by
 intro a0 a1 k
 have ih0 := laws_heldInt64SS.mono_l k
 unfold laws_heldInt64SS.f
 with_reducible repeat' first | exact ih0 .. | exact laws_heldInt64S.mono .. | exact LeO.refl _ | exact LeO.none _ | refine LeO.ite ?_ ?_ | refine LeO.bind ?_ (fun _ => ?_)
theorem laws_heldInt64SS.calls (k : Nat) (A0 : Option Addr) (c0 : Nat) (l0 : List (List Int)) (a1 : Int) (r : Int) (w : World) (hr0 : Kd.C (Kd.slice 2 (Kd.int .i64)) w A0 l0.length l0) (hc0 : l0.length ≤ c0) (h : laws_heldInt64SS.f k l0 a1 = some r) :
  Calls Try.prog 34 #[.slice A0 l0.length c0, .int .i64 a1] w fun e w' => e = .returned (.int .i64 r) ∧ Drawn0 w w' := by
 have HR0 := am hr0
 have HC0 := am hc0
 clear hr0 hc0
 have H : (laws_heldInt64SS.l0 k l0 a1 0) = some r := h
 clear h
 have H' := am H
 clear H
 go_enter Try.func34, Try.ntmps34
 go_wp2
 go_loopg [1, 5] k (fun kq v1 v5 w' => ∃ (x1_1 : Int) (x5_1 : Int), v1 = .int .i64 x1_1 ∧ v5 = .int .i64 x5_1 ∧ Aside0 (laws_heldInt64SS.l0 kq l0 x1_1 x5_1 = some r) ∧ Aside0 (kq ≤ k) ∧ Drawn0 w w')
 case atStart => exact ⟨(a1), (0), dr, dr, H', ⟨Nat.le_refl _⟩, by repeat (first | exact Drawn0.refl _ | apply Drawn0.step)⟩
 clear H'
 try clear p2
 obtain ⟨x1_1, x5_1, rfl, rfl, HA, HK1, ⟨m1, rfl⟩⟩ := hrel
 rcases gk with _ | k1
 ·exact absurd HA.out (by simp [laws_heldInt64SS.l0])
 have H := HA.out
 clear HA
 simp only [laws_heldInt64SS.l0] at H
 refine qI H ?_ ?_ <;> clear H <;> intro c3b0 H
 ·refine iM H ?_; clear H; intro c4b0 H
  refine be H ?_; clear H; intro t378 A5 H
  have HC6 := am H
  clear H
  have p377 : 0 ≤ (x5_1 : Int) := of_decide_eq_true as1
  have q377 : x5_1 < (l0.length : Int) := of_decide_eq_true as1
  obtain ⟨ad377, A377_0, c377_0, e377, hx377_0, hl377_0, hi377_0⟩ := at_L10 HR0.out x5_1 p377 q377
  cases e377
  have HR377_0 := am hi377_0
  have HC377_0 := am hl377_0
  clear hi377_0 hl377_0
  replace p377 := eq_true p377
  replace q377 := eq_true q377
  go_upto_if 19 with (first | ((with_reducible refine gk 35 rfl ?_); refine gD 35 (some 17) Try.func35 #[.slice A377_0 (rd_L10 l0 x5_1).length c377_0, .int .i64 x1_1] (laws_heldInt64S.calls k1 _ _ (rd_L10 l0 x5_1) x1_1 t378 _ (by repeat (first | exact HR377_0.out | (with_reducible refine Kd.C_alloc ?_ _) | (with_reducible refine Kd.C_drewN ?_ _) | (with_reducible refine Kd.C_drew ?_))) HC377_0.out A5.out) ?_; intro nd))
  (try simp only [Act.put, sa, sz, ss])
  have H := HC6.out
  clear HC6
  refine qI H ?_ ?_ <;> clear H <;> intro c7b0 H
  ·(first | rw [c7b0] | (simp only [i64_w, i32_w]; rw [c7b0]) | skip)
   obtain rfl := Option.some.inj H
   go_wp2
   go_ret
   exact ⟨by first | rfl | (simp; done) | (simp [*]; done), by repeat (first | exact Drawn0.refl _ | apply Drawn0.step)⟩
  (first | rw [c7b0] | (simp only [i64_w, i32_w]; rw [c7b0]) | skip)
  have H' := am H
  clear H
  go_wp2
  go_roundg k1
  case measure => have := HK1.out; omega
  case rel => exact ⟨(t378), (wrap64 (x5_1 + 1)), dr, dr, H', ⟨by have := HK1.out; omega⟩, by repeat (first | exact Drawn0.refl _ | apply Drawn0.step)⟩
 obtain rfl := Option.some.inj H
 go_wp2
 go_ret
 exact ⟨by first | rfl | (simp; done) | (simp [*]; done), by repeat (first | exact Drawn0.refl _ | apply Drawn0.step)⟩

def laws_heldState.f (k : Nat) (l0_0 : List (S79)) (l0_1 : List (List Int)) (l0_2 : List Int) (a0_3 : Int) (a0_4 : Bool) (a0_5 : Int) (a0_6 : Int) (a1 : Int) : Option (Int) := (laws_heldFrameS.f k l0_0 a1).bind fun t380 => (if t380 < 0 then (some (-1)) else ((laws_heldInt64SS.f k l0_1 t380).bind fun t381 => (if t381 < 0 then (some (-1)) else ((laws_heldInt64S.f k l0_2 t381).bind fun t382 => (if t382 < 0 then (some (-1)) else (some t382))))))
theorem laws_heldState.mono : ∀ a0 a1 a2 a3 a4 a5 a6 a7 k, LeO (laws_heldState.f k a0 a1 a2 a3 a4 a5 a6 a7) (laws_heldState.f (k + 1) a0 a1 a2 a3 a4 a5 a6 a7) := by
 intro a0 a1 a2 a3 a4 a5 a6 a7 k
 unfold laws_heldState.f
 with_reducible repeat' first | exact laws_heldFrameS.mono .. | exact laws_heldInt64S.mono .. | exact laws_heldInt64SS.mono .. | exact LeO.refl _ | exact LeO.none _ | refine LeO.ite ?_ ?_ | refine LeO.bind ?_ (fun _ => ?_)
theorem laws_heldState.calls (k : Nat) (A0_0 : Option Addr) (c0_0 : Nat) (l0_0 : List (S79)) (A0_1 : Option Addr) (c0_1 : Nat) (l0_1 : List (List Int)) (A0_2 : Option Addr) (c0_2 : Nat) (l0_2 : List Int) (a0_3 : Int) (a0_4 : Bool) (a0_5 : Int) (a0_6 : Int) (a1 : Int) (r : Int) (w : World) (hr0_0 : Kd.C k79 w A0_0 l0_0.length l0_0) (hc0_0 : l0_0.length ≤ c0_0) (hr0_1 : Kd.C (Kd.slice 2 (Kd.int .i64)) w A0_1 l0_1.length l0_1) (hc0_1 : l0_1.length ≤ c0_1) (hr0_2 : Kd.C (Kd.int .i64) w A0_2 l0_2.length l0_2) (hc0_2 : l0_2.length ≤ c0_2) (h : laws_heldState.f k l0_0 l0_1 l0_2 a0_3 a0_4 a0_5 a0_6 a1 = some r) :
  Calls Try.prog 12 #[.agg #[.slice A0_0 l0_0.length c0_0, .slice A0_1 l0_1.length c0_1, .slice A0_2 l0_2.length c0_2, .int .i64 a0_3, .bool a0_4, .int .i64 a0_5, .int .i64 a0_6], .int .i64 a1] w fun e w' => e = .returned (.int .i64 r) ∧ Below w.heap.size w w' := by
 have hu31 := Try.underlying31
 have HR0_0 := am hr0_0
 have HC0_0 := am hc0_0
 clear hr0_0 hc0_0
 have HR0_1 := am hr0_1
 have HC0_1 := am hc0_1
 clear hr0_1 hc0_1
 have HR0_2 := am hr0_2
 have HC0_2 := am hc0_2
 clear hr0_2 hc0_2
 have HB := am (Below.refl w.heap.size w)
 have H : ((laws_heldFrameS.f k l0_0 a1).bind fun t380 => (if t380 < 0 then (some (-1)) else ((laws_heldInt64SS.f k l0_1 t380).bind fun t381 => (if t381 < 0 then (some (-1)) else ((laws_heldInt64S.f k l0_2 t381).bind fun t382 => (if t382 < 0 then (some (-1)) else (some t382))))))) = some r := h
 clear h
 refine be H ?_; clear H; intro t380 A3 H
 have HC4 := am H
 clear H
 go_enter Try.func12, Try.ntmps12
 go_upto_if 10 with (first | ((with_reducible refine gd 2 rfl ?_); refine bX 2 #[.slice A0_0 l0_0.length c0_0, .slice A0_1 l0_1.length c0_1, .slice A0_2 l0_2.length c0_2, .int .i64 a0_3, .bool a0_4, .int .i64 a0_5, .int .i64 a0_6] 31 HB ?_; clear HB; intro gb379 w5 hg hb BK379 GW379 HB; clear hb hg; have hcz6_0 := bk w5 BK379 0; have hcz6_1 := bk w5 BK379 1; have hcz6_2 := bk w5 BK379 2; have hcz6_3 := bk w5 BK379 3; have hcz6_4 := bk w5 BK379 4; have hcz6_5 := bk w5 BK379 5; have hcz6_6 := bk w5 BK379 6; have hfz6_0 := bf BK379 0; have hfz6_1 := bf BK379 1; have hfz6_2 := bf BK379 2; have hfz6_3 := bf BK379 3; have hfz6_4 := bf BK379 4; have hfz6_5 := bf BK379 5; have hfz6_6 := bf BK379 6) | ((with_reducible refine gk 33 rfl ?_); refine gD 33 (some 8) Try.func33 #[.slice A0_0 l0_0.length c0_0, .int .i64 a1] (laws_heldFrameS.calls k _ _ l0_0 a1 t380 _ (cc (Kd.C_below HR0_0.out HB.out)) HC0_0.out A3.out) ?_; intro nd))
 (try simp only [Act.put, sa, sz, ss])
 (try simp only [World.drewN_drewN])
 generalize hq_ : World.drewN w5 _ = w7
 replace BK379 : Aside0 (w7.heap[gb379]? = some (.cells #[.slice A0_0 l0_0.length c0_0, .slice A0_1 l0_1.length c0_1, .slice A0_2 l0_2.length c0_2, .int .i64 a0_3, .bool a0_4, .int .i64 a0_5, .int .i64 a0_6] 31 (0, 0))) := ⟨by rw [← hq_]; exact (bp BK379)⟩
 replace HB : Aside0 (Below w.heap.size w w7) := ⟨by rw [← hq_]; exact (bw HB)⟩
 clear hq_
 have H := HC4.out
 clear HC4
 refine qI H ?_ ?_ <;> clear H <;> intro c8b0 H
 ·(first | rw [c8b0] | (simp only [i64_w, i32_w]; rw [c8b0]) | skip)
  obtain rfl := Option.some.inj H
  go_wp2
  go_ret
  exact ⟨er, bw HB⟩
 (first | rw [c8b0] | (simp only [i64_w, i32_w]; rw [c8b0]) | skip)
 refine be H ?_; clear H; intro t381 A9 H
 have HC10 := am H
 clear H
 have hcz11_0 := bk w7 BK379 0
 have hcz11_1 := bk w7 BK379 1
 have hcz11_2 := bk w7 BK379 2
 have hcz11_3 := bk w7 BK379 3
 have hcz11_4 := bk w7 BK379 4
 have hcz11_5 := bk w7 BK379 5
 have hcz11_6 := bk w7 BK379 6
 have hfz11_0 := bf BK379 0
 have hfz11_1 := bf BK379 1
 have hfz11_2 := bf BK379 2
 have hfz11_3 := bf BK379 3
 have hfz11_4 := bf BK379 4
 have hfz11_5 := bf BK379 5
 have hfz11_6 := bf BK379 6
 go_upto_if 16 with (first | ((with_reducible refine gk 34 rfl ?_); refine gD 34 (some 14) Try.func34 #[.slice A0_1 l0_1.length c0_1, .int .i64 t380] (laws_heldInt64SS.calls k _ _ l0_1 t380 t381 _ (cc (Kd.C_below HR0_1.out HB.out)) HC0_1.out A9.out) ?_; intro nd))
 (try simp only [Act.put, sa, sz, ss])
 (try simp only [World.drewN_drewN])
 generalize hq_ : World.drewN w7 _ = w12
 replace BK379 : Aside0 (w12.heap[gb379]? = some (.cells #[.slice A0_0 l0_0.length c0_0, .slice A0_1 l0_1.length c0_1, .slice A0_2 l0_2.length c0_2, .int .i64 a0_3, .bool a0_4, .int .i64 a0_5, .int .i64 a0_6] 31 (0, 0))) := ⟨by rw [← hq_]; exact (bp BK379)⟩
 replace HB : Aside0 (Below w.heap.size w w12) := ⟨by rw [← hq_]; exact (bw HB)⟩
 clear hq_
 have H := HC10.out
 clear HC10
 refine qI H ?_ ?_ <;> clear H <;> intro c13b0 H
 ·(first | rw [c13b0] | (simp only [i64_w, i32_w]; rw [c13b0]) | skip)
  obtain rfl := Option.some.inj H
  go_wp2
  go_ret
  exact ⟨er, bw HB⟩
 (first | rw [c13b0] | (simp only [i64_w, i32_w]; rw [c13b0]) | skip)
 refine be H ?_; clear H; intro t382 A14 H
 have HC15 := am H
 clear H
 have hcz16_0 := bk w12 BK379 0
 have hcz16_1 := bk w12 BK379 1
 have hcz16_2 := bk w12 BK379 2
 have hcz16_3 := bk w12 BK379 3
 have hcz16_4 := bk w12 BK379 4
 have hcz16_5 := bk w12 BK379 5
 have hcz16_6 := bk w12 BK379 6
 have hfz16_0 := bf BK379 0
 have hfz16_1 := bf BK379 1
 have hfz16_2 := bf BK379 2
 have hfz16_3 := bf BK379 3
 have hfz16_4 := bf BK379 4
 have hfz16_5 := bf BK379 5
 have hfz16_6 := bf BK379 6
 go_upto_if 22 with (first | ((with_reducible refine gk 35 rfl ?_); refine gD 35 (some 20) Try.func35 #[.slice A0_2 l0_2.length c0_2, .int .i64 t381] (laws_heldInt64S.calls k _ _ l0_2 t381 t382 _ (cc (Kd.C_below HR0_2.out HB.out)) HC0_2.out A14.out) ?_; intro nd))
 (try simp only [Act.put, sa, sz, ss])
 (try simp only [World.drewN_drewN])
 generalize hq_ : World.drewN w12 _ = w17
 replace BK379 : Aside0 (w17.heap[gb379]? = some (.cells #[.slice A0_0 l0_0.length c0_0, .slice A0_1 l0_1.length c0_1, .slice A0_2 l0_2.length c0_2, .int .i64 a0_3, .bool a0_4, .int .i64 a0_5, .int .i64 a0_6] 31 (0, 0))) := ⟨by rw [← hq_]; exact (bp BK379)⟩
 replace HB : Aside0 (Below w.heap.size w w17) := ⟨by rw [← hq_]; exact (bw HB)⟩
 clear hq_
 have H := HC15.out
 clear HC15
 refine qI H ?_ ?_ <;> clear H <;> intro c18b0 H
 ·(first | rw [c18b0] | (simp only [i64_w, i32_w]; rw [c18b0]) | skip)
  obtain rfl := Option.some.inj H
  go_wp2
  go_ret
  exact ⟨er, bw HB⟩
 (first | rw [c18b0] | (simp only [i64_w, i32_w]; rw [c18b0]) | skip)
 obtain rfl := Option.some.inj H
 go_wp2
 go_ret
 exact ⟨er, bw HB⟩

-- NOT PRINTED: function 3 (laws_FnExactMixTold)

end Go.Proofs.Yticdldoijkdffaa.QFnExactMixTold
