import Derived.Test.YtbmjmaahcaoajaaCFnExactGuessx0
import Derived.Test.YtbmjmaahcaoajaaCFnExactGuessx7
namespace Go.Proofs.Ytbmjmaahcaoajaa.QFnExactGuess
open Go.RowKit Go.Proofs.YtbmjmaahcaoajaaW
open PrintWords PrintLast PrintMore PrintShort PrintIsh
attribute [local go_sem] max2_int min2_int max_two min_two max_three min_three max_four min_four   -- for this text's walks alone
set_option linter.unusedVariables false
set_option maxHeartbeats 8000000
set_option maxRecDepth 100000
set_option linter.unusedSimpArgs false

def spec_l07Less.f (a0_0 : Int) (a0_1 : Int) (a0_2 : Int) (a0_3 : Int) (a1_0 : Int) (a1_1 : Int) (a1_2 : Int) (a1_3 : Int) : Option (Bool) := if a0_0 < a1_0 then (some true) else (if a0_0 = a1_0 then (some (decide (a0_1 < a1_1))) else (some false))
theorem spec_l07Less.calls (a0_0 : Int) (a0_1 : Int) (a0_2 : Int) (a0_3 : Int) (a1_0 : Int) (a1_1 : Int) (a1_2 : Int) (a1_3 : Int) (r : Bool) (w : World) (h : spec_l07Less.f a0_0 a0_1 a0_2 a0_3 a1_0 a1_1 a1_2 a1_3 = some r) :
  Calls Try.prog 71 #[.agg #[.int .i64 a0_0, .int .i64 a0_1, .int .i64 a0_2, .int .i64 a0_3], .agg #[.int .i64 a1_0, .int .i64 a1_1, .int .i64 a1_2, .int .i64 a1_3]] w fun e w' => e = .returned (.bool r) ∧ Below w.heap.size w w' := by
 have hu108 := Try.underlying108
 have HB := am (Below.refl w.heap.size w)
 have H : (if a0_0 < a1_0 then (some true) else (if a0_0 = a1_0 then (some (decide (a0_1 < a1_1))) else (some false))) = some r := h
 clear h
 refine qI H ?_ ?_ <;> clear H <;> intro c3b0 H
 ·obtain rfl := Option.some.inj H
  go_enter Try.func71, Try.ntmps71
  go_wp2_with (first | ((with_reducible refine gd 2 rfl ?_); refine bX 2 #[.int .i64 a0_0, .int .i64 a0_1, .int .i64 a0_2, .int .i64 a0_3] 108 HB ?_; clear HB; intro gb260 w4 hg hb BK260 GW260 HB; clear hb hg) | ((with_reducible refine gd 3 rfl ?_); refine bX 3 #[.int .i64 a1_0, .int .i64 a1_1, .int .i64 a1_2, .int .i64 a1_3] 108 HB ?_; clear HB; intro gb261 w5 hg hb BK261 GW261 HB; obtain ⟨NB260_261, NB261_260, BK260⟩ := b3 hg BK260 hb; clear hb hg; have hnb6 := NB260_261.out; have hnc6 := NB261_260.out; have hcz7 := bK w5 BK260; have hfz7 := bF BK260; have hcz8 := bK w5 BK261; have hfz8 := bF BK261))
  go_ret
  exact ⟨er, bw HB⟩
 refine qE H ?_ ?_ <;> clear H
 ·intro c9b0 c9b1 H
  obtain rfl := Option.some.inj H
  go_enter Try.func71, Try.ntmps71
  go_wp2_with (first | ((with_reducible refine gd 2 rfl ?_); refine bX 2 #[.int .i64 a0_0, .int .i64 a0_1, .int .i64 a0_2, .int .i64 a0_3] 108 HB ?_; clear HB; intro gb260 w10 hg hb BK260 GW260 HB; clear hb hg) | ((with_reducible refine gd 3 rfl ?_); refine bX 3 #[.int .i64 a1_0, .int .i64 a1_1, .int .i64 a1_2, .int .i64 a1_3] 108 HB ?_; clear HB; intro gb261 w11 hg hb BK261 GW261 HB; obtain ⟨NB260_261, NB261_260, BK260⟩ := b3 hg BK260 hb; clear hb hg; have hnb12 := NB260_261.out; have hnc12 := NB261_260.out; have hcz13 := bK w11 BK260; have hfz13 := bF BK260; have hcz14 := bK w11 BK261; have hfz14 := bF BK261))
  go_ret
  exact ⟨er, bw HB⟩
 intro c9 c9b0 c9b1 H
 obtain rfl := Option.some.inj H
 go_enter Try.func71, Try.ntmps71
 go_wp2_with (first | ((with_reducible refine gd 2 rfl ?_); refine bX 2 #[.int .i64 a0_0, .int .i64 a0_1, .int .i64 a0_2, .int .i64 a0_3] 108 HB ?_; clear HB; intro gb260 w15 hg hb BK260 GW260 HB; clear hb hg) | ((with_reducible refine gd 3 rfl ?_); refine bX 3 #[.int .i64 a1_0, .int .i64 a1_1, .int .i64 a1_2, .int .i64 a1_3] 108 HB ?_; clear HB; intro gb261 w16 hg hb BK261 GW261 HB; obtain ⟨NB260_261, NB261_260, BK260⟩ := b3 hg BK260 hb; clear hb hg; have hnb17 := NB260_261.out; have hnc17 := NB261_260.out; have hcz18 := bK w16 BK260; have hfz18 := bF BK260; have hcz19 := bK w16 BK261; have hfz19 := bF BK261))
 go_ret
 exact ⟨er, bw HB⟩

mutual
def spec_SeenRight.j0 : Nat → List (S108) → Bool → List (S100) → Option (Bool)
 | 0, _, _, _ => none
 | k + 1, x1, x14, x263000 => if x14 = true then (some false) else (spec_SeenRight.l0 k x1 0 x263000)
def spec_SeenRight.l0 : Nat → List (S108) → Int → List (S100) → Option (Bool)
 | 0, _, _, _ => none
 | k + 1, x1, x5, x263000 => if x5 < (x1.length : Int) then (if 0 ≤ x5 then ((spec_l07Jz.f x263000 ((rd_T108 x1 x5).f0) ((rd_T108 x1 x5).f1)).bind fun t266 => (if t266 = true then (if ((rd_T108 x1 x5).f2) < 0 then (spec_SeenRight.j2 k x1 x5 true x263000 ((rd_T108 x1 x5).f0) ((rd_T108 x1 x5).f1) ((rd_T108 x1 x5).f2) ((rd_T108 x1 x5).f3)) else (if ((rd_T108 x1 x5).f2) > 1000000 then (spec_SeenRight.j2 k x1 x5 true x263000 ((rd_T108 x1 x5).f0) ((rd_T108 x1 x5).f1) ((rd_T108 x1 x5).f2) ((rd_T108 x1 x5).f3)) else (if ((rd_T108 x1 x5).f3) < 0 then (spec_SeenRight.j2 k x1 x5 true x263000 ((rd_T108 x1 x5).f0) ((rd_T108 x1 x5).f1) ((rd_T108 x1 x5).f2) ((rd_T108 x1 x5).f3)) else (if ((rd_T108 x1 x5).f3) > 1000000 then (spec_SeenRight.j2 k x1 x5 true x263000 ((rd_T108 x1 x5).f0) ((rd_T108 x1 x5).f1) ((rd_T108 x1 x5).f2) ((rd_T108 x1 x5).f3)) else (spec_SeenRight.j2 k x1 x5 ((wrap64 (((rd_T108 x1 x5).f2) + ((rd_T108 x1 x5).f3))) == 0) x263000 ((rd_T108 x1 x5).f0) ((rd_T108 x1 x5).f1) ((rd_T108 x1 x5).f2) ((rd_T108 x1 x5).f3)))))) else (spec_SeenRight.j2 k x1 x5 true x263000 ((rd_T108 x1 x5).f0) ((rd_T108 x1 x5).f1) ((rd_T108 x1 x5).f2) ((rd_T108 x1 x5).f3)))) else (none)) else (some true)
def spec_SeenRight.j2 : Nat → List (S108) → Int → Bool → List (S100) → Int → Int → Int → Int → Option (Bool)
 | 0, _, _, _, _, _, _, _, _ => none
 | k + 1, x1, x5, x59, x263000, x266000, x266001, x266002, x266003 => if x59 = true then (some false) else (if x5 > 0 then (if 0 ≤ (wrap64 (x5 - 1)) then (if (wrap64 (x5 - 1)) < (x1.length : Int) then ((spec_l07Less.f ((rd_T108 x1 (wrap64 (x5 - 1))).f0) ((rd_T108 x1 (wrap64 (x5 - 1))).f1) ((rd_T108 x1 (wrap64 (x5 - 1))).f2) ((rd_T108 x1 (wrap64 (x5 - 1))).f3) x266000 x266001 x266002 x266003).bind fun t268 => (if t268 = true then (spec_SeenRight.l0 k x1 (wrap64 (x5 + 1)) x263000) else (some false))) else (none)) else (none)) else (spec_SeenRight.l0 k x1 (wrap64 (x5 + 1)) x263000))
end
def spec_SeenRight.f (k : Nat) (l0_0 : List (S100)) (l1 : List (S108)) : Option (Bool) := if (l1.length : Int) > 400 then (spec_SeenRight.j0 k l1 true l0_0) else ((spec_l04Right.f k l0_0).bind fun t263 => (spec_SeenRight.j0 k l1 (!t263) l0_0))
theorem spec_SeenRight.mono_l : ∀ k, (∀ y0 y1 y2, LeO (spec_SeenRight.j0 k y0 y1 y2) (spec_SeenRight.j0 (k + 1) y0 y1 y2)) ∧ (∀ y0 y1 y2, LeO (spec_SeenRight.l0 k y0 y1 y2) (spec_SeenRight.l0 (k + 1) y0 y1 y2)) ∧ (∀ y0 y1 y2 y3 y4 y5 y6 y7, LeO (spec_SeenRight.j2 k y0 y1 y2 y3 y4 y5 y6 y7) (spec_SeenRight.j2 (k + 1) y0 y1 y2 y3 y4 y5 y6 y7))
 | 0 => ⟨fun _ _ _ r h => by simp [spec_SeenRight.j0] at h, fun _ _ _ r h => by simp [spec_SeenRight.l0] at h, fun _ _ _ _ _ _ _ _ r h => by simp [spec_SeenRight.j2] at h⟩
 | k + 1 => by
  obtain ⟨ih0, ih1, ih2⟩ := spec_SeenRight.mono_l k
  refine ⟨?_, ?_, ?_⟩
  ·intro y0 y1 y2
   unfold spec_SeenRight.j0
   with_reducible repeat' first | exact ih0 .. | exact ih1 .. | exact ih2 .. | exact spec_l04Right.mono .. | exact LeO.refl _ | exact LeO.none _ | refine LeO.ite ?_ ?_ | refine LeO.bind ?_ (fun _ => ?_)
  ·intro y0 y1 y2
   unfold spec_SeenRight.l0
   with_reducible repeat' first | exact ih0 .. | exact ih1 .. | exact ih2 .. | exact spec_l04Right.mono .. | exact LeO.refl _ | exact LeO.none _ | refine LeO.ite ?_ ?_ | refine LeO.bind ?_ (fun _ => ?_)
  ·intro y0 y1 y2 y3 y4 y5 y6 y7
   unfold spec_SeenRight.j2
   with_reducible repeat' first | exact ih0 .. | exact ih1 .. | exact ih2 .. | exact spec_l04Right.mono .. | exact LeO.refl _ | exact LeO.none _ | refine LeO.ite ?_ ?_ | refine LeO.bind ?_ (fun _ => ?_)
theorem spec_SeenRight.mono : ∀ a0 a1 k, LeO (spec_SeenRight.f k a0 a1) (spec_SeenRight.f (k + 1) a0 a1) := by
 intro a0 a1 k
 obtain ⟨ih0, ih1, ih2⟩ := spec_SeenRight.mono_l k
 unfold spec_SeenRight.f
 with_reducible repeat' first | exact ih0 .. | exact ih1 .. | exact ih2 .. | exact spec_l04Right.mono .. | exact LeO.refl _ | exact LeO.none _ | refine LeO.ite ?_ ?_ | refine LeO.bind ?_ (fun _ => ?_)
def spec_SeenRight.T9 : Bool × List (List Nat × List Nat) := (true, [([], []), ([0], [0]), ([1], [1]), ([2], [2]), ([2], [2]), ([4, 2], [2, 4]), ([3, 5, 2], [2, 3, 5]), ([6, 2], [2, 6]), ([2], [2]), ([7, 8, 2, 2], [2, 7, 8]), ([9, 2], [2, 9]), ([2, 10], [2, 10])])
def spec_SeenRight.B9 : List Nat := [0, 1, 3, 7, 7, 23, 63, 127, 7, 511, 1023, 2047]
theorem spec_SeenRight.tab9 : rtab .any (opsOf Try.f28 9) = spec_SeenRight.T9 := by kernel_rfl
theorem spec_SeenRight.bits9 : waitsOk spec_SeenRight.T9.2 spec_SeenRight.B9 = true := by kernel_rfl
theorem spec_SeenRight.calls (k : Nat) (A0_0 : Option Addr) (c0_0 : Nat) (l0_0 : List (S100)) (A1 : Option Addr) (c1 : Nat) (l1 : List (S108)) (r : Bool) (w : World) (hr0_0 : Kd.C k100 w A0_0 l0_0.length l0_0) (hc0_0 : l0_0.length ≤ c0_0) (hr1 : Kd.C k108 w A1 l1.length l1) (hc1 : l1.length ≤ c1) (h : spec_SeenRight.f k l0_0 l1 = some r) :
  Calls Try.prog 28 #[.agg #[.slice A0_0 l0_0.length c0_0], .slice A1 l1.length c1] w fun e w' => e = .returned (.bool r) ∧ Below w.heap.size w w' := by
 have hu30 := Try.underlying30
 have hu108 := Try.underlying108
 have HR0_0 := am hr0_0
 have HC0_0 := am hc0_0
 clear hr0_0 hc0_0
 have HR1 := am hr1
 have HC1 := am hc1
 clear hr1 hc1
 have HB := am (Below.refl w.heap.size w)
 have H : (if (l1.length : Int) > 400 then (spec_SeenRight.j0 k l1 true l0_0) else ((spec_l04Right.f k l0_0).bind fun t263 => (spec_SeenRight.j0 k l1 (!t263) l0_0))) = some r := h
 clear h
 have HC3 := am H
 clear H
 go_enter Try.func28, Try.ntmps28
 go_upto_region 1 with (first | ((with_reducible refine gd 2 rfl ?_); refine bX 2 #[.slice A0_0 l0_0.length c0_0] 30 HB ?_; clear HB; intro gb262 w4 hg hb BK262 GW262 HB; clear hb hg))
 (try simp only [Act.put, sa, sz, ss])
 go_cut [14] (fun v14 wc => ∃ (kq : Nat) (x14_2 : Bool), v14 = .bool x14_2 ∧ Aside0 (spec_SeenRight.j0 kq l1 x14_2 l0_0 = some r) ∧ Aside0 (kq ≤ k) ∧ Aside0 (wc.heap[gb262]? = some (.cells #[(.slice A0_0 l0_0.length c0_0)] 30 (0, 0))) ∧ Aside0 (Below w.heap.size w wc))
 case first =>
  have H := HC3.out
  clear HC3
  refine qG H ?_ ?_ <;> clear H <;> intro c5b0 H
  ·have c5 := of_decide_eq_true c5b0
   have c5b1 : decide (400 < l1.length) = true := decide_eq_true (by omega)
   clear c5
   (first | rw [c5b0] | (simp only [i64_w, i32_w]; rw [c5b0]) | skip)
   have H' := am H
   clear H
   go_wp2
   go_meet
   case rel => exact ⟨_, (true), dr, H', ⟨lk0⟩, ⟨bp BK262⟩, ⟨bw HB⟩⟩
  have c5 := of_decide_eq_false c5b0
  have c5b1 : decide (400 < l1.length) = false := decide_eq_false (by omega)
  clear c5
  (first | rw [c5b0] | (simp only [i64_w, i32_w]; rw [c5b0]) | skip)
  refine be H ?_; clear H; intro t263 A6 H
  have H' := am H
  clear H
  have hcz7 := bK w4 BK262
  have hfz7 := bF BK262
  go_wp2_with (first | (go_at_call 63; refine (spec_l04Right.calls k _ _ l0_0 t263 _ (cc (Kd.C_below HR0_0.out HB.out)) HC0_0.out A6.out).mono ?_; rintro e w8 ⟨rfl, hb⟩; replace BK262 := bb BK262 hb; replace HB := bs HB hb; clear hb))
  go_meet
  case rel => exact ⟨_, (!t263), dr, H', ⟨lk0⟩, ⟨bp BK262⟩, ⟨bw HB⟩⟩
 clear HC3
 (try clear c1); (try clear c2); (try clear p2); (try clear c5); (try clear c5b0); (try clear c5b1); (try clear hcz7); (try clear hfz7)
 obtain ⟨kq, x14_2, rfl, HA, HJ2, BK262, HB⟩ := hcut
 rcases kq with _ | kj2
 ·exact absurd HA.out (by simp [spec_SeenRight.j0])
 have H := HA.out
 clear HA
 simp only [spec_SeenRight.j0] at H
 refine qT H ?_ ?_ <;> clear H <;> intro c9 H <;> subst c9
 ·obtain rfl := Option.some.inj H
  go_wp2
  go_ret
  exact ⟨er, bw HB⟩
 have H' := am H
 clear H
 go_wp2
 go_loopg [5] kj2 (fun kq v5 w' => ∃ (x5_2 : Int), v5 = .int .i64 x5_2 ∧ Aside0 (spec_SeenRight.l0 kq l1 x5_2 l0_0 = some r) ∧ Aside0 (kq ≤ kj2) ∧ Aside0 (w'.heap[gb262]? = some (.cells #[(.slice A0_0 l0_0.length c0_0)] 30 (0, 0))) ∧ Aside0 (Below w.heap.size w w'))
 case atStart => exact ⟨(0), dr, H', ⟨Nat.le_refl _⟩, ⟨bp BK262⟩, ⟨bw HB⟩⟩
 clear H'
 (try clear c9)
 obtain ⟨x5_2, rfl, HA, HK2, BK262, HB⟩ := hrel
 rcases gk with _ | k2
 ·exact absurd HA.out (by simp [spec_SeenRight.l0])
 have H := HA.out
 clear HA
 simp only [spec_SeenRight.l0] at H
 by_cases c10 : x5_2 < (l1.length : Int)
 ·rw [if_pos c10] at H
  have c10b0 := decide_eq_true c10
  clear c10
  refine iN H ?_; clear H; intro c11 H
  have c11b0 := decide_eq_true c11
  clear c11
  have HC12 := am H
  clear H
  have p264 : 0 ≤ (x5_2 : Int) := of_decide_eq_true as1
  have q264 : x5_2 < (l1.length : Int) := of_decide_eq_true as1
  obtain ⟨ad264, e264, hx264_0, hx264_1, hx264_2, hx264_3⟩ := at_T108 HR1.out x5_2 p264 q264
  cases e264
  replace hx264_0 := cl HB hx264_0
  replace hx264_1 := cl HB hx264_1
  replace hx264_2 := cl HB hx264_2
  replace hx264_3 := cl HB hx264_3
  replace p264 := eq_true p264
  replace q264 := eq_true q264
  go_upto_region 7 with (first | ((with_reducible refine gd 6 rfl ?_); refine bX 6 #[.int .i64 0, .int .i64 0, .int .i64 0, .int .i64 0] 108 HB ?_; clear HB; intro gb265 w13 hg hb BK265 GW265 HB; obtain ⟨NB262_265, NB265_262, BK262⟩ := b3 hg BK262 hb; clear hb hg; have hnb14 := NB265_262.out; have hnc14 := NB262_265.out; have hcz15 := bK w13 BK265; have hfz15 := bF BK265))
  (try simp only [Act.put, sa, sz, ss])
  go_cut [59] (fun v59 wc => ∃ (kq : Nat) (x59_11 : Bool), v59 = .bool x59_11 ∧ Aside0 (spec_SeenRight.j2 kq l1 x5_2 x59_11 l0_0 ((rd_T108 l1 x5_2).f0) ((rd_T108 l1 x5_2).f1) ((rd_T108 l1 x5_2).f2) ((rd_T108 l1 x5_2).f3) = some r) ∧ Aside0 (kq ≤ k2) ∧ Aside0 (wc.heap[gb262]? = some (.cells #[(.slice A0_0 l0_0.length c0_0)] 30 (0, 0))) ∧ Aside0 (wc.heap[gb265]? = some (.cells #[.int .i64 ((rd_T108 l1 x5_2).f0), .int .i64 ((rd_T108 l1 x5_2).f1), .int .i64 ((rd_T108 l1 x5_2).f2), .int .i64 ((rd_T108 l1 x5_2).f3)] 108 (0, 0))) ∧ Aside0 (Below w.heap.size w wc))
  case first =>
   have H := HC12.out
   clear HC12
   refine be H ?_; clear H; intro t266 A16 H
   refine qT H ?_ ?_ <;> clear H <;> intro c17 H <;> subst c17
   ·refine qI H ?_ ?_ <;> clear H <;> intro c18b0 H
    ·(first | rw [c18b0] | (simp only [i64_w, i32_w]; rw [c18b0]) | skip)
     have H' := am H
     clear H
     have hnb19 := NB262_265.out
     have hnc19 := NB265_262.out
     have hcz20 := bK w13 BK262
     have hfz20 := bF BK262
     have hcz21 := bK w13 BK265
     have hfz21 := bF BK265
     go_wp2_with (first | ((with_reducible refine gk 70 rfl ?_); refine gB 70 (some 30) Try.func70 #[.agg #[.slice A0_0 l0_0.length c0_0], .int .i64 ((rd_T108 l1 x5_2).f0), .int .i64 ((rd_T108 l1 x5_2).f1)] (spec_l07Jz.calls _ _ l0_0 ((rd_T108 l1 x5_2).f0) ((rd_T108 l1 x5_2).f1) true _ (Kd.C_below HR0_0.out (bw HB)) HC0_0.out A16.out) ?_; intro w22 hb; replace BK262 := bb2 BK262 hb; replace BK265 := bo #[.int .i64 ((rd_T108 l1 x5_2).f0), .int .i64 ((rd_T108 l1 x5_2).f1), .int .i64 ((rd_T108 l1 x5_2).f2), .int .i64 ((rd_T108 l1 x5_2).f3)] BK265 hb; replace HB := bs HB hb; clear hb; have hcz23 := bK w22 BK265; have hfz23 := bF BK265))
     go_meet
     case rel => exact ⟨_, (true), dr, H', ⟨lk2 HJ2 HK2⟩, ⟨bp BK262⟩, ⟨bp BK265⟩, ⟨bw HB⟩⟩
    (first | rw [c18b0] | (simp only [i64_w, i32_w]; rw [c18b0]) | skip)
    refine qG H ?_ ?_ <;> clear H <;> intro c24b0 H
    ·have H' := am H
     clear H
     have hnb25 := NB262_265.out
     have hnc25 := NB265_262.out
     have hcz26 := bK w13 BK262
     have hfz26 := bF BK262
     have hcz27 := bK w13 BK265
     have hfz27 := bF BK265
     go_wp2_with (first | ((with_reducible refine gk 70 rfl ?_); refine gB 70 (some 30) Try.func70 #[.agg #[.slice A0_0 l0_0.length c0_0], .int .i64 ((rd_T108 l1 x5_2).f0), .int .i64 ((rd_T108 l1 x5_2).f1)] (spec_l07Jz.calls _ _ l0_0 ((rd_T108 l1 x5_2).f0) ((rd_T108 l1 x5_2).f1) true _ (Kd.C_below HR0_0.out (bw HB)) HC0_0.out A16.out) ?_; intro w28 hb; replace BK262 := bb2 BK262 hb; replace BK265 := bo #[.int .i64 ((rd_T108 l1 x5_2).f0), .int .i64 ((rd_T108 l1 x5_2).f1), .int .i64 ((rd_T108 l1 x5_2).f2), .int .i64 ((rd_T108 l1 x5_2).f3)] BK265 hb; replace HB := bs HB hb; clear hb; have hcz29 := bK w28 BK265; have hfz29 := bF BK265))
     go_meet
     case rel => exact ⟨_, (true), dr, H', ⟨lk2 HJ2 HK2⟩, ⟨bp BK262⟩, ⟨bp BK265⟩, ⟨bw HB⟩⟩
    refine qI H ?_ ?_ <;> clear H <;> intro c30b0 H
    ·have H' := am H
     clear H
     have hnb31 := NB262_265.out
     have hnc31 := NB265_262.out
     have hcz32 := bK w13 BK262
     have hfz32 := bF BK262
     have hcz33 := bK w13 BK265
     have hfz33 := bF BK265
     go_wp2_with (first | ((with_reducible refine gk 70 rfl ?_); refine gB 70 (some 30) Try.func70 #[.agg #[.slice A0_0 l0_0.length c0_0], .int .i64 ((rd_T108 l1 x5_2).f0), .int .i64 ((rd_T108 l1 x5_2).f1)] (spec_l07Jz.calls _ _ l0_0 ((rd_T108 l1 x5_2).f0) ((rd_T108 l1 x5_2).f1) true _ (Kd.C_below HR0_0.out (bw HB)) HC0_0.out A16.out) ?_; intro w34 hb; replace BK262 := bb2 BK262 hb; replace BK265 := bo #[.int .i64 ((rd_T108 l1 x5_2).f0), .int .i64 ((rd_T108 l1 x5_2).f1), .int .i64 ((rd_T108 l1 x5_2).f2), .int .i64 ((rd_T108 l1 x5_2).f3)] BK265 hb; replace HB := bs HB hb; clear hb; have hcz35 := bK w34 BK265; have hfz35 := bF BK265))
     go_meet
     case rel => exact ⟨_, (true), dr, H', ⟨lk2 HJ2 HK2⟩, ⟨bp BK262⟩, ⟨bp BK265⟩, ⟨bw HB⟩⟩
    refine qG H ?_ ?_ <;> clear H <;> intro c36b0 H
    ·have H' := am H
     clear H
     have hnb37 := NB262_265.out
     have hnc37 := NB265_262.out
     have hcz38 := bK w13 BK262
     have hfz38 := bF BK262
     have hcz39 := bK w13 BK265
     have hfz39 := bF BK265
     go_wp2_with (first | ((with_reducible refine gk 70 rfl ?_); refine gB 70 (some 30) Try.func70 #[.agg #[.slice A0_0 l0_0.length c0_0], .int .i64 ((rd_T108 l1 x5_2).f0), .int .i64 ((rd_T108 l1 x5_2).f1)] (spec_l07Jz.calls _ _ l0_0 ((rd_T108 l1 x5_2).f0) ((rd_T108 l1 x5_2).f1) true _ (Kd.C_below HR0_0.out (bw HB)) HC0_0.out A16.out) ?_; intro w40 hb; replace BK262 := bb2 BK262 hb; replace BK265 := bo #[.int .i64 ((rd_T108 l1 x5_2).f0), .int .i64 ((rd_T108 l1 x5_2).f1), .int .i64 ((rd_T108 l1 x5_2).f2), .int .i64 ((rd_T108 l1 x5_2).f3)] BK265 hb; replace HB := bs HB hb; clear hb; have hcz41 := bK w40 BK265; have hfz41 := bF BK265))
     go_meet
     case rel => exact ⟨_, (true), dr, H', ⟨lk2 HJ2 HK2⟩, ⟨bp BK262⟩, ⟨bp BK265⟩, ⟨bw HB⟩⟩
    have H' := am H
    clear H
    have hnb42 := NB262_265.out
    have hnc42 := NB265_262.out
    have hcz43 := bK w13 BK262
    have hfz43 := bF BK262
    have hcz44 := bK w13 BK265
    have hfz44 := bF BK265
    go_wp2_with (first | ((with_reducible refine gk 70 rfl ?_); refine gB 70 (some 30) Try.func70 #[.agg #[.slice A0_0 l0_0.length c0_0], .int .i64 ((rd_T108 l1 x5_2).f0), .int .i64 ((rd_T108 l1 x5_2).f1)] (spec_l07Jz.calls _ _ l0_0 ((rd_T108 l1 x5_2).f0) ((rd_T108 l1 x5_2).f1) true _ (Kd.C_below HR0_0.out (bw HB)) HC0_0.out A16.out) ?_; intro w45 hb; replace BK262 := bb2 BK262 hb; replace BK265 := bo #[.int .i64 ((rd_T108 l1 x5_2).f0), .int .i64 ((rd_T108 l1 x5_2).f1), .int .i64 ((rd_T108 l1 x5_2).f2), .int .i64 ((rd_T108 l1 x5_2).f3)] BK265 hb; replace HB := bs HB hb; clear hb; have hcz46 := bK w45 BK265; have hfz46 := bF BK265))
    go_meet
    case rel => exact ⟨_, (((wrap64 (((rd_T108 l1 x5_2).f2) + ((rd_T108 l1 x5_2).f3))) == 0)), dr, H', ⟨lk2 HJ2 HK2⟩, ⟨bp BK262⟩, ⟨bp BK265⟩, ⟨bw HB⟩⟩
   have H' := am H
   clear H
   have hnb47 := NB262_265.out
   have hnc47 := NB265_262.out
   have hcz48 := bK w13 BK262
   have hfz48 := bF BK262
   have hcz49 := bK w13 BK265
   have hfz49 := bF BK265
   go_wp2_with (first | ((with_reducible refine gk 70 rfl ?_); refine gB 70 (some 30) Try.func70 #[.agg #[.slice A0_0 l0_0.length c0_0], .int .i64 ((rd_T108 l1 x5_2).f0), .int .i64 ((rd_T108 l1 x5_2).f1)] (spec_l07Jz.calls _ _ l0_0 ((rd_T108 l1 x5_2).f0) ((rd_T108 l1 x5_2).f1) false _ (Kd.C_below HR0_0.out (bw HB)) HC0_0.out A16.out) ?_; intro w50 hb; replace BK262 := bb2 BK262 hb; replace BK265 := bo #[.int .i64 ((rd_T108 l1 x5_2).f0), .int .i64 ((rd_T108 l1 x5_2).f1), .int .i64 ((rd_T108 l1 x5_2).f2), .int .i64 ((rd_T108 l1 x5_2).f3)] BK265 hb; replace HB := bs HB hb; clear hb))
   go_meet
   case rel => exact ⟨_, (true), dr, H', ⟨lk2 HJ2 HK2⟩, ⟨bp BK262⟩, ⟨bp BK265⟩, ⟨bw HB⟩⟩
  clear HC12
  (try clear q2); (try clear hx2); (try clear c3); (try clear c4); (try clear p6); (try clear c7); (try clear c10); (try clear c10b0); (try clear c11); (try clear c11b0); (try clear c14); (try clear c17); (try clear c18); (try clear c18b0); (try clear c19); (try clear c24); (try clear c24b0); (try clear c25); (try clear p26); (try clear q26); (try clear hx26); (try clear c28); (try clear c30); (try clear c30b0); (try clear c31); (try clear c36); (try clear c36b0); (try clear c37); (try clear c42); (try clear c47); (try clear hcz15); (try clear hcz20); (try clear hcz21); (try clear hcz23); (try clear hcz26); (try clear hcz27); (try clear hcz29); (try clear hcz32); (try clear hcz33); (try clear hcz35); (try clear hcz38); (try clear hcz39); (try clear hcz41); (try clear hcz43); (try clear hcz44); (try clear hcz46); (try clear hcz48); (try clear hcz49); (try clear hfz15); (try clear hfz20); (try clear hfz21); (try clear hfz23); (try clear hfz26); (try clear hfz27); (try clear hfz29); (try clear hfz32); (try clear hfz33); (try clear hfz35); (try clear hfz38); (try clear hfz39); (try clear hfz41); (try clear hfz43); (try clear hfz44); (try clear hfz46); (try clear hfz48); (try clear hfz49); (try clear hx264_0); (try clear hx264_1); (try clear hx264_2); (try clear hx264_3); (try clear p264); (try clear q264)
  obtain ⟨kq, x59_11, rfl, HA, HJ11, BK262, BK265, HB⟩ := hcut
  rcases kq with _ | kj11
  ·exact absurd HA.out (by simp [spec_SeenRight.j2])
  have H := HA.out
  clear HA
  simp only [spec_SeenRight.j2] at H
  refine qT H ?_ ?_ <;> clear H <;> intro c51 H <;> subst c51
  ·obtain rfl := Option.some.inj H
   go_wp2
   go_ret
   exact ⟨er, bw HB⟩
  refine qG H ?_ ?_ <;> clear H <;> intro c52b0 H
  ·obtain ⟨ji53, hji53⟩ : ∃ j_ : Int, (wrap64 (x5_2 - 1)) = j_ := ⟨_, rfl⟩
   replace H : (if 0 ≤ (ji53) then (if (ji53) < (l1.length : Int) then ((spec_l07Less.f ((rd_T108 l1 (ji53)).f0) ((rd_T108 l1 (ji53)).f1) ((rd_T108 l1 (ji53)).f2) ((rd_T108 l1 (ji53)).f3) ((rd_T108 l1 x5_2).f0) ((rd_T108 l1 x5_2).f1) ((rd_T108 l1 x5_2).f2) ((rd_T108 l1 x5_2).f3)).bind fun t268 => (if t268 = true then (spec_SeenRight.l0 kj11 l1 (wrap64 (x5_2 + 1)) l0_0) else (some false))) else (none)) else (none)) = some r := by first | (rw [hji53] at H; exact H) | (simp only [hji53] at H ⊢; exact H)
   have hji53w : (IntKind.i64.wrap (x5_2 - 1)) = ji53 := (i64_w _).trans hji53
   refine iM H ?_; clear H; intro c54b0 H
   refine iM H ?_; clear H; intro c55b0 H
   refine be H ?_; clear H; intro t268 A56 H
   have HC57 := am H
   clear H
   try go_wp2
   replace BK262 := am (blk_drew BK262.out)
   replace BK265 := am (blk_drew BK265.out)
   replace HB := am (below_drew1 HB.out)
   have p267 : 0 ≤ ((ji53) : Int) := of_decide_eq_true as1
   have q267 : (ji53) < (l1.length : Int) := of_decide_eq_true as1
   obtain ⟨ad267, e267, hx267_0, hx267_1, hx267_2, hx267_3⟩ := at_T108 HR1.out (ji53) p267 q267
   have hw267_3 := hx267_3
   have hw267_2 := hx267_2
   have hw267_1 := hx267_1
   have hw267_0 := hx267_0
   obtain rfl : ad264 = ad267 := (by injection e267)
   replace hx267_0 := cl HB hx267_0
   replace hx267_1 := cl HB hx267_1
   replace hx267_2 := cl HB hx267_2
   replace hx267_3 := cl HB hx267_3
   replace p267 := eq_true p267
   replace q267 := eq_true q267
   refine start_ (n := 12) (S := fun w' => w'.cell? ⟨gb265, 0, none⟩ = some (.int .i64 ((rd_T108 l1 x5_2).f0)) ∧ w'.cell? ⟨gb265, 1, none⟩ = some (.int .i64 ((rd_T108 l1 x5_2).f1)) ∧ w'.cell? ⟨gb265, 2, none⟩ = some (.int .i64 ((rd_T108 l1 x5_2).f2)) ∧ w'.cell? ⟨gb265, 3, none⟩ = some (.int .i64 ((rd_T108 l1 x5_2).f3)) ∧ w'.cell? (ad264.add (((ji53)).toNat * 4)) = some (.int .i64 ((rd_T108 l1 (ji53)).f0)) ∧ w'.cell? ⟨(ad264.add (((ji53)).toNat * 4)).block, (ad264.add (((ji53)).toNat * 4)).off + 1, none⟩ = some (.int .i64 ((rd_T108 l1 (ji53)).f1)) ∧ w'.cell? ⟨(ad264.add (((ji53)).toNat * 4)).block, (ad264.add (((ji53)).toNat * 4)).off + 2, none⟩ = some (.int .i64 ((rd_T108 l1 (ji53)).f2)) ∧ w'.cell? ⟨(ad264.add (((ji53)).toNat * 4)).block, (ad264.add (((ji53)).toNat * 4)).off + 3, none⟩ = some (.int .i64 ((rd_T108 l1 (ji53)).f3))) (ds := []) (bv 12 0) (by kernel_rfl) rfl (by kernel_rfl) ⟨bc BK265 0, bc BK265 1, bc BK265 2, bc BK265 3, (cq HB hw267_0), (cq HB hw267_1), (cq HB hw267_2), (cq HB hw267_3)⟩ (fun hHeld => ?_); refine with_tabW spec_SeenRight.tab9 spec_SeenRight.bits9 (fun HT_ HW_ => ?_)
   generalize wc.drew = w58 at BK262 BK265 HB hx267_0 hx267_1 hx267_2 hx267_3 hHeld ⊢
   refine pu 0 60 12 1 HT_ ?_
   refine pu 1 61 12 3 HT_ ?_
   refine pu 2 62 12 7 HT_ ?_
   refine pu 3 63 12 15 HT_ ?_
   refine pu 4 64 12 31 HT_ ?_
   refine pu 5 65 12 63 HT_ ?_
   refine pu 6 66 12 127 HT_ ?_
   refine tk 7 67 12 255 HT_ HW_ hHeld ?_
   refine tk 8 68 12 511 HT_ HW_ hHeld ?_
   refine on 9 (some 69) 12 1023 HT_ fun K hK => ?_
   refine goes_ Try.func71 (by kernel_rfl) rfl #[.agg #[.int .i64 ((rd_T108 l1 (ji53)).f0), .int .i64 ((rd_T108 l1 (ji53)).f1), .int .i64 ((rd_T108 l1 (ji53)).f2), .int .i64 ((rd_T108 l1 (ji53)).f3)], .agg #[.int .i64 ((rd_T108 l1 x5_2).f0), .int .i64 ((rd_T108 l1 x5_2).f1), .int .i64 ((rd_T108 l1 x5_2).f2), .int .i64 ((rd_T108 l1 x5_2).f3)]] (by rfl) rfl rfl (by (try simp only [List.map_toArray, List.map_cons, List.map_nil]); first | done | (simp only [hji53]; rfl) | rfl | (simp only [List.length_drop, List.length_take]; rfl)) ?_
   with_reducible refine (spec_l07Less.calls ((rd_T108 l1 (ji53)).f0) ((rd_T108 l1 (ji53)).f1) ((rd_T108 l1 (ji53)).f2) ((rd_T108 l1 (ji53)).f3) ((rd_T108 l1 x5_2).f0) ((rd_T108 l1 x5_2).f1) ((rd_T108 l1 x5_2).f2) ((rd_T108 l1 x5_2).f3) t268 _ A56.out).mono ?_
   rintro e w59 ⟨rfl, hb⟩
   refine ⟨_, rfl, ?_⟩
   replace BK262 := bb BK262 hb
   replace BK265 := bb BK265 hb
   replace HB := am (below_step (bw HB) hb)
   clear hb
   refine hK.out _ _ ⟨bc BK265 0, bc BK265 1, bc BK265 2, bc BK265 3, (cq HB hw267_0), (cq HB hw267_1), (cq HB hw267_2), (cq HB hw267_3)⟩ (fun hHeld => ?_)
   clear hK K
   refine nm (some 69) ?_
   refine pu 10 70 12 2047 HT_ ?_
   refine pu 11 71 12 4095 HT_ ?_
   refine done_ (done_of HT_.out (by kernel_rfl)) ?_
   go_upto_if 71 with (fail)
   (try simp only [Act.put, sa, sz, ss])
   have H := HC57.out
   clear HC57
   refine qT H ?_ ?_ <;> clear H <;> intro c60 H <;> subst c60
   ·have H' := am H
    clear H
    go_wp2
    go_roundg kj11
    case measure => have := HJ2.out; have := HK2.out; have := HJ11.out; omega
    case rel => exact ⟨(wrap64 (x5_2 + 1)), dr, H', ⟨by have := HJ2.out; have := HK2.out; have := HJ11.out; omega⟩, ⟨bp BK262⟩, ⟨bw HB⟩⟩
   obtain rfl := Option.some.inj H
   go_wp2
   go_ret
   exact ⟨by first | rfl | (simp [errW_none, errW_some] <;> rfl) | (simp only [← hji53]; first | rfl | (simp [errW_none, errW_some] <;> rfl)) | (simp [*, errW_none, errW_some] <;> rfl), bw HB⟩
  have H' := am H
  clear H
  try go_wp2
  replace BK262 := am (blk_drew BK262.out)
  replace BK265 := am (blk_drew BK265.out)
  replace HB := am (below_drew1 HB.out)
  refine start_ (n := 12) (S := fun w' => True) (ds := []) (bv 12 0) (by kernel_rfl) rfl (by kernel_rfl) trivial (fun hHeld => ?_); refine with_tabW spec_SeenRight.tab9 spec_SeenRight.bits9 (fun HT_ HW_ => ?_)
  generalize wc.drew = w61 at BK262 BK265 HB hHeld ⊢
  refine pu 0 60 12 1 HT_ ?_
  refine pu 1 61 12 3 HT_ ?_
  refine pu 2 62 12 7 HT_ ?_
  refine pn 3 63 12 15 HT_ ?_
  refine pn 4 64 12 31 HT_ ?_
  refine pn 5 65 12 63 HT_ ?_
  refine pn 6 66 12 127 HT_ ?_
  refine pn 7 67 12 255 HT_ ?_
  refine pn 8 68 12 511 HT_ ?_
  refine pn 9 69 12 1023 HT_ ?_
  refine pn 10 70 12 2047 HT_ ?_
  refine pu 11 71 12 4095 HT_ ?_
  refine done_ (done_of HT_.out (by kernel_rfl)) ?_
  try go_wp2
  go_roundg kj11
  case measure => have := HJ2.out; have := HK2.out; have := HJ11.out; omega
  case rel => exact ⟨(wrap64 (x5_2 + 1)), dr, H', ⟨by have := HJ2.out; have := HK2.out; have := HJ11.out; omega⟩, ⟨bp BK262⟩, ⟨bw HB⟩⟩
 rw [if_neg c10] at H
 have c10b0 := decide_eq_false c10
 clear c10
 obtain rfl := Option.some.inj H
 go_wp2
 go_ret
 exact ⟨er, bw HB⟩

end Go.Proofs.Ytbmjmaahcaoajaa.QFnExactGuess
