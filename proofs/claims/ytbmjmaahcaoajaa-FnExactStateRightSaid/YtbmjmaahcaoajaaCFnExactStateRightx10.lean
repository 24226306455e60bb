import Derived.Test.YtbmjmaahcaoajaaCFnExactStateRightx0
import Derived.Test.YtbmjmaahcaoajaaCFnExactStateRightx8
import Derived.Test.YtbmjmaahcaoajaaCFnExactStateRightx9
namespace Go.Proofs.Ytbmjmaahcaoajaa.QFnExactStateRight
open Go.RowKit Go.Proofs.YtbmjmaahcaoajaaW
open PrintWords PrintLast PrintMore PrintShort
attribute [local go_sem] max2_int min2_int max_two min_two max_three min_three max_four min_four   -- for this text's walks alone
set_option linter.unusedVariables false
set_option maxHeartbeats 8000000
set_option maxRecDepth 100000
set_option linter.unusedSimpArgs false

mutual
def spec_l04Func.j0 : Nat → Int → Bool → List (S100) → Int → Int → List (S102) → Option (Int × Int × Int)
 | 0, _, _, _, _, _, _ => none
 | k + 1, x1, x45, x245000, x248000, x248001, x248002 => if x45 = true then (some (x1, 0, 1)) else (spec_l04Func.l0 k x1 0 x245000 x248000 x248001 x248002)
def spec_l04Func.l0 : Nat → Int → Int → List (S100) → Int → Int → List (S102) → Option (Int × Int × Int)
 | 0, _, _, _, _, _, _ => none
 | k + 1, x1, x6, x245000, x248000, x248001, x248002 => if x6 < (x248002.length : Int) then (if 0 ≤ x6 then ((spec_InsRight.f k x245000 x1 ((rd_T102 x248002 x6).f0) ((rd_T102 x248002 x6).f1)).bind fun t249 => (if t249 = true then (spec_l04Func.l0 k x1 (wrap64 (x6 + 1)) x245000 x248000 x248001 x248002) else (some (x1, x6, 1)))) else (none)) else ((spec_l04Heights.f k x245000 x1).bind fun bt250 => (some (bt250.2.1, bt250.2.2.1, bt250.2.2.2)))
end
def spec_l04Func.f (k : Nat) (l0_0 : List (S100)) (a1 : Int) : Option (Int × Int × Int) := if 0 ≤ a1 then (if a1 < (l0_0.length : Int) then (if ((rd_T100 l0_0 a1).f0) < 0 then (spec_l04Func.j0 k a1 true l0_0 ((rd_T100 l0_0 a1).f0) ((rd_T100 l0_0 a1).f1) ((rd_T100 l0_0 a1).f2)) else (if ((rd_T100 l0_0 a1).f0) > 4 then (spec_l04Func.j0 k a1 true l0_0 ((rd_T100 l0_0 a1).f0) ((rd_T100 l0_0 a1).f1) ((rd_T100 l0_0 a1).f2)) else (if ((rd_T100 l0_0 a1).f1) < ((rd_T100 l0_0 a1).f0) then (spec_l04Func.j0 k a1 true l0_0 ((rd_T100 l0_0 a1).f0) ((rd_T100 l0_0 a1).f1) ((rd_T100 l0_0 a1).f2)) else (if ((rd_T100 l0_0 a1).f1) > 8 then (spec_l04Func.j0 k a1 true l0_0 ((rd_T100 l0_0 a1).f0) ((rd_T100 l0_0 a1).f1) ((rd_T100 l0_0 a1).f2)) else (if (((rd_T100 l0_0 a1).f2).length : Int) < 1 then (spec_l04Func.j0 k a1 true l0_0 ((rd_T100 l0_0 a1).f0) ((rd_T100 l0_0 a1).f1) ((rd_T100 l0_0 a1).f2)) else (spec_l04Func.j0 k a1 (decide ((((rd_T100 l0_0 a1).f2).length : Int) > 60)) l0_0 ((rd_T100 l0_0 a1).f0) ((rd_T100 l0_0 a1).f1) ((rd_T100 l0_0 a1).f2))))))) else (none)) else (none)
theorem spec_l04Func.mono_l : ∀ k, (∀ y0 y1 y2 y3 y4 y5, LeO (spec_l04Func.j0 k y0 y1 y2 y3 y4 y5) (spec_l04Func.j0 (k + 1) y0 y1 y2 y3 y4 y5)) ∧ (∀ y0 y1 y2 y3 y4 y5, LeO (spec_l04Func.l0 k y0 y1 y2 y3 y4 y5) (spec_l04Func.l0 (k + 1) y0 y1 y2 y3 y4 y5))
 | 0 => ⟨fun _ _ _ _ _ _ r h => by simp [spec_l04Func.j0] at h, fun _ _ _ _ _ _ r h => by simp [spec_l04Func.l0] at h⟩
 | k + 1 => by
  obtain ⟨ih0, ih1⟩ := spec_l04Func.mono_l k
  refine ⟨?_, ?_⟩
  ·intro y0 y1 y2 y3 y4 y5
   unfold spec_l04Func.j0
   with_reducible repeat' first | exact ih0 .. | exact ih1 .. | exact spec_InsRight.mono .. | exact spec_l04Heights.mono .. | exact LeO.refl _ | exact LeO.none _ | refine LeO.ite ?_ ?_ | refine LeO.bind ?_ (fun _ => ?_)
  ·intro y0 y1 y2 y3 y4 y5
   unfold spec_l04Func.l0
   with_reducible repeat' first | exact ih0 .. | exact ih1 .. | exact spec_InsRight.mono .. | exact spec_l04Heights.mono .. | exact LeO.refl _ | exact LeO.none _ | refine LeO.ite ?_ ?_ | refine LeO.bind ?_ (fun _ => ?_)
theorem spec_l04Func.mono : ∀ a0 a1 k, LeO (spec_l04Func.f k a0 a1) (spec_l04Func.f (k + 1) a0 a1) := by
 intro a0 a1 k
 obtain ⟨ih0, ih1⟩ := spec_l04Func.mono_l k
 unfold spec_l04Func.f
 with_reducible repeat' first | exact ih0 .. | exact ih1 .. | exact spec_InsRight.mono .. | exact spec_l04Heights.mono .. | exact LeO.refl _ | exact LeO.none _ | refine LeO.ite ?_ ?_ | refine LeO.bind ?_ (fun _ => ?_)
def spec_l04Func.T7 : Bool × List (List Nat × List Nat) := (true, [([], []), ([], []), ([], []), ([2], [2]), ([], []), ([3, 4], [3, 4]), ([5], [5]), ([0, 1, 6], [0, 1, 6]), ([7], [7])])
def spec_l04Func.B7 : List Nat := [0, 0, 0, 4, 0, 28, 60, 127, 255]
theorem spec_l04Func.tab7 : rtab .any (opsOf Try.f172 7) = spec_l04Func.T7 := by kernel_rfl
theorem spec_l04Func.bits7 : waitsOk spec_l04Func.T7.2 spec_l04Func.B7 = true := by kernel_rfl
theorem spec_l04Func.calls (k : Nat) (A0_0 : Option Addr) (c0_0 : Nat) (l0_0 : List (S100)) (a1 : Int) (r1 : Int) (r2 : Int) (r3 : Int) (w : World) (hr0_0 : Kd.C k100 w A0_0 l0_0.length l0_0) (hc0_0 : l0_0.length ≤ c0_0) (h : spec_l04Func.f k l0_0 a1 = some (r1, r2, r3)) :
  Calls Try.prog 172 #[.agg #[.slice A0_0 l0_0.length c0_0], .int .i64 a1] w fun e w' => e = .returned (.agg #[.int .i64 r1, .int .i64 r2, .int .i64 r3]) ∧ Below w.heap.size w w' := by
 have hu30 := Try.underlying30
 have hu84 := Try.underlying84
 have hu100 := Try.underlying100
 have hu102 := Try.underlying102
 have HR0_0 := am hr0_0
 have HC0_0 := am hc0_0
 clear hr0_0 hc0_0
 have HB := am (Below.refl w.heap.size w)
 have H : (if 0 ≤ a1 then (if a1 < (l0_0.length : Int) then (if ((rd_T100 l0_0 a1).f0) < 0 then (spec_l04Func.j0 k a1 true l0_0 ((rd_T100 l0_0 a1).f0) ((rd_T100 l0_0 a1).f1) ((rd_T100 l0_0 a1).f2)) else (if ((rd_T100 l0_0 a1).f0) > 4 then (spec_l04Func.j0 k a1 true l0_0 ((rd_T100 l0_0 a1).f0) ((rd_T100 l0_0 a1).f1) ((rd_T100 l0_0 a1).f2)) else (if ((rd_T100 l0_0 a1).f1) < ((rd_T100 l0_0 a1).f0) then (spec_l04Func.j0 k a1 true l0_0 ((rd_T100 l0_0 a1).f0) ((rd_T100 l0_0 a1).f1) ((rd_T100 l0_0 a1).f2)) else (if ((rd_T100 l0_0 a1).f1) > 8 then (spec_l04Func.j0 k a1 true l0_0 ((rd_T100 l0_0 a1).f0) ((rd_T100 l0_0 a1).f1) ((rd_T100 l0_0 a1).f2)) else (if (((rd_T100 l0_0 a1).f2).length : Int) < 1 then (spec_l04Func.j0 k a1 true l0_0 ((rd_T100 l0_0 a1).f0) ((rd_T100 l0_0 a1).f1) ((rd_T100 l0_0 a1).f2)) else (spec_l04Func.j0 k a1 (decide ((((rd_T100 l0_0 a1).f2).length : Int) > 60)) l0_0 ((rd_T100 l0_0 a1).f0) ((rd_T100 l0_0 a1).f1) ((rd_T100 l0_0 a1).f2))))))) else (none)) else (none)) = some (r1, r2, r3) := h
 clear h
 refine iN H ?_; clear H; intro c3 H
 have c3b0 := decide_eq_true c3
 clear c3
 refine iN H ?_; clear H; intro c4 H
 have c4b0 := decide_eq_true c4
 clear c4
 have HC5 := am H
 clear H
 go_enter Try.func172, Try.ntmps172
 go_upto_region 2 with (first | ((with_reducible refine gate_dst (N := 2) rfl ?_); (try (refine gate_guard (by rfl) ?_; dsimp only)); refine box_event ?hg (N := 2) ?hd (cs := #[.slice A0_0 l0_0.length c0_0]) (t := 30) ?hr ?_; (case hd => rfl); (case hg => rfl); (case hr => exact gs); intro gb244 hg w6 hbox hb; have BK244 := am (hbox); have GW244 := gw hg HB; replace HB := bs HB hb; clear hb hbox hg) | ((with_reducible refine gate_dst (N := 4) rfl ?_); (try (refine gate_guard (by rfl) ?_; dsimp only)); refine box_event ?hg (N := 4) ?hd (cs := #[.int .i64 0, .int .i64 0, .int .i64 0]) (t := 84) ?hr ?_; (case hd => rfl); (case hg => rfl); (case hr => exact gs); intro gb245 hg w7 hbox hb; have BK245 := am (hbox); have GW245 := gw hg HB; replace HB := bs HB hb; obtain ⟨NB244_245, NB245_244, BK244⟩ := b3 hg BK244 hb; clear hb hbox hg; have hnb8 := NB244_245.out; have hnc8 := NB245_244.out; have hcz9 := bK w7 BK244; have hfz9 := bF BK244; have p246 : 0 ≤ (a1 : Int) := of_decide_eq_true as1; have q246 : a1 < (l0_0.length : Int) := of_decide_eq_true as1; obtain ⟨ad246, A246_2, c246_2, e246, hx246_0, hx246_1, hx246_2, hl246_2, hi246_2⟩ := at_T100 HR0_0.out a1 p246 q246; cases e246; replace hx246_0 := cl HB hx246_0; replace hx246_1 := cl HB hx246_1; replace hx246_2 := cl HB hx246_2; have HR246_2 := am hi246_2; have HC246_2 := am hl246_2; clear hi246_2 hl246_2; replace p246 := eq_true p246; replace q246 := eq_true q246) | ((with_reducible refine gate_dst (N := 5) rfl ?_); (try (refine gate_guard (by rfl) ?_; dsimp only)); refine box_event ?hg (N := 5) ?hd (cs := #[.int .i64 0, .int .i64 0, .slice none 0 0]) (t := 100) ?hr ?_; (case hd => rfl); (case hg => rfl); (case hr => exact gs); intro gb247 hg w10 hbox hb; have BK247 := am (hbox); have GW247 := gw hg HB; replace HB := bs HB hb; obtain ⟨NB244_247, NB247_244, BK244⟩ := b3 hg BK244 hb; obtain ⟨NB245_247, NB247_245, BK245⟩ := b3 hg BK245 hb; clear hb hbox hg; have hnb11 := NB247_244.out; have hnc11 := NB244_247.out; have hnb12 := NB247_245.out; have hnc12 := NB245_247.out; have hcz13 := bK w10 BK247; have hfz13 := bF BK247))
 (try simp only [Act.put, sa, sz, ss])
 go_cut [45] (fun v45 wc => ∃ (kq : Nat) (x45_4 : Bool), v45 = .bool x45_4 ∧ Aside0 (spec_l04Func.j0 kq a1 x45_4 l0_0 ((rd_T100 l0_0 a1).f0) ((rd_T100 l0_0 a1).f1) ((rd_T100 l0_0 a1).f2) = some (r1, r2, r3)) ∧ Aside0 (kq ≤ k) ∧ Aside0 (wc.heap[gb244]? = some (.cells #[(.slice (some ad246) l0_0.length c0_0)] 30 (0, 0))) ∧ Aside0 (wc.heap[gb245]? = some (.cells #[.int .i64 0, .int .i64 0, .int .i64 0] 84 (0, 0))) ∧ Aside0 (wc.heap[gb247]? = some (.cells #[.int .i64 ((rd_T100 l0_0 a1).f0), .int .i64 ((rd_T100 l0_0 a1).f1), (.slice A246_2 ((rd_T100 l0_0 a1).f2).length c246_2)] 100 (0, 0))) ∧ Aside0 (Below w.heap.size w wc))
 case first =>
  have H := HC5.out
  clear HC5
  refine qI H ?_ ?_ <;> clear H <;> intro c14b0 H
  ·(first | rw [c14b0] | (simp only [i64_w, i32_w]; rw [c14b0]) | skip)
   have H' := am H
   clear H
   have hnb15 := NB247_244.out
   have hnc15 := NB244_247.out
   have hnb16 := NB247_245.out
   have hnc16 := NB245_247.out
   have hcz17 := bK w10 BK247
   have hfz17 := bF BK247
   go_wp2
   go_meet
   case rel => exact ⟨_, (true), dr, H', ⟨lk0⟩, ⟨by (with_reducible repeat (first | apply dN | apply dW | apply dA)); refine blk_far ?_ NB244_247.out _; (with_reducible repeat (first | apply dN | apply dW | apply dA)); refine blk_far ?_ NB244_247.out _; (with_reducible repeat (first | apply dN | apply dW | apply dA)); refine blk_far ?_ NB244_247.out _; exact bp BK244⟩, ⟨by (with_reducible repeat (first | apply dN | apply dW | apply dA)); refine blk_far ?_ NB245_247.out _; (with_reducible repeat (first | apply dN | apply dW | apply dA)); refine blk_far ?_ NB245_247.out _; (with_reducible repeat (first | apply dN | apply dW | apply dA)); refine blk_far ?_ NB245_247.out _; exact bp BK245⟩, ⟨by (with_reducible repeat (first | apply dN | apply dW | apply dA)); refine blk_put (cs := #[.int .i64 ((rd_T100 l0_0 a1).f0), .int .i64 ((rd_T100 l0_0 a1).f1), .slice none 0 0]) ?_ 2 _ rfl; (with_reducible repeat (first | apply dN | apply dW | apply dA)); refine blk_put (cs := #[.int .i64 ((rd_T100 l0_0 a1).f0), .int .i64 0, .slice none 0 0]) ?_ 1 _ rfl; (with_reducible repeat (first | apply dN | apply dW | apply dA)); refine blk_put (cs := #[.int .i64 0, .int .i64 0, .slice none 0 0]) ?_ 0 _ rfl; exact bp BK247⟩, ⟨bw HB⟩⟩
  (first | rw [c14b0] | (simp only [i64_w, i32_w]; rw [c14b0]) | skip)
  refine qG H ?_ ?_ <;> clear H <;> intro c18b0 H
  ·have H' := am H
   clear H
   have hnb19 := NB247_244.out
   have hnc19 := NB244_247.out
   have hnb20 := NB247_245.out
   have hnc20 := NB245_247.out
   have hcz21 := bK w10 BK247
   have hfz21 := bF BK247
   go_wp2
   go_meet
   case rel => exact ⟨_, (true), dr, H', ⟨lk0⟩, ⟨by (with_reducible repeat (first | apply dN | apply dW | apply dA)); refine blk_far ?_ NB244_247.out _; (with_reducible repeat (first | apply dN | apply dW | apply dA)); refine blk_far ?_ NB244_247.out _; (with_reducible repeat (first | apply dN | apply dW | apply dA)); refine blk_far ?_ NB244_247.out _; exact bp BK244⟩, ⟨by (with_reducible repeat (first | apply dN | apply dW | apply dA)); refine blk_far ?_ NB245_247.out _; (with_reducible repeat (first | apply dN | apply dW | apply dA)); refine blk_far ?_ NB245_247.out _; (with_reducible repeat (first | apply dN | apply dW | apply dA)); refine blk_far ?_ NB245_247.out _; exact bp BK245⟩, ⟨by (with_reducible repeat (first | apply dN | apply dW | apply dA)); refine blk_put (cs := #[.int .i64 ((rd_T100 l0_0 a1).f0), .int .i64 ((rd_T100 l0_0 a1).f1), .slice none 0 0]) ?_ 2 _ rfl; (with_reducible repeat (first | apply dN | apply dW | apply dA)); refine blk_put (cs := #[.int .i64 ((rd_T100 l0_0 a1).f0), .int .i64 0, .slice none 0 0]) ?_ 1 _ rfl; (with_reducible repeat (first | apply dN | apply dW | apply dA)); refine blk_put (cs := #[.int .i64 0, .int .i64 0, .slice none 0 0]) ?_ 0 _ rfl; exact bp BK247⟩, ⟨bw HB⟩⟩
  refine qI H ?_ ?_ <;> clear H <;> intro c22b0 H
  ·have H' := am H
   clear H
   have hnb23 := NB247_244.out
   have hnc23 := NB244_247.out
   have hnb24 := NB247_245.out
   have hnc24 := NB245_247.out
   have hcz25 := bK w10 BK247
   have hfz25 := bF BK247
   go_wp2
   go_meet
   case rel => exact ⟨_, (true), dr, H', ⟨lk0⟩, ⟨by (with_reducible repeat (first | apply dN | apply dW | apply dA)); refine blk_far ?_ NB244_247.out _; (with_reducible repeat (first | apply dN | apply dW | apply dA)); refine blk_far ?_ NB244_247.out _; (with_reducible repeat (first | apply dN | apply dW | apply dA)); refine blk_far ?_ NB244_247.out _; exact bp BK244⟩, ⟨by (with_reducible repeat (first | apply dN | apply dW | apply dA)); refine blk_far ?_ NB245_247.out _; (with_reducible repeat (first | apply dN | apply dW | apply dA)); refine blk_far ?_ NB245_247.out _; (with_reducible repeat (first | apply dN | apply dW | apply dA)); refine blk_far ?_ NB245_247.out _; exact bp BK245⟩, ⟨by (with_reducible repeat (first | apply dN | apply dW | apply dA)); refine blk_put (cs := #[.int .i64 ((rd_T100 l0_0 a1).f0), .int .i64 ((rd_T100 l0_0 a1).f1), .slice none 0 0]) ?_ 2 _ rfl; (with_reducible repeat (first | apply dN | apply dW | apply dA)); refine blk_put (cs := #[.int .i64 ((rd_T100 l0_0 a1).f0), .int .i64 0, .slice none 0 0]) ?_ 1 _ rfl; (with_reducible repeat (first | apply dN | apply dW | apply dA)); refine blk_put (cs := #[.int .i64 0, .int .i64 0, .slice none 0 0]) ?_ 0 _ rfl; exact bp BK247⟩, ⟨bw HB⟩⟩
  refine qG H ?_ ?_ <;> clear H <;> intro c26b0 H
  ·have H' := am H
   clear H
   have hnb27 := NB247_244.out
   have hnc27 := NB244_247.out
   have hnb28 := NB247_245.out
   have hnc28 := NB245_247.out
   have hcz29 := bK w10 BK247
   have hfz29 := bF BK247
   go_wp2
   go_meet
   case rel => exact ⟨_, (true), dr, H', ⟨lk0⟩, ⟨by (with_reducible repeat (first | apply dN | apply dW | apply dA)); refine blk_far ?_ NB244_247.out _; (with_reducible repeat (first | apply dN | apply dW | apply dA)); refine blk_far ?_ NB244_247.out _; (with_reducible repeat (first | apply dN | apply dW | apply dA)); refine blk_far ?_ NB244_247.out _; exact bp BK244⟩, ⟨by (with_reducible repeat (first | apply dN | apply dW | apply dA)); refine blk_far ?_ NB245_247.out _; (with_reducible repeat (first | apply dN | apply dW | apply dA)); refine blk_far ?_ NB245_247.out _; (with_reducible repeat (first | apply dN | apply dW | apply dA)); refine blk_far ?_ NB245_247.out _; exact bp BK245⟩, ⟨by (with_reducible repeat (first | apply dN | apply dW | apply dA)); refine blk_put (cs := #[.int .i64 ((rd_T100 l0_0 a1).f0), .int .i64 ((rd_T100 l0_0 a1).f1), .slice none 0 0]) ?_ 2 _ rfl; (with_reducible repeat (first | apply dN | apply dW | apply dA)); refine blk_put (cs := #[.int .i64 ((rd_T100 l0_0 a1).f0), .int .i64 0, .slice none 0 0]) ?_ 1 _ rfl; (with_reducible repeat (first | apply dN | apply dW | apply dA)); refine blk_put (cs := #[.int .i64 0, .int .i64 0, .slice none 0 0]) ?_ 0 _ rfl; exact bp BK247⟩, ⟨bw HB⟩⟩
  refine qI H ?_ ?_ <;> clear H <;> intro c30b0 H
  ·have c30 := of_decide_eq_true c30b0
   have c30b1 : decide (((rd_T100 l0_0 a1).f2).length < 1) = true := decide_eq_true (by omega)
   clear c30
   have H' := am H
   clear H
   have hnb31 := NB247_244.out
   have hnc31 := NB244_247.out
   have hnb32 := NB247_245.out
   have hnc32 := NB245_247.out
   have hcz33 := bK w10 BK247
   have hfz33 := bF BK247
   go_wp2
   go_meet
   case rel => exact ⟨_, (true), dr, H', ⟨lk0⟩, ⟨by (with_reducible repeat (first | apply dN | apply dW | apply dA)); refine blk_far ?_ NB244_247.out _; (with_reducible repeat (first | apply dN | apply dW | apply dA)); refine blk_far ?_ NB244_247.out _; (with_reducible repeat (first | apply dN | apply dW | apply dA)); refine blk_far ?_ NB244_247.out _; exact bp BK244⟩, ⟨by (with_reducible repeat (first | apply dN | apply dW | apply dA)); refine blk_far ?_ NB245_247.out _; (with_reducible repeat (first | apply dN | apply dW | apply dA)); refine blk_far ?_ NB245_247.out _; (with_reducible repeat (first | apply dN | apply dW | apply dA)); refine blk_far ?_ NB245_247.out _; exact bp BK245⟩, ⟨by (with_reducible repeat (first | apply dN | apply dW | apply dA)); refine blk_put (cs := #[.int .i64 ((rd_T100 l0_0 a1).f0), .int .i64 ((rd_T100 l0_0 a1).f1), .slice none 0 0]) ?_ 2 _ rfl; (with_reducible repeat (first | apply dN | apply dW | apply dA)); refine blk_put (cs := #[.int .i64 ((rd_T100 l0_0 a1).f0), .int .i64 0, .slice none 0 0]) ?_ 1 _ rfl; (with_reducible repeat (first | apply dN | apply dW | apply dA)); refine blk_put (cs := #[.int .i64 0, .int .i64 0, .slice none 0 0]) ?_ 0 _ rfl; exact bp BK247⟩, ⟨bw HB⟩⟩
  have c30 := of_decide_eq_false c30b0
  have c30b1 : decide (((rd_T100 l0_0 a1).f2).length < 1) = false := decide_eq_false (by omega)
  clear c30
  have H' := am H
  clear H
  have hnb34 := NB247_244.out
  have hnc34 := NB244_247.out
  have hnb35 := NB247_245.out
  have hnc35 := NB245_247.out
  have hcz36 := bK w10 BK247
  have hfz36 := bF BK247
  go_wp2
  go_meet
  case rel => exact ⟨_, (decide ((((rd_T100 l0_0 a1).f2).length : Int) > 60)), dr, H', ⟨lk0⟩, ⟨by (with_reducible repeat (first | apply dN | apply dW | apply dA)); refine blk_far ?_ NB244_247.out _; (with_reducible repeat (first | apply dN | apply dW | apply dA)); refine blk_far ?_ NB244_247.out _; (with_reducible repeat (first | apply dN | apply dW | apply dA)); refine blk_far ?_ NB244_247.out _; exact bp BK244⟩, ⟨by (with_reducible repeat (first | apply dN | apply dW | apply dA)); refine blk_far ?_ NB245_247.out _; (with_reducible repeat (first | apply dN | apply dW | apply dA)); refine blk_far ?_ NB245_247.out _; (with_reducible repeat (first | apply dN | apply dW | apply dA)); refine blk_far ?_ NB245_247.out _; exact bp BK245⟩, ⟨by (with_reducible repeat (first | apply dN | apply dW | apply dA)); refine blk_put (cs := #[.int .i64 ((rd_T100 l0_0 a1).f0), .int .i64 ((rd_T100 l0_0 a1).f1), .slice none 0 0]) ?_ 2 _ rfl; (with_reducible repeat (first | apply dN | apply dW | apply dA)); refine blk_put (cs := #[.int .i64 ((rd_T100 l0_0 a1).f0), .int .i64 0, .slice none 0 0]) ?_ 1 _ rfl; (with_reducible repeat (first | apply dN | apply dW | apply dA)); refine blk_put (cs := #[.int .i64 0, .int .i64 0, .slice none 0 0]) ?_ 0 _ rfl; exact bp BK247⟩, ⟨bw HB⟩⟩
 clear HC5
 (try clear c1); (try clear c2); (try clear p2); (try clear q2); (try clear hx2); (try clear c3); (try clear c3b0); (try clear c4); (try clear c4b0); (try clear c8); (try clear c11); (try clear c12); (try clear c14); (try clear c14b0); (try clear c15); (try clear c16); (try clear c17); (try clear c18); (try clear c18b0); (try clear c19); (try clear c20); (try clear c22); (try clear c22b0); (try clear c23); (try clear c24); (try clear p24); (try clear q24); (try clear hx24); (try clear c26); (try clear c26b0); (try clear c27); (try clear c28); (try clear c30); (try clear c30b0); (try clear c30b1); (try clear c31); (try clear c32); (try clear c34); (try clear c35); (try clear hcz13); (try clear hcz17); (try clear hcz21); (try clear hcz25); (try clear hcz29); (try clear hcz33); (try clear hcz36); (try clear hcz9); (try clear hfz13); (try clear hfz17); (try clear hfz21); (try clear hfz25); (try clear hfz29); (try clear hfz33); (try clear hfz36); (try clear hfz9); (try clear hx246_0); (try clear hx246_1); (try clear hx246_2); (try clear p246); (try clear q246)
 obtain ⟨kq, x45_4, rfl, HA, HJ4, BK244, BK245, BK247, HB⟩ := hcut
 rcases kq with _ | kj4
 ·exact absurd HA.out (by simp [spec_l04Func.j0])
 have H := HA.out
 clear HA
 simp only [spec_l04Func.j0] at H
 refine qT H ?_ ?_ <;> clear H <;> intro c37 H <;> subst c37
 ·simp only [Option.some.injEq, Prod.mk.injEq] at H
  obtain ⟨rfl, rfl, rfl⟩ := H
  have hnb38 := NB245_244.out
  have hnc38 := NB244_245.out
  have hnb39 := NB245_247.out
  have hnc39 := NB247_245.out
  have hcz40 := bK wc BK245
  have hfz40 := bF BK245
  go_wp2
  refine bodyPost_ret (results_cell_row rfl _ _ gb245 84 #[.int .i64 a1, .int .i64 0, .int .i64 1] (0, 0) _ rfl (bt BK245) Try.underlying84 rfl (by kernel_rfl)) rfl ?_
  exact ⟨er, bw HB⟩
 have H' := am H
 clear H
 go_wp2
 go_loopg [6] kj4 (fun kq v6 w' => ∃ (x6_2 : Int) (x246000_2 : Int) (x246001_2 : Int) (x246002_2 : Int), v6 = .int .i64 x6_2 ∧ Aside0 (spec_l04Func.l0 kq a1 x6_2 l0_0 ((rd_T100 l0_0 a1).f0) ((rd_T100 l0_0 a1).f1) ((rd_T100 l0_0 a1).f2) = some (r1, r2, r3)) ∧ Aside0 (kq ≤ kj4) ∧ Aside0 (w'.heap[gb244]? = some (.cells #[(.slice (some ad246) l0_0.length c0_0)] 30 (0, 0))) ∧ Aside0 (w'.heap[gb245]? = some (.cells #[.int .i64 x246000_2, .int .i64 x246001_2, .int .i64 x246002_2] 84 (0, 0))) ∧ Aside0 (w'.heap[gb247]? = some (.cells #[.int .i64 ((rd_T100 l0_0 a1).f0), .int .i64 ((rd_T100 l0_0 a1).f1), (.slice A246_2 ((rd_T100 l0_0 a1).f2).length c246_2)] 100 (0, 0))) ∧ Aside0 (Below w.heap.size w w'))
 case atStart => exact ⟨(0), (0), (0), (0), dr, H', ⟨Nat.le_refl _⟩, ⟨bp BK244⟩, ⟨bp BK245⟩, ⟨bp BK247⟩, ⟨bw HB⟩⟩
 clear H'
 (try clear c37); (try clear c38); (try clear c39); (try clear hcz40); (try clear hfz40)
 obtain ⟨x6_2, x246000_2, x246001_2, x246002_2, rfl, HA, HK2, BK244, BK245, BK247, HB⟩ := hrel
 rcases gk with _ | k2
 ·exact absurd HA.out (by simp [spec_l04Func.l0])
 have H := HA.out
 clear HA
 simp only [spec_l04Func.l0] at H
 refine qI H ?_ ?_ <;> clear H <;> intro c41b0 H
 ·refine iM H ?_; clear H; intro c42b0 H
  refine be H ?_; clear H; intro t249 A43 H
  have HC44 := am H
  clear H
  have hnb45 := NB247_244.out
  have hnc45 := NB244_247.out
  have hnb46 := NB247_245.out
  have hnc46 := NB245_247.out
  have hcz47 := bK wr BK247
  have hfz47 := bF BK247
  try go_wp2
  replace BK244 := am (blk_drew BK244.out)
  replace BK245 := am (blk_drew BK245.out)
  replace BK247 := am (blk_drew BK247.out)
  replace HB := am (below_drew1 HB.out)
  have p248 : 0 ≤ (x6_2 : Int) := of_decide_eq_true as1
  have q248 : x6_2 < (((rd_T100 l0_0 a1).f2).length : Int) := of_decide_eq_true as1
  obtain ⟨ad248, e248, hx248_0, hx248_1⟩ := at_T102 HR246_2.out x6_2 p248 q248
  have hw248_1 := hx248_1
  have hw248_0 := hx248_0
  cases e248
  replace hx248_0 := cl HB hx248_0
  replace hx248_1 := cl HB hx248_1
  replace p248 := eq_true p248
  replace q248 := eq_true q248
  refine start_ (n := 9) (S := fun w' => w'.cell? ⟨gb244, 0, none⟩ = some (.slice (some ad246) l0_0.length c0_0) ∧ w'.cell? ⟨gb247, 0, none⟩ = some (.int .i64 ((rd_T100 l0_0 a1).f0)) ∧ w'.cell? ⟨gb247, 1, none⟩ = some (.int .i64 ((rd_T100 l0_0 a1).f1)) ∧ w'.cell? ⟨gb247, 2, none⟩ = some (.slice (some ad248) ((rd_T100 l0_0 a1).f2).length c246_2) ∧ w'.cell? (ad248.add ((x6_2).toNat * 2)) = some (.int .i64 ((rd_T102 ((rd_T100 l0_0 a1).f2) x6_2).f0)) ∧ w'.cell? ⟨(ad248.add ((x6_2).toNat * 2)).block, (ad248.add ((x6_2).toNat * 2)).off + 1, none⟩ = some (.int .i64 ((rd_T102 ((rd_T100 l0_0 a1).f2) x6_2).f1))) (ds := []) (bv 9 0) (by kernel_rfl) rfl (by kernel_rfl) ⟨bc BK244 0, bc BK247 0, bc BK247 1, bc BK247 2, (cq HB hw248_0), (cq HB hw248_1)⟩ (fun hHeld => ?_); refine with_tabW spec_l04Func.tab7 spec_l04Func.bits7 (fun HT_ HW_ => ?_)
  generalize wr.drew = w48 at BK244 BK245 BK247 HB hx248_0 hx248_1 hHeld ⊢
  refine pu 1 56 9 2 HT_ ?_
  refine pu 2 57 9 6 HT_ ?_
  refine pu 4 59 9 22 HT_ ?_
  refine tk 0 55 9 23 HT_ HW_ hHeld ?_
  refine tk 3 58 9 31 HT_ HW_ hHeld ?_
  refine pu 5 60 9 63 HT_ ?_
  refine tk 6 61 9 127 HT_ HW_ hHeld ?_
  refine on 7 (some 62) 9 255 HT_ fun K hK => ?_
  refine goes_ Try.func191 (by kernel_rfl) rfl #[.agg #[.slice (some ad246) l0_0.length c0_0], .int .i64 a1, .agg #[.int .i64 ((rd_T102 ((rd_T100 l0_0 a1).f2) x6_2).f0), .int .i64 ((rd_T102 ((rd_T100 l0_0 a1).f2) x6_2).f1)]] (by rfl) rfl rfl gl ?_
  with_reducible refine (spec_InsRight.calls k2 _ _ l0_0 a1 ((rd_T102 ((rd_T100 l0_0 a1).f2) x6_2).f0) ((rd_T102 ((rd_T100 l0_0 a1).f2) x6_2).f1) t249 _ ?side1 ?side2 A43.out).mono ?_
  (case side1 => exact cc (Kd.C_below HR0_0.out HB.out))
  (case side2 => exact HC0_0.out)
  rintro e w49 ⟨rfl, hb⟩
  refine ⟨_, rfl, ?_⟩
  replace BK244 := bb BK244 hb
  replace BK245 := bb BK245 hb
  replace BK247 := bb BK247 hb
  replace HB := am (below_step (bw HB) hb)
  clear hb
  refine hK.out _ _ ⟨bc BK244 0, bc BK247 0, bc BK247 1, bc BK247 2, (cq HB hw248_0), (cq HB hw248_1)⟩ (fun hHeld => ?_)
  clear hK K
  refine nm (some 62) ?_
  refine pu 8 63 9 511 HT_ ?_
  refine done_ (done_of HT_.out (by kernel_rfl)) ?_
  go_upto_if 63 with (fail)
  (try simp only [Act.put, sa, sz, ss])
  have H := HC44.out
  clear HC44
  refine qT H ?_ ?_ <;> clear H <;> intro c50 H <;> subst c50
  ·have H' := am H
   clear H
   go_wp2
   go_roundg k2
   case measure => have := HJ4.out; have := HK2.out; omega
   case rel => exact ⟨(wrap64 (x6_2 + 1)), (x246000_2), (x246001_2), (x246002_2), dr, H', ⟨by have := HJ4.out; have := HK2.out; omega⟩, ⟨bp BK244⟩, ⟨bp BK245⟩, ⟨bp BK247⟩, ⟨bw HB⟩⟩
  simp only [Option.some.injEq, Prod.mk.injEq] at H
  obtain ⟨rfl, rfl, rfl⟩ := H
  have hnb51 := NB245_244.out
  have hnc51 := NB244_245.out
  have hnb52 := NB245_247.out
  have hnc52 := NB247_245.out
  have hcz53 := bK w49 BK245
  have hfz53 := bF BK245
  go_wp2
  refine bodyPost_ret (results_cell_row rfl _ _ gb245 84 #[.int .i64 a1, .int .i64 x6_2, .int .i64 1] (0, 0) _ rfl (bt BK245) Try.underlying84 rfl (by kernel_rfl)) rfl ?_
  exact ⟨er, bw HB⟩
 replace H := Option.bind_eq_some_iff.mp H
 obtain ⟨⟨t250, t253, t254, t255⟩, A540, H⟩ := H
 replace H : (some (t253, t254, t255)) = some (r1, r2, r3) := H
 have A54 := am A540
 clear A540
 simp only [Option.some.injEq, Prod.mk.injEq] at H
 obtain ⟨rfl, rfl, rfl⟩ := H
 have hnb55 := NB247_244.out
 have hnc55 := NB244_247.out
 have hnb56 := NB247_245.out
 have hnc56 := NB245_247.out
 have hcz57 := bK wr BK247
 have hfz57 := bF BK247
 have hnb58 := NB244_245.out
 have hnc58 := NB245_244.out
 have hcz59 := bK wr BK244
 have hfz59 := bF BK244
 go_wp2_with (first | ((with_reducible refine gk 58 rfl ?_); refine gC 58 (some 70) Try.func58 #[.agg #[.slice (some ad246) l0_0.length c0_0], .int .i64 a1] ((spec_l04Heights.calls k2 _ _ l0_0 a1 t250 t253 t254 t255 _ (cc (Kd.C_below HR0_0.out HB.out)) HC0_0.out A54.out).mono ?_); rintro e w60 ⟨v251, rfl, ho0, hb⟩; refine ⟨_, rfl, ?_⟩; have HO252 := am (Kd.R_lower ho0 (below_size (bw HB))); replace BK244 := bb BK244 hb; replace BK245 := bb BK245 hb; replace BK247 := bb BK247 hb; replace HB := bs HB hb; clear hb; (try clear ho0)) | ((with_reducible refine gate_dst (N := 8) rfl ?_); (try (refine gate_guard (by rfl) ?_; dsimp only)); refine box_event ?hg (N := 8) ?hd (cs := #[.int .i64 0, .int .i64 0, .int .i64 0]) (t := 84) ?hr ?_; (case hd => rfl); (case hg => rfl); (case hr => exact gs); intro gb256 hg w61 hbox hb; replace HO252 := am (Kd.R_below (kR HO252) hb); have BK256 := am (hbox); have GW256 := gw hg HB; replace HB := bs HB hb; obtain ⟨NB244_256, NB256_244, BK244⟩ := b3 hg BK244 hb; obtain ⟨NB245_256, NB256_245, BK245⟩ := b3 hg BK245 hb; obtain ⟨NB247_256, NB256_247, BK247⟩ := b3 hg BK247 hb; clear hb hbox hg; have hnb62 := NB256_244.out; have hnc62 := NB244_256.out; have hnb63 := NB256_245.out; have hnc63 := NB245_256.out; have hnb64 := NB256_247.out; have hnc64 := NB247_256.out; have hcz65 := bK w61 BK256; have hfz65 := bF BK256; have hcz66 := bK w61 BK245; have hfz66 := bF BK245))
 refine bodyPost_ret (results_cell_row rfl _ _ gb245 84 #[.int .i64 t253, .int .i64 t254, .int .i64 t255] (0, 0) _ rfl (bt BK245) Try.underlying84 rfl (by kernel_rfl)) rfl ?_
 exact ⟨er, bw HB⟩

mutual
def spec_Verify.j0 : Nat → Bool → List (S100) → Option (Int × Int × Int)
 | 0, _, _ => none
 | k + 1, x14, x258000 => if x14 = true then (some (0, 0, 1)) else (spec_Verify.l0 k 0 x258000)
def spec_Verify.l0 : Nat → Int → List (S100) → Option (Int × Int × Int)
 | 0, _, _ => none
 | k + 1, x3, x258000 => if x3 < (x258000.length : Int) then ((spec_l04Func.f k x258000 x3).bind fun bt259 => (if bt259.2.2 = 0 then (spec_Verify.l0 k (wrap64 (x3 + 1)) x258000) else (some (bt259.1, bt259.2.1, bt259.2.2)))) else (some (0, 0, 0))
end
def spec_Verify.f (k : Nat) (l0_0 : List (S100)) : Option (Int × Int × Int) := if (l0_0.length : Int) < 1 then (spec_Verify.j0 k true l0_0) else (spec_Verify.j0 k (decide ((l0_0.length : Int) > 6)) l0_0)
theorem spec_Verify.mono_l : ∀ k, (∀ y0 y1, LeO (spec_Verify.j0 k y0 y1) (spec_Verify.j0 (k + 1) y0 y1)) ∧ (∀ y0 y1, LeO (spec_Verify.l0 k y0 y1) (spec_Verify.l0 (k + 1) y0 y1))
 | 0 => ⟨fun _ _ r h => by simp [spec_Verify.j0] at h, fun _ _ r h => by simp [spec_Verify.l0] at h⟩
 | k + 1 => by
  obtain ⟨ih0, ih1⟩ := spec_Verify.mono_l k
  refine ⟨?_, ?_⟩
  ·intro y0 y1
   unfold spec_Verify.j0
   with_reducible repeat' first | exact ih0 .. | exact ih1 .. | exact spec_l04Func.mono .. | exact LeO.refl _ | exact LeO.none _ | refine LeO.ite ?_ ?_ | refine LeO.bind ?_ (fun _ => ?_)
  ·intro y0 y1
   unfold spec_Verify.l0
   with_reducible repeat' first | exact ih0 .. | exact ih1 .. | exact spec_l04Func.mono .. | exact LeO.refl _ | exact LeO.none _ | refine LeO.ite ?_ ?_ | refine LeO.bind ?_ (fun _ => ?_)
theorem spec_Verify.mono : ∀ a0 k, LeO (spec_Verify.f k a0) (spec_Verify.f (k + 1) a0) := by
 intro a0 k
 obtain ⟨ih0, ih1⟩ := spec_Verify.mono_l k
 unfold spec_Verify.f
 with_reducible repeat' first | exact ih0 .. | exact ih1 .. | exact spec_l04Func.mono .. | exact LeO.refl _ | exact LeO.none _ | refine LeO.ite ?_ ?_ | refine LeO.bind ?_ (fun _ => ?_)
theorem spec_Verify.calls (k : Nat) (A0_0 : Option Addr) (c0_0 : Nat) (l0_0 : List (S100)) (r1 : Int) (r2 : Int) (r3 : Int) (w : World) (hr0_0 : Kd.C k100 w A0_0 l0_0.length l0_0) (hc0_0 : l0_0.length ≤ c0_0) (h : spec_Verify.f k l0_0 = some (r1, r2, r3)) :
  Calls Try.prog 124 #[.agg #[.slice A0_0 l0_0.length c0_0]] w fun e w' => e = .returned (.agg #[.int .i64 r1, .int .i64 r2, .int .i64 r3]) ∧ Below w.heap.size w w' := by
 have hu30 := Try.underlying30
 have hu84 := Try.underlying84
 have HR0_0 := am hr0_0
 have HC0_0 := am hc0_0
 clear hr0_0 hc0_0
 have HB := am (Below.refl w.heap.size w)
 have H : (if (l0_0.length : Int) < 1 then (spec_Verify.j0 k true l0_0) else (spec_Verify.j0 k (decide ((l0_0.length : Int) > 6)) l0_0)) = some (r1, r2, r3) := h
 clear h
 have HC2 := am H
 clear H
 go_enter Try.func124, Try.ntmps124
 go_upto_region 1 with (first | ((with_reducible refine gate_dst (N := 1) rfl ?_); (try (refine gate_guard (by rfl) ?_; dsimp only)); refine box_event ?hg (N := 1) ?hd (cs := #[.slice A0_0 l0_0.length c0_0]) (t := 30) ?hr ?_; (case hd => rfl); (case hg => rfl); (case hr => exact gs); intro gb257 hg w3 hbox hb; have BK257 := am (hbox); have GW257 := gw hg HB; replace HB := bs HB hb; clear hb hbox hg) | ((with_reducible refine gate_dst (N := 2) rfl ?_); (try (refine gate_guard (by rfl) ?_; dsimp only)); refine box_event ?hg (N := 2) ?hd (cs := #[.int .i64 0, .int .i64 0, .int .i64 0]) (t := 84) ?hr ?_; (case hd => rfl); (case hg => rfl); (case hr => exact gs); intro gb258 hg w4 hbox hb; have BK258 := am (hbox); have GW258 := gw hg HB; replace HB := bs HB hb; obtain ⟨NB257_258, NB258_257, BK257⟩ := b3 hg BK257 hb; clear hb hbox hg))
 (try simp only [Act.put, sa, sz, ss])
 go_cut [14] (fun v14 wc => ∃ (kq : Nat) (x14_1 : Bool), v14 = .bool x14_1 ∧ Aside0 (spec_Verify.j0 kq x14_1 l0_0 = some (r1, r2, r3)) ∧ Aside0 (kq ≤ k) ∧ Aside0 (wc.heap[gb257]? = some (.cells #[(.slice A0_0 l0_0.length c0_0)] 30 (0, 0))) ∧ Aside0 (wc.heap[gb258]? = some (.cells #[.int .i64 0, .int .i64 0, .int .i64 0] 84 (0, 0))) ∧ Aside0 (Below w.heap.size w wc))
 case first =>
  have H := HC2.out
  clear HC2
  refine qI H ?_ ?_ <;> clear H <;> intro c5b0 H
  ·have c5 := of_decide_eq_true c5b0
   have c5b1 : decide (l0_0.length < 1) = true := decide_eq_true (by omega)
   clear c5
   (first | rw [c5b0] | (simp only [i64_w, i32_w]; rw [c5b0]) | skip)
   have H' := am H
   clear H
   have hnb6 := NB257_258.out
   have hnc6 := NB258_257.out
   have hcz7 := bK w4 BK257
   have hfz7 := bF BK257
   go_wp2
   go_meet
   case rel => exact ⟨_, (true), dr, H', ⟨lk0⟩, ⟨bp BK257⟩, ⟨bp BK258⟩, ⟨bw HB⟩⟩
  have c5 := of_decide_eq_false c5b0
  have c5b1 : decide (l0_0.length < 1) = false := decide_eq_false (by omega)
  clear c5
  (first | rw [c5b0] | (simp only [i64_w, i32_w]; rw [c5b0]) | skip)
  have H' := am H
  clear H
  have hnb8 := NB257_258.out
  have hnc8 := NB258_257.out
  have hcz9 := bK w4 BK257
  have hfz9 := bF BK257
  go_wp2
  go_meet
  case rel => exact ⟨_, (decide ((l0_0.length : Int) > 6)), dr, H', ⟨lk0⟩, ⟨bp BK257⟩, ⟨bp BK258⟩, ⟨bw HB⟩⟩
 clear HC2
 (try clear c1); (try clear p2); (try clear c5); (try clear c5b0); (try clear c5b1); (try clear c6); (try clear c8); (try clear hcz7); (try clear hcz9); (try clear hfz7); (try clear hfz9)
 obtain ⟨kq, x14_1, rfl, HA, HJ1, BK257, BK258, HB⟩ := hcut
 rcases kq with _ | kj1
 ·exact absurd HA.out (by simp [spec_Verify.j0])
 have H := HA.out
 clear HA
 simp only [spec_Verify.j0] at H
 refine qT H ?_ ?_ <;> clear H <;> intro c10 H <;> subst c10
 ·simp only [Option.some.injEq, Prod.mk.injEq] at H
  obtain ⟨rfl, rfl, rfl⟩ := H
  have hnb11 := NB258_257.out
  have hnc11 := NB257_258.out
  have hcz12 := bK wc BK258
  have hfz12 := bF BK258
  go_wp2
  refine bodyPost_ret (results_cell_row rfl _ _ gb258 84 #[.int .i64 0, .int .i64 0, .int .i64 1] (0, 0) _ rfl (bt BK258) Try.underlying84 rfl (by kernel_rfl)) rfl ?_
  exact ⟨er, bw HB⟩
 have H' := am H
 clear H
 go_wp2
 go_loopg [3] kj1 (fun kq v3 w' => ∃ (x3_2 : Int) (x259000_2 : Int) (x259001_2 : Int) (x259002_2 : Int), v3 = .int .i64 x3_2 ∧ Aside0 (spec_Verify.l0 kq x3_2 l0_0 = some (r1, r2, r3)) ∧ Aside0 (kq ≤ kj1) ∧ Aside0 (w'.heap[gb257]? = some (.cells #[(.slice A0_0 l0_0.length c0_0)] 30 (0, 0))) ∧ Aside0 (w'.heap[gb258]? = some (.cells #[.int .i64 x259000_2, .int .i64 x259001_2, .int .i64 x259002_2] 84 (0, 0))) ∧ Aside0 (Below w.heap.size w w'))
 case atStart => exact ⟨(0), (0), (0), (0), dr, H', ⟨Nat.le_refl _⟩, ⟨bp BK257⟩, ⟨bp BK258⟩, ⟨bw HB⟩⟩
 clear H'
 (try clear c10); (try clear c11); (try clear c12); (try clear hcz12); (try clear hfz12)
 obtain ⟨x3_2, x259000_2, x259001_2, x259002_2, rfl, HA, HK2, BK257, BK258, HB⟩ := hrel
 rcases gk with _ | k2
 ·exact absurd HA.out (by simp [spec_Verify.l0])
 have H := HA.out
 clear HA
 simp only [spec_Verify.l0] at H
 refine qI H ?_ ?_ <;> clear H <;> intro c13b0 H
 ·replace H := Option.bind_eq_some_iff.mp H
  obtain ⟨⟨t259, t260, t261⟩, A140, H⟩ := H
  replace H : (if t261 = 0 then (spec_Verify.l0 k2 (wrap64 (x3_2 + 1)) l0_0) else (some (t259, t260, t261))) = some (r1, r2, r3) := H
  have A14 := am A140
  clear A140
  have HC15 := am H
  clear H
  have hnb16 := NB257_258.out
  have hnc16 := NB258_257.out
  have hcz17 := bK wr BK257
  have hfz17 := bF BK257
  go_upto_if 28 with (first | ((with_reducible refine gk 172 rfl ?_); refine gB 172 (some 25) Try.func172 #[.agg #[.slice A0_0 l0_0.length c0_0], .int .i64 x3_2] (spec_l04Func.calls k2 _ _ l0_0 x3_2 t259 t260 t261 _ (cc (Kd.C_below HR0_0.out HB.out)) HC0_0.out A14.out) ?_; intro w18 hb; replace BK257 := bb BK257 hb; replace BK258 := bb BK258 hb; replace HB := bs HB hb; clear hb) | ((with_reducible refine gate_dst (N := 4) rfl ?_); (try (refine gate_guard (by rfl) ?_; dsimp only)); refine box_event ?hg (N := 4) ?hd (cs := #[.int .i64 0, .int .i64 0, .int .i64 0]) (t := 84) ?hr ?_; (case hd => rfl); (case hg => rfl); (case hr => exact gs); intro gb262 hg w19 hbox hb; have BK262 := am (hbox); have GW262 := gw hg HB; replace HB := bs HB hb; obtain ⟨NB257_262, NB262_257, BK257⟩ := b3 hg BK257 hb; obtain ⟨NB258_262, NB262_258, BK258⟩ := b3 hg BK258 hb; clear hb hbox hg; have hnb20 := NB262_257.out; have hnc20 := NB257_262.out; have hnb21 := NB262_258.out; have hnc21 := NB258_262.out; have hcz22 := bK w19 BK262; have hfz22 := bF BK262))
  (try simp only [Act.put, sa, sz, ss])
  have H := HC15.out
  clear HC15
  refine qE H ?_ ?_ <;> clear H
  ·intro c23b0 c23b1 H
   (first | rw [c23b0] | (simp only [i64_w, i32_w]; rw [c23b0]) | skip)
   have H' := am H
   clear H
   go_wp2
   go_roundg k2
   case measure => have := HJ1.out; have := HK2.out; omega
   case rel => exact ⟨(wrap64 (x3_2 + 1)), (x259000_2), (x259001_2), (x259002_2), dr, H', ⟨by have := HJ1.out; have := HK2.out; omega⟩, ⟨by (with_reducible repeat (first | apply dN | apply dW | apply dA)); refine blk_far ?_ NB257_262.out _; (with_reducible repeat (first | apply dN | apply dW | apply dA)); refine blk_far ?_ NB257_262.out _; (with_reducible repeat (first | apply dN | apply dW | apply dA)); refine blk_far ?_ NB257_262.out _; exact bp BK257⟩, ⟨by (with_reducible repeat (first | apply dN | apply dW | apply dA)); refine blk_far ?_ NB258_262.out _; (with_reducible repeat (first | apply dN | apply dW | apply dA)); refine blk_far ?_ NB258_262.out _; (with_reducible repeat (first | apply dN | apply dW | apply dA)); refine blk_far ?_ NB258_262.out _; exact bp BK258⟩, ⟨bw HB⟩⟩
  intro c23 c23b0 c23b1 H
  (first | rw [c23b0] | (simp only [i64_w, i32_w]; rw [c23b0]) | skip)
  simp only [Option.some.injEq, Prod.mk.injEq] at H
  obtain ⟨rfl, rfl, rfl⟩ := H
  have hnb24 := NB262_257.out
  have hnc24 := NB257_262.out
  have hnb25 := NB262_258.out
  have hnc25 := NB258_262.out
  have hcz26 := bK w19 BK262
  have hfz26 := bF BK262
  have hnb27 := NB258_257.out
  have hnc27 := NB257_258.out
  have hcz28 := bK w19 BK258
  have hfz28 := bF BK258
  go_wp2
  refine bodyPost_ret (results_cell_row rfl _ _ gb258 84 #[.int .i64 t259, .int .i64 t260, .int .i64 t261] (0, 0) _ rfl (bt BK258) Try.underlying84 rfl (by kernel_rfl)) rfl ?_
  exact ⟨er, bw HB⟩
 simp only [Option.some.injEq, Prod.mk.injEq] at H
 obtain ⟨rfl, rfl, rfl⟩ := H
 have hnb29 := NB257_258.out
 have hnc29 := NB258_257.out
 have hcz30 := bK wr BK257
 have hfz30 := bF BK257
 have hcz31 := bK wr BK258
 have hfz31 := bF BK258
 go_wp2
 refine bodyPost_ret (results_cell_row rfl _ _ gb258 84 #[.int .i64 0, .int .i64 0, .int .i64 0] (0, 0) _ rfl (bt BK258) Try.underlying84 rfl (by kernel_rfl)) rfl ?_
 exact ⟨er, bw HB⟩

def spec_l04Right.f (k : Nat) (l0_0 : List (S100)) : Option (Bool) := (spec_Verify.f k l0_0).bind fun bt264 => (some (bt264.2.2 == 0))
theorem spec_l04Right.mono : ∀ a0 k, LeO (spec_l04Right.f k a0) (spec_l04Right.f (k + 1) a0) := by
 intro a0 k
 unfold spec_l04Right.f
 with_reducible repeat' first | exact spec_Verify.mono .. | exact LeO.refl _ | exact LeO.none _ | refine LeO.ite ?_ ?_ | refine LeO.bind ?_ (fun _ => ?_)
theorem spec_l04Right.calls (k : Nat) (A0_0 : Option Addr) (c0_0 : Nat) (l0_0 : List (S100)) (r : Bool) (w : World) (hr0_0 : Kd.C k100 w A0_0 l0_0.length l0_0) (hc0_0 : l0_0.length ≤ c0_0) (h : spec_l04Right.f k l0_0 = some r) :
  Calls Try.prog 63 #[.agg #[.slice A0_0 l0_0.length c0_0]] w fun e w' => e = .returned (.bool r) ∧ Below w.heap.size w w' := by
 have hu30 := Try.underlying30
 have hu84 := Try.underlying84
 have hfd84_2 : ∀ (v0_ v1_ v2_ : Value) (W : World), (Instr.field 84 (.agg #[v0_, v1_, v2_]) 2).run Try.prog W = .ok (v2_) W := fun v0_ v1_ v2_ W => by kernel_rfl
 have HR0_0 := am hr0_0
 have HC0_0 := am hc0_0
 clear hr0_0 hc0_0
 have HB := am (Below.refl w.heap.size w)
 have H : ((spec_Verify.f k l0_0).bind fun bt264 => (some (bt264.2.2 == 0))) = some r := h
 clear h
 replace H := Option.bind_eq_some_iff.mp H
 obtain ⟨⟨t264, t265, t266⟩, A20, H⟩ := H
 replace H : (some (t266 == 0)) = some r := H
 have A2 := am A20
 clear A20
 obtain rfl := Option.some.inj H
 go_enter Try.func63, Try.ntmps63
 go_wp2_with (first | ((with_reducible refine gd 1 rfl ?_); refine bX 1 #[.slice A0_0 l0_0.length c0_0] 30 HB ?_; clear HB; intro gb263 w3 hg hb BK263 GW263 HB; clear hb hg; have hcz4 := bK w3 BK263; have hfz4 := bF BK263) | ((with_reducible refine gk 124 rfl ?_); refine gB 124 (some 4) Try.func124 #[.agg #[.slice A0_0 l0_0.length c0_0]] (spec_Verify.calls k _ _ l0_0 t264 t265 t266 _ (cc (Kd.C_below HR0_0.out HB.out)) HC0_0.out A2.out) ?_; intro w5 hb; replace BK263 := bb BK263 hb; replace HB := bs HB hb; clear hb))
 go_ret
 exact ⟨er, bw HB⟩

end Go.Proofs.Ytbmjmaahcaoajaa.QFnExactStateRight
