import Derived.Test.YtopaefhfjioecaaCFnHeightsx0
import Derived.Test.YtopaefhfjioecaaCFnHeightsx5
import Derived.Test.YtopaefhfjioecaaCFnHeightsx6
namespace Go.Proofs.Ytopaefhfjioecaa.QFnHeights
open Go.RowKit Go.Proofs.YtopaefhfjioecaaW
open PrintWords PrintLast PrintMore PrintShort
attribute [local go_sem] max2_int min2_int max_two min_two max_three min_three max_four min_four   -- for this text's walks alone
set_option linter.unusedVariables false
set_option maxHeartbeats 8000000
set_option maxRecDepth 100000
set_option linter.unusedSimpArgs false

mutual
def spec_l04Func.j0 : Nat → Int → Bool → List (S35) → Int → Int → List (S38) → Option (Int × Int × Int)
 | 0, _, _, _, _, _, _ => none
 | k + 1, x1, x45, x233000, x236000, x236001, x236002 => if x45 = true then (some (x1, 0, 1)) else (spec_l04Func.l0 k x1 0 x233000 x236000 x236001 x236002)
def spec_l04Func.l0 : Nat → Int → Int → List (S35) → Int → Int → List (S38) → Option (Int × Int × Int)
 | 0, _, _, _, _, _, _ => none
 | k + 1, x1, x6, x233000, x236000, x236001, x236002 => if x6 < (x236002.length : Int) then (if 0 ≤ x6 then ((spec_InsRight.f k x233000 x1 ((rd_T38 x236002 x6).f0) ((rd_T38 x236002 x6).f1)).bind fun t237 => (if t237 = true then (spec_l04Func.l0 k x1 (wrap64 (x6 + 1)) x233000 x236000 x236001 x236002) else (some (x1, x6, 1)))) else (none)) else ((spec_l04Heights.f k x233000 x1).bind fun bt238 => (some (bt238.2.1, bt238.2.2.1, bt238.2.2.2)))
end
def spec_l04Func.f (k : Nat) (l0_0 : List (S35)) (a1 : Int) : Option (Int × Int × Int) := if 0 ≤ a1 then (if a1 < (l0_0.length : Int) then (if ((rd_T35 l0_0 a1).f0) < 0 then (spec_l04Func.j0 k a1 true l0_0 ((rd_T35 l0_0 a1).f0) ((rd_T35 l0_0 a1).f1) ((rd_T35 l0_0 a1).f2)) else (if ((rd_T35 l0_0 a1).f0) > 4 then (spec_l04Func.j0 k a1 true l0_0 ((rd_T35 l0_0 a1).f0) ((rd_T35 l0_0 a1).f1) ((rd_T35 l0_0 a1).f2)) else (if ((rd_T35 l0_0 a1).f1) < ((rd_T35 l0_0 a1).f0) then (spec_l04Func.j0 k a1 true l0_0 ((rd_T35 l0_0 a1).f0) ((rd_T35 l0_0 a1).f1) ((rd_T35 l0_0 a1).f2)) else (if ((rd_T35 l0_0 a1).f1) > 8 then (spec_l04Func.j0 k a1 true l0_0 ((rd_T35 l0_0 a1).f0) ((rd_T35 l0_0 a1).f1) ((rd_T35 l0_0 a1).f2)) else (if (((rd_T35 l0_0 a1).f2).length : Int) < 1 then (spec_l04Func.j0 k a1 true l0_0 ((rd_T35 l0_0 a1).f0) ((rd_T35 l0_0 a1).f1) ((rd_T35 l0_0 a1).f2)) else (spec_l04Func.j0 k a1 (decide ((((rd_T35 l0_0 a1).f2).length : Int) > 60)) l0_0 ((rd_T35 l0_0 a1).f0) ((rd_T35 l0_0 a1).f1) ((rd_T35 l0_0 a1).f2))))))) else (none)) else (none)
theorem spec_l04Func.mono_l : ∀ k, (∀ y0 y1 y2 y3 y4 y5, LeO (spec_l04Func.j0 k y0 y1 y2 y3 y4 y5) (spec_l04Func.j0 (k + 1) y0 y1 y2 y3 y4 y5)) ∧ (∀ y0 y1 y2 y3 y4 y5, LeO (spec_l04Func.l0 k y0 y1 y2 y3 y4 y5) (spec_l04Func.l0 (k + 1) y0 y1 y2 y3 y4 y5))
 | 0 => ⟨fun _ _ _ _ _ _ r h => by simp [spec_l04Func.j0] at h, fun _ _ _ _ _ _ r h => by simp [spec_l04Func.l0] at h⟩
 | k + 1 => by
  obtain ⟨ih0, ih1⟩ := spec_l04Func.mono_l k
  refine ⟨?_, ?_⟩
  ·intro y0 y1 y2 y3 y4 y5
   unfold spec_l04Func.j0
   with_reducible repeat' first | exact ih0 .. | exact ih1 .. | exact spec_InsRight.mono .. | exact spec_l04Heights.mono .. | exact LeO.refl _ | exact LeO.none _ | refine LeO.ite ?_ ?_ | refine LeO.bind ?_ (fun _ => ?_)
  ·intro y0 y1 y2 y3 y4 y5
   unfold spec_l04Func.l0
   with_reducible repeat' first | exact ih0 .. | exact ih1 .. | exact spec_InsRight.mono .. | exact spec_l04Heights.mono .. | exact LeO.refl _ | exact LeO.none _ | refine LeO.ite ?_ ?_ | refine LeO.bind ?_ (fun _ => ?_)
theorem spec_l04Func.mono : ∀ a0 a1 k, LeO (spec_l04Func.f k a0 a1) (spec_l04Func.f (k + 1) a0 a1) := by
 intro a0 a1 k
 obtain ⟨ih0, ih1⟩ := spec_l04Func.mono_l k
 unfold spec_l04Func.f
 with_reducible repeat' first | exact ih0 .. | exact ih1 .. | exact spec_InsRight.mono .. | exact spec_l04Heights.mono .. | exact LeO.refl _ | exact LeO.none _ | refine LeO.ite ?_ ?_ | refine LeO.bind ?_ (fun _ => ?_)
def spec_l04Func.T7 : Bool × List (List Nat × List Nat) := (true, [([], []), ([], []), ([], []), ([2], [2]), ([], []), ([3, 4], [3, 4]), ([5], [5]), ([0, 1, 6], [0, 1, 6]), ([7], [7])])
def spec_l04Func.B7 : List Nat := [0, 0, 0, 4, 0, 28, 60, 127, 255]
theorem spec_l04Func.tab7 : rtab .any (opsOf Try.f33 7) = spec_l04Func.T7 := by kernel_rfl
theorem spec_l04Func.bits7 : waitsOk spec_l04Func.T7.2 spec_l04Func.B7 = true := by kernel_rfl
theorem spec_l04Func.calls (k : Nat) (A0_0 : Option Addr) (c0_0 : Nat) (l0_0 : List (S35)) (a1 : Int) (r1 : Int) (r2 : Int) (r3 : Int) (w : World) (hr0_0 : Kd.C k35 w A0_0 l0_0.length l0_0) (hc0_0 : l0_0.length ≤ c0_0) (h : spec_l04Func.f k l0_0 a1 = some (r1, r2, r3)) :
  Calls Try.prog 33 #[.agg #[.slice A0_0 l0_0.length c0_0], .int .i64 a1] w fun e w' => e = .returned (.agg #[.int .i64 r1, .int .i64 r2, .int .i64 r3]) ∧ Below w.heap.size w w' := by
 have hu25 := Try.underlying25
 have hu29 := Try.underlying29
 have hu35 := Try.underlying35
 have hu38 := Try.underlying38
 have HR0_0 := am hr0_0
 have HC0_0 := am hc0_0
 clear hr0_0 hc0_0
 have HB := am (Below.refl w.heap.size w)
 have H : (if 0 ≤ a1 then (if a1 < (l0_0.length : Int) then (if ((rd_T35 l0_0 a1).f0) < 0 then (spec_l04Func.j0 k a1 true l0_0 ((rd_T35 l0_0 a1).f0) ((rd_T35 l0_0 a1).f1) ((rd_T35 l0_0 a1).f2)) else (if ((rd_T35 l0_0 a1).f0) > 4 then (spec_l04Func.j0 k a1 true l0_0 ((rd_T35 l0_0 a1).f0) ((rd_T35 l0_0 a1).f1) ((rd_T35 l0_0 a1).f2)) else (if ((rd_T35 l0_0 a1).f1) < ((rd_T35 l0_0 a1).f0) then (spec_l04Func.j0 k a1 true l0_0 ((rd_T35 l0_0 a1).f0) ((rd_T35 l0_0 a1).f1) ((rd_T35 l0_0 a1).f2)) else (if ((rd_T35 l0_0 a1).f1) > 8 then (spec_l04Func.j0 k a1 true l0_0 ((rd_T35 l0_0 a1).f0) ((rd_T35 l0_0 a1).f1) ((rd_T35 l0_0 a1).f2)) else (if (((rd_T35 l0_0 a1).f2).length : Int) < 1 then (spec_l04Func.j0 k a1 true l0_0 ((rd_T35 l0_0 a1).f0) ((rd_T35 l0_0 a1).f1) ((rd_T35 l0_0 a1).f2)) else (spec_l04Func.j0 k a1 (decide ((((rd_T35 l0_0 a1).f2).length : Int) > 60)) l0_0 ((rd_T35 l0_0 a1).f0) ((rd_T35 l0_0 a1).f1) ((rd_T35 l0_0 a1).f2))))))) else (none)) else (none)) = some (r1, r2, r3) := h
 clear h
 refine iN H ?_; clear H; intro c3 H
 have c3b0 := decide_eq_true c3
 clear c3
 refine iN H ?_; clear H; intro c4 H
 have c4b0 := decide_eq_true c4
 clear c4
 have HC5 := am H
 clear H
 go_enter Try.func33, Try.ntmps33
 go_upto_region 2 with (first | ((with_reducible refine gate_dst (N := 2) rfl ?_); (try (refine gate_guard (by rfl) ?_; dsimp only)); refine box_event ?hg (N := 2) ?hd (cs := #[.slice A0_0 l0_0.length c0_0]) (t := 25) ?hr ?_; (case hd => rfl); (case hg => rfl); (case hr => exact gs); intro gb232 hg w6 hbox hb; have BK232 := am (hbox); have GW232 := gw hg HB; replace HB := bs HB hb; clear hb hbox hg) | ((with_reducible refine gate_dst (N := 4) rfl ?_); (try (refine gate_guard (by rfl) ?_; dsimp only)); refine box_event ?hg (N := 4) ?hd (cs := #[.int .i64 0, .int .i64 0, .int .i64 0]) (t := 29) ?hr ?_; (case hd => rfl); (case hg => rfl); (case hr => exact gs); intro gb233 hg w7 hbox hb; have BK233 := am (hbox); have GW233 := gw hg HB; replace HB := bs HB hb; obtain ⟨NB232_233, NB233_232, BK232⟩ := b3 hg BK232 hb; clear hb hbox hg; have hnb8 := NB232_233.out; have hnc8 := NB233_232.out; have hcz9 := bK w7 BK232; have hfz9 := bF BK232; have p234 : 0 ≤ (a1 : Int) := of_decide_eq_true as1; have q234 : a1 < (l0_0.length : Int) := of_decide_eq_true as1; obtain ⟨ad234, A234_2, c234_2, e234, hx234_0, hx234_1, hx234_2, hl234_2, hi234_2⟩ := at_T35 HR0_0.out a1 p234 q234; cases e234; replace hx234_0 := cl HB hx234_0; replace hx234_1 := cl HB hx234_1; replace hx234_2 := cl HB hx234_2; have HR234_2 := am hi234_2; have HC234_2 := am hl234_2; clear hi234_2 hl234_2; replace p234 := eq_true p234; replace q234 := eq_true q234) | ((with_reducible refine gate_dst (N := 5) rfl ?_); (try (refine gate_guard (by rfl) ?_; dsimp only)); refine box_event ?hg (N := 5) ?hd (cs := #[.int .i64 0, .int .i64 0, .slice none 0 0]) (t := 35) ?hr ?_; (case hd => rfl); (case hg => rfl); (case hr => exact gs); intro gb235 hg w10 hbox hb; have BK235 := am (hbox); have GW235 := gw hg HB; replace HB := bs HB hb; obtain ⟨NB232_235, NB235_232, BK232⟩ := b3 hg BK232 hb; obtain ⟨NB233_235, NB235_233, BK233⟩ := b3 hg BK233 hb; clear hb hbox hg; have hnb11 := NB235_232.out; have hnc11 := NB232_235.out; have hnb12 := NB235_233.out; have hnc12 := NB233_235.out; have hcz13 := bK w10 BK235; have hfz13 := bF BK235))
 (try simp only [Act.put, sa, sz, ss])
 go_cut [45] (fun v45 wc => ∃ (kq : Nat) (x45_4 : Bool), v45 = .bool x45_4 ∧ Aside0 (spec_l04Func.j0 kq a1 x45_4 l0_0 ((rd_T35 l0_0 a1).f0) ((rd_T35 l0_0 a1).f1) ((rd_T35 l0_0 a1).f2) = some (r1, r2, r3)) ∧ Aside0 (kq ≤ k) ∧ Aside0 (wc.heap[gb232]? = some (.cells #[(.slice (some ad234) l0_0.length c0_0)] 25 (0, 0))) ∧ Aside0 (wc.heap[gb233]? = some (.cells #[.int .i64 0, .int .i64 0, .int .i64 0] 29 (0, 0))) ∧ Aside0 (wc.heap[gb235]? = some (.cells #[.int .i64 ((rd_T35 l0_0 a1).f0), .int .i64 ((rd_T35 l0_0 a1).f1), (.slice A234_2 ((rd_T35 l0_0 a1).f2).length c234_2)] 35 (0, 0))) ∧ Aside0 (Below w.heap.size w wc))
 case first =>
  have H := HC5.out
  clear HC5
  refine qI H ?_ ?_ <;> clear H <;> intro c14b0 H
  ·(first | rw [c14b0] | (simp only [i64_w, i32_w]; rw [c14b0]) | skip)
   have H' := am H
   clear H
   have hnb15 := NB235_232.out
   have hnc15 := NB232_235.out
   have hnb16 := NB235_233.out
   have hnc16 := NB233_235.out
   have hcz17 := bK w10 BK235
   have hfz17 := bF BK235
   go_wp2
   go_meet
   case rel => exact ⟨_, (true), dr, H', ⟨lk0⟩, ⟨by (with_reducible repeat (first | apply dN | apply dW | apply dA)); refine blk_far ?_ NB232_235.out _; (with_reducible repeat (first | apply dN | apply dW | apply dA)); refine blk_far ?_ NB232_235.out _; (with_reducible repeat (first | apply dN | apply dW | apply dA)); refine blk_far ?_ NB232_235.out _; exact bp BK232⟩, ⟨by (with_reducible repeat (first | apply dN | apply dW | apply dA)); refine blk_far ?_ NB233_235.out _; (with_reducible repeat (first | apply dN | apply dW | apply dA)); refine blk_far ?_ NB233_235.out _; (with_reducible repeat (first | apply dN | apply dW | apply dA)); refine blk_far ?_ NB233_235.out _; exact bp BK233⟩, ⟨by (with_reducible repeat (first | apply dN | apply dW | apply dA)); refine blk_put (cs := #[.int .i64 ((rd_T35 l0_0 a1).f0), .int .i64 ((rd_T35 l0_0 a1).f1), .slice none 0 0]) ?_ 2 _ rfl; (with_reducible repeat (first | apply dN | apply dW | apply dA)); refine blk_put (cs := #[.int .i64 ((rd_T35 l0_0 a1).f0), .int .i64 0, .slice none 0 0]) ?_ 1 _ rfl; (with_reducible repeat (first | apply dN | apply dW | apply dA)); refine blk_put (cs := #[.int .i64 0, .int .i64 0, .slice none 0 0]) ?_ 0 _ rfl; exact bp BK235⟩, ⟨bw HB⟩⟩
  (first | rw [c14b0] | (simp only [i64_w, i32_w]; rw [c14b0]) | skip)
  refine qG H ?_ ?_ <;> clear H <;> intro c18b0 H
  ·have H' := am H
   clear H
   have hnb19 := NB235_232.out
   have hnc19 := NB232_235.out
   have hnb20 := NB235_233.out
   have hnc20 := NB233_235.out
   have hcz21 := bK w10 BK235
   have hfz21 := bF BK235
   go_wp2
   go_meet
   case rel => exact ⟨_, (true), dr, H', ⟨lk0⟩, ⟨by (with_reducible repeat (first | apply dN | apply dW | apply dA)); refine blk_far ?_ NB232_235.out _; (with_reducible repeat (first | apply dN | apply dW | apply dA)); refine blk_far ?_ NB232_235.out _; (with_reducible repeat (first | apply dN | apply dW | apply dA)); refine blk_far ?_ NB232_235.out _; exact bp BK232⟩, ⟨by (with_reducible repeat (first | apply dN | apply dW | apply dA)); refine blk_far ?_ NB233_235.out _; (with_reducible repeat (first | apply dN | apply dW | apply dA)); refine blk_far ?_ NB233_235.out _; (with_reducible repeat (first | apply dN | apply dW | apply dA)); refine blk_far ?_ NB233_235.out _; exact bp BK233⟩, ⟨by (with_reducible repeat (first | apply dN | apply dW | apply dA)); refine blk_put (cs := #[.int .i64 ((rd_T35 l0_0 a1).f0), .int .i64 ((rd_T35 l0_0 a1).f1), .slice none 0 0]) ?_ 2 _ rfl; (with_reducible repeat (first | apply dN | apply dW | apply dA)); refine blk_put (cs := #[.int .i64 ((rd_T35 l0_0 a1).f0), .int .i64 0, .slice none 0 0]) ?_ 1 _ rfl; (with_reducible repeat (first | apply dN | apply dW | apply dA)); refine blk_put (cs := #[.int .i64 0, .int .i64 0, .slice none 0 0]) ?_ 0 _ rfl; exact bp BK235⟩, ⟨bw HB⟩⟩
  refine qI H ?_ ?_ <;> clear H <;> intro c22b0 H
  ·have H' := am H
   clear H
   have hnb23 := NB235_232.out
   have hnc23 := NB232_235.out
   have hnb24 := NB235_233.out
   have hnc24 := NB233_235.out
   have hcz25 := bK w10 BK235
   have hfz25 := bF BK235
   go_wp2
   go_meet
   case rel => exact ⟨_, (true), dr, H', ⟨lk0⟩, ⟨by (with_reducible repeat (first | apply dN | apply dW | apply dA)); refine blk_far ?_ NB232_235.out _; (with_reducible repeat (first | apply dN | apply dW | apply dA)); refine blk_far ?_ NB232_235.out _; (with_reducible repeat (first | apply dN | apply dW | apply dA)); refine blk_far ?_ NB232_235.out _; exact bp BK232⟩, ⟨by (with_reducible repeat (first | apply dN | apply dW | apply dA)); refine blk_far ?_ NB233_235.out _; (with_reducible repeat (first | apply dN | apply dW | apply dA)); refine blk_far ?_ NB233_235.out _; (with_reducible repeat (first | apply dN | apply dW | apply dA)); refine blk_far ?_ NB233_235.out _; exact bp BK233⟩, ⟨by (with_reducible repeat (first | apply dN | apply dW | apply dA)); refine blk_put (cs := #[.int .i64 ((rd_T35 l0_0 a1).f0), .int .i64 ((rd_T35 l0_0 a1).f1), .slice none 0 0]) ?_ 2 _ rfl; (with_reducible repeat (first | apply dN | apply dW | apply dA)); refine blk_put (cs := #[.int .i64 ((rd_T35 l0_0 a1).f0), .int .i64 0, .slice none 0 0]) ?_ 1 _ rfl; (with_reducible repeat (first | apply dN | apply dW | apply dA)); refine blk_put (cs := #[.int .i64 0, .int .i64 0, .slice none 0 0]) ?_ 0 _ rfl; exact bp BK235⟩, ⟨bw HB⟩⟩
  refine qG H ?_ ?_ <;> clear H <;> intro c26b0 H
  ·have H' := am H
   clear H
   have hnb27 := NB235_232.out
   have hnc27 := NB232_235.out
   have hnb28 := NB235_233.out
   have hnc28 := NB233_235.out
   have hcz29 := bK w10 BK235
   have hfz29 := bF BK235
   go_wp2
   go_meet
   case rel => exact ⟨_, (true), dr, H', ⟨lk0⟩, ⟨by (with_reducible repeat (first | apply dN | apply dW | apply dA)); refine blk_far ?_ NB232_235.out _; (with_reducible repeat (first | apply dN | apply dW | apply dA)); refine blk_far ?_ NB232_235.out _; (with_reducible repeat (first | apply dN | apply dW | apply dA)); refine blk_far ?_ NB232_235.out _; exact bp BK232⟩, ⟨by (with_reducible repeat (first | apply dN | apply dW | apply dA)); refine blk_far ?_ NB233_235.out _; (with_reducible repeat (first | apply dN | apply dW | apply dA)); refine blk_far ?_ NB233_235.out _; (with_reducible repeat (first | apply dN | apply dW | apply dA)); refine blk_far ?_ NB233_235.out _; exact bp BK233⟩, ⟨by (with_reducible repeat (first | apply dN | apply dW | apply dA)); refine blk_put (cs := #[.int .i64 ((rd_T35 l0_0 a1).f0), .int .i64 ((rd_T35 l0_0 a1).f1), .slice none 0 0]) ?_ 2 _ rfl; (with_reducible repeat (first | apply dN | apply dW | apply dA)); refine blk_put (cs := #[.int .i64 ((rd_T35 l0_0 a1).f0), .int .i64 0, .slice none 0 0]) ?_ 1 _ rfl; (with_reducible repeat (first | apply dN | apply dW | apply dA)); refine blk_put (cs := #[.int .i64 0, .int .i64 0, .slice none 0 0]) ?_ 0 _ rfl; exact bp BK235⟩, ⟨bw HB⟩⟩
  refine qI H ?_ ?_ <;> clear H <;> intro c30b0 H
  ·have c30 := of_decide_eq_true c30b0
   have c30b1 : decide (((rd_T35 l0_0 a1).f2).length < 1) = true := decide_eq_true (by omega)
   clear c30
   have H' := am H
   clear H
   have hnb31 := NB235_232.out
   have hnc31 := NB232_235.out
   have hnb32 := NB235_233.out
   have hnc32 := NB233_235.out
   have hcz33 := bK w10 BK235
   have hfz33 := bF BK235
   go_wp2
   go_meet
   case rel => exact ⟨_, (true), dr, H', ⟨lk0⟩, ⟨by (with_reducible repeat (first | apply dN | apply dW | apply dA)); refine blk_far ?_ NB232_235.out _; (with_reducible repeat (first | apply dN | apply dW | apply dA)); refine blk_far ?_ NB232_235.out _; (with_reducible repeat (first | apply dN | apply dW | apply dA)); refine blk_far ?_ NB232_235.out _; exact bp BK232⟩, ⟨by (with_reducible repeat (first | apply dN | apply dW | apply dA)); refine blk_far ?_ NB233_235.out _; (with_reducible repeat (first | apply dN | apply dW | apply dA)); refine blk_far ?_ NB233_235.out _; (with_reducible repeat (first | apply dN | apply dW | apply dA)); refine blk_far ?_ NB233_235.out _; exact bp BK233⟩, ⟨by (with_reducible repeat (first | apply dN | apply dW | apply dA)); refine blk_put (cs := #[.int .i64 ((rd_T35 l0_0 a1).f0), .int .i64 ((rd_T35 l0_0 a1).f1), .slice none 0 0]) ?_ 2 _ rfl; (with_reducible repeat (first | apply dN | apply dW | apply dA)); refine blk_put (cs := #[.int .i64 ((rd_T35 l0_0 a1).f0), .int .i64 0, .slice none 0 0]) ?_ 1 _ rfl; (with_reducible repeat (first | apply dN | apply dW | apply dA)); refine blk_put (cs := #[.int .i64 0, .int .i64 0, .slice none 0 0]) ?_ 0 _ rfl; exact bp BK235⟩, ⟨bw HB⟩⟩
  have c30 := of_decide_eq_false c30b0
  have c30b1 : decide (((rd_T35 l0_0 a1).f2).length < 1) = false := decide_eq_false (by omega)
  clear c30
  have H' := am H
  clear H
  have hnb34 := NB235_232.out
  have hnc34 := NB232_235.out
  have hnb35 := NB235_233.out
  have hnc35 := NB233_235.out
  have hcz36 := bK w10 BK235
  have hfz36 := bF BK235
  go_wp2
  go_meet
  case rel => exact ⟨_, (decide ((((rd_T35 l0_0 a1).f2).length : Int) > 60)), dr, H', ⟨lk0⟩, ⟨by (with_reducible repeat (first | apply dN | apply dW | apply dA)); refine blk_far ?_ NB232_235.out _; (with_reducible repeat (first | apply dN | apply dW | apply dA)); refine blk_far ?_ NB232_235.out _; (with_reducible repeat (first | apply dN | apply dW | apply dA)); refine blk_far ?_ NB232_235.out _; exact bp BK232⟩, ⟨by (with_reducible repeat (first | apply dN | apply dW | apply dA)); refine blk_far ?_ NB233_235.out _; (with_reducible repeat (first | apply dN | apply dW | apply dA)); refine blk_far ?_ NB233_235.out _; (with_reducible repeat (first | apply dN | apply dW | apply dA)); refine blk_far ?_ NB233_235.out _; exact bp BK233⟩, ⟨by (with_reducible repeat (first | apply dN | apply dW | apply dA)); refine blk_put (cs := #[.int .i64 ((rd_T35 l0_0 a1).f0), .int .i64 ((rd_T35 l0_0 a1).f1), .slice none 0 0]) ?_ 2 _ rfl; (with_reducible repeat (first | apply dN | apply dW | apply dA)); refine blk_put (cs := #[.int .i64 ((rd_T35 l0_0 a1).f0), .int .i64 0, .slice none 0 0]) ?_ 1 _ rfl; (with_reducible repeat (first | apply dN | apply dW | apply dA)); refine blk_put (cs := #[.int .i64 0, .int .i64 0, .slice none 0 0]) ?_ 0 _ rfl; exact bp BK235⟩, ⟨bw HB⟩⟩
 clear HC5
 (try clear c1); (try clear c2); (try clear p2); (try clear q2); (try clear hx2); (try clear c3); (try clear c3b0); (try clear c4); (try clear c4b0); (try clear c8); (try clear c11); (try clear c12); (try clear c14); (try clear c14b0); (try clear c15); (try clear c16); (try clear c18); (try clear c18b0); (try clear c19); (try clear c20); (try clear c22); (try clear c22b0); (try clear c23); (try clear p23); (try clear q23); (try clear hx23); (try clear c24); (try clear c26); (try clear c26b0); (try clear c27); (try clear c28); (try clear c30); (try clear c30b0); (try clear c30b1); (try clear c31); (try clear c32); (try clear c33); (try clear c34); (try clear c35); (try clear hcz13); (try clear hcz17); (try clear hcz21); (try clear hcz25); (try clear hcz29); (try clear hcz33); (try clear hcz36); (try clear hcz9); (try clear hfz13); (try clear hfz17); (try clear hfz21); (try clear hfz25); (try clear hfz29); (try clear hfz33); (try clear hfz36); (try clear hfz9); (try clear hx234_0); (try clear hx234_1); (try clear hx234_2); (try clear p234); (try clear q234)
 obtain ⟨kq, x45_4, rfl, HA, HJ4, BK232, BK233, BK235, HB⟩ := hcut
 rcases kq with _ | kj4
 ·exact absurd HA.out (by simp [spec_l04Func.j0])
 have H := HA.out
 clear HA
 simp only [spec_l04Func.j0] at H
 refine qT H ?_ ?_ <;> clear H <;> intro c37 H <;> subst c37
 ·simp only [Option.some.injEq, Prod.mk.injEq] at H
  obtain ⟨rfl, rfl, rfl⟩ := H
  have hnb38 := NB233_232.out
  have hnc38 := NB232_233.out
  have hnb39 := NB233_235.out
  have hnc39 := NB235_233.out
  have hcz40 := bK wc BK233
  have hfz40 := bF BK233
  go_wp2
  refine bodyPost_ret (results_cell_row rfl _ _ gb233 29 #[.int .i64 a1, .int .i64 0, .int .i64 1] (0, 0) _ rfl (bt BK233) Try.underlying29 rfl (by kernel_rfl)) rfl ?_
  exact ⟨er, bw HB⟩
 have H' := am H
 clear H
 go_wp2
 go_loopg [6] kj4 (fun kq v6 w' => ∃ (x6_2 : Int) (x234000_2 : Int) (x234001_2 : Int) (x234002_2 : Int), v6 = .int .i64 x6_2 ∧ Aside0 (spec_l04Func.l0 kq a1 x6_2 l0_0 ((rd_T35 l0_0 a1).f0) ((rd_T35 l0_0 a1).f1) ((rd_T35 l0_0 a1).f2) = some (r1, r2, r3)) ∧ Aside0 (kq ≤ kj4) ∧ Aside0 (w'.heap[gb232]? = some (.cells #[(.slice (some ad234) l0_0.length c0_0)] 25 (0, 0))) ∧ Aside0 (w'.heap[gb233]? = some (.cells #[.int .i64 x234000_2, .int .i64 x234001_2, .int .i64 x234002_2] 29 (0, 0))) ∧ Aside0 (w'.heap[gb235]? = some (.cells #[.int .i64 ((rd_T35 l0_0 a1).f0), .int .i64 ((rd_T35 l0_0 a1).f1), (.slice A234_2 ((rd_T35 l0_0 a1).f2).length c234_2)] 35 (0, 0))) ∧ Aside0 (Below w.heap.size w w'))
 case atStart => exact ⟨(0), (0), (0), (0), dr, H', ⟨Nat.le_refl _⟩, ⟨bp BK232⟩, ⟨bp BK233⟩, ⟨bp BK235⟩, ⟨bw HB⟩⟩
 clear H'
 (try clear c37); (try clear c38); (try clear c39); (try clear hcz40); (try clear hfz40)
 obtain ⟨x6_2, x234000_2, x234001_2, x234002_2, rfl, HA, HK2, BK232, BK233, BK235, HB⟩ := hrel
 rcases gk with _ | k2
 ·exact absurd HA.out (by simp [spec_l04Func.l0])
 have H := HA.out
 clear HA
 simp only [spec_l04Func.l0] at H
 refine qI H ?_ ?_ <;> clear H <;> intro c41b0 H
 ·refine iM H ?_; clear H; intro c42b0 H
  refine be H ?_; clear H; intro t237 A43 H
  have HC44 := am H
  clear H
  have hnb45 := NB235_232.out
  have hnc45 := NB232_235.out
  have hnb46 := NB235_233.out
  have hnc46 := NB233_235.out
  have hcz47 := bK wr BK235
  have hfz47 := bF BK235
  try go_wp2
  replace BK232 := am (blk_drew BK232.out)
  replace BK233 := am (blk_drew BK233.out)
  replace BK235 := am (blk_drew BK235.out)
  replace HB := am (below_drew1 HB.out)
  have p236 : 0 ≤ (x6_2 : Int) := of_decide_eq_true as1
  have q236 : x6_2 < (((rd_T35 l0_0 a1).f2).length : Int) := of_decide_eq_true as1
  obtain ⟨ad236, e236, hx236_0, hx236_1⟩ := at_T38 HR234_2.out x6_2 p236 q236
  have hw236_1 := hx236_1
  have hw236_0 := hx236_0
  cases e236
  replace hx236_0 := cl HB hx236_0
  replace hx236_1 := cl HB hx236_1
  replace p236 := eq_true p236
  replace q236 := eq_true q236
  refine start_ (n := 9) (S := fun w' => w'.cell? ⟨gb232, 0, none⟩ = some (.slice (some ad234) l0_0.length c0_0) ∧ w'.cell? ⟨gb235, 0, none⟩ = some (.int .i64 ((rd_T35 l0_0 a1).f0)) ∧ w'.cell? ⟨gb235, 1, none⟩ = some (.int .i64 ((rd_T35 l0_0 a1).f1)) ∧ w'.cell? ⟨gb235, 2, none⟩ = some (.slice (some ad236) ((rd_T35 l0_0 a1).f2).length c234_2) ∧ w'.cell? (ad236.add ((x6_2).toNat * 2)) = some (.int .i64 ((rd_T38 ((rd_T35 l0_0 a1).f2) x6_2).f0)) ∧ w'.cell? ⟨(ad236.add ((x6_2).toNat * 2)).block, (ad236.add ((x6_2).toNat * 2)).off + 1, none⟩ = some (.int .i64 ((rd_T38 ((rd_T35 l0_0 a1).f2) x6_2).f1))) (ds := []) (bv 9 0) (by kernel_rfl) rfl (by kernel_rfl) ⟨bc BK232 0, bc BK235 0, bc BK235 1, bc BK235 2, (cq HB hw236_0), (cq HB hw236_1)⟩ (fun hHeld => ?_); refine with_tabW spec_l04Func.tab7 spec_l04Func.bits7 (fun HT_ HW_ => ?_)
  generalize wr.drew = w48 at BK232 BK233 BK235 HB hx236_0 hx236_1 hHeld ⊢
  refine pu 1 56 9 2 HT_ ?_
  refine pu 2 57 9 6 HT_ ?_
  refine pu 4 59 9 22 HT_ ?_
  refine tk 0 55 9 23 HT_ HW_ hHeld ?_
  refine tk 3 58 9 31 HT_ HW_ hHeld ?_
  refine pu 5 60 9 63 HT_ ?_
  refine tk 6 61 9 127 HT_ HW_ hHeld ?_
  refine on 7 (some 62) 9 255 HT_ fun K hK => ?_
  refine goes_ Try.func74 (by kernel_rfl) rfl #[.agg #[.slice (some ad234) l0_0.length c0_0], .int .i64 a1, .agg #[.int .i64 ((rd_T38 ((rd_T35 l0_0 a1).f2) x6_2).f0), .int .i64 ((rd_T38 ((rd_T35 l0_0 a1).f2) x6_2).f1)]] (by rfl) rfl rfl gl ?_
  with_reducible refine (spec_InsRight.calls k2 _ _ l0_0 a1 ((rd_T38 ((rd_T35 l0_0 a1).f2) x6_2).f0) ((rd_T38 ((rd_T35 l0_0 a1).f2) x6_2).f1) t237 _ ?side1 ?side2 A43.out).mono ?_
  (case side1 => exact cc (Kd.C_below HR0_0.out HB.out))
  (case side2 => exact HC0_0.out)
  rintro e w49 ⟨rfl, hb⟩
  refine ⟨_, rfl, ?_⟩
  replace BK232 := bb BK232 hb
  replace BK233 := bb BK233 hb
  replace BK235 := bb BK235 hb
  replace HB := am (below_step (bw HB) hb)
  clear hb
  refine hK.out _ _ ⟨bc BK232 0, bc BK235 0, bc BK235 1, bc BK235 2, (cq HB hw236_0), (cq HB hw236_1)⟩ (fun hHeld => ?_)
  clear hK K
  refine nm (some 62) ?_
  refine pu 8 63 9 511 HT_ ?_
  refine done_ (done_of HT_.out (by kernel_rfl)) ?_
  go_upto_if 63 with (fail)
  (try simp only [Act.put, sa, sz, ss])
  have H := HC44.out
  clear HC44
  refine qT H ?_ ?_ <;> clear H <;> intro c50 H <;> subst c50
  ·have H' := am H
   clear H
   go_wp2
   go_roundg k2
   case measure => have := HJ4.out; have := HK2.out; omega
   case rel => exact ⟨(wrap64 (x6_2 + 1)), (x234000_2), (x234001_2), (x234002_2), dr, H', ⟨by have := HJ4.out; have := HK2.out; omega⟩, ⟨bp BK232⟩, ⟨bp BK233⟩, ⟨bp BK235⟩, ⟨bw HB⟩⟩
  simp only [Option.some.injEq, Prod.mk.injEq] at H
  obtain ⟨rfl, rfl, rfl⟩ := H
  have hnb51 := NB233_232.out
  have hnc51 := NB232_233.out
  have hnb52 := NB233_235.out
  have hnc52 := NB235_233.out
  have hcz53 := bK w49 BK233
  have hfz53 := bF BK233
  go_wp2
  refine bodyPost_ret (results_cell_row rfl _ _ gb233 29 #[.int .i64 a1, .int .i64 x6_2, .int .i64 1] (0, 0) _ rfl (bt BK233) Try.underlying29 rfl (by kernel_rfl)) rfl ?_
  exact ⟨er, bw HB⟩
 replace H := Option.bind_eq_some_iff.mp H
 obtain ⟨⟨t238, t241, t242, t243⟩, A540, H⟩ := H
 replace H : (some (t241, t242, t243)) = some (r1, r2, r3) := H
 have A54 := am A540
 clear A540
 simp only [Option.some.injEq, Prod.mk.injEq] at H
 obtain ⟨rfl, rfl, rfl⟩ := H
 have hnb55 := NB235_232.out
 have hnc55 := NB232_235.out
 have hnb56 := NB235_233.out
 have hnc56 := NB233_235.out
 have hcz57 := bK wr BK235
 have hfz57 := bF BK235
 have hnb58 := NB232_233.out
 have hnc58 := NB233_232.out
 have hcz59 := bK wr BK232
 have hfz59 := bF BK232
 go_wp2_with (first | ((with_reducible refine gk 66 rfl ?_); refine gC 66 (some 70) Try.func66 #[.agg #[.slice (some ad234) l0_0.length c0_0], .int .i64 a1] ((spec_l04Heights.calls k2 _ _ l0_0 a1 t238 t241 t242 t243 _ (cc (Kd.C_below HR0_0.out HB.out)) HC0_0.out A54.out).mono ?_); rintro e w60 ⟨v239, rfl, ho0, hb⟩; refine ⟨_, rfl, ?_⟩; have HO240 := am (Kd.R_lower ho0 (below_size (bw HB))); replace BK232 := bb BK232 hb; replace BK233 := bb BK233 hb; replace BK235 := bb BK235 hb; replace HB := bs HB hb; clear hb; (try clear ho0)) | ((with_reducible refine gate_dst (N := 8) rfl ?_); (try (refine gate_guard (by rfl) ?_; dsimp only)); refine box_event ?hg (N := 8) ?hd (cs := #[.int .i64 0, .int .i64 0, .int .i64 0]) (t := 29) ?hr ?_; (case hd => rfl); (case hg => rfl); (case hr => exact gs); intro gb244 hg w61 hbox hb; replace HO240 := am (Kd.R_below (kR HO240) hb); have BK244 := am (hbox); have GW244 := gw hg HB; replace HB := bs HB hb; obtain ⟨NB232_244, NB244_232, BK232⟩ := b3 hg BK232 hb; obtain ⟨NB233_244, NB244_233, BK233⟩ := b3 hg BK233 hb; obtain ⟨NB235_244, NB244_235, BK235⟩ := b3 hg BK235 hb; clear hb hbox hg; have hnb62 := NB244_232.out; have hnc62 := NB232_244.out; have hnb63 := NB244_233.out; have hnc63 := NB233_244.out; have hnb64 := NB244_235.out; have hnc64 := NB235_244.out; have hcz65 := bK w61 BK244; have hfz65 := bF BK244; have hcz66 := bK w61 BK233; have hfz66 := bF BK233))
 refine bodyPost_ret (results_cell_row rfl _ _ gb233 29 #[.int .i64 t241, .int .i64 t242, .int .i64 t243] (0, 0) _ rfl (bt BK233) Try.underlying29 rfl (by kernel_rfl)) rfl ?_
 exact ⟨er, bw HB⟩

mutual
def spec_Verify.j0 : Nat → Bool → List (S35) → Option (Int × Int × Int)
 | 0, _, _ => none
 | k + 1, x14, x246000 => if x14 = true then (some (0, 0, 1)) else (spec_Verify.l0 k 0 x246000)
def spec_Verify.l0 : Nat → Int → List (S35) → Option (Int × Int × Int)
 | 0, _, _ => none
 | k + 1, x3, x246000 => if x3 < (x246000.length : Int) then ((spec_l04Func.f k x246000 x3).bind fun bt247 => (if bt247.2.2 = 0 then (spec_Verify.l0 k (wrap64 (x3 + 1)) x246000) else (some (bt247.1, bt247.2.1, bt247.2.2)))) else (some (0, 0, 0))
end
def spec_Verify.f (k : Nat) (l0_0 : List (S35)) : Option (Int × Int × Int) := if (l0_0.length : Int) < 1 then (spec_Verify.j0 k true l0_0) else (spec_Verify.j0 k (decide ((l0_0.length : Int) > 6)) l0_0)
theorem spec_Verify.mono_l : ∀ k, (∀ y0 y1, LeO (spec_Verify.j0 k y0 y1) (spec_Verify.j0 (k + 1) y0 y1)) ∧ (∀ y0 y1, LeO (spec_Verify.l0 k y0 y1) (spec_Verify.l0 (k + 1) y0 y1))
 | 0 => ⟨fun _ _ r h => by simp [spec_Verify.j0] at h, fun _ _ r h => by simp [spec_Verify.l0] at h⟩
 | k + 1 => by
  obtain ⟨ih0, ih1⟩ := spec_Verify.mono_l k
  refine ⟨?_, ?_⟩
  ·intro y0 y1
   unfold spec_Verify.j0
   with_reducible repeat' first | exact ih0 .. | exact ih1 .. | exact spec_l04Func.mono .. | exact LeO.refl _ | exact LeO.none _ | refine LeO.ite ?_ ?_ | refine LeO.bind ?_ (fun _ => ?_)
  ·intro y0 y1
   unfold spec_Verify.l0
   with_reducible repeat' first | exact ih0 .. | exact ih1 .. | exact spec_l04Func.mono .. | exact LeO.refl _ | exact LeO.none _ | refine LeO.ite ?_ ?_ | refine LeO.bind ?_ (fun _ => ?_)
theorem spec_Verify.mono : ∀ a0 k, LeO (spec_Verify.f k a0) (spec_Verify.f (k + 1) a0) := by
 intro a0 k
 obtain ⟨ih0, ih1⟩ := spec_Verify.mono_l k
 unfold spec_Verify.f
 with_reducible repeat' first | exact ih0 .. | exact ih1 .. | exact spec_l04Func.mono .. | exact LeO.refl _ | exact LeO.none _ | refine LeO.ite ?_ ?_ | refine LeO.bind ?_ (fun _ => ?_)
theorem spec_Verify.calls (k : Nat) (A0_0 : Option Addr) (c0_0 : Nat) (l0_0 : List (S35)) (r1 : Int) (r2 : Int) (r3 : Int) (w : World) (hr0_0 : Kd.C k35 w A0_0 l0_0.length l0_0) (hc0_0 : l0_0.length ≤ c0_0) (h : spec_Verify.f k l0_0 = some (r1, r2, r3)) :
  Calls Try.prog 9 #[.agg #[.slice A0_0 l0_0.length c0_0]] w fun e w' => e = .returned (.agg #[.int .i64 r1, .int .i64 r2, .int .i64 r3]) ∧ Below w.heap.size w w' := by
 have hu25 := Try.underlying25
 have hu29 := Try.underlying29
 have HR0_0 := am hr0_0
 have HC0_0 := am hc0_0
 clear hr0_0 hc0_0
 have HB := am (Below.refl w.heap.size w)
 have H : (if (l0_0.length : Int) < 1 then (spec_Verify.j0 k true l0_0) else (spec_Verify.j0 k (decide ((l0_0.length : Int) > 6)) l0_0)) = some (r1, r2, r3) := h
 clear h
 have HC2 := am H
 clear H
 go_enter Try.func9, Try.ntmps9
 go_upto_region 1 with (first | ((with_reducible refine gate_dst (N := 1) rfl ?_); (try (refine gate_guard (by rfl) ?_; dsimp only)); refine box_event ?hg (N := 1) ?hd (cs := #[.slice A0_0 l0_0.length c0_0]) (t := 25) ?hr ?_; (case hd => rfl); (case hg => rfl); (case hr => exact gs); intro gb245 hg w3 hbox hb; have BK245 := am (hbox); have GW245 := gw hg HB; replace HB := bs HB hb; clear hb hbox hg) | ((with_reducible refine gate_dst (N := 2) rfl ?_); (try (refine gate_guard (by rfl) ?_; dsimp only)); refine box_event ?hg (N := 2) ?hd (cs := #[.int .i64 0, .int .i64 0, .int .i64 0]) (t := 29) ?hr ?_; (case hd => rfl); (case hg => rfl); (case hr => exact gs); intro gb246 hg w4 hbox hb; have BK246 := am (hbox); have GW246 := gw hg HB; replace HB := bs HB hb; obtain ⟨NB245_246, NB246_245, BK245⟩ := b3 hg BK245 hb; clear hb hbox hg))
 (try simp only [Act.put, sa, sz, ss])
 go_cut [14] (fun v14 wc => ∃ (kq : Nat) (x14_1 : Bool), v14 = .bool x14_1 ∧ Aside0 (spec_Verify.j0 kq x14_1 l0_0 = some (r1, r2, r3)) ∧ Aside0 (kq ≤ k) ∧ Aside0 (wc.heap[gb245]? = some (.cells #[(.slice A0_0 l0_0.length c0_0)] 25 (0, 0))) ∧ Aside0 (wc.heap[gb246]? = some (.cells #[.int .i64 0, .int .i64 0, .int .i64 0] 29 (0, 0))) ∧ Aside0 (Below w.heap.size w wc))
 case first =>
  have H := HC2.out
  clear HC2
  refine qI H ?_ ?_ <;> clear H <;> intro c5b0 H
  ·have c5 := of_decide_eq_true c5b0
   have c5b1 : decide (l0_0.length < 1) = true := decide_eq_true (by omega)
   clear c5
   (first | rw [c5b0] | (simp only [i64_w, i32_w]; rw [c5b0]) | skip)
   have H' := am H
   clear H
   have hnb6 := NB245_246.out
   have hnc6 := NB246_245.out
   have hcz7 := bK w4 BK245
   have hfz7 := bF BK245
   go_wp2
   go_meet
   case rel => exact ⟨_, (true), dr, H', ⟨lk0⟩, ⟨bp BK245⟩, ⟨bp BK246⟩, ⟨bw HB⟩⟩
  have c5 := of_decide_eq_false c5b0
  have c5b1 : decide (l0_0.length < 1) = false := decide_eq_false (by omega)
  clear c5
  (first | rw [c5b0] | (simp only [i64_w, i32_w]; rw [c5b0]) | skip)
  have H' := am H
  clear H
  have hnb8 := NB245_246.out
  have hnc8 := NB246_245.out
  have hcz9 := bK w4 BK245
  have hfz9 := bF BK245
  go_wp2
  go_meet
  case rel => exact ⟨_, (decide ((l0_0.length : Int) > 6)), dr, H', ⟨lk0⟩, ⟨bp BK245⟩, ⟨bp BK246⟩, ⟨bw HB⟩⟩
 clear HC2
 (try clear p2); (try clear c5); (try clear c5b0); (try clear c5b1); (try clear c6); (try clear c8); (try clear c9); (try clear hcz7); (try clear hcz9); (try clear hfz7); (try clear hfz9)
 obtain ⟨kq, x14_1, rfl, HA, HJ1, BK245, BK246, HB⟩ := hcut
 rcases kq with _ | kj1
 ·exact absurd HA.out (by simp [spec_Verify.j0])
 have H := HA.out
 clear HA
 simp only [spec_Verify.j0] at H
 refine qT H ?_ ?_ <;> clear H <;> intro c10 H <;> subst c10
 ·simp only [Option.some.injEq, Prod.mk.injEq] at H
  obtain ⟨rfl, rfl, rfl⟩ := H
  have hnb11 := NB246_245.out
  have hnc11 := NB245_246.out
  have hcz12 := bK wc BK246
  have hfz12 := bF BK246
  go_wp2
  refine bodyPost_ret (results_cell_row rfl _ _ gb246 29 #[.int .i64 0, .int .i64 0, .int .i64 1] (0, 0) _ rfl (bt BK246) Try.underlying29 rfl (by kernel_rfl)) rfl ?_
  exact ⟨er, bw HB⟩
 have H' := am H
 clear H
 go_wp2
 go_loopg [3] kj1 (fun kq v3 w' => ∃ (x3_2 : Int) (x247000_2 : Int) (x247001_2 : Int) (x247002_2 : Int), v3 = .int .i64 x3_2 ∧ Aside0 (spec_Verify.l0 kq x3_2 l0_0 = some (r1, r2, r3)) ∧ Aside0 (kq ≤ kj1) ∧ Aside0 (w'.heap[gb245]? = some (.cells #[(.slice A0_0 l0_0.length c0_0)] 25 (0, 0))) ∧ Aside0 (w'.heap[gb246]? = some (.cells #[.int .i64 x247000_2, .int .i64 x247001_2, .int .i64 x247002_2] 29 (0, 0))) ∧ Aside0 (Below w.heap.size w w'))
 case atStart => exact ⟨(0), (0), (0), (0), dr, H', ⟨Nat.le_refl _⟩, ⟨bp BK245⟩, ⟨bp BK246⟩, ⟨bw HB⟩⟩
 clear H'
 (try clear c1); (try clear c10); (try clear c11); (try clear hcz12); (try clear hfz12)
 obtain ⟨x3_2, x247000_2, x247001_2, x247002_2, rfl, HA, HK2, BK245, BK246, HB⟩ := hrel
 rcases gk with _ | k2
 ·exact absurd HA.out (by simp [spec_Verify.l0])
 have H := HA.out
 clear HA
 simp only [spec_Verify.l0] at H
 refine qI H ?_ ?_ <;> clear H <;> intro c13b0 H
 ·replace H := Option.bind_eq_some_iff.mp H
  obtain ⟨⟨t247, t248, t249⟩, A140, H⟩ := H
  replace H : (if t249 = 0 then (spec_Verify.l0 k2 (wrap64 (x3_2 + 1)) l0_0) else (some (t247, t248, t249))) = some (r1, r2, r3) := H
  have A14 := am A140
  clear A140
  have HC15 := am H
  clear H
  have hnb16 := NB245_246.out
  have hnc16 := NB246_245.out
  have hcz17 := bK wr BK245
  have hfz17 := bF BK245
  go_upto_if 28 with (first | ((with_reducible refine gk 33 rfl ?_); refine gB 33 (some 25) Try.func33 #[.agg #[.slice A0_0 l0_0.length c0_0], .int .i64 x3_2] (spec_l04Func.calls k2 _ _ l0_0 x3_2 t247 t248 t249 _ (cc (Kd.C_below HR0_0.out HB.out)) HC0_0.out A14.out) ?_; intro w18 hb; replace BK245 := bb BK245 hb; replace BK246 := bb BK246 hb; replace HB := bs HB hb; clear hb) | ((with_reducible refine gate_dst (N := 4) rfl ?_); (try (refine gate_guard (by rfl) ?_; dsimp only)); refine box_event ?hg (N := 4) ?hd (cs := #[.int .i64 0, .int .i64 0, .int .i64 0]) (t := 29) ?hr ?_; (case hd => rfl); (case hg => rfl); (case hr => exact gs); intro gb250 hg w19 hbox hb; have BK250 := am (hbox); have GW250 := gw hg HB; replace HB := bs HB hb; obtain ⟨NB245_250, NB250_245, BK245⟩ := b3 hg BK245 hb; obtain ⟨NB246_250, NB250_246, BK246⟩ := b3 hg BK246 hb; clear hb hbox hg; have hnb20 := NB250_245.out; have hnc20 := NB245_250.out; have hnb21 := NB250_246.out; have hnc21 := NB246_250.out; have hcz22 := bK w19 BK250; have hfz22 := bF BK250))
  (try simp only [Act.put, sa, sz, ss])
  have H := HC15.out
  clear HC15
  refine qE H ?_ ?_ <;> clear H
  ·intro c23b0 c23b1 H
   (first | rw [c23b0] | (simp only [i64_w, i32_w]; rw [c23b0]) | skip)
   have H' := am H
   clear H
   go_wp2
   go_roundg k2
   case measure => have := HJ1.out; have := HK2.out; omega
   case rel => exact ⟨(wrap64 (x3_2 + 1)), (x247000_2), (x247001_2), (x247002_2), dr, H', ⟨by have := HJ1.out; have := HK2.out; omega⟩, ⟨by (with_reducible repeat (first | apply dN | apply dW | apply dA)); refine blk_far ?_ NB245_250.out _; (with_reducible repeat (first | apply dN | apply dW | apply dA)); refine blk_far ?_ NB245_250.out _; (with_reducible repeat (first | apply dN | apply dW | apply dA)); refine blk_far ?_ NB245_250.out _; exact bp BK245⟩, ⟨by (with_reducible repeat (first | apply dN | apply dW | apply dA)); refine blk_far ?_ NB246_250.out _; (with_reducible repeat (first | apply dN | apply dW | apply dA)); refine blk_far ?_ NB246_250.out _; (with_reducible repeat (first | apply dN | apply dW | apply dA)); refine blk_far ?_ NB246_250.out _; exact bp BK246⟩, ⟨bw HB⟩⟩
  intro c23 c23b0 c23b1 H
  (first | rw [c23b0] | (simp only [i64_w, i32_w]; rw [c23b0]) | skip)
  simp only [Option.some.injEq, Prod.mk.injEq] at H
  obtain ⟨rfl, rfl, rfl⟩ := H
  have hnb24 := NB250_245.out
  have hnc24 := NB245_250.out
  have hnb25 := NB250_246.out
  have hnc25 := NB246_250.out
  have hcz26 := bK w19 BK250
  have hfz26 := bF BK250
  have hnb27 := NB246_245.out
  have hnc27 := NB245_246.out
  have hcz28 := bK w19 BK246
  have hfz28 := bF BK246
  go_wp2
  refine bodyPost_ret (results_cell_row rfl _ _ gb246 29 #[.int .i64 t247, .int .i64 t248, .int .i64 t249] (0, 0) _ rfl (bt BK246) Try.underlying29 rfl (by kernel_rfl)) rfl ?_
  exact ⟨er, bw HB⟩
 simp only [Option.some.injEq, Prod.mk.injEq] at H
 obtain ⟨rfl, rfl, rfl⟩ := H
 have hnb29 := NB245_246.out
 have hnc29 := NB246_245.out
 have hcz30 := bK wr BK245
 have hfz30 := bF BK245
 have hcz31 := bK wr BK246
 have hfz31 := bF BK246
 go_wp2
 refine bodyPost_ret (results_cell_row rfl _ _ gb246 29 #[.int .i64 0, .int .i64 0, .int .i64 0] (0, 0) _ rfl (bt BK246) Try.underlying29 rfl (by kernel_rfl)) rfl ?_
 exact ⟨er, bw HB⟩

def impl_in.f (a0 : Int) (a1 : Int) (a2 : Int) : Option (Bool) := if a0 ≥ a1 then (some (decide (a0 ≤ a2))) else (some false)
theorem impl_in.calls (a0 : Int) (a1 : Int) (a2 : Int) (r : Bool) (w : World) (h : impl_in.f a0 a1 a2 = some r) :
  Calls Try.prog 71 #[.int .i64 a0, .int .i64 a1, .int .i64 a2] w fun e w' => e = .returned (.bool r) ∧ Drawn0 w w' := by
 have H : (if a0 ≥ a1 then (some (decide (a0 ≤ a2))) else (some false)) = some r := h
 clear h
 refine qL H ?_ ?_ <;> clear H <;> intro c4b0 H
 ·obtain rfl := Option.some.inj H
  go_enter Try.func71, Try.ntmps71
  go_wp2
  go_ret
  exact ⟨by first | rfl | (simp; done) | (simp [*]; done), by repeat (first | exact Drawn0.refl _ | apply Drawn0.step)⟩
 obtain rfl := Option.some.inj H
 go_enter Try.func71, Try.ntmps71
 go_wp2
 go_ret
 exact ⟨by first | rfl | (simp; done) | (simp [*]; done), by repeat (first | exact Drawn0.refl _ | apply Drawn0.step)⟩

def impl_hasFunc.f (l0_0 : List (S35)) (a1 : Int) : Option (Bool) := if a1 ≥ 0 then (some (decide (a1 < (l0_0.length : Int)))) else (some false)
theorem impl_hasFunc.calls (A0_0 : Option Addr) (c0_0 : Nat) (l0_0 : List (S35)) (a1 : Int) (r : Bool) (w : World) (hr0_0 : Kd.C k35 w A0_0 l0_0.length l0_0) (hc0_0 : l0_0.length ≤ c0_0) (h : impl_hasFunc.f l0_0 a1 = some r) :
  Calls Try.prog 38 #[.agg #[.slice A0_0 l0_0.length c0_0], .int .i64 a1] w fun e w' => e = .returned (.bool r) ∧ Below w.heap.size w w' := by
 have hu25 := Try.underlying25
 have HR0_0 := am hr0_0
 have HC0_0 := am hc0_0
 clear hr0_0 hc0_0
 have HB := am (Below.refl w.heap.size w)
 have H : (if a1 ≥ 0 then (some (decide (a1 < (l0_0.length : Int)))) else (some false)) = some r := h
 clear h
 refine qL H ?_ ?_ <;> clear H <;> intro c3b0 H
 ·obtain rfl := Option.some.inj H
  go_enter Try.func38, Try.ntmps38
  go_wp2_with (first | ((with_reducible refine gate_dst (N := 2) rfl ?_); (try (refine gate_guard (by rfl) ?_; dsimp only)); refine box_event ?hg (N := 2) ?hd (cs := #[.slice A0_0 l0_0.length c0_0]) (t := 25) ?hr ?_; (case hd => rfl); (case hg => rfl); (case hr => exact gs); intro gb251 hg w4 hbox hb; have BK251 := am (hbox); have GW251 := gw hg HB; replace HB := bs HB hb; clear hb hbox hg; have hcz5 := bK w4 BK251; have hfz5 := bF BK251))
  go_ret
  exact ⟨er, bw HB⟩
 obtain rfl := Option.some.inj H
 go_enter Try.func38, Try.ntmps38
 go_wp2_with (first | ((with_reducible refine gate_dst (N := 2) rfl ?_); (try (refine gate_guard (by rfl) ?_; dsimp only)); refine box_event ?hg (N := 2) ?hd (cs := #[.slice A0_0 l0_0.length c0_0]) (t := 25) ?hr ?_; (case hd => rfl); (case hg => rfl); (case hr => exact gs); intro gb251 hg w6 hbox hb; have BK251 := am (hbox); have GW251 := gw hg HB; replace HB := bs HB hb; clear hb hbox hg))
 go_ret
 exact ⟨er, bw HB⟩

def impl_opNames.f  : Option (List ByteArray) := some (([(⟨#[]⟩ : ByteArray), (⟨#[112, 117, 115, 104]⟩ : ByteArray), (⟨#[108, 111, 97, 100]⟩ : ByteArray), (⟨#[115, 116, 111, 114, 101]⟩ : ByteArray), (⟨#[100, 117, 112]⟩ : ByteArray), (⟨#[112, 111, 112]⟩ : ByteArray), (⟨#[]⟩ : ByteArray), (⟨#[]⟩ : ByteArray), (⟨#[]⟩ : ByteArray), (⟨#[]⟩ : ByteArray), (⟨#[97, 100, 100]⟩ : ByteArray), (⟨#[115, 117, 98]⟩ : ByteArray), (⟨#[109, 117, 108]⟩ : ByteArray), (⟨#[100, 105, 118]⟩ : ByteArray), (⟨#[114, 101, 109]⟩ : ByteArray), (⟨#[97, 110, 100]⟩ : ByteArray), (⟨#[111, 114]⟩ : ByteArray), (⟨#[120, 111, 114]⟩ : ByteArray), (⟨#[115, 104, 108]⟩ : ByteArray), (⟨#[115, 104, 114]⟩ : ByteArray), (⟨#[117, 115, 104, 114]⟩ : ByteArray), (⟨#[108, 101, 115, 115]⟩ : ByteArray), (⟨#[97, 116, 109, 111, 115, 116]⟩ : ByteArray), (⟨#[115, 97, 109, 101]⟩ : ByteArray), (⟨#[110, 101, 103]⟩ : ByteArray), (⟨#[110, 111, 116]⟩ : ByteArray), (⟨#[98, 121, 116, 101]⟩ : ByteArray), (⟨#[115, 104, 111, 114, 116]⟩ : ByteArray), (⟨#[105, 110, 116]⟩ : ByteArray), (⟨#[119, 111, 114, 100]⟩ : ByteArray), (⟨#[106, 117, 109, 112]⟩ : ByteArray), (⟨#[106, 122]⟩ : ByteArray), (⟨#[99, 97, 108, 108]⟩ : ByteArray), (⟨#[114, 101, 116]⟩ : ByteArray), (⟨#[110, 101, 119]⟩ : ByteArray), (⟨#[103, 101, 116]⟩ : ByteArray), (⟨#[115, 101, 116]⟩ : ByteArray), (⟨#[108, 101, 110]⟩ : ByteArray), (⟨#[111, 117, 116]⟩ : ByteArray)] : List ByteArray))
theorem impl_opNames.calls  (r : List ByteArray) (w : World) (h : impl_opNames.f  = some r) :
  Calls Try.prog 115 #[] w fun e w' => ∃ v0_ : Value, e = .returned (v0_) ∧ Kd.R Kd.string 9 w' w.heap.size (fun _ => True) v0_ r ∧ Below w.heap.size w w' := by
 have HB := am (Below.refl w.heap.size w)
 have H : (some (([(⟨#[]⟩ : ByteArray), (⟨#[112, 117, 115, 104]⟩ : ByteArray), (⟨#[108, 111, 97, 100]⟩ : ByteArray), (⟨#[115, 116, 111, 114, 101]⟩ : ByteArray), (⟨#[100, 117, 112]⟩ : ByteArray), (⟨#[112, 111, 112]⟩ : ByteArray), (⟨#[]⟩ : ByteArray), (⟨#[]⟩ : ByteArray), (⟨#[]⟩ : ByteArray), (⟨#[]⟩ : ByteArray), (⟨#[97, 100, 100]⟩ : ByteArray), (⟨#[115, 117, 98]⟩ : ByteArray), (⟨#[109, 117, 108]⟩ : ByteArray), (⟨#[100, 105, 118]⟩ : ByteArray), (⟨#[114, 101, 109]⟩ : ByteArray), (⟨#[97, 110, 100]⟩ : ByteArray), (⟨#[111, 114]⟩ : ByteArray), (⟨#[120, 111, 114]⟩ : ByteArray), (⟨#[115, 104, 108]⟩ : ByteArray), (⟨#[115, 104, 114]⟩ : ByteArray), (⟨#[117, 115, 104, 114]⟩ : ByteArray), (⟨#[108, 101, 115, 115]⟩ : ByteArray), (⟨#[97, 116, 109, 111, 115, 116]⟩ : ByteArray), (⟨#[115, 97, 109, 101]⟩ : ByteArray), (⟨#[110, 101, 103]⟩ : ByteArray), (⟨#[110, 111, 116]⟩ : ByteArray), (⟨#[98, 121, 116, 101]⟩ : ByteArray), (⟨#[115, 104, 111, 114, 116]⟩ : ByteArray), (⟨#[105, 110, 116]⟩ : ByteArray), (⟨#[119, 111, 114, 100]⟩ : ByteArray), (⟨#[106, 117, 109, 112]⟩ : ByteArray), (⟨#[106, 122]⟩ : ByteArray), (⟨#[99, 97, 108, 108]⟩ : ByteArray), (⟨#[114, 101, 116]⟩ : ByteArray), (⟨#[110, 101, 119]⟩ : ByteArray), (⟨#[103, 101, 116]⟩ : ByteArray), (⟨#[115, 101, 116]⟩ : ByteArray), (⟨#[108, 101, 110]⟩ : ByteArray), (⟨#[111, 117, 116]⟩ : ByteArray)] : List ByteArray))) = some r := h
 clear h
 obtain ⟨y252, hy252⟩ : ∃ y_ : List ByteArray, y_ = (([(⟨#[]⟩ : ByteArray), (⟨#[112, 117, 115, 104]⟩ : ByteArray), (⟨#[108, 111, 97, 100]⟩ : ByteArray), (⟨#[115, 116, 111, 114, 101]⟩ : ByteArray), (⟨#[100, 117, 112]⟩ : ByteArray), (⟨#[112, 111, 112]⟩ : ByteArray), (⟨#[]⟩ : ByteArray), (⟨#[]⟩ : ByteArray), (⟨#[]⟩ : ByteArray), (⟨#[]⟩ : ByteArray), (⟨#[97, 100, 100]⟩ : ByteArray), (⟨#[115, 117, 98]⟩ : ByteArray), (⟨#[109, 117, 108]⟩ : ByteArray), (⟨#[100, 105, 118]⟩ : ByteArray), (⟨#[114, 101, 109]⟩ : ByteArray), (⟨#[97, 110, 100]⟩ : ByteArray), (⟨#[111, 114]⟩ : ByteArray), (⟨#[120, 111, 114]⟩ : ByteArray), (⟨#[115, 104, 108]⟩ : ByteArray), (⟨#[115, 104, 114]⟩ : ByteArray), (⟨#[117, 115, 104, 114]⟩ : ByteArray), (⟨#[108, 101, 115, 115]⟩ : ByteArray), (⟨#[97, 116, 109, 111, 115, 116]⟩ : ByteArray), (⟨#[115, 97, 109, 101]⟩ : ByteArray), (⟨#[110, 101, 103]⟩ : ByteArray), (⟨#[110, 111, 116]⟩ : ByteArray), (⟨#[98, 121, 116, 101]⟩ : ByteArray), (⟨#[115, 104, 111, 114, 116]⟩ : ByteArray), (⟨#[105, 110, 116]⟩ : ByteArray), (⟨#[119, 111, 114, 100]⟩ : ByteArray), (⟨#[106, 117, 109, 112]⟩ : ByteArray), (⟨#[106, 122]⟩ : ByteArray), (⟨#[99, 97, 108, 108]⟩ : ByteArray), (⟨#[114, 101, 116]⟩ : ByteArray), (⟨#[110, 101, 119]⟩ : ByteArray), (⟨#[103, 101, 116]⟩ : ByteArray), (⟨#[115, 101, 116]⟩ : ByteArray), (⟨#[108, 101, 110]⟩ : ByteArray), (⟨#[111, 117, 116]⟩ : ByteArray)] : List ByteArray)) := ⟨_, rfl⟩
 replace H : (some y252) = some r := by first | (rw [hy252]; with_reducible exact H) | (have H2_ := (Option.bind_some _ _).symm.trans H; rw [hy252]; with_reducible exact H2_) | (have H2_ := (Option.bind_some _ _).symm.trans H; with_reducible exact H2_) | with_reducible exact H | (rw [hy252]; exact H) | exact H
 have Ny252 := am hy252
 clear hy252
 obtain rfl := Option.some.inj H
 go_enter Try.func115, Try.ntmps115
 go_wp2_with (first | ((with_reducible refine gate_dst (N := 1) rfl ?_); refine Kd.R_lit Kd.string _ 9 ?hg (N := 1) ?hd (xs := ([(⟨#[]⟩ : ByteArray), (⟨#[112, 117, 115, 104]⟩ : ByteArray), (⟨#[108, 111, 97, 100]⟩ : ByteArray), (⟨#[115, 116, 111, 114, 101]⟩ : ByteArray), (⟨#[100, 117, 112]⟩ : ByteArray), (⟨#[112, 111, 112]⟩ : ByteArray), (⟨#[]⟩ : ByteArray), (⟨#[]⟩ : ByteArray), (⟨#[]⟩ : ByteArray), (⟨#[]⟩ : ByteArray), (⟨#[97, 100, 100]⟩ : ByteArray), (⟨#[115, 117, 98]⟩ : ByteArray), (⟨#[109, 117, 108]⟩ : ByteArray), (⟨#[100, 105, 118]⟩ : ByteArray), (⟨#[114, 101, 109]⟩ : ByteArray), (⟨#[97, 110, 100]⟩ : ByteArray), (⟨#[111, 114]⟩ : ByteArray), (⟨#[120, 111, 114]⟩ : ByteArray), (⟨#[115, 104, 108]⟩ : ByteArray), (⟨#[115, 104, 114]⟩ : ByteArray), (⟨#[117, 115, 104, 114]⟩ : ByteArray), (⟨#[108, 101, 115, 115]⟩ : ByteArray), (⟨#[97, 116, 109, 111, 115, 116]⟩ : ByteArray), (⟨#[115, 97, 109, 101]⟩ : ByteArray), (⟨#[110, 101, 103]⟩ : ByteArray), (⟨#[110, 111, 116]⟩ : ByteArray), (⟨#[98, 121, 116, 101]⟩ : ByteArray), (⟨#[115, 104, 111, 114, 116]⟩ : ByteArray), (⟨#[105, 110, 116]⟩ : ByteArray), (⟨#[119, 111, 114, 100]⟩ : ByteArray), (⟨#[106, 117, 109, 112]⟩ : ByteArray), (⟨#[106, 122]⟩ : ByteArray), (⟨#[99, 97, 108, 108]⟩ : ByteArray), (⟨#[114, 101, 116]⟩ : ByteArray), (⟨#[110, 101, 119]⟩ : ByteArray), (⟨#[103, 101, 116]⟩ : ByteArray), (⟨#[115, 101, 116]⟩ : ByteArray), (⟨#[108, 101, 110]⟩ : ByteArray), (⟨#[111, 117, 116]⟩ : ByteArray)] : List ByteArray)) (inner := [.string (⟨#[]⟩ : ByteArray), .string (⟨#[112, 117, 115, 104]⟩ : ByteArray), .string (⟨#[108, 111, 97, 100]⟩ : ByteArray), .string (⟨#[115, 116, 111, 114, 101]⟩ : ByteArray), .string (⟨#[100, 117, 112]⟩ : ByteArray), .string (⟨#[112, 111, 112]⟩ : ByteArray), .string (⟨#[]⟩ : ByteArray), .string (⟨#[]⟩ : ByteArray), .string (⟨#[]⟩ : ByteArray), .string (⟨#[]⟩ : ByteArray), .string (⟨#[97, 100, 100]⟩ : ByteArray), .string (⟨#[115, 117, 98]⟩ : ByteArray), .string (⟨#[109, 117, 108]⟩ : ByteArray), .string (⟨#[100, 105, 118]⟩ : ByteArray), .string (⟨#[114, 101, 109]⟩ : ByteArray), .string (⟨#[97, 110, 100]⟩ : ByteArray), .string (⟨#[111, 114]⟩ : ByteArray), .string (⟨#[120, 111, 114]⟩ : ByteArray), .string (⟨#[115, 104, 108]⟩ : ByteArray), .string (⟨#[115, 104, 114]⟩ : ByteArray), .string (⟨#[117, 115, 104, 114]⟩ : ByteArray), .string (⟨#[108, 101, 115, 115]⟩ : ByteArray), .string (⟨#[97, 116, 109, 111, 115, 116]⟩ : ByteArray), .string (⟨#[115, 97, 109, 101]⟩ : ByteArray), .string (⟨#[110, 101, 103]⟩ : ByteArray), .string (⟨#[110, 111, 116]⟩ : ByteArray), .string (⟨#[98, 121, 116, 101]⟩ : ByteArray), .string (⟨#[115, 104, 111, 114, 116]⟩ : ByteArray), .string (⟨#[105, 110, 116]⟩ : ByteArray), .string (⟨#[119, 111, 114, 100]⟩ : ByteArray), .string (⟨#[106, 117, 109, 112]⟩ : ByteArray), .string (⟨#[106, 122]⟩ : ByteArray), .string (⟨#[99, 97, 108, 108]⟩ : ByteArray), .string (⟨#[114, 101, 116]⟩ : ByteArray), .string (⟨#[110, 101, 119]⟩ : ByteArray), .string (⟨#[103, 101, 116]⟩ : ByteArray), .string (⟨#[115, 101, 116]⟩ : ByteArray), .string (⟨#[108, 101, 110]⟩ : ByteArray), .string (⟨#[111, 117, 116]⟩ : ByteArray)]) (ok := fun _ => True) (okp := fun _ => True) ?hr ?hp (fun _ hk => hk) trivial (Below.refl _ _) (Nat.le_refl _) (by simp) ?_; (case hd => rfl); (case hg => rfl); (case hr => exact gs); (case hp => exact (Reps.one (show Kd.M Kd.string _ _ _ (⟨#[]⟩ : ByteArray) [.string (⟨#[]⟩ : ByteArray)] from rfl) (Reps.one (show Kd.M Kd.string _ _ _ (⟨#[112, 117, 115, 104]⟩ : ByteArray) [.string (⟨#[112, 117, 115, 104]⟩ : ByteArray)] from rfl) (Reps.one (show Kd.M Kd.string _ _ _ (⟨#[108, 111, 97, 100]⟩ : ByteArray) [.string (⟨#[108, 111, 97, 100]⟩ : ByteArray)] from rfl) (Reps.one (show Kd.M Kd.string _ _ _ (⟨#[115, 116, 111, 114, 101]⟩ : ByteArray) [.string (⟨#[115, 116, 111, 114, 101]⟩ : ByteArray)] from rfl) (Reps.one (show Kd.M Kd.string _ _ _ (⟨#[100, 117, 112]⟩ : ByteArray) [.string (⟨#[100, 117, 112]⟩ : ByteArray)] from rfl) (Reps.one (show Kd.M Kd.string _ _ _ (⟨#[112, 111, 112]⟩ : ByteArray) [.string (⟨#[112, 111, 112]⟩ : ByteArray)] from rfl) (Reps.one (show Kd.M Kd.string _ _ _ (⟨#[]⟩ : ByteArray) [.string (⟨#[]⟩ : ByteArray)] from rfl) (Reps.one (show Kd.M Kd.string _ _ _ (⟨#[]⟩ : ByteArray) [.string (⟨#[]⟩ : ByteArray)] from rfl) (Reps.one (show Kd.M Kd.string _ _ _ (⟨#[]⟩ : ByteArray) [.string (⟨#[]⟩ : ByteArray)] from rfl) (Reps.one (show Kd.M Kd.string _ _ _ (⟨#[]⟩ : ByteArray) [.string (⟨#[]⟩ : ByteArray)] from rfl) (Reps.one (show Kd.M Kd.string _ _ _ (⟨#[97, 100, 100]⟩ : ByteArray) [.string (⟨#[97, 100, 100]⟩ : ByteArray)] from rfl) (Reps.one (show Kd.M Kd.string _ _ _ (⟨#[115, 117, 98]⟩ : ByteArray) [.string (⟨#[115, 117, 98]⟩ : ByteArray)] from rfl) (Reps.one (show Kd.M Kd.string _ _ _ (⟨#[109, 117, 108]⟩ : ByteArray) [.string (⟨#[109, 117, 108]⟩ : ByteArray)] from rfl) (Reps.one (show Kd.M Kd.string _ _ _ (⟨#[100, 105, 118]⟩ : ByteArray) [.string (⟨#[100, 105, 118]⟩ : ByteArray)] from rfl) (Reps.one (show Kd.M Kd.string _ _ _ (⟨#[114, 101, 109]⟩ : ByteArray) [.string (⟨#[114, 101, 109]⟩ : ByteArray)] from rfl) (Reps.one (show Kd.M Kd.string _ _ _ (⟨#[97, 110, 100]⟩ : ByteArray) [.string (⟨#[97, 110, 100]⟩ : ByteArray)] from rfl) (Reps.one (show Kd.M Kd.string _ _ _ (⟨#[111, 114]⟩ : ByteArray) [.string (⟨#[111, 114]⟩ : ByteArray)] from rfl) (Reps.one (show Kd.M Kd.string _ _ _ (⟨#[120, 111, 114]⟩ : ByteArray) [.string (⟨#[120, 111, 114]⟩ : ByteArray)] from rfl) (Reps.one (show Kd.M Kd.string _ _ _ (⟨#[115, 104, 108]⟩ : ByteArray) [.string (⟨#[115, 104, 108]⟩ : ByteArray)] from rfl) (Reps.one (show Kd.M Kd.string _ _ _ (⟨#[115, 104, 114]⟩ : ByteArray) [.string (⟨#[115, 104, 114]⟩ : ByteArray)] from rfl) (Reps.one (show Kd.M Kd.string _ _ _ (⟨#[117, 115, 104, 114]⟩ : ByteArray) [.string (⟨#[117, 115, 104, 114]⟩ : ByteArray)] from rfl) (Reps.one (show Kd.M Kd.string _ _ _ (⟨#[108, 101, 115, 115]⟩ : ByteArray) [.string (⟨#[108, 101, 115, 115]⟩ : ByteArray)] from rfl) (Reps.one (show Kd.M Kd.string _ _ _ (⟨#[97, 116, 109, 111, 115, 116]⟩ : ByteArray) [.string (⟨#[97, 116, 109, 111, 115, 116]⟩ : ByteArray)] from rfl) (Reps.one (show Kd.M Kd.string _ _ _ (⟨#[115, 97, 109, 101]⟩ : ByteArray) [.string (⟨#[115, 97, 109, 101]⟩ : ByteArray)] from rfl) (Reps.one (show Kd.M Kd.string _ _ _ (⟨#[110, 101, 103]⟩ : ByteArray) [.string (⟨#[110, 101, 103]⟩ : ByteArray)] from rfl) (Reps.one (show Kd.M Kd.string _ _ _ (⟨#[110, 111, 116]⟩ : ByteArray) [.string (⟨#[110, 111, 116]⟩ : ByteArray)] from rfl) (Reps.one (show Kd.M Kd.string _ _ _ (⟨#[98, 121, 116, 101]⟩ : ByteArray) [.string (⟨#[98, 121, 116, 101]⟩ : ByteArray)] from rfl) (Reps.one (show Kd.M Kd.string _ _ _ (⟨#[115, 104, 111, 114, 116]⟩ : ByteArray) [.string (⟨#[115, 104, 111, 114, 116]⟩ : ByteArray)] from rfl) (Reps.one (show Kd.M Kd.string _ _ _ (⟨#[105, 110, 116]⟩ : ByteArray) [.string (⟨#[105, 110, 116]⟩ : ByteArray)] from rfl) (Reps.one (show Kd.M Kd.string _ _ _ (⟨#[119, 111, 114, 100]⟩ : ByteArray) [.string (⟨#[119, 111, 114, 100]⟩ : ByteArray)] from rfl) (Reps.one (show Kd.M Kd.string _ _ _ (⟨#[106, 117, 109, 112]⟩ : ByteArray) [.string (⟨#[106, 117, 109, 112]⟩ : ByteArray)] from rfl) (Reps.one (show Kd.M Kd.string _ _ _ (⟨#[106, 122]⟩ : ByteArray) [.string (⟨#[106, 122]⟩ : ByteArray)] from rfl) (Reps.one (show Kd.M Kd.string _ _ _ (⟨#[99, 97, 108, 108]⟩ : ByteArray) [.string (⟨#[99, 97, 108, 108]⟩ : ByteArray)] from rfl) (Reps.one (show Kd.M Kd.string _ _ _ (⟨#[114, 101, 116]⟩ : ByteArray) [.string (⟨#[114, 101, 116]⟩ : ByteArray)] from rfl) (Reps.one (show Kd.M Kd.string _ _ _ (⟨#[110, 101, 119]⟩ : ByteArray) [.string (⟨#[110, 101, 119]⟩ : ByteArray)] from rfl) (Reps.one (show Kd.M Kd.string _ _ _ (⟨#[103, 101, 116]⟩ : ByteArray) [.string (⟨#[103, 101, 116]⟩ : ByteArray)] from rfl) (Reps.one (show Kd.M Kd.string _ _ _ (⟨#[115, 101, 116]⟩ : ByteArray) [.string (⟨#[115, 101, 116]⟩ : ByteArray)] from rfl) (Reps.one (show Kd.M Kd.string _ _ _ (⟨#[108, 101, 110]⟩ : ByteArray) [.string (⟨#[108, 101, 110]⟩ : ByteArray)] from rfl) (Reps.one (show Kd.M Kd.string _ _ _ (⟨#[111, 117, 116]⟩ : ByteArray) [.string (⟨#[111, 117, 116]⟩ : ByteArray)] from rfl) (Reps.none _ _))))))))))))))))))))))))))))))))))))))))); intro v253 w1 ho2 hb hg_ hnew_; clear hg_ hnew_; (first | rw [← Ny252.out] at ho2 | (simp only [Int.reduceToNat] at ho2; rw [← Ny252.out] at ho2)); have HO254 := am (Kd.R_lower ho2 (below_size (bw HB))); replace HB := bs HB hb; clear hb ho2))
 go_ret
 exact ⟨_, er, kR HO254, bw HB⟩

def impl_OpName.f (a0 : Int) : Option (ByteArray) := (impl_in.f a0 0 38).bind fun t255 => (if t255 = true then ((impl_opNames.f).bind fun t256 => (if 0 ≤ a0 then (if a0 < (t256.length : Int) then (some (rdOf ByteArray.empty t256 a0)) else (none)) else (none))) else (some (⟨#[]⟩ : ByteArray)))
theorem impl_OpName.calls (a0 : Int) (r : ByteArray) (w : World) (h : impl_OpName.f a0 = some r) :
  Calls Try.prog 102 #[.int .i64 a0] w fun e w' => e = .returned (.string r) ∧ Below w.heap.size w w' := by
 have HB := am (Below.refl w.heap.size w)
 have H : ((impl_in.f a0 0 38).bind fun t255 => (if t255 = true then ((impl_opNames.f).bind fun t256 => (if 0 ≤ a0 then (if a0 < (t256.length : Int) then (some (rdOf ByteArray.empty t256 a0)) else (none)) else (none))) else (some (⟨#[]⟩ : ByteArray)))) = some r := h
 clear h
 refine be H ?_; clear H; intro t255 A2 H
 have HC3 := am H
 clear H
 go_enter Try.func102, Try.ntmps102
 go_upto_if 5 with (first | ((with_reducible refine gate_callee (f := 71) rfl ?_); refine goesL_ (some 4) rfl rfl Try.func71 (by kernel_rfl) rfl #[.int .i64 a0, .int .i64 0, .int .i64 38] rfl gl ?_; (with_reducible refine (impl_in.calls a0 0 38 t255 _ A2.out).mono ?_); rintro e w' ⟨rfl, ⟨nd, rfl⟩⟩; refine ⟨_, rfl, ?_⟩))
 (try simp only [Act.put, sa, sz, ss])
 (try simp only [World.drewN_drewN])
 generalize hq_ : World.drewN w _ = w4
 replace HB : Aside0 (Below w.heap.size w w4) := ⟨by rw [← hq_]; exact (bw HB)⟩
 clear hq_
 have H := HC3.out
 clear HC3
 refine qT H ?_ ?_ <;> clear H <;> intro c5 H <;> subst c5
 ·refine be H ?_; clear H; intro t256 A6 H
  refine iM H ?_; clear H; intro c7b0 H
  (first | rw [c7b0] | (simp only [i64_w, i32_w]; rw [c7b0]) | skip)
  refine iM H ?_; clear H; intro c8b0 H
  obtain rfl := Option.some.inj H
  go_wp2_with (first | ((with_reducible refine gate_callee (f := 115) rfl ?_); refine goesL_ (some 6) rfl rfl Try.func115 (by kernel_rfl) rfl #[] rfl gl ?_; (with_reducible refine (impl_opNames.calls  t256 _ A6.out).mono ?_); rintro e w9 ⟨v257, rfl, ho0, hb⟩; refine ⟨_, rfl, ?_⟩; have HO258 := am (Kd.R_lower ho0 (below_size (bw HB))); replace HB := bs HB hb; clear hb; (try clear ho0); obtain ⟨Ao10, co10, eo10⟩ := Kd.R_slice HO258.out; subst eo10; have p259 : 0 ≤ (a0 : Int) := of_decide_eq_true as1; have q259 : a0 < (t256.length : Int) := of_decide_eq_true as1; obtain ⟨ad259, e259, hx259_0⟩ := Kd.at_string (Kd.R_reads' HO258.out).2.2 a0 p259 q259; cases e259; replace p259 := eq_true p259; replace q259 := eq_true q259))
  go_ret
  exact ⟨er, bw HB⟩
 obtain rfl := Option.some.inj H
 go_wp2
 go_ret
 exact ⟨er, bw HB⟩

end Go.Proofs.Ytopaefhfjioecaa.QFnHeights
