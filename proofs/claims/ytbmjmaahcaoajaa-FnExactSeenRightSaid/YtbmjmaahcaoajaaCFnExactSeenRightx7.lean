import Derived.Test.YtbmjmaahcaoajaaCFnExactSeenRightx0
import Derived.Test.YtbmjmaahcaoajaaCFnExactSeenRightx5
import Derived.Test.YtbmjmaahcaoajaaCFnExactSeenRightx6
namespace Go.Proofs.Ytbmjmaahcaoajaa.QFnExactSeenRight
open Go.RowKit Go.Proofs.YtbmjmaahcaoajaaW
open PrintWords PrintLast PrintMore PrintShort
attribute [local go_sem] max2_int min2_int max_two min_two max_three min_three max_four min_four   -- for this text's walks alone
set_option linter.unusedVariables false
set_option maxHeartbeats 8000000
set_option maxRecDepth 100000
set_option linter.unusedSimpArgs false

mutual
def spec_l04Func.j0 : Nat → Int → Bool → List (S100) → Int → Int → List (S102) → Option (Int × Int × Int)
 | 0, _, _, _, _, _, _ => none
 | k + 1, x1, x45, x217000, x220000, x220001, x220002 => if x45 = true then (some (x1, 0, 1)) else (spec_l04Func.l0 k x1 0 x217000 x220000 x220001 x220002)
def spec_l04Func.l0 : Nat → Int → Int → List (S100) → Int → Int → List (S102) → Option (Int × Int × Int)
 | 0, _, _, _, _, _, _ => none
 | k + 1, x1, x6, x217000, x220000, x220001, x220002 => if x6 < (x220002.length : Int) then (if 0 ≤ x6 then ((spec_InsRight.f k x217000 x1 ((rd_T102 x220002 x6).f0) ((rd_T102 x220002 x6).f1)).bind fun t221 => (if t221 = true then (spec_l04Func.l0 k x1 (wrap64 (x6 + 1)) x217000 x220000 x220001 x220002) else (some (x1, x6, 1)))) else (none)) else ((spec_l04Heights.f k x217000 x1).bind fun bt222 => (some (bt222.2.1, bt222.2.2.1, bt222.2.2.2)))
end
def spec_l04Func.f (k : Nat) (l0_0 : List (S100)) (a1 : Int) : Option (Int × Int × Int) := if 0 ≤ a1 then (if a1 < (l0_0.length : Int) then (if ((rd_T100 l0_0 a1).f0) < 0 then (spec_l04Func.j0 k a1 true l0_0 ((rd_T100 l0_0 a1).f0) ((rd_T100 l0_0 a1).f1) ((rd_T100 l0_0 a1).f2)) else (if ((rd_T100 l0_0 a1).f0) > 4 then (spec_l04Func.j0 k a1 true l0_0 ((rd_T100 l0_0 a1).f0) ((rd_T100 l0_0 a1).f1) ((rd_T100 l0_0 a1).f2)) else (if ((rd_T100 l0_0 a1).f1) < ((rd_T100 l0_0 a1).f0) then (spec_l04Func.j0 k a1 true l0_0 ((rd_T100 l0_0 a1).f0) ((rd_T100 l0_0 a1).f1) ((rd_T100 l0_0 a1).f2)) else (if ((rd_T100 l0_0 a1).f1) > 8 then (spec_l04Func.j0 k a1 true l0_0 ((rd_T100 l0_0 a1).f0) ((rd_T100 l0_0 a1).f1) ((rd_T100 l0_0 a1).f2)) else (if (((rd_T100 l0_0 a1).f2).length : Int) < 1 then (spec_l04Func.j0 k a1 true l0_0 ((rd_T100 l0_0 a1).f0) ((rd_T100 l0_0 a1).f1) ((rd_T100 l0_0 a1).f2)) else (spec_l04Func.j0 k a1 (decide ((((rd_T100 l0_0 a1).f2).length : Int) > 60)) l0_0 ((rd_T100 l0_0 a1).f0) ((rd_T100 l0_0 a1).f1) ((rd_T100 l0_0 a1).f2))))))) else (none)) else (none)
theorem spec_l04Func.mono_l : ∀ k, (∀ y0 y1 y2 y3 y4 y5, LeO (spec_l04Func.j0 k y0 y1 y2 y3 y4 y5) (spec_l04Func.j0 (k + 1) y0 y1 y2 y3 y4 y5)) ∧ (∀ y0 y1 y2 y3 y4 y5, LeO (spec_l04Func.l0 k y0 y1 y2 y3 y4 y5) (spec_l04Func.l0 (k + 1) y0 y1 y2 y3 y4 y5))
 | 0 => ⟨fun _ _ _ _ _ _ r h => by simp [spec_l04Func.j0] at h, fun _ _ _ _ _ _ r h => by simp [spec_l04Func.l0] at h⟩
 | k + 1 => by
  obtain ⟨ih0, ih1⟩ := spec_l04Func.mono_l k
  refine ⟨?_, ?_⟩
  ·intro y0 y1 y2 y3 y4 y5
   unfold spec_l04Func.j0
   with_reducible repeat' first | exact ih0 .. | exact ih1 .. | exact spec_InsRight.mono .. | exact spec_l04Heights.mono .. | exact LeO.refl _ | exact LeO.none _ | refine LeO.ite ?_ ?_ | refine LeO.bind ?_ (fun _ => ?_)
  ·intro y0 y1 y2 y3 y4 y5
   unfold spec_l04Func.l0
   with_reducible repeat' first | exact ih0 .. | exact ih1 .. | exact spec_InsRight.mono .. | exact spec_l04Heights.mono .. | exact LeO.refl _ | exact LeO.none _ | refine LeO.ite ?_ ?_ | refine LeO.bind ?_ (fun _ => ?_)
theorem spec_l04Func.mono : ∀ a0 a1 k, LeO (spec_l04Func.f k a0 a1) (spec_l04Func.f (k + 1) a0 a1) := by
 intro a0 a1 k
 obtain ⟨ih0, ih1⟩ := spec_l04Func.mono_l k
 unfold spec_l04Func.f
 with_reducible repeat' first | exact ih0 .. | exact ih1 .. | exact spec_InsRight.mono .. | exact spec_l04Heights.mono .. | exact LeO.refl _ | exact LeO.none _ | refine LeO.ite ?_ ?_ | refine LeO.bind ?_ (fun _ => ?_)
def spec_l04Func.T7 : Bool × List (List Nat × List Nat) := (true, [([], []), ([], []), ([], []), ([2], [2]), ([], []), ([3, 4], [3, 4]), ([5], [5]), ([0, 1, 6], [0, 1, 6]), ([7], [7])])
def spec_l04Func.B7 : List Nat := [0, 0, 0, 4, 0, 28, 60, 127, 255]
theorem spec_l04Func.tab7 : rtab .any (opsOf Try.f172 7) = spec_l04Func.T7 := by kernel_rfl
theorem spec_l04Func.bits7 : waitsOk spec_l04Func.T7.2 spec_l04Func.B7 = true := by kernel_rfl
theorem spec_l04Func.calls (k : Nat) (A0_0 : Option Addr) (c0_0 : Nat) (l0_0 : List (S100)) (a1 : Int) (r1 : Int) (r2 : Int) (r3 : Int) (w : World) (hr0_0 : Kd.C k100 w A0_0 l0_0.length l0_0) (hc0_0 : l0_0.length ≤ c0_0) (h : spec_l04Func.f k l0_0 a1 = some (r1, r2, r3)) :
  Calls Try.prog 172 #[.agg #[.slice A0_0 l0_0.length c0_0], .int .i64 a1] w fun e w' => e = .returned (.agg #[.int .i64 r1, .int .i64 r2, .int .i64 r3]) ∧ Below w.heap.size w w' := by
 have hu30 := Try.underlying30
 have hu84 := Try.underlying84
 have hu100 := Try.underlying100
 have hu102 := Try.underlying102
 have HR0_0 := am hr0_0
 have HC0_0 := am hc0_0
 clear hr0_0 hc0_0
 have HB := am (Below.refl w.heap.size w)
 have H : (if 0 ≤ a1 then (if a1 < (l0_0.length : Int) then (if ((rd_T100 l0_0 a1).f0) < 0 then (spec_l04Func.j0 k a1 true l0_0 ((rd_T100 l0_0 a1).f0) ((rd_T100 l0_0 a1).f1) ((rd_T100 l0_0 a1).f2)) else (if ((rd_T100 l0_0 a1).f0) > 4 then (spec_l04Func.j0 k a1 true l0_0 ((rd_T100 l0_0 a1).f0) ((rd_T100 l0_0 a1).f1) ((rd_T100 l0_0 a1).f2)) else (if ((rd_T100 l0_0 a1).f1) < ((rd_T100 l0_0 a1).f0) then (spec_l04Func.j0 k a1 true l0_0 ((rd_T100 l0_0 a1).f0) ((rd_T100 l0_0 a1).f1) ((rd_T100 l0_0 a1).f2)) else (if ((rd_T100 l0_0 a1).f1) > 8 then (spec_l04Func.j0 k a1 true l0_0 ((rd_T100 l0_0 a1).f0) ((rd_T100 l0_0 a1).f1) ((rd_T100 l0_0 a1).f2)) else (if (((rd_T100 l0_0 a1).f2).length : Int) < 1 then (spec_l04Func.j0 k a1 true l0_0 ((rd_T100 l0_0 a1).f0) ((rd_T100 l0_0 a1).f1) ((rd_T100 l0_0 a1).f2)) else (spec_l04Func.j0 k a1 (decide ((((rd_T100 l0_0 a1).f2).length : Int) > 60)) l0_0 ((rd_T100 l0_0 a1).f0) ((rd_T100 l0_0 a1).f1) ((rd_T100 l0_0 a1).f2))))))) else (none)) else (none)) = some (r1, r2, r3) := h
 clear h
 refine iN H ?_; clear H; intro c3 H
 have c3b0 := decide_eq_true c3
 clear c3
 refine iN H ?_; clear H; intro c4 H
 have c4b0 := decide_eq_true c4
 clear c4
 have HC5 := am H
 clear H
 go_enter Try.func172, Try.ntmps172
 go_upto_region 2 with (first | ((with_reducible refine gate_dst (N := 2) rfl ?_); (try (refine gate_guard (by rfl) ?_; dsimp only)); refine box_event ?hg (N := 2) ?hd (cs := #[.slice A0_0 l0_0.length c0_0]) (t := 30) ?hr ?_; (case hd => rfl); (case hg => rfl); (case hr => exact gs); intro gb216 hg w6 hbox hb; have BK216 := am (hbox); have GW216 := gw hg HB; replace HB := bs HB hb; clear hb hbox hg) | ((with_reducible refine gate_dst (N := 4) rfl ?_); (try (refine gate_guard (by rfl) ?_; dsimp only)); refine box_event ?hg (N := 4) ?hd (cs := #[.int .i64 0, .int .i64 0, .int .i64 0]) (t := 84) ?hr ?_; (case hd => rfl); (case hg => rfl); (case hr => exact gs); intro gb217 hg w7 hbox hb; have BK217 := am (hbox); have GW217 := gw hg HB; replace HB := bs HB hb; obtain ⟨NB216_217, NB217_216, BK216⟩ := b3 hg BK216 hb; clear hb hbox hg; have hnb8 := NB216_217.out; have hnc8 := NB217_216.out; have hcz9 := bK w7 BK216; have hfz9 := bF BK216; have p218 : 0 ≤ (a1 : Int) := of_decide_eq_true as1; have q218 : a1 < (l0_0.length : Int) := of_decide_eq_true as1; obtain ⟨ad218, A218_2, c218_2, e218, hx218_0, hx218_1, hx218_2, hl218_2, hi218_2⟩ := at_T100 HR0_0.out a1 p218 q218; cases e218; replace hx218_0 := cl HB hx218_0; replace hx218_1 := cl HB hx218_1; replace hx218_2 := cl HB hx218_2; have HR218_2 := am hi218_2; have HC218_2 := am hl218_2; clear hi218_2 hl218_2; replace p218 := eq_true p218; replace q218 := eq_true q218) | ((with_reducible refine gate_dst (N := 5) rfl ?_); (try (refine gate_guard (by rfl) ?_; dsimp only)); refine box_event ?hg (N := 5) ?hd (cs := #[.int .i64 0, .int .i64 0, .slice none 0 0]) (t := 100) ?hr ?_; (case hd => rfl); (case hg => rfl); (case hr => exact gs); intro gb219 hg w10 hbox hb; have BK219 := am (hbox); have GW219 := gw hg HB; replace HB := bs HB hb; obtain ⟨NB216_219, NB219_216, BK216⟩ := b3 hg BK216 hb; obtain ⟨NB217_219, NB219_217, BK217⟩ := b3 hg BK217 hb; clear hb hbox hg; have hnb11 := NB219_216.out; have hnc11 := NB216_219.out; have hnb12 := NB219_217.out; have hnc12 := NB217_219.out; have hcz13 := bK w10 BK219; have hfz13 := bF BK219))
 (try simp only [Act.put, sa, sz, ss])
 go_cut [45] (fun v45 wc => ∃ (kq : Nat) (x45_4 : Bool), v45 = .bool x45_4 ∧ Aside0 (spec_l04Func.j0 kq a1 x45_4 l0_0 ((rd_T100 l0_0 a1).f0) ((rd_T100 l0_0 a1).f1) ((rd_T100 l0_0 a1).f2) = some (r1, r2, r3)) ∧ Aside0 (kq ≤ k) ∧ Aside0 (wc.heap[gb216]? = some (.cells #[(.slice (some ad218) l0_0.length c0_0)] 30 (0, 0))) ∧ Aside0 (wc.heap[gb217]? = some (.cells #[.int .i64 0, .int .i64 0, .int .i64 0] 84 (0, 0))) ∧ Aside0 (wc.heap[gb219]? = some (.cells #[.int .i64 ((rd_T100 l0_0 a1).f0), .int .i64 ((rd_T100 l0_0 a1).f1), (.slice A218_2 ((rd_T100 l0_0 a1).f2).length c218_2)] 100 (0, 0))) ∧ Aside0 (Below w.heap.size w wc))
 case first =>
  have H := HC5.out
  clear HC5
  refine qI H ?_ ?_ <;> clear H <;> intro c14b0 H
  ·(first | rw [c14b0] | (simp only [i64_w, i32_w]; rw [c14b0]) | skip)
   have H' := am H
   clear H
   have hnb15 := NB219_216.out
   have hnc15 := NB216_219.out
   have hnb16 := NB219_217.out
   have hnc16 := NB217_219.out
   have hcz17 := bK w10 BK219
   have hfz17 := bF BK219
   go_wp2
   go_meet
   case rel => exact ⟨_, (true), dr, H', ⟨lk0⟩, ⟨by (with_reducible repeat (first | apply dN | apply dW | apply dA)); refine blk_far ?_ NB216_219.out _; (with_reducible repeat (first | apply dN | apply dW | apply dA)); refine blk_far ?_ NB216_219.out _; (with_reducible repeat (first | apply dN | apply dW | apply dA)); refine blk_far ?_ NB216_219.out _; exact bp BK216⟩, ⟨by (with_reducible repeat (first | apply dN | apply dW | apply dA)); refine blk_far ?_ NB217_219.out _; (with_reducible repeat (first | apply dN | apply dW | apply dA)); refine blk_far ?_ NB217_219.out _; (with_reducible repeat (first | apply dN | apply dW | apply dA)); refine blk_far ?_ NB217_219.out _; exact bp BK217⟩, ⟨by (with_reducible repeat (first | apply dN | apply dW | apply dA)); refine blk_put (cs := #[.int .i64 ((rd_T100 l0_0 a1).f0), .int .i64 ((rd_T100 l0_0 a1).f1), .slice none 0 0]) ?_ 2 _ rfl; (with_reducible repeat (first | apply dN | apply dW | apply dA)); refine blk_put (cs := #[.int .i64 ((rd_T100 l0_0 a1).f0), .int .i64 0, .slice none 0 0]) ?_ 1 _ rfl; (with_reducible repeat (first | apply dN | apply dW | apply dA)); refine blk_put (cs := #[.int .i64 0, .int .i64 0, .slice none 0 0]) ?_ 0 _ rfl; exact bp BK219⟩, ⟨bw HB⟩⟩
  (first | rw [c14b0] | (simp only [i64_w, i32_w]; rw [c14b0]) | skip)
  refine qG H ?_ ?_ <;> clear H <;> intro c18b0 H
  ·have H' := am H
   clear H
   have hnb19 := NB219_216.out
   have hnc19 := NB216_219.out
   have hnb20 := NB219_217.out
   have hnc20 := NB217_219.out
   have hcz21 := bK w10 BK219
   have hfz21 := bF BK219
   go_wp2
   go_meet
   case rel => exact ⟨_, (true), dr, H', ⟨lk0⟩, ⟨by (with_reducible repeat (first | apply dN | apply dW | apply dA)); refine blk_far ?_ NB216_219.out _; (with_reducible repeat (first | apply dN | apply dW | apply dA)); refine blk_far ?_ NB216_219.out _; (with_reducible repeat (first | apply dN | apply dW | apply dA)); refine blk_far ?_ NB216_219.out _; exact bp BK216⟩, ⟨by (with_reducible repeat (first | apply dN | apply dW | apply dA)); refine blk_far ?_ NB217_219.out _; (with_reducible repeat (first | apply dN | apply dW | apply dA)); refine blk_far ?_ NB217_219.out _; (with_reducible repeat (first | apply dN | apply dW | apply dA)); refine blk_far ?_ NB217_219.out _; exact bp BK217⟩, ⟨by (with_reducible repeat (first | apply dN | apply dW | apply dA)); refine blk_put (cs := #[.int .i64 ((rd_T100 l0_0 a1).f0), .int .i64 ((rd_T100 l0_0 a1).f1), .slice none 0 0]) ?_ 2 _ rfl; (with_reducible repeat (first | apply dN | apply dW | apply dA)); refine blk_put (cs := #[.int .i64 ((rd_T100 l0_0 a1).f0), .int .i64 0, .slice none 0 0]) ?_ 1 _ rfl; (with_reducible repeat (first | apply dN | apply dW | apply dA)); refine blk_put (cs := #[.int .i64 0, .int .i64 0, .slice none 0 0]) ?_ 0 _ rfl; exact bp BK219⟩, ⟨bw HB⟩⟩
  refine qI H ?_ ?_ <;> clear H <;> intro c22b0 H
  ·have H' := am H
   clear H
   have hnb23 := NB219_216.out
   have hnc23 := NB216_219.out
   have hnb24 := NB219_217.out
   have hnc24 := NB217_219.out
   have hcz25 := bK w10 BK219
   have hfz25 := bF BK219
   go_wp2
   go_meet
   case rel => exact ⟨_, (true), dr, H', ⟨lk0⟩, ⟨by (with_reducible repeat (first | apply dN | apply dW | apply dA)); refine blk_far ?_ NB216_219.out _; (with_reducible repeat (first | apply dN | apply dW | apply dA)); refine blk_far ?_ NB216_219.out _; (with_reducible repeat (first | apply dN | apply dW | apply dA)); refine blk_far ?_ NB216_219.out _; exact bp BK216⟩, ⟨by (with_reducible repeat (first | apply dN | apply dW | apply dA)); refine blk_far ?_ NB217_219.out _; (with_reducible repeat (first | apply dN | apply dW | apply dA)); refine blk_far ?_ NB217_219.out _; (with_reducible repeat (first | apply dN | apply dW | apply dA)); refine blk_far ?_ NB217_219.out _; exact bp BK217⟩, ⟨by (with_reducible repeat (first | apply dN | apply dW | apply dA)); refine blk_put (cs := #[.int .i64 ((rd_T100 l0_0 a1).f0), .int .i64 ((rd_T100 l0_0 a1).f1), .slice none 0 0]) ?_ 2 _ rfl; (with_reducible repeat (first | apply dN | apply dW | apply dA)); refine blk_put (cs := #[.int .i64 ((rd_T100 l0_0 a1).f0), .int .i64 0, .slice none 0 0]) ?_ 1 _ rfl; (with_reducible repeat (first | apply dN | apply dW | apply dA)); refine blk_put (cs := #[.int .i64 0, .int .i64 0, .slice none 0 0]) ?_ 0 _ rfl; exact bp BK219⟩, ⟨bw HB⟩⟩
  refine qG H ?_ ?_ <;> clear H <;> intro c26b0 H
  ·have H' := am H
   clear H
   have hnb27 := NB219_216.out
   have hnc27 := NB216_219.out
   have hnb28 := NB219_217.out
   have hnc28 := NB217_219.out
   have hcz29 := bK w10 BK219
   have hfz29 := bF BK219
   go_wp2
   go_meet
   case rel => exact ⟨_, (true), dr, H', ⟨lk0⟩, ⟨by (with_reducible repeat (first | apply dN | apply dW | apply dA)); refine blk_far ?_ NB216_219.out _; (with_reducible repeat (first | apply dN | apply dW | apply dA)); refine blk_far ?_ NB216_219.out _; (with_reducible repeat (first | apply dN | apply dW | apply dA)); refine blk_far ?_ NB216_219.out _; exact bp BK216⟩, ⟨by (with_reducible repeat (first | apply dN | apply dW | apply dA)); refine blk_far ?_ NB217_219.out _; (with_reducible repeat (first | apply dN | apply dW | apply dA)); refine blk_far ?_ NB217_219.out _; (with_reducible repeat (first | apply dN | apply dW | apply dA)); refine blk_far ?_ NB217_219.out _; exact bp BK217⟩, ⟨by (with_reducible repeat (first | apply dN | apply dW | apply dA)); refine blk_put (cs := #[.int .i64 ((rd_T100 l0_0 a1).f0), .int .i64 ((rd_T100 l0_0 a1).f1), .slice none 0 0]) ?_ 2 _ rfl; (with_reducible repeat (first | apply dN | apply dW | apply dA)); refine blk_put (cs := #[.int .i64 ((rd_T100 l0_0 a1).f0), .int .i64 0, .slice none 0 0]) ?_ 1 _ rfl; (with_reducible repeat (first | apply dN | apply dW | apply dA)); refine blk_put (cs := #[.int .i64 0, .int .i64 0, .slice none 0 0]) ?_ 0 _ rfl; exact bp BK219⟩, ⟨bw HB⟩⟩
  refine qI H ?_ ?_ <;> clear H <;> intro c30b0 H
  ·have c30 := of_decide_eq_true c30b0
   have c30b1 : decide (((rd_T100 l0_0 a1).f2).length < 1) = true := decide_eq_true (by omega)
   clear c30
   have H' := am H
   clear H
   have hnb31 := NB219_216.out
   have hnc31 := NB216_219.out
   have hnb32 := NB219_217.out
   have hnc32 := NB217_219.out
   have hcz33 := bK w10 BK219
   have hfz33 := bF BK219
   go_wp2
   go_meet
   case rel => exact ⟨_, (true), dr, H', ⟨lk0⟩, ⟨by (with_reducible repeat (first | apply dN | apply dW | apply dA)); refine blk_far ?_ NB216_219.out _; (with_reducible repeat (first | apply dN | apply dW | apply dA)); refine blk_far ?_ NB216_219.out _; (with_reducible repeat (first | apply dN | apply dW | apply dA)); refine blk_far ?_ NB216_219.out _; exact bp BK216⟩, ⟨by (with_reducible repeat (first | apply dN | apply dW | apply dA)); refine blk_far ?_ NB217_219.out _; (with_reducible repeat (first | apply dN | apply dW | apply dA)); refine blk_far ?_ NB217_219.out _; (with_reducible repeat (first | apply dN | apply dW | apply dA)); refine blk_far ?_ NB217_219.out _; exact bp BK217⟩, ⟨by (with_reducible repeat (first | apply dN | apply dW | apply dA)); refine blk_put (cs := #[.int .i64 ((rd_T100 l0_0 a1).f0), .int .i64 ((rd_T100 l0_0 a1).f1), .slice none 0 0]) ?_ 2 _ rfl; (with_reducible repeat (first | apply dN | apply dW | apply dA)); refine blk_put (cs := #[.int .i64 ((rd_T100 l0_0 a1).f0), .int .i64 0, .slice none 0 0]) ?_ 1 _ rfl; (with_reducible repeat (first | apply dN | apply dW | apply dA)); refine blk_put (cs := #[.int .i64 0, .int .i64 0, .slice none 0 0]) ?_ 0 _ rfl; exact bp BK219⟩, ⟨bw HB⟩⟩
  have c30 := of_decide_eq_false c30b0
  have c30b1 : decide (((rd_T100 l0_0 a1).f2).length < 1) = false := decide_eq_false (by omega)
  clear c30
  have H' := am H
  clear H
  have hnb34 := NB219_216.out
  have hnc34 := NB216_219.out
  have hnb35 := NB219_217.out
  have hnc35 := NB217_219.out
  have hcz36 := bK w10 BK219
  have hfz36 := bF BK219
  go_wp2
  go_meet
  case rel => exact ⟨_, (decide ((((rd_T100 l0_0 a1).f2).length : Int) > 60)), dr, H', ⟨lk0⟩, ⟨by (with_reducible repeat (first | apply dN | apply dW | apply dA)); refine blk_far ?_ NB216_219.out _; (with_reducible repeat (first | apply dN | apply dW | apply dA)); refine blk_far ?_ NB216_219.out _; (with_reducible repeat (first | apply dN | apply dW | apply dA)); refine blk_far ?_ NB216_219.out _; exact bp BK216⟩, ⟨by (with_reducible repeat (first | apply dN | apply dW | apply dA)); refine blk_far ?_ NB217_219.out _; (with_reducible repeat (first | apply dN | apply dW | apply dA)); refine blk_far ?_ NB217_219.out _; (with_reducible repeat (first | apply dN | apply dW | apply dA)); refine blk_far ?_ NB217_219.out _; exact bp BK217⟩, ⟨by (with_reducible repeat (first | apply dN | apply dW | apply dA)); refine blk_put (cs := #[.int .i64 ((rd_T100 l0_0 a1).f0), .int .i64 ((rd_T100 l0_0 a1).f1), .slice none 0 0]) ?_ 2 _ rfl; (with_reducible repeat (first | apply dN | apply dW | apply dA)); refine blk_put (cs := #[.int .i64 ((rd_T100 l0_0 a1).f0), .int .i64 0, .slice none 0 0]) ?_ 1 _ rfl; (with_reducible repeat (first | apply dN | apply dW | apply dA)); refine blk_put (cs := #[.int .i64 0, .int .i64 0, .slice none 0 0]) ?_ 0 _ rfl; exact bp BK219⟩, ⟨bw HB⟩⟩
 clear HC5
 (try clear c1); (try clear c2); (try clear p2); (try clear q2); (try clear hx2); (try clear c3); (try clear c3b0); (try clear c4); (try clear c4b0); (try clear c8); (try clear c11); (try clear c12); (try clear c14); (try clear c14b0); (try clear c15); (try clear c16); (try clear c17); (try clear c18); (try clear c18b0); (try clear c19); (try clear c20); (try clear c21); (try clear p21); (try clear q21); (try clear hx21); (try clear c22); (try clear c22b0); (try clear c23); (try clear c24); (try clear c26); (try clear c26b0); (try clear c27); (try clear c28); (try clear c30); (try clear c30b0); (try clear c30b1); (try clear c31); (try clear c32); (try clear c34); (try clear c35); (try clear hcz13); (try clear hcz17); (try clear hcz21); (try clear hcz25); (try clear hcz29); (try clear hcz33); (try clear hcz36); (try clear hcz9); (try clear hfz13); (try clear hfz17); (try clear hfz21); (try clear hfz25); (try clear hfz29); (try clear hfz33); (try clear hfz36); (try clear hfz9); (try clear hx218_0); (try clear hx218_1); (try clear hx218_2); (try clear p218); (try clear q218)
 obtain ⟨kq, x45_4, rfl, HA, HJ4, BK216, BK217, BK219, HB⟩ := hcut
 rcases kq with _ | kj4
 ·exact absurd HA.out (by simp [spec_l04Func.j0])
 have H := HA.out
 clear HA
 simp only [spec_l04Func.j0] at H
 refine qT H ?_ ?_ <;> clear H <;> intro c37 H <;> subst c37
 ·simp only [Option.some.injEq, Prod.mk.injEq] at H
  obtain ⟨rfl, rfl, rfl⟩ := H
  have hnb38 := NB217_216.out
  have hnc38 := NB216_217.out
  have hnb39 := NB217_219.out
  have hnc39 := NB219_217.out
  have hcz40 := bK wc BK217
  have hfz40 := bF BK217
  go_wp2
  refine bodyPost_ret (results_cell_row rfl _ _ gb217 84 #[.int .i64 a1, .int .i64 0, .int .i64 1] (0, 0) _ rfl (bt BK217) Try.underlying84 rfl (by kernel_rfl)) rfl ?_
  exact ⟨er, bw HB⟩
 have H' := am H
 clear H
 go_wp2
 go_loopg [6] kj4 (fun kq v6 w' => ∃ (x6_2 : Int) (x218000_2 : Int) (x218001_2 : Int) (x218002_2 : Int), v6 = .int .i64 x6_2 ∧ Aside0 (spec_l04Func.l0 kq a1 x6_2 l0_0 ((rd_T100 l0_0 a1).f0) ((rd_T100 l0_0 a1).f1) ((rd_T100 l0_0 a1).f2) = some (r1, r2, r3)) ∧ Aside0 (kq ≤ kj4) ∧ Aside0 (w'.heap[gb216]? = some (.cells #[(.slice (some ad218) l0_0.length c0_0)] 30 (0, 0))) ∧ Aside0 (w'.heap[gb217]? = some (.cells #[.int .i64 x218000_2, .int .i64 x218001_2, .int .i64 x218002_2] 84 (0, 0))) ∧ Aside0 (w'.heap[gb219]? = some (.cells #[.int .i64 ((rd_T100 l0_0 a1).f0), .int .i64 ((rd_T100 l0_0 a1).f1), (.slice A218_2 ((rd_T100 l0_0 a1).f2).length c218_2)] 100 (0, 0))) ∧ Aside0 (Below w.heap.size w w'))
 case atStart => exact ⟨(0), (0), (0), (0), dr, H', ⟨Nat.le_refl _⟩, ⟨bp BK216⟩, ⟨bp BK217⟩, ⟨bp BK219⟩, ⟨bw HB⟩⟩
 clear H'
 (try clear c37); (try clear c38); (try clear c39); (try clear hcz40); (try clear hfz40)
 obtain ⟨x6_2, x218000_2, x218001_2, x218002_2, rfl, HA, HK2, BK216, BK217, BK219, HB⟩ := hrel
 rcases gk with _ | k2
 ·exact absurd HA.out (by simp [spec_l04Func.l0])
 have H := HA.out
 clear HA
 simp only [spec_l04Func.l0] at H
 refine qI H ?_ ?_ <;> clear H <;> intro c41b0 H
 ·refine iM H ?_; clear H; intro c42b0 H
  refine be H ?_; clear H; intro t221 A43 H
  refine qT H ?_ ?_ <;> clear H <;> intro c44 H <;> subst c44
  ·have H' := am H
   clear H
   have hnb45 := NB219_216.out
   have hnc45 := NB216_219.out
   have hnb46 := NB219_217.out
   have hnc46 := NB217_219.out
   have hcz47 := bK wr BK219
   have hfz47 := bF BK219
   try go_wp2
   replace BK216 := am (blk_drew BK216.out)
   replace BK217 := am (blk_drew BK217.out)
   replace BK219 := am (blk_drew BK219.out)
   replace HB := am (below_drew1 HB.out)
   have p220 : 0 ≤ (x6_2 : Int) := of_decide_eq_true as1
   have q220 : x6_2 < (((rd_T100 l0_0 a1).f2).length : Int) := of_decide_eq_true as1
   obtain ⟨ad220, e220, hx220_0, hx220_1⟩ := at_T102 HR218_2.out x6_2 p220 q220
   have hw220_1 := hx220_1
   have hw220_0 := hx220_0
   cases e220
   replace hx220_0 := cl HB hx220_0
   replace hx220_1 := cl HB hx220_1
   replace p220 := eq_true p220
   replace q220 := eq_true q220
   refine start_ (n := 9) (S := fun w' => w'.cell? ⟨gb216, 0, none⟩ = some (.slice (some ad218) l0_0.length c0_0) ∧ w'.cell? ⟨gb219, 0, none⟩ = some (.int .i64 ((rd_T100 l0_0 a1).f0)) ∧ w'.cell? ⟨gb219, 1, none⟩ = some (.int .i64 ((rd_T100 l0_0 a1).f1)) ∧ w'.cell? ⟨gb219, 2, none⟩ = some (.slice (some ad220) ((rd_T100 l0_0 a1).f2).length c218_2) ∧ w'.cell? (ad220.add ((x6_2).toNat * 2)) = some (.int .i64 ((rd_T102 ((rd_T100 l0_0 a1).f2) x6_2).f0)) ∧ w'.cell? ⟨(ad220.add ((x6_2).toNat * 2)).block, (ad220.add ((x6_2).toNat * 2)).off + 1, none⟩ = some (.int .i64 ((rd_T102 ((rd_T100 l0_0 a1).f2) x6_2).f1))) (ds := []) (bv 9 0) (by kernel_rfl) rfl (by kernel_rfl) ⟨bc BK216 0, bc BK219 0, bc BK219 1, bc BK219 2, (cq HB hw220_0), (cq HB hw220_1)⟩ (fun hHeld => ?_); refine with_tabW spec_l04Func.tab7 spec_l04Func.bits7 (fun HT_ HW_ => ?_)
   generalize wr.drew = w48 at BK216 BK217 BK219 HB hx220_0 hx220_1 hHeld ⊢
   refine pu 1 56 9 2 HT_ ?_
   refine pu 2 57 9 6 HT_ ?_
   refine pu 4 59 9 22 HT_ ?_
   refine tk 0 55 9 23 HT_ HW_ hHeld ?_
   refine tk 3 58 9 31 HT_ HW_ hHeld ?_
   refine pu 5 60 9 63 HT_ ?_
   refine tk 6 61 9 127 HT_ HW_ hHeld ?_
   refine on 7 (some 62) 9 255 HT_ fun K hK => ?_
   refine goes_ Try.func191 (by kernel_rfl) rfl #[.agg #[.slice (some ad218) l0_0.length c0_0], .int .i64 a1, .agg #[.int .i64 ((rd_T102 ((rd_T100 l0_0 a1).f2) x6_2).f0), .int .i64 ((rd_T102 ((rd_T100 l0_0 a1).f2) x6_2).f1)]] (by rfl) rfl rfl gl ?_
   with_reducible refine (spec_InsRight.calls k2 _ _ l0_0 a1 ((rd_T102 ((rd_T100 l0_0 a1).f2) x6_2).f0) ((rd_T102 ((rd_T100 l0_0 a1).f2) x6_2).f1) true _ ?side1 ?side2 A43.out).mono ?_
   (case side1 => exact cc (Kd.C_below HR0_0.out HB.out))
   (case side2 => exact HC0_0.out)
   rintro e w49 ⟨rfl, hb⟩
   refine ⟨_, rfl, ?_⟩
   replace BK216 := bb BK216 hb
   replace BK217 := bb BK217 hb
   replace BK219 := bb BK219 hb
   replace HB := am (below_step (bw HB) hb)
   clear hb
   refine hK.out _ _ ⟨bc BK216 0, bc BK219 0, bc BK219 1, bc BK219 2, (cq HB hw220_0), (cq HB hw220_1)⟩ (fun hHeld => ?_)
   clear hK K
   refine nm (some 62) ?_
   refine pu 8 63 9 511 HT_ ?_
   refine done_ (done_of HT_.out (by kernel_rfl)) ?_
   try go_wp2
   go_roundg k2
   case measure => have := HJ4.out; have := HK2.out; omega
   case rel => exact ⟨(wrap64 (x6_2 + 1)), (x218000_2), (x218001_2), (x218002_2), dr, H', ⟨by have := HJ4.out; have := HK2.out; omega⟩, ⟨bp BK216⟩, ⟨bp BK217⟩, ⟨bp BK219⟩, ⟨bw HB⟩⟩
  simp only [Option.some.injEq, Prod.mk.injEq] at H
  obtain ⟨rfl, rfl, rfl⟩ := H
  have hnb50 := NB219_216.out
  have hnc50 := NB216_219.out
  have hnb51 := NB219_217.out
  have hnc51 := NB217_219.out
  have hcz52 := bK wr BK219
  have hfz52 := bF BK219
  try go_wp2
  replace BK216 := am (blk_drew BK216.out)
  replace BK217 := am (blk_drew BK217.out)
  replace BK219 := am (blk_drew BK219.out)
  replace HB := am (below_drew1 HB.out)
  have p220 : 0 ≤ (x6_2 : Int) := of_decide_eq_true as1
  have q220 : x6_2 < (((rd_T100 l0_0 a1).f2).length : Int) := of_decide_eq_true as1
  obtain ⟨ad220, e220, hx220_0, hx220_1⟩ := at_T102 HR218_2.out x6_2 p220 q220
  have hw220_1 := hx220_1
  have hw220_0 := hx220_0
  cases e220
  replace hx220_0 := cl HB hx220_0
  replace hx220_1 := cl HB hx220_1
  replace p220 := eq_true p220
  replace q220 := eq_true q220
  refine start_ (n := 9) (S := fun w' => w'.cell? ⟨gb216, 0, none⟩ = some (.slice (some ad218) l0_0.length c0_0) ∧ w'.cell? ⟨gb219, 0, none⟩ = some (.int .i64 ((rd_T100 l0_0 a1).f0)) ∧ w'.cell? ⟨gb219, 1, none⟩ = some (.int .i64 ((rd_T100 l0_0 a1).f1)) ∧ w'.cell? ⟨gb219, 2, none⟩ = some (.slice (some ad220) ((rd_T100 l0_0 a1).f2).length c218_2) ∧ w'.cell? (ad220.add ((x6_2).toNat * 2)) = some (.int .i64 ((rd_T102 ((rd_T100 l0_0 a1).f2) x6_2).f0)) ∧ w'.cell? ⟨(ad220.add ((x6_2).toNat * 2)).block, (ad220.add ((x6_2).toNat * 2)).off + 1, none⟩ = some (.int .i64 ((rd_T102 ((rd_T100 l0_0 a1).f2) x6_2).f1))) (ds := []) (bv 9 0) (by kernel_rfl) rfl (by kernel_rfl) ⟨bc BK216 0, bc BK219 0, bc BK219 1, bc BK219 2, (cq HB hw220_0), (cq HB hw220_1)⟩ (fun hHeld => ?_); refine with_tabW spec_l04Func.tab7 spec_l04Func.bits7 (fun HT_ HW_ => ?_)
  generalize wr.drew = w53 at BK216 BK217 BK219 HB hx220_0 hx220_1 hHeld ⊢
  refine pu 1 56 9 2 HT_ ?_
  refine pu 2 57 9 6 HT_ ?_
  refine pu 4 59 9 22 HT_ ?_
  refine tk 0 55 9 23 HT_ HW_ hHeld ?_
  refine tk 3 58 9 31 HT_ HW_ hHeld ?_
  refine pu 5 60 9 63 HT_ ?_
  refine tk 6 61 9 127 HT_ HW_ hHeld ?_
  refine on 7 (some 62) 9 255 HT_ fun K hK => ?_
  refine goes_ Try.func191 (by kernel_rfl) rfl #[.agg #[.slice (some ad218) l0_0.length c0_0], .int .i64 a1, .agg #[.int .i64 ((rd_T102 ((rd_T100 l0_0 a1).f2) x6_2).f0), .int .i64 ((rd_T102 ((rd_T100 l0_0 a1).f2) x6_2).f1)]] (by rfl) rfl rfl gl ?_
  with_reducible refine (spec_InsRight.calls k2 _ _ l0_0 a1 ((rd_T102 ((rd_T100 l0_0 a1).f2) x6_2).f0) ((rd_T102 ((rd_T100 l0_0 a1).f2) x6_2).f1) false _ ?side1 ?side2 A43.out).mono ?_
  (case side1 => exact cc (Kd.C_below HR0_0.out HB.out))
  (case side2 => exact HC0_0.out)
  rintro e w54 ⟨rfl, hb⟩
  refine ⟨_, rfl, ?_⟩
  replace BK216 := bb BK216 hb
  replace BK217 := bb BK217 hb
  replace BK219 := bb BK219 hb
  replace HB := am (below_step (bw HB) hb)
  clear hb
  refine hK.out _ _ ⟨bc BK216 0, bc BK219 0, bc BK219 1, bc BK219 2, (cq HB hw220_0), (cq HB hw220_1)⟩ (fun hHeld => ?_)
  clear hK K
  refine nm (some 62) ?_
  refine pu 8 63 9 511 HT_ ?_
  refine done_ (done_of HT_.out (by kernel_rfl)) ?_
  have hnb55 := NB217_216.out
  have hnc55 := NB216_217.out
  have hcz56 := bK w54 BK217
  have hfz56 := bF BK217
  try go_wp2
  refine bodyPost_ret (results_cell_row rfl _ _ gb217 84 #[.int .i64 a1, .int .i64 x6_2, .int .i64 1] (0, 0) _ rfl (bt BK217) Try.underlying84 rfl (by kernel_rfl)) rfl ?_
  exact ⟨er, bw HB⟩
 replace H := Option.bind_eq_some_iff.mp H
 obtain ⟨⟨t222, t225, t226, t227⟩, A570, H⟩ := H
 replace H : (some (t225, t226, t227)) = some (r1, r2, r3) := H
 have A57 := am A570
 clear A570
 simp only [Option.some.injEq, Prod.mk.injEq] at H
 obtain ⟨rfl, rfl, rfl⟩ := H
 have hnb58 := NB219_216.out
 have hnc58 := NB216_219.out
 have hnb59 := NB219_217.out
 have hnc59 := NB217_219.out
 have hcz60 := bK wr BK219
 have hfz60 := bF BK219
 have hnb61 := NB216_217.out
 have hnc61 := NB217_216.out
 have hcz62 := bK wr BK216
 have hfz62 := bF BK216
 go_wp2_with (first | ((with_reducible refine gk 58 rfl ?_); refine gC 58 (some 70) Try.func58 #[.agg #[.slice (some ad218) l0_0.length c0_0], .int .i64 a1] ((spec_l04Heights.calls k2 _ _ l0_0 a1 t222 t225 t226 t227 _ (cc (Kd.C_below HR0_0.out HB.out)) HC0_0.out A57.out).mono ?_); rintro e w63 ⟨v223, rfl, ho0, hb⟩; refine ⟨_, rfl, ?_⟩; have HO224 := am (Kd.R_lower ho0 (below_size (bw HB))); replace BK216 := bb BK216 hb; replace BK217 := bb BK217 hb; replace BK219 := bb BK219 hb; replace HB := bs HB hb; clear hb; (try clear ho0)) | ((with_reducible refine gate_dst (N := 8) rfl ?_); (try (refine gate_guard (by rfl) ?_; dsimp only)); refine box_event ?hg (N := 8) ?hd (cs := #[.int .i64 0, .int .i64 0, .int .i64 0]) (t := 84) ?hr ?_; (case hd => rfl); (case hg => rfl); (case hr => exact gs); intro gb228 hg w64 hbox hb; replace HO224 := am (Kd.R_below (kR HO224) hb); have BK228 := am (hbox); have GW228 := gw hg HB; replace HB := bs HB hb; obtain ⟨NB216_228, NB228_216, BK216⟩ := b3 hg BK216 hb; obtain ⟨NB217_228, NB228_217, BK217⟩ := b3 hg BK217 hb; obtain ⟨NB219_228, NB228_219, BK219⟩ := b3 hg BK219 hb; clear hb hbox hg; have hnb65 := NB228_216.out; have hnc65 := NB216_228.out; have hnb66 := NB228_217.out; have hnc66 := NB217_228.out; have hnb67 := NB228_219.out; have hnc67 := NB219_228.out; have hcz68 := bK w64 BK228; have hfz68 := bF BK228; have hcz69 := bK w64 BK217; have hfz69 := bF BK217))
 refine bodyPost_ret (results_cell_row rfl _ _ gb217 84 #[.int .i64 t225, .int .i64 t226, .int .i64 t227] (0, 0) _ rfl (bt BK217) Try.underlying84 rfl (by kernel_rfl)) rfl ?_
 exact ⟨er, bw HB⟩

mutual
def spec_Verify.j0 : Nat → Bool → List (S100) → Option (Int × Int × Int)
 | 0, _, _ => none
 | k + 1, x14, x230000 => if x14 = true then (some (0, 0, 1)) else (spec_Verify.l0 k 0 x230000)
def spec_Verify.l0 : Nat → Int → List (S100) → Option (Int × Int × Int)
 | 0, _, _ => none
 | k + 1, x3, x230000 => if x3 < (x230000.length : Int) then ((spec_l04Func.f k x230000 x3).bind fun bt231 => (if bt231.2.2 = 0 then (spec_Verify.l0 k (wrap64 (x3 + 1)) x230000) else (some (bt231.1, bt231.2.1, bt231.2.2)))) else (some (0, 0, 0))
end
def spec_Verify.f (k : Nat) (l0_0 : List (S100)) : Option (Int × Int × Int) := if (l0_0.length : Int) < 1 then (spec_Verify.j0 k true l0_0) else (spec_Verify.j0 k (decide ((l0_0.length : Int) > 6)) l0_0)
theorem spec_Verify.mono_l : ∀ k, (∀ y0 y1, LeO (spec_Verify.j0 k y0 y1) (spec_Verify.j0 (k + 1) y0 y1)) ∧ (∀ y0 y1, LeO (spec_Verify.l0 k y0 y1) (spec_Verify.l0 (k + 1) y0 y1))
 | 0 => ⟨fun _ _ r h => by simp [spec_Verify.j0] at h, fun _ _ r h => by simp [spec_Verify.l0] at h⟩
 | k + 1 => by
  obtain ⟨ih0, ih1⟩ := spec_Verify.mono_l k
  refine ⟨?_, ?_⟩
  ·intro y0 y1
   unfold spec_Verify.j0
   with_reducible repeat' first | exact ih0 .. | exact ih1 .. | exact spec_l04Func.mono .. | exact LeO.refl _ | exact LeO.none _ | refine LeO.ite ?_ ?_ | refine LeO.bind ?_ (fun _ => ?_)
  ·intro y0 y1
   unfold spec_Verify.l0
   with_reducible repeat' first | exact ih0 .. | exact ih1 .. | exact spec_l04Func.mono .. | exact LeO.refl _ | exact LeO.none _ | refine LeO.ite ?_ ?_ | refine LeO.bind ?_ (fun _ => ?_)
theorem spec_Verify.mono : ∀ a0 k, LeO (spec_Verify.f k a0) (spec_Verify.f (k + 1) a0) := by
 intro a0 k
 obtain ⟨ih0, ih1⟩ := spec_Verify.mono_l k
 unfold spec_Verify.f
 with_reducible repeat' first | exact ih0 .. | exact ih1 .. | exact spec_l04Func.mono .. | exact LeO.refl _ | exact LeO.none _ | refine LeO.ite ?_ ?_ | refine LeO.bind ?_ (fun _ => ?_)
theorem spec_Verify.calls (k : Nat) (A0_0 : Option Addr) (c0_0 : Nat) (l0_0 : List (S100)) (r1 : Int) (r2 : Int) (r3 : Int) (w : World) (hr0_0 : Kd.C k100 w A0_0 l0_0.length l0_0) (hc0_0 : l0_0.length ≤ c0_0) (h : spec_Verify.f k l0_0 = some (r1, r2, r3)) :
  Calls Try.prog 124 #[.agg #[.slice A0_0 l0_0.length c0_0]] w fun e w' => e = .returned (.agg #[.int .i64 r1, .int .i64 r2, .int .i64 r3]) ∧ Below w.heap.size w w' := by
 have hu30 := Try.underlying30
 have hu84 := Try.underlying84
 have HR0_0 := am hr0_0
 have HC0_0 := am hc0_0
 clear hr0_0 hc0_0
 have HB := am (Below.refl w.heap.size w)
 have H : (if (l0_0.length : Int) < 1 then (spec_Verify.j0 k true l0_0) else (spec_Verify.j0 k (decide ((l0_0.length : Int) > 6)) l0_0)) = some (r1, r2, r3) := h
 clear h
 have HC2 := am H
 clear H
 go_enter Try.func124, Try.ntmps124
 go_upto_region 1 with (first | ((with_reducible refine gate_dst (N := 1) rfl ?_); (try (refine gate_guard (by rfl) ?_; dsimp only)); refine box_event ?hg (N := 1) ?hd (cs := #[.slice A0_0 l0_0.length c0_0]) (t := 30) ?hr ?_; (case hd => rfl); (case hg => rfl); (case hr => exact gs); intro gb229 hg w3 hbox hb; have BK229 := am (hbox); have GW229 := gw hg HB; replace HB := bs HB hb; clear hb hbox hg) | ((with_reducible refine gate_dst (N := 2) rfl ?_); (try (refine gate_guard (by rfl) ?_; dsimp only)); refine box_event ?hg (N := 2) ?hd (cs := #[.int .i64 0, .int .i64 0, .int .i64 0]) (t := 84) ?hr ?_; (case hd => rfl); (case hg => rfl); (case hr => exact gs); intro gb230 hg w4 hbox hb; have BK230 := am (hbox); have GW230 := gw hg HB; replace HB := bs HB hb; obtain ⟨NB229_230, NB230_229, BK229⟩ := b3 hg BK229 hb; clear hb hbox hg))
 (try simp only [Act.put, sa, sz, ss])
 go_cut [14] (fun v14 wc => ∃ (kq : Nat) (x14_1 : Bool), v14 = .bool x14_1 ∧ Aside0 (spec_Verify.j0 kq x14_1 l0_0 = some (r1, r2, r3)) ∧ Aside0 (kq ≤ k) ∧ Aside0 (wc.heap[gb229]? = some (.cells #[(.slice A0_0 l0_0.length c0_0)] 30 (0, 0))) ∧ Aside0 (wc.heap[gb230]? = some (.cells #[.int .i64 0, .int .i64 0, .int .i64 0] 84 (0, 0))) ∧ Aside0 (Below w.heap.size w wc))
 case first =>
  have H := HC2.out
  clear HC2
  refine qI H ?_ ?_ <;> clear H <;> intro c5b0 H
  ·have c5 := of_decide_eq_true c5b0
   have c5b1 : decide (l0_0.length < 1) = true := decide_eq_true (by omega)
   clear c5
   (first | rw [c5b0] | (simp only [i64_w, i32_w]; rw [c5b0]) | skip)
   have H' := am H
   clear H
   have hnb6 := NB229_230.out
   have hnc6 := NB230_229.out
   have hcz7 := bK w4 BK229
   have hfz7 := bF BK229
   go_wp2
   go_meet
   case rel => exact ⟨_, (true), dr, H', ⟨lk0⟩, ⟨bp BK229⟩, ⟨bp BK230⟩, ⟨bw HB⟩⟩
  have c5 := of_decide_eq_false c5b0
  have c5b1 : decide (l0_0.length < 1) = false := decide_eq_false (by omega)
  clear c5
  (first | rw [c5b0] | (simp only [i64_w, i32_w]; rw [c5b0]) | skip)
  have H' := am H
  clear H
  have hnb8 := NB229_230.out
  have hnc8 := NB230_229.out
  have hcz9 := bK w4 BK229
  have hfz9 := bF BK229
  go_wp2
  go_meet
  case rel => exact ⟨_, (decide ((l0_0.length : Int) > 6)), dr, H', ⟨lk0⟩, ⟨bp BK229⟩, ⟨bp BK230⟩, ⟨bw HB⟩⟩
 clear HC2
 (try clear c1); (try clear p2); (try clear c5); (try clear c5b0); (try clear c5b1); (try clear c6); (try clear c8); (try clear hcz7); (try clear hcz9); (try clear hfz7); (try clear hfz9)
 obtain ⟨kq, x14_1, rfl, HA, HJ1, BK229, BK230, HB⟩ := hcut
 rcases kq with _ | kj1
 ·exact absurd HA.out (by simp [spec_Verify.j0])
 have H := HA.out
 clear HA
 simp only [spec_Verify.j0] at H
 refine qT H ?_ ?_ <;> clear H <;> intro c10 H <;> subst c10
 ·simp only [Option.some.injEq, Prod.mk.injEq] at H
  obtain ⟨rfl, rfl, rfl⟩ := H
  have hnb11 := NB230_229.out
  have hnc11 := NB229_230.out
  have hcz12 := bK wc BK230
  have hfz12 := bF BK230
  go_wp2
  refine bodyPost_ret (results_cell_row rfl _ _ gb230 84 #[.int .i64 0, .int .i64 0, .int .i64 1] (0, 0) _ rfl (bt BK230) Try.underlying84 rfl (by kernel_rfl)) rfl ?_
  exact ⟨er, bw HB⟩
 have H' := am H
 clear H
 go_wp2
 go_loopg [3] kj1 (fun kq v3 w' => ∃ (x3_2 : Int) (x231000_2 : Int) (x231001_2 : Int) (x231002_2 : Int), v3 = .int .i64 x3_2 ∧ Aside0 (spec_Verify.l0 kq x3_2 l0_0 = some (r1, r2, r3)) ∧ Aside0 (kq ≤ kj1) ∧ Aside0 (w'.heap[gb229]? = some (.cells #[(.slice A0_0 l0_0.length c0_0)] 30 (0, 0))) ∧ Aside0 (w'.heap[gb230]? = some (.cells #[.int .i64 x231000_2, .int .i64 x231001_2, .int .i64 x231002_2] 84 (0, 0))) ∧ Aside0 (Below w.heap.size w w'))
 case atStart => exact ⟨(0), (0), (0), (0), dr, H', ⟨Nat.le_refl _⟩, ⟨bp BK229⟩, ⟨bp BK230⟩, ⟨bw HB⟩⟩
 clear H'
 (try clear c10); (try clear c11); (try clear c12); (try clear hcz12); (try clear hfz12)
 obtain ⟨x3_2, x231000_2, x231001_2, x231002_2, rfl, HA, HK2, BK229, BK230, HB⟩ := hrel
 rcases gk with _ | k2
 ·exact absurd HA.out (by simp [spec_Verify.l0])
 have H := HA.out
 clear HA
 simp only [spec_Verify.l0] at H
 refine qI H ?_ ?_ <;> clear H <;> intro c13b0 H
 ·replace H := Option.bind_eq_some_iff.mp H
  obtain ⟨⟨t231, t232, t233⟩, A140, H⟩ := H
  replace H : (if t233 = 0 then (spec_Verify.l0 k2 (wrap64 (x3_2 + 1)) l0_0) else (some (t231, t232, t233))) = some (r1, r2, r3) := H
  have A14 := am A140
  clear A140
  refine qE H ?_ ?_ <;> clear H
  ·intro c15b0 c15b1 H
   have H' := am H
   clear H
   have hnb16 := NB229_230.out
   have hnc16 := NB230_229.out
   have hcz17 := bK wr BK229
   have hfz17 := bF BK229
   go_wp2_with (first | ((with_reducible refine gk 172 rfl ?_); refine gB 172 (some 25) Try.func172 #[.agg #[.slice A0_0 l0_0.length c0_0], .int .i64 x3_2] (spec_l04Func.calls k2 _ _ l0_0 x3_2 t231 t232 t233 _ (cc (Kd.C_below HR0_0.out HB.out)) HC0_0.out A14.out) ?_; intro w18 hb; replace BK229 := bb BK229 hb; replace BK230 := bb BK230 hb; replace HB := bs HB hb; clear hb) | ((with_reducible refine gate_dst (N := 4) rfl ?_); (try (refine gate_guard (by rfl) ?_; dsimp only)); refine box_event ?hg (N := 4) ?hd (cs := #[.int .i64 0, .int .i64 0, .int .i64 0]) (t := 84) ?hr ?_; (case hd => rfl); (case hg => rfl); (case hr => exact gs); intro gb234 hg w19 hbox hb; have BK234 := am (hbox); have GW234 := gw hg HB; replace HB := bs HB hb; obtain ⟨NB229_234, NB234_229, BK229⟩ := b3 hg BK229 hb; obtain ⟨NB230_234, NB234_230, BK230⟩ := b3 hg BK230 hb; clear hb hbox hg; have hnb20 := NB234_229.out; have hnc20 := NB229_234.out; have hnb21 := NB234_230.out; have hnc21 := NB230_234.out; have hcz22 := bK w19 BK234; have hfz22 := bF BK234))
   go_roundg k2
   case measure => have := HJ1.out; have := HK2.out; omega
   case rel => exact ⟨(wrap64 (x3_2 + 1)), (x231000_2), (x231001_2), (x231002_2), dr, H', ⟨by have := HJ1.out; have := HK2.out; omega⟩, ⟨by (with_reducible repeat (first | apply dN | apply dW | apply dA)); refine blk_far ?_ NB229_234.out _; (with_reducible repeat (first | apply dN | apply dW | apply dA)); refine blk_far ?_ NB229_234.out _; (with_reducible repeat (first | apply dN | apply dW | apply dA)); refine blk_far ?_ NB229_234.out _; exact bp BK229⟩, ⟨by (with_reducible repeat (first | apply dN | apply dW | apply dA)); refine blk_far ?_ NB230_234.out _; (with_reducible repeat (first | apply dN | apply dW | apply dA)); refine blk_far ?_ NB230_234.out _; (with_reducible repeat (first | apply dN | apply dW | apply dA)); refine blk_far ?_ NB230_234.out _; exact bp BK230⟩, ⟨bw HB⟩⟩
  intro c15 c15b0 c15b1 H
  simp only [Option.some.injEq, Prod.mk.injEq] at H
  obtain ⟨rfl, rfl, rfl⟩ := H
  have hnb23 := NB229_230.out
  have hnc23 := NB230_229.out
  have hcz24 := bK wr BK229
  have hfz24 := bF BK229
  go_wp2_with (first | ((with_reducible refine gk 172 rfl ?_); refine gB 172 (some 25) Try.func172 #[.agg #[.slice A0_0 l0_0.length c0_0], .int .i64 x3_2] (spec_l04Func.calls k2 _ _ l0_0 x3_2 t231 t232 t233 _ (cc (Kd.C_below HR0_0.out HB.out)) HC0_0.out A14.out) ?_; intro w25 hb; replace BK229 := bb BK229 hb; replace BK230 := bb BK230 hb; replace HB := bs HB hb; clear hb) | ((with_reducible refine gate_dst (N := 4) rfl ?_); (try (refine gate_guard (by rfl) ?_; dsimp only)); refine box_event ?hg (N := 4) ?hd (cs := #[.int .i64 0, .int .i64 0, .int .i64 0]) (t := 84) ?hr ?_; (case hd => rfl); (case hg => rfl); (case hr => exact gs); intro gb234 hg w26 hbox hb; have BK234 := am (hbox); have GW234 := gw hg HB; replace HB := bs HB hb; obtain ⟨NB229_234, NB234_229, BK229⟩ := b3 hg BK229 hb; obtain ⟨NB230_234, NB234_230, BK230⟩ := b3 hg BK230 hb; clear hb hbox hg; have hnb27 := NB234_229.out; have hnc27 := NB229_234.out; have hnb28 := NB234_230.out; have hnc28 := NB230_234.out; have hcz29 := bK w26 BK234; have hfz29 := bF BK234; have hcz30 := bK w26 BK230; have hfz30 := bF BK230))
  refine bodyPost_ret (results_cell_row rfl _ _ gb230 84 #[.int .i64 t231, .int .i64 t232, .int .i64 t233] (0, 0) _ rfl (bt BK230) Try.underlying84 rfl (by kernel_rfl)) rfl ?_
  exact ⟨er, bw HB⟩
 simp only [Option.some.injEq, Prod.mk.injEq] at H
 obtain ⟨rfl, rfl, rfl⟩ := H
 have hnb31 := NB229_230.out
 have hnc31 := NB230_229.out
 have hcz32 := bK wr BK229
 have hfz32 := bF BK229
 have hcz33 := bK wr BK230
 have hfz33 := bF BK230
 go_wp2
 refine bodyPost_ret (results_cell_row rfl _ _ gb230 84 #[.int .i64 0, .int .i64 0, .int .i64 0] (0, 0) _ rfl (bt BK230) Try.underlying84 rfl (by kernel_rfl)) rfl ?_
 exact ⟨er, bw HB⟩

def spec_l04Right.f (k : Nat) (l0_0 : List (S100)) : Option (Bool) := (spec_Verify.f k l0_0).bind fun bt236 => (some (bt236.2.2 == 0))
theorem spec_l04Right.mono : ∀ a0 k, LeO (spec_l04Right.f k a0) (spec_l04Right.f (k + 1) a0) := by
 intro a0 k
 unfold spec_l04Right.f
 with_reducible repeat' first | exact spec_Verify.mono .. | exact LeO.refl _ | exact LeO.none _ | refine LeO.ite ?_ ?_ | refine LeO.bind ?_ (fun _ => ?_)
theorem spec_l04Right.calls (k : Nat) (A0_0 : Option Addr) (c0_0 : Nat) (l0_0 : List (S100)) (r : Bool) (w : World) (hr0_0 : Kd.C k100 w A0_0 l0_0.length l0_0) (hc0_0 : l0_0.length ≤ c0_0) (h : spec_l04Right.f k l0_0 = some r) :
  Calls Try.prog 63 #[.agg #[.slice A0_0 l0_0.length c0_0]] w fun e w' => e = .returned (.bool r) ∧ Below w.heap.size w w' := by
 have hu30 := Try.underlying30
 have hu84 := Try.underlying84
 have hfd84_2 : ∀ (v0_ v1_ v2_ : Value) (W : World), (Instr.field 84 (.agg #[v0_, v1_, v2_]) 2).run Try.prog W = .ok (v2_) W := fun v0_ v1_ v2_ W => by kernel_rfl
 have HR0_0 := am hr0_0
 have HC0_0 := am hc0_0
 clear hr0_0 hc0_0
 have HB := am (Below.refl w.heap.size w)
 have H : ((spec_Verify.f k l0_0).bind fun bt236 => (some (bt236.2.2 == 0))) = some r := h
 clear h
 replace H := Option.bind_eq_some_iff.mp H
 obtain ⟨⟨t236, t237, t238⟩, A20, H⟩ := H
 replace H : (some (t238 == 0)) = some r := H
 have A2 := am A20
 clear A20
 obtain rfl := Option.some.inj H
 go_enter Try.func63, Try.ntmps63
 go_wp2_with (first | ((with_reducible refine gd 1 rfl ?_); refine bX 1 #[.slice A0_0 l0_0.length c0_0] 30 HB ?_; clear HB; intro gb235 w3 hg hb BK235 GW235 HB; clear hb hg; have hcz4 := bK w3 BK235; have hfz4 := bF BK235) | ((with_reducible refine gk 124 rfl ?_); refine gB 124 (some 4) Try.func124 #[.agg #[.slice A0_0 l0_0.length c0_0]] (spec_Verify.calls k _ _ l0_0 t236 t237 t238 _ (cc (Kd.C_below HR0_0.out HB.out)) HC0_0.out A2.out) ?_; intro w5 hb; replace BK235 := bb BK235 hb; replace HB := bs HB hb; clear hb))
 go_ret
 exact ⟨er, bw HB⟩

end Go.Proofs.Ytbmjmaahcaoajaa.QFnExactSeenRight
