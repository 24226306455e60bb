import Derived.Test.YtkhpiicijkhpkaaCFnExactAsmBytesx0
import Derived.Test.YtkhpiicijkhpkaaCFnExactAsmBytesx7
import Derived.Test.YtkhpiicijkhpkaaCFnExactAsmBytesx8
namespace Go.Proofs.Ytkhpiicijkhpkaa.QFnExactAsmBytes
open Go.RowKit Go.Proofs.YtkhpiicijkhpkaaW
open PrintWords PrintLast PrintMore PrintShort PrintIsh
attribute [local go_sem] max2_int min2_int max_two min_two max_three min_three max_four min_four
set_option linter.unusedVariables false
set_option maxHeartbeats 8000000
set_option maxRecDepth 100000
set_option linter.unusedSimpArgs false

mutual
def spec_l04Func.j0 : Nat → Int → Bool → List (S121) → Int → Int → List (S153) → Option (Int × Int × Int)
 | 0, _, _, _, _, _, _ => none
 | k + 1, x1, x45, x227000, x230000, x230001, x230002 => if x45 = true then (some (x1, 0, 1)) else (spec_l04Func.l0 k x1 0 x227000 x230000 x230001 x230002)
def spec_l04Func.l0 : Nat → Int → Int → List (S121) → Int → Int → List (S153) → Option (Int × Int × Int)
 | 0, _, _, _, _, _, _ => none
 | k + 1, x1, x6, x227000, x230000, x230001, x230002 => if x6 < (x230002.length : Int) then (if 0 ≤ x6 then ((spec_InsRight.f k x227000 x1 ((rd_T153 x230002 x6).f0) ((rd_T153 x230002 x6).f1)).bind fun t231 => (if t231 = true then (spec_l04Func.l0 k x1 (wrap64 (x6 + 1)) x227000 x230000 x230001 x230002) else (some (x1, x6, 1)))) else (none)) else ((spec_l04Heights.f k x227000 x1).bind fun bt232 => (some (bt232.2.1, bt232.2.2.1, bt232.2.2.2)))
end
def spec_l04Func.f (k : Nat) (l0_0 : List (S121)) (a1 : Int) : Option (Int × Int × Int) := if 0 ≤ a1 then (if a1 < (l0_0.length : Int) then (if ((rd_T121 l0_0 a1).f0) < 0 then (spec_l04Func.j0 k a1 true l0_0 ((rd_T121 l0_0 a1).f0) ((rd_T121 l0_0 a1).f1) ((rd_T121 l0_0 a1).f2)) else (if ((rd_T121 l0_0 a1).f0) > 4 then (spec_l04Func.j0 k a1 true l0_0 ((rd_T121 l0_0 a1).f0) ((rd_T121 l0_0 a1).f1) ((rd_T121 l0_0 a1).f2)) else (if ((rd_T121 l0_0 a1).f1) < ((rd_T121 l0_0 a1).f0) then (spec_l04Func.j0 k a1 true l0_0 ((rd_T121 l0_0 a1).f0) ((rd_T121 l0_0 a1).f1) ((rd_T121 l0_0 a1).f2)) else (if ((rd_T121 l0_0 a1).f1) > 8 then (spec_l04Func.j0 k a1 true l0_0 ((rd_T121 l0_0 a1).f0) ((rd_T121 l0_0 a1).f1) ((rd_T121 l0_0 a1).f2)) else (if (((rd_T121 l0_0 a1).f2).length : Int) < 1 then (spec_l04Func.j0 k a1 true l0_0 ((rd_T121 l0_0 a1).f0) ((rd_T121 l0_0 a1).f1) ((rd_T121 l0_0 a1).f2)) else (spec_l04Func.j0 k a1 (decide ((((rd_T121 l0_0 a1).f2).length : Int) > 60)) l0_0 ((rd_T121 l0_0 a1).f0) ((rd_T121 l0_0 a1).f1) ((rd_T121 l0_0 a1).f2))))))) else (none)) else (none)
def spec_l04Func.T7 : Bool × List (List Nat × List Nat) := (true, [([], []), ([], []), ([], []), ([2], [2]), ([], []), ([3, 4], [3, 4]), ([5], [5]), ([0, 1, 6], [0, 1, 6]), ([7], [7])])
def spec_l04Func.B7 : List Nat := [0, 0, 0, 4, 0, 28, 60, 127, 255]
theorem spec_l04Func.tab7 : rtab .any (opsOf Try.f152 7) = spec_l04Func.T7 := by kernel_rfl
theorem spec_l04Func.bits7 : waitsOk spec_l04Func.T7.2 spec_l04Func.B7 = true := by kernel_rfl
theorem spec_l04Func.calls (k : Nat) (A0_0 : Option Addr) (c0_0 : Nat) (l0_0 : List (S121)) (a1 : Int) (r1 : Int) (r2 : Int) (r3 : Int) (w : World) (hr0_0 : Kd.C k121 w A0_0 l0_0.length l0_0) (hc0_0 : l0_0.length ≤ c0_0) (h : spec_l04Func.f k l0_0 a1 = some (r1, r2, r3)) :
  Calls Try.prog 152 #[.agg #[.slice A0_0 l0_0.length c0_0], .int .i64 a1] w fun e w' => e = .returned (.agg #[.int .i64 r1, .int .i64 r2, .int .i64 r3]) ∧ Below w.heap.size w w' := by
 have hu32 := Try.underlying32
 have hu138 := Try.underlying138
 have hu121 := Try.underlying121
 have hu153 := Try.underlying153
 have HR0_0 := am hr0_0
 have HC0_0 := am hc0_0
 clear hr0_0 hc0_0
 have HB := am (Below.refl w.heap.size w)
 have H : (if 0 ≤ a1 then (if a1 < (l0_0.length : Int) then (if ((rd_T121 l0_0 a1).f0) < 0 then (spec_l04Func.j0 k a1 true l0_0 ((rd_T121 l0_0 a1).f0) ((rd_T121 l0_0 a1).f1) ((rd_T121 l0_0 a1).f2)) else (if ((rd_T121 l0_0 a1).f0) > 4 then (spec_l04Func.j0 k a1 true l0_0 ((rd_T121 l0_0 a1).f0) ((rd_T121 l0_0 a1).f1) ((rd_T121 l0_0 a1).f2)) else (if ((rd_T121 l0_0 a1).f1) < ((rd_T121 l0_0 a1).f0) then (spec_l04Func.j0 k a1 true l0_0 ((rd_T121 l0_0 a1).f0) ((rd_T121 l0_0 a1).f1) ((rd_T121 l0_0 a1).f2)) else (if ((rd_T121 l0_0 a1).f1) > 8 then (spec_l04Func.j0 k a1 true l0_0 ((rd_T121 l0_0 a1).f0) ((rd_T121 l0_0 a1).f1) ((rd_T121 l0_0 a1).f2)) else (if (((rd_T121 l0_0 a1).f2).length : Int) < 1 then (spec_l04Func.j0 k a1 true l0_0 ((rd_T121 l0_0 a1).f0) ((rd_T121 l0_0 a1).f1) ((rd_T121 l0_0 a1).f2)) else (spec_l04Func.j0 k a1 (decide ((((rd_T121 l0_0 a1).f2).length : Int) > 60)) l0_0 ((rd_T121 l0_0 a1).f0) ((rd_T121 l0_0 a1).f1) ((rd_T121 l0_0 a1).f2))))))) else (none)) else (none)) = some (r1, r2, r3) := h
 clear h
 refine iN H ?_; clear H; intro c3 H
 have c3b0 := decide_eq_true c3
 clear c3
 refine iN H ?_; clear H; intro c4 H
 have c4b0 := decide_eq_true c4
 clear c4
 have HC5 := am H
 clear H
 go_enter Try.func152, Try.ntmps152
 go_upto_region 2 with (first | ((with_reducible refine gate_dst (N := 2) rfl ?_); (try (refine gate_guard (by rfl) ?_; dsimp only)); refine box_event ?hg (N := 2) ?hd (cs := #[.slice A0_0 l0_0.length c0_0]) (t := 32) ?hr ?_; (case hd => rfl); (case hg => rfl); (case hr => exact gs); intro gb226 hg w6 hbox hb; have BK226 := am (hbox); have GW226 := gw hg HB; replace HB := bs HB hb; clear hb hbox hg) | ((with_reducible refine gate_dst (N := 4) rfl ?_); (try (refine gate_guard (by rfl) ?_; dsimp only)); refine box_event ?hg (N := 4) ?hd (cs := #[.int .i64 0, .int .i64 0, .int .i64 0]) (t := 138) ?hr ?_; (case hd => rfl); (case hg => rfl); (case hr => exact gs); intro gb227 hg w7 hbox hb; have BK227 := am (hbox); have GW227 := gw hg HB; replace HB := bs HB hb; obtain ⟨NB226_227, NB227_226, BK226⟩ := b3 hg BK226 hb; clear hb hbox hg; have hnb8 := NB226_227.out; have hnc8 := NB227_226.out; have hcz9 := bK w7 BK226; have hfz9 := bF BK226; have p228 : 0 ≤ (a1 : Int) := dt; have q228 : a1 < (l0_0.length : Int) := dt; obtain ⟨ad228, A228_2, c228_2, e228, hx228_0, hx228_1, hx228_2, hl228_2, hi228_2⟩ := at_T121 HR0_0.out a1 p228 q228; cases e228; replace hx228_0 := cl HB hx228_0; replace hx228_1 := cl HB hx228_1; replace hx228_2 := cl HB hx228_2; have HR228_2 := am hi228_2; have HC228_2 := am hl228_2; clear hi228_2 hl228_2; replace p228 := eq_true p228; replace q228 := eq_true q228) | ((with_reducible refine gate_dst (N := 5) rfl ?_); (try (refine gate_guard (by rfl) ?_; dsimp only)); refine box_event ?hg (N := 5) ?hd (cs := #[.int .i64 0, .int .i64 0, .slice none 0 0]) (t := 121) ?hr ?_; (case hd => rfl); (case hg => rfl); (case hr => exact gs); intro gb229 hg w10 hbox hb; have BK229 := am (hbox); have GW229 := gw hg HB; replace HB := bs HB hb; obtain ⟨NB226_229, NB229_226, BK226⟩ := b3 hg BK226 hb; obtain ⟨NB227_229, NB229_227, BK227⟩ := b3 hg BK227 hb; clear hb hbox hg; have hnb11 := NB229_226.out; have hnc11 := NB226_229.out; have hnb12 := NB229_227.out; have hnc12 := NB227_229.out; have hcz13 := bK w10 BK229; have hfz13 := bF BK229))
 (try simp only [Act.put, sa, sz, ss])
 go_cut [45] (fun v45 wc => ∃ (kq : Nat) (x45_4 : Bool), v45 = .bool x45_4 ∧ Aside0 (spec_l04Func.j0 kq a1 x45_4 l0_0 ((rd_T121 l0_0 a1).f0) ((rd_T121 l0_0 a1).f1) ((rd_T121 l0_0 a1).f2) = some (r1, r2, r3)) ∧ Aside0 (kq ≤ k) ∧ Aside0 (wc.heap[gb226]? = some (.cells #[(.slice (some ad228) l0_0.length c0_0)] 32 (0, 0))) ∧ Aside0 (wc.heap[gb227]? = some (.cells #[.int .i64 0, .int .i64 0, .int .i64 0] 138 (0, 0))) ∧ Aside0 (wc.heap[gb229]? = some (.cells #[.int .i64 ((rd_T121 l0_0 a1).f0), .int .i64 ((rd_T121 l0_0 a1).f1), (.slice A228_2 ((rd_T121 l0_0 a1).f2).length c228_2)] 121 (0, 0))) ∧ Aside0 (Below w.heap.size w wc))
 case first =>
  have H := HC5.out
  clear HC5
  refine qI H ?_ ?_ <;> clear H <;> intro c14b0 H
  ·(first | rw [c14b0] | (simp only [i64_w, i32_w]; rw [c14b0]) | skip)
   have H' := am H
   clear H
   have hnb15 := NB229_226.out
   have hnc15 := NB226_229.out
   have hnb16 := NB229_227.out
   have hnc16 := NB227_229.out
   have hcz17 := bK w10 BK229
   have hfz17 := bF BK229
   go_wp2
   go_meet
   case rel => exact ⟨_, (true), dr, H', ⟨lk0⟩, ⟨by (with_reducible repeat (first | apply dN | apply dW | apply dA)); refine blk_far ?_ NB226_229.out _; (with_reducible repeat (first | apply dN | apply dW | apply dA)); refine blk_far ?_ NB226_229.out _; (with_reducible repeat (first | apply dN | apply dW | apply dA)); refine blk_far ?_ NB226_229.out _; exact bp BK226⟩, ⟨by (with_reducible repeat (first | apply dN | apply dW | apply dA)); refine blk_far ?_ NB227_229.out _; (with_reducible repeat (first | apply dN | apply dW | apply dA)); refine blk_far ?_ NB227_229.out _; (with_reducible repeat (first | apply dN | apply dW | apply dA)); refine blk_far ?_ NB227_229.out _; exact bp BK227⟩, ⟨by (with_reducible repeat (first | apply dN | apply dW | apply dA)); refine blk_put (cs := #[.int .i64 ((rd_T121 l0_0 a1).f0), .int .i64 ((rd_T121 l0_0 a1).f1), .slice none 0 0]) ?_ 2 _ rfl; (with_reducible repeat (first | apply dN | apply dW | apply dA)); refine blk_put (cs := #[.int .i64 ((rd_T121 l0_0 a1).f0), .int .i64 0, .slice none 0 0]) ?_ 1 _ rfl; (with_reducible repeat (first | apply dN | apply dW | apply dA)); refine blk_put (cs := #[.int .i64 0, .int .i64 0, .slice none 0 0]) ?_ 0 _ rfl; exact bp BK229⟩, ⟨bw HB⟩⟩
  (first | rw [c14b0] | (simp only [i64_w, i32_w]; rw [c14b0]) | skip)
  refine qG H ?_ ?_ <;> clear H <;> intro c18b0 H
  ·have H' := am H
   clear H
   have hnb19 := NB229_226.out
   have hnc19 := NB226_229.out
   have hnb20 := NB229_227.out
   have hnc20 := NB227_229.out
   have hcz21 := bK w10 BK229
   have hfz21 := bF BK229
   go_wp2
   go_meet
   case rel => exact ⟨_, (true), dr, H', ⟨lk0⟩, ⟨by (with_reducible repeat (first | apply dN | apply dW | apply dA)); refine blk_far ?_ NB226_229.out _; (with_reducible repeat (first | apply dN | apply dW | apply dA)); refine blk_far ?_ NB226_229.out _; (with_reducible repeat (first | apply dN | apply dW | apply dA)); refine blk_far ?_ NB226_229.out _; exact bp BK226⟩, ⟨by (with_reducible repeat (first | apply dN | apply dW | apply dA)); refine blk_far ?_ NB227_229.out _; (with_reducible repeat (first | apply dN | apply dW | apply dA)); refine blk_far ?_ NB227_229.out _; (with_reducible repeat (first | apply dN | apply dW | apply dA)); refine blk_far ?_ NB227_229.out _; exact bp BK227⟩, ⟨by (with_reducible repeat (first | apply dN | apply dW | apply dA)); refine blk_put (cs := #[.int .i64 ((rd_T121 l0_0 a1).f0), .int .i64 ((rd_T121 l0_0 a1).f1), .slice none 0 0]) ?_ 2 _ rfl; (with_reducible repeat (first | apply dN | apply dW | apply dA)); refine blk_put (cs := #[.int .i64 ((rd_T121 l0_0 a1).f0), .int .i64 0, .slice none 0 0]) ?_ 1 _ rfl; (with_reducible repeat (first | apply dN | apply dW | apply dA)); refine blk_put (cs := #[.int .i64 0, .int .i64 0, .slice none 0 0]) ?_ 0 _ rfl; exact bp BK229⟩, ⟨bw HB⟩⟩
  refine qI H ?_ ?_ <;> clear H <;> intro c22b0 H
  ·have H' := am H
   clear H
   have hnb23 := NB229_226.out
   have hnc23 := NB226_229.out
   have hnb24 := NB229_227.out
   have hnc24 := NB227_229.out
   have hcz25 := bK w10 BK229
   have hfz25 := bF BK229
   go_wp2
   go_meet
   case rel => exact ⟨_, (true), dr, H', ⟨lk0⟩, ⟨by (with_reducible repeat (first | apply dN | apply dW | apply dA)); refine blk_far ?_ NB226_229.out _; (with_reducible repeat (first | apply dN | apply dW | apply dA)); refine blk_far ?_ NB226_229.out _; (with_reducible repeat (first | apply dN | apply dW | apply dA)); refine blk_far ?_ NB226_229.out _; exact bp BK226⟩, ⟨by (with_reducible repeat (first | apply dN | apply dW | apply dA)); refine blk_far ?_ NB227_229.out _; (with_reducible repeat (first | apply dN | apply dW | apply dA)); refine blk_far ?_ NB227_229.out _; (with_reducible repeat (first | apply dN | apply dW | apply dA)); refine blk_far ?_ NB227_229.out _; exact bp BK227⟩, ⟨by (with_reducible repeat (first | apply dN | apply dW | apply dA)); refine blk_put (cs := #[.int .i64 ((rd_T121 l0_0 a1).f0), .int .i64 ((rd_T121 l0_0 a1).f1), .slice none 0 0]) ?_ 2 _ rfl; (with_reducible repeat (first | apply dN | apply dW | apply dA)); refine blk_put (cs := #[.int .i64 ((rd_T121 l0_0 a1).f0), .int .i64 0, .slice none 0 0]) ?_ 1 _ rfl; (with_reducible repeat (first | apply dN | apply dW | apply dA)); refine blk_put (cs := #[.int .i64 0, .int .i64 0, .slice none 0 0]) ?_ 0 _ rfl; exact bp BK229⟩, ⟨bw HB⟩⟩
  refine qG H ?_ ?_ <;> clear H <;> intro c26b0 H
  ·have H' := am H
   clear H
   have hnb27 := NB229_226.out
   have hnc27 := NB226_229.out
   have hnb28 := NB229_227.out
   have hnc28 := NB227_229.out
   have hcz29 := bK w10 BK229
   have hfz29 := bF BK229
   go_wp2
   go_meet
   case rel => exact ⟨_, (true), dr, H', ⟨lk0⟩, ⟨by (with_reducible repeat (first | apply dN | apply dW | apply dA)); refine blk_far ?_ NB226_229.out _; (with_reducible repeat (first | apply dN | apply dW | apply dA)); refine blk_far ?_ NB226_229.out _; (with_reducible repeat (first | apply dN | apply dW | apply dA)); refine blk_far ?_ NB226_229.out _; exact bp BK226⟩, ⟨by (with_reducible repeat (first | apply dN | apply dW | apply dA)); refine blk_far ?_ NB227_229.out _; (with_reducible repeat (first | apply dN | apply dW | apply dA)); refine blk_far ?_ NB227_229.out _; (with_reducible repeat (first | apply dN | apply dW | apply dA)); refine blk_far ?_ NB227_229.out _; exact bp BK227⟩, ⟨by (with_reducible repeat (first | apply dN | apply dW | apply dA)); refine blk_put (cs := #[.int .i64 ((rd_T121 l0_0 a1).f0), .int .i64 ((rd_T121 l0_0 a1).f1), .slice none 0 0]) ?_ 2 _ rfl; (with_reducible repeat (first | apply dN | apply dW | apply dA)); refine blk_put (cs := #[.int .i64 ((rd_T121 l0_0 a1).f0), .int .i64 0, .slice none 0 0]) ?_ 1 _ rfl; (with_reducible repeat (first | apply dN | apply dW | apply dA)); refine blk_put (cs := #[.int .i64 0, .int .i64 0, .slice none 0 0]) ?_ 0 _ rfl; exact bp BK229⟩, ⟨bw HB⟩⟩
  refine qI H ?_ ?_ <;> clear H <;> intro c30b0 H
  ·have c30 := of_decide_eq_true c30b0
   have c30b1 : decide (((rd_T121 l0_0 a1).f2).length < 1) = true := decide_eq_true (by omega)
   clear c30
   have H' := am H
   clear H
   have hnb31 := NB229_226.out
   have hnc31 := NB226_229.out
   have hnb32 := NB229_227.out
   have hnc32 := NB227_229.out
   have hcz33 := bK w10 BK229
   have hfz33 := bF BK229
   go_wp2
   go_meet
   case rel => exact ⟨_, (true), dr, H', ⟨lk0⟩, ⟨by (with_reducible repeat (first | apply dN | apply dW | apply dA)); refine blk_far ?_ NB226_229.out _; (with_reducible repeat (first | apply dN | apply dW | apply dA)); refine blk_far ?_ NB226_229.out _; (with_reducible repeat (first | apply dN | apply dW | apply dA)); refine blk_far ?_ NB226_229.out _; exact bp BK226⟩, ⟨by (with_reducible repeat (first | apply dN | apply dW | apply dA)); refine blk_far ?_ NB227_229.out _; (with_reducible repeat (first | apply dN | apply dW | apply dA)); refine blk_far ?_ NB227_229.out _; (with_reducible repeat (first | apply dN | apply dW | apply dA)); refine blk_far ?_ NB227_229.out _; exact bp BK227⟩, ⟨by (with_reducible repeat (first | apply dN | apply dW | apply dA)); refine blk_put (cs := #[.int .i64 ((rd_T121 l0_0 a1).f0), .int .i64 ((rd_T121 l0_0 a1).f1), .slice none 0 0]) ?_ 2 _ rfl; (with_reducible repeat (first | apply dN | apply dW | apply dA)); refine blk_put (cs := #[.int .i64 ((rd_T121 l0_0 a1).f0), .int .i64 0, .slice none 0 0]) ?_ 1 _ rfl; (with_reducible repeat (first | apply dN | apply dW | apply dA)); refine blk_put (cs := #[.int .i64 0, .int .i64 0, .slice none 0 0]) ?_ 0 _ rfl; exact bp BK229⟩, ⟨bw HB⟩⟩
  have c30 := of_decide_eq_false c30b0
  have c30b1 : decide (((rd_T121 l0_0 a1).f2).length < 1) = false := decide_eq_false (by omega)
  clear c30
  have H' := am H
  clear H
  have hnb34 := NB229_226.out
  have hnc34 := NB226_229.out
  have hnb35 := NB229_227.out
  have hnc35 := NB227_229.out
  have hcz36 := bK w10 BK229
  have hfz36 := bF BK229
  go_wp2
  go_meet
  case rel => exact ⟨_, (decide ((((rd_T121 l0_0 a1).f2).length : Int) > 60)), dr, H', ⟨lk0⟩, ⟨by (with_reducible repeat (first | apply dN | apply dW | apply dA)); refine blk_far ?_ NB226_229.out _; (with_reducible repeat (first | apply dN | apply dW | apply dA)); refine blk_far ?_ NB226_229.out _; (with_reducible repeat (first | apply dN | apply dW | apply dA)); refine blk_far ?_ NB226_229.out _; exact bp BK226⟩, ⟨by (with_reducible repeat (first | apply dN | apply dW | apply dA)); refine blk_far ?_ NB227_229.out _; (with_reducible repeat (first | apply dN | apply dW | apply dA)); refine blk_far ?_ NB227_229.out _; (with_reducible repeat (first | apply dN | apply dW | apply dA)); refine blk_far ?_ NB227_229.out _; exact bp BK227⟩, ⟨by (with_reducible repeat (first | apply dN | apply dW | apply dA)); refine blk_put (cs := #[.int .i64 ((rd_T121 l0_0 a1).f0), .int .i64 ((rd_T121 l0_0 a1).f1), .slice none 0 0]) ?_ 2 _ rfl; (with_reducible repeat (first | apply dN | apply dW | apply dA)); refine blk_put (cs := #[.int .i64 ((rd_T121 l0_0 a1).f0), .int .i64 0, .slice none 0 0]) ?_ 1 _ rfl; (with_reducible repeat (first | apply dN | apply dW | apply dA)); refine blk_put (cs := #[.int .i64 0, .int .i64 0, .slice none 0 0]) ?_ 0 _ rfl; exact bp BK229⟩, ⟨bw HB⟩⟩
 clear HC5
 obtain ⟨kq, x45_4, rfl, HA, HJ4, BK226, BK227, BK229, HB⟩ := hcut
 rcases kq with _ | kj4
 ·exact absurd HA.out (by simp [spec_l04Func.j0])
 have H := HA.out
 clear HA
 simp only [spec_l04Func.j0] at H
 refine qT H ?_ ?_ <;> clear H <;> intro c37 H <;> subst c37
 ·simp only [Option.some.injEq, Prod.mk.injEq] at H
  obtain ⟨rfl, rfl, rfl⟩ := H
  have hnb38 := NB227_226.out
  have hnc38 := NB226_227.out
  have hnb39 := NB227_229.out
  have hnc39 := NB229_227.out
  have hcz40 := bK wc BK227
  have hfz40 := bF BK227
  go_wp2
  refine bodyPost_ret (results_cell_row rfl _ _ gb227 138 #[.int .i64 a1, .int .i64 0, .int .i64 1] (0, 0) _ rfl (bt BK227) Try.underlying138 rfl (by kernel_rfl)) rfl ?_
  exact ⟨er, bw HB⟩
 have H' := am H
 clear H
 go_wp2
 go_loopg [6] kj4 (fun kq v6 w' => ∃ (x6_2 : Int) (x228000_2 : Int) (x228001_2 : Int) (x228002_2 : Int), v6 = .int .i64 x6_2 ∧ Aside0 (spec_l04Func.l0 kq a1 x6_2 l0_0 ((rd_T121 l0_0 a1).f0) ((rd_T121 l0_0 a1).f1) ((rd_T121 l0_0 a1).f2) = some (r1, r2, r3)) ∧ Aside0 (kq ≤ kj4) ∧ Aside0 (w'.heap[gb226]? = some (.cells #[(.slice (some ad228) l0_0.length c0_0)] 32 (0, 0))) ∧ Aside0 (w'.heap[gb227]? = some (.cells #[.int .i64 x228000_2, .int .i64 x228001_2, .int .i64 x228002_2] 138 (0, 0))) ∧ Aside0 (w'.heap[gb229]? = some (.cells #[.int .i64 ((rd_T121 l0_0 a1).f0), .int .i64 ((rd_T121 l0_0 a1).f1), (.slice A228_2 ((rd_T121 l0_0 a1).f2).length c228_2)] 121 (0, 0))) ∧ Aside0 (Below w.heap.size w w'))
 case atStart => exact ⟨(0), (0), (0), (0), dr, H', ⟨Nat.le_refl _⟩, ⟨bp BK226⟩, ⟨bp BK227⟩, ⟨bp BK229⟩, ⟨bw HB⟩⟩
 clear H'
 obtain ⟨x6_2, x228000_2, x228001_2, x228002_2, rfl, HA, HK2, BK226, BK227, BK229, HB⟩ := hrel
 rcases gk with _ | k2
 ·exact absurd HA.out (by simp [spec_l04Func.l0])
 have H := HA.out
 clear HA
 simp only [spec_l04Func.l0] at H
 refine qI H ?_ ?_ <;> clear H <;> intro c41b0 H
 ·refine iM H ?_; clear H; intro c42b0 H
  refine be H ?_; clear H; intro t231 A43 H
  have HC44 := am H
  clear H
  have hnb45 := NB229_226.out
  have hnc45 := NB226_229.out
  have hnb46 := NB229_227.out
  have hnc46 := NB227_229.out
  have hcz47 := bK wr BK229
  have hfz47 := bF BK229
  try go_wp2
  replace BK226 := am (blk_drew BK226.out)
  replace BK227 := am (blk_drew BK227.out)
  replace BK229 := am (blk_drew BK229.out)
  replace HB := am (below_drew1 HB.out)
  have p230 : 0 ≤ (x6_2 : Int) := dt
  have q230 : x6_2 < (((rd_T121 l0_0 a1).f2).length : Int) := dt
  obtain ⟨ad230, e230, hx230_0, hx230_1⟩ := at_T153 HR228_2.out x6_2 p230 q230
  have hw230_1 := hx230_1
  have hw230_0 := hx230_0
  cases e230
  replace hx230_0 := cl HB hx230_0
  replace hx230_1 := cl HB hx230_1
  replace p230 := eq_true p230
  replace q230 := eq_true q230
  refine start_ (n := 9) (S := fun w' => w'.cell? ⟨gb226, 0, none⟩ = some (.slice (some ad228) l0_0.length c0_0) ∧ w'.cell? ⟨gb229, 0, none⟩ = some (.int .i64 ((rd_T121 l0_0 a1).f0)) ∧ w'.cell? ⟨gb229, 1, none⟩ = some (.int .i64 ((rd_T121 l0_0 a1).f1)) ∧ w'.cell? ⟨gb229, 2, none⟩ = some (.slice (some ad230) ((rd_T121 l0_0 a1).f2).length c228_2) ∧ w'.cell? (ad230.add ((x6_2).toNat * 2)) = some (.int .i64 ((rd_T153 ((rd_T121 l0_0 a1).f2) x6_2).f0)) ∧ w'.cell? ⟨(ad230.add ((x6_2).toNat * 2)).block, (ad230.add ((x6_2).toNat * 2)).off + 1, none⟩ = some (.int .i64 ((rd_T153 ((rd_T121 l0_0 a1).f2) x6_2).f1))) (ds := []) (bv 9 0) (by kernel_rfl) rfl (by kernel_rfl) ⟨bc BK226 0, bc BK229 0, bc BK229 1, bc BK229 2, (cq HB hw230_0), (cq HB hw230_1)⟩ (fun hHeld => ?_); refine with_tabW spec_l04Func.tab7 spec_l04Func.bits7 (fun HT_ HW_ => ?_)
  generalize wr.drew = w48 at BK226 BK227 BK229 HB hx230_0 hx230_1 hHeld ⊢
  refine pu 1 56 9 2 HT_ ?_
  refine pu 2 57 9 6 HT_ ?_
  refine pu 4 59 9 22 HT_ ?_
  refine tk 0 55 9 23 HT_ HW_ hHeld ?_
  refine tk 3 58 9 31 HT_ HW_ hHeld ?_
  refine pu 5 60 9 63 HT_ ?_
  refine tk 6 61 9 127 HT_ HW_ hHeld ?_
  refine on 7 (some 62) 9 255 HT_ fun K hK => ?_
  refine goes_ Try.func161 (by kernel_rfl) rfl #[.agg #[.slice (some ad228) l0_0.length c0_0], .int .i64 a1, .agg #[.int .i64 ((rd_T153 ((rd_T121 l0_0 a1).f2) x6_2).f0), .int .i64 ((rd_T153 ((rd_T121 l0_0 a1).f2) x6_2).f1)]] (by rfl) rfl rfl gl ?_
  with_reducible refine (spec_InsRight.calls k2 _ _ l0_0 a1 ((rd_T153 ((rd_T121 l0_0 a1).f2) x6_2).f0) ((rd_T153 ((rd_T121 l0_0 a1).f2) x6_2).f1) t231 _ ?side1 ?side2 A43.out).mono ?_
  (case side1 => exact cc (Kd.C_below HR0_0.out HB.out))
  (case side2 => exact HC0_0.out)
  rintro e w49 ⟨rfl, hb⟩
  refine ⟨_, rfl, ?_⟩
  replace BK226 := bb BK226 hb
  replace BK227 := bb BK227 hb
  replace BK229 := bb BK229 hb
  replace HB := am (below_step (bw HB) hb)
  clear hb
  refine hK.out _ _ ⟨bc BK226 0, bc BK229 0, bc BK229 1, bc BK229 2, (cq HB hw230_0), (cq HB hw230_1)⟩ (fun hHeld => ?_)
  clear hK K
  refine nm (some 62) ?_
  refine pu 8 63 9 511 HT_ ?_
  refine done_ (done_of HT_.out (by kernel_rfl)) ?_
  go_upto_if 63 with (fail)
  (try simp only [Act.put, sa, sz, ss])
  have H := HC44.out
  clear HC44
  refine qT H ?_ ?_ <;> clear H <;> intro c50 H <;> subst c50
  ·have H' := am H
   clear H
   go_wp2
   go_roundg k2
   case measure => have := HJ4.out; have := HK2.out; omega
   case rel => exact ⟨(wrap64 (x6_2 + 1)), (x228000_2), (x228001_2), (x228002_2), dr, H', ⟨by have := HJ4.out; have := HK2.out; omega⟩, ⟨bp BK226⟩, ⟨bp BK227⟩, ⟨bp BK229⟩, ⟨bw HB⟩⟩
  simp only [Option.some.injEq, Prod.mk.injEq] at H
  obtain ⟨rfl, rfl, rfl⟩ := H
  have hnb51 := NB227_226.out
  have hnc51 := NB226_227.out
  have hnb52 := NB227_229.out
  have hnc52 := NB229_227.out
  have hcz53 := bK w49 BK227
  have hfz53 := bF BK227
  go_wp2
  refine bodyPost_ret (results_cell_row rfl _ _ gb227 138 #[.int .i64 a1, .int .i64 x6_2, .int .i64 1] (0, 0) _ rfl (bt BK227) Try.underlying138 rfl (by kernel_rfl)) rfl ?_
  exact ⟨er, bw HB⟩
 replace H := Option.bind_eq_some_iff.mp H
 obtain ⟨⟨t232, t235, t236, t237⟩, A540, H⟩ := H
 replace H : (some (t235, t236, t237)) = some (r1, r2, r3) := H
 have A54 := am A540
 clear A540
 simp only [Option.some.injEq, Prod.mk.injEq] at H
 obtain ⟨rfl, rfl, rfl⟩ := H
 have hnb55 := NB229_226.out
 have hnc55 := NB226_229.out
 have hnb56 := NB229_227.out
 have hnc56 := NB227_229.out
 have hcz57 := bK wr BK229
 have hfz57 := bF BK229
 have hnb58 := NB226_227.out
 have hnc58 := NB227_226.out
 have hcz59 := bK wr BK226
 have hfz59 := bF BK226
 go_wp2_with (first | ((with_reducible refine gk 84 rfl ?_); refine gC 84 (some 70) Try.func84 #[.agg #[.slice (some ad228) l0_0.length c0_0], .int .i64 a1] ((spec_l04Heights.calls k2 _ _ l0_0 a1 t232 t235 t236 t237 _ (cc (Kd.C_below HR0_0.out HB.out)) HC0_0.out A54.out).mono ?_); rintro e w60 ⟨v233, rfl, ho0, hb⟩; refine ⟨_, rfl, ?_⟩; have HO234 := am (Kd.R_lower ho0 (below_size (bw HB))); replace BK226 := bb BK226 hb; replace BK227 := bb BK227 hb; replace BK229 := bb BK229 hb; replace HB := bs HB hb; clear hb) | ((with_reducible refine gate_dst (N := 8) rfl ?_); (try (refine gate_guard (by rfl) ?_; dsimp only)); refine box_event ?hg (N := 8) ?hd (cs := #[.int .i64 0, .int .i64 0, .int .i64 0]) (t := 138) ?hr ?_; (case hd => rfl); (case hg => rfl); (case hr => exact gs); intro gb238 hg w61 hbox hb; replace HO234 := am (Kd.R_below (kR HO234) hb); have BK238 := am (hbox); have GW238 := gw hg HB; replace HB := bs HB hb; obtain ⟨NB226_238, NB238_226, BK226⟩ := b3 hg BK226 hb; obtain ⟨NB227_238, NB238_227, BK227⟩ := b3 hg BK227 hb; obtain ⟨NB229_238, NB238_229, BK229⟩ := b3 hg BK229 hb; clear hb hbox hg; have hnb62 := NB238_226.out; have hnc62 := NB226_238.out; have hnb63 := NB238_227.out; have hnc63 := NB227_238.out; have hnb64 := NB238_229.out; have hnc64 := NB229_238.out; have hcz65 := bK w61 BK238; have hfz65 := bF BK238; have hcz66 := bK w61 BK227; have hfz66 := bF BK227))
 refine bodyPost_ret (results_cell_row rfl _ _ gb227 138 #[.int .i64 t235, .int .i64 t236, .int .i64 t237] (0, 0) _ rfl (bt BK227) Try.underlying138 rfl (by kernel_rfl)) rfl ?_
 exact ⟨er, bw HB⟩

mutual
def spec_Verify.j0 : Nat → Bool → List (S121) → Option (Int × Int × Int)
 | 0, _, _ => none
 | k + 1, x14, x240000 => if x14 = true then (some (0, 0, 1)) else (spec_Verify.l0 k 0 x240000)
def spec_Verify.l0 : Nat → Int → List (S121) → Option (Int × Int × Int)
 | 0, _, _ => none
 | k + 1, x3, x240000 => if x3 < (x240000.length : Int) then ((spec_l04Func.f k x240000 x3).bind fun bt241 => (if bt241.2.2 = 0 then (spec_Verify.l0 k (wrap64 (x3 + 1)) x240000) else (some (bt241.1, bt241.2.1, bt241.2.2)))) else (some (0, 0, 0))
end
def spec_Verify.f (k : Nat) (l0_0 : List (S121)) : Option (Int × Int × Int) := if (l0_0.length : Int) < 1 then (spec_Verify.j0 k true l0_0) else (spec_Verify.j0 k (decide ((l0_0.length : Int) > 6)) l0_0)
theorem spec_Verify.calls (k : Nat) (A0_0 : Option Addr) (c0_0 : Nat) (l0_0 : List (S121)) (r1 : Int) (r2 : Int) (r3 : Int) (w : World) (hr0_0 : Kd.C k121 w A0_0 l0_0.length l0_0) (hc0_0 : l0_0.length ≤ c0_0) (h : spec_Verify.f k l0_0 = some (r1, r2, r3)) :
  Calls Try.prog 119 #[.agg #[.slice A0_0 l0_0.length c0_0]] w fun e w' => e = .returned (.agg #[.int .i64 r1, .int .i64 r2, .int .i64 r3]) ∧ Below w.heap.size w w' := by
 have hu32 := Try.underlying32
 have hu138 := Try.underlying138
 have HR0_0 := am hr0_0
 have HC0_0 := am hc0_0
 clear hr0_0 hc0_0
 have HB := am (Below.refl w.heap.size w)
 have H : (if (l0_0.length : Int) < 1 then (spec_Verify.j0 k true l0_0) else (spec_Verify.j0 k (decide ((l0_0.length : Int) > 6)) l0_0)) = some (r1, r2, r3) := h
 clear h
 have HC2 := am H
 clear H
 go_enter Try.func119, Try.ntmps119
 go_upto_region 1 with (first | ((with_reducible refine gate_dst (N := 1) rfl ?_); (try (refine gate_guard (by rfl) ?_; dsimp only)); refine box_event ?hg (N := 1) ?hd (cs := #[.slice A0_0 l0_0.length c0_0]) (t := 32) ?hr ?_; (case hd => rfl); (case hg => rfl); (case hr => exact gs); intro gb239 hg w3 hbox hb; have BK239 := am (hbox); have GW239 := gw hg HB; replace HB := bs HB hb; clear hb hbox hg) | ((with_reducible refine gate_dst (N := 2) rfl ?_); (try (refine gate_guard (by rfl) ?_; dsimp only)); refine box_event ?hg (N := 2) ?hd (cs := #[.int .i64 0, .int .i64 0, .int .i64 0]) (t := 138) ?hr ?_; (case hd => rfl); (case hg => rfl); (case hr => exact gs); intro gb240 hg w4 hbox hb; have BK240 := am (hbox); have GW240 := gw hg HB; replace HB := bs HB hb; obtain ⟨NB239_240, NB240_239, BK239⟩ := b3 hg BK239 hb; clear hb hbox hg))
 (try simp only [Act.put, sa, sz, ss])
 go_cut [14] (fun v14 wc => ∃ (kq : Nat) (x14_1 : Bool), v14 = .bool x14_1 ∧ Aside0 (spec_Verify.j0 kq x14_1 l0_0 = some (r1, r2, r3)) ∧ Aside0 (kq ≤ k) ∧ Aside0 (wc.heap[gb239]? = some (.cells #[(.slice A0_0 l0_0.length c0_0)] 32 (0, 0))) ∧ Aside0 (wc.heap[gb240]? = some (.cells #[.int .i64 0, .int .i64 0, .int .i64 0] 138 (0, 0))) ∧ Aside0 (Below w.heap.size w wc))
 case first =>
  have H := HC2.out
  clear HC2
  refine qI H ?_ ?_ <;> clear H <;> intro c5b0 H
  ·have c5 := of_decide_eq_true c5b0
   have c5b1 : decide (l0_0.length < 1) = true := decide_eq_true (by omega)
   clear c5
   (first | rw [c5b0] | (simp only [i64_w, i32_w]; rw [c5b0]) | skip)
   have H' := am H
   clear H
   have hnb6 := NB239_240.out
   have hnc6 := NB240_239.out
   have hcz7 := bK w4 BK239
   have hfz7 := bF BK239
   go_wp2
   go_meet
   case rel => exact ⟨_, (true), dr, H', ⟨lk0⟩, ⟨bp BK239⟩, ⟨bp BK240⟩, ⟨bw HB⟩⟩
  have c5 := of_decide_eq_false c5b0
  have c5b1 : decide (l0_0.length < 1) = false := decide_eq_false (by omega)
  clear c5
  (first | rw [c5b0] | (simp only [i64_w, i32_w]; rw [c5b0]) | skip)
  have H' := am H
  clear H
  have hnb8 := NB239_240.out
  have hnc8 := NB240_239.out
  have hcz9 := bK w4 BK239
  have hfz9 := bF BK239
  go_wp2
  go_meet
  case rel => exact ⟨_, (decide ((l0_0.length : Int) > 6)), dr, H', ⟨lk0⟩, ⟨bp BK239⟩, ⟨bp BK240⟩, ⟨bw HB⟩⟩
 clear HC2
 obtain ⟨kq, x14_1, rfl, HA, HJ1, BK239, BK240, HB⟩ := hcut
 rcases kq with _ | kj1
 ·exact absurd HA.out (by simp [spec_Verify.j0])
 have H := HA.out
 clear HA
 simp only [spec_Verify.j0] at H
 refine qT H ?_ ?_ <;> clear H <;> intro c10 H <;> subst c10
 ·simp only [Option.some.injEq, Prod.mk.injEq] at H
  obtain ⟨rfl, rfl, rfl⟩ := H
  have hnb11 := NB240_239.out
  have hnc11 := NB239_240.out
  have hcz12 := bK wc BK240
  have hfz12 := bF BK240
  go_wp2
  refine bodyPost_ret (results_cell_row rfl _ _ gb240 138 #[.int .i64 0, .int .i64 0, .int .i64 1] (0, 0) _ rfl (bt BK240) Try.underlying138 rfl (by kernel_rfl)) rfl ?_
  exact ⟨er, bw HB⟩
 have H' := am H
 clear H
 go_wp2
 go_loopg [3] kj1 (fun kq v3 w' => ∃ (x3_2 : Int) (x241000_2 : Int) (x241001_2 : Int) (x241002_2 : Int), v3 = .int .i64 x3_2 ∧ Aside0 (spec_Verify.l0 kq x3_2 l0_0 = some (r1, r2, r3)) ∧ Aside0 (kq ≤ kj1) ∧ Aside0 (w'.heap[gb239]? = some (.cells #[(.slice A0_0 l0_0.length c0_0)] 32 (0, 0))) ∧ Aside0 (w'.heap[gb240]? = some (.cells #[.int .i64 x241000_2, .int .i64 x241001_2, .int .i64 x241002_2] 138 (0, 0))) ∧ Aside0 (Below w.heap.size w w'))
 case atStart => exact ⟨(0), (0), (0), (0), dr, H', ⟨Nat.le_refl _⟩, ⟨bp BK239⟩, ⟨bp BK240⟩, ⟨bw HB⟩⟩
 clear H'
 obtain ⟨x3_2, x241000_2, x241001_2, x241002_2, rfl, HA, HK2, BK239, BK240, HB⟩ := hrel
 rcases gk with _ | k2
 ·exact absurd HA.out (by simp [spec_Verify.l0])
 have H := HA.out
 clear HA
 simp only [spec_Verify.l0] at H
 refine qI H ?_ ?_ <;> clear H <;> intro c13b0 H
 ·replace H := Option.bind_eq_some_iff.mp H
  obtain ⟨⟨t241, t242, t243⟩, A140, H⟩ := H
  replace H : (if t243 = 0 then (spec_Verify.l0 k2 (wrap64 (x3_2 + 1)) l0_0) else (some (t241, t242, t243))) = some (r1, r2, r3) := H
  have A14 := am A140
  clear A140
  have HC15 := am H
  clear H
  have hnb16 := NB239_240.out
  have hnc16 := NB240_239.out
  have hcz17 := bK wr BK239
  have hfz17 := bF BK239
  go_upto_if 28 with (first | ((with_reducible refine gk 152 rfl ?_); refine gB 152 (some 25) Try.func152 #[.agg #[.slice A0_0 l0_0.length c0_0], .int .i64 x3_2] (spec_l04Func.calls k2 _ _ l0_0 x3_2 t241 t242 t243 _ (cc (Kd.C_below HR0_0.out HB.out)) HC0_0.out A14.out) ?_; intro w18 hb; replace BK239 := bb BK239 hb; replace BK240 := bb BK240 hb; replace HB := bs HB hb; clear hb) | ((with_reducible refine gate_dst (N := 4) rfl ?_); (try (refine gate_guard (by rfl) ?_; dsimp only)); refine box_event ?hg (N := 4) ?hd (cs := #[.int .i64 0, .int .i64 0, .int .i64 0]) (t := 138) ?hr ?_; (case hd => rfl); (case hg => rfl); (case hr => exact gs); intro gb244 hg w19 hbox hb; have BK244 := am (hbox); have GW244 := gw hg HB; replace HB := bs HB hb; obtain ⟨NB239_244, NB244_239, BK239⟩ := b3 hg BK239 hb; obtain ⟨NB240_244, NB244_240, BK240⟩ := b3 hg BK240 hb; clear hb hbox hg; have hnb20 := NB244_239.out; have hnc20 := NB239_244.out; have hnb21 := NB244_240.out; have hnc21 := NB240_244.out; have hcz22 := bK w19 BK244; have hfz22 := bF BK244))
  (try simp only [Act.put, sa, sz, ss])
  have H := HC15.out
  clear HC15
  refine qE H ?_ ?_ <;> clear H
  ·intro c23b0 c23b1 H
   (first | rw [c23b0] | (simp only [i64_w, i32_w]; rw [c23b0]) | skip)
   have H' := am H
   clear H
   go_wp2
   go_roundg k2
   case measure => have := HJ1.out; have := HK2.out; omega
   case rel => exact ⟨(wrap64 (x3_2 + 1)), (x241000_2), (x241001_2), (x241002_2), dr, H', ⟨by have := HJ1.out; have := HK2.out; omega⟩, ⟨by (with_reducible repeat (first | apply dN | apply dW | apply dA)); refine blk_far ?_ NB239_244.out _; (with_reducible repeat (first | apply dN | apply dW | apply dA)); refine blk_far ?_ NB239_244.out _; (with_reducible repeat (first | apply dN | apply dW | apply dA)); refine blk_far ?_ NB239_244.out _; exact bp BK239⟩, ⟨by (with_reducible repeat (first | apply dN | apply dW | apply dA)); refine blk_far ?_ NB240_244.out _; (with_reducible repeat (first | apply dN | apply dW | apply dA)); refine blk_far ?_ NB240_244.out _; (with_reducible repeat (first | apply dN | apply dW | apply dA)); refine blk_far ?_ NB240_244.out _; exact bp BK240⟩, ⟨bw HB⟩⟩
  intro c23 c23b0 c23b1 H
  (first | rw [c23b0] | (simp only [i64_w, i32_w]; rw [c23b0]) | skip)
  simp only [Option.some.injEq, Prod.mk.injEq] at H
  obtain ⟨rfl, rfl, rfl⟩ := H
  have hnb24 := NB244_239.out
  have hnc24 := NB239_244.out
  have hnb25 := NB244_240.out
  have hnc25 := NB240_244.out
  have hcz26 := bK w19 BK244
  have hfz26 := bF BK244
  have hnb27 := NB240_239.out
  have hnc27 := NB239_240.out
  have hcz28 := bK w19 BK240
  have hfz28 := bF BK240
  go_wp2
  refine bodyPost_ret (results_cell_row rfl _ _ gb240 138 #[.int .i64 t241, .int .i64 t242, .int .i64 t243] (0, 0) _ rfl (bt BK240) Try.underlying138 rfl (by kernel_rfl)) rfl ?_
  exact ⟨er, bw HB⟩
 simp only [Option.some.injEq, Prod.mk.injEq] at H
 obtain ⟨rfl, rfl, rfl⟩ := H
 have hnb29 := NB239_240.out
 have hnc29 := NB240_239.out
 have hcz30 := bK wr BK239
 have hfz30 := bF BK239
 have hcz31 := bK wr BK240
 have hfz31 := bF BK240
 go_wp2
 refine bodyPost_ret (results_cell_row rfl _ _ gb240 138 #[.int .i64 0, .int .i64 0, .int .i64 0] (0, 0) _ rfl (bt BK240) Try.underlying138 rfl (by kernel_rfl)) rfl ?_
 exact ⟨er, bw HB⟩

def spec_l04Right.f (k : Nat) (l0_0 : List (S121)) : Option (Bool) := (spec_Verify.f k l0_0).bind fun bt246 => (some (bt246.2.2 == 0))
theorem spec_l04Right.calls (k : Nat) (A0_0 : Option Addr) (c0_0 : Nat) (l0_0 : List (S121)) (r : Bool) (w : World) (hr0_0 : Kd.C k121 w A0_0 l0_0.length l0_0) (hc0_0 : l0_0.length ≤ c0_0) (h : spec_l04Right.f k l0_0 = some r) :
  Calls Try.prog 70 #[.agg #[.slice A0_0 l0_0.length c0_0]] w fun e w' => e = .returned (.bool r) ∧ Below w.heap.size w w' := by
 have hu32 := Try.underlying32
 have hu138 := Try.underlying138
 have hfd138_2 : ∀ (v0_ v1_ v2_ : Value) (W : World), (Instr.field 138 (.agg #[v0_, v1_, v2_]) 2).run Try.prog W = .ok (v2_) W := fun v0_ v1_ v2_ W => by kernel_rfl
 have HR0_0 := am hr0_0
 have HC0_0 := am hc0_0
 clear hr0_0 hc0_0
 have HB := am (Below.refl w.heap.size w)
 have H : ((spec_Verify.f k l0_0).bind fun bt246 => (some (bt246.2.2 == 0))) = some r := h
 clear h
 replace H := Option.bind_eq_some_iff.mp H
 obtain ⟨⟨t246, t247, t248⟩, A20, H⟩ := H
 replace H : (some (t248 == 0)) = some r := H
 have A2 := am A20
 clear A20
 obtain rfl := oi H
 go_enter Try.func70, Try.ntmps70
 go_wp2_with (first | ((with_reducible refine gd 1 rfl ?_); refine bX 1 #[.slice A0_0 l0_0.length c0_0] 32 HB ?_; clear HB; intro gb245 w3 hg hb BK245 GW245 HB; clear hb hg; have hcz4 := bK w3 BK245; have hfz4 := bF BK245) | ((with_reducible refine gk 119 rfl ?_); refine gB 119 (some 4) Try.func119 #[.agg #[.slice A0_0 l0_0.length c0_0]] (spec_Verify.calls k _ _ l0_0 t246 t247 t248 _ (cc (Kd.C_below HR0_0.out HB.out)) HC0_0.out A2.out) ?_; intro w5 hb; replace BK245 := bb BK245 hb; replace HB := bs HB hb; clear hb))
 go_ret
 exact ⟨er, bw HB⟩

def spec_l04Is.f (k : Nat) (l0_0 : List (S121)) (a1 : Int) : Option (Bool) := (spec_l04Right.f k l0_0).bind fun t250 => (if t250 = true then (if a1 ≥ 0 then (some (decide (a1 < (l0_0.length : Int)))) else (some false)) else (some false))
theorem spec_l04Is.calls (k : Nat) (A0_0 : Option Addr) (c0_0 : Nat) (l0_0 : List (S121)) (a1 : Int) (r : Bool) (w : World) (hr0_0 : Kd.C k121 w A0_0 l0_0.length l0_0) (hc0_0 : l0_0.length ≤ c0_0) (h : spec_l04Is.f k l0_0 a1 = some r) :
  Calls Try.prog 83 #[.agg #[.slice A0_0 l0_0.length c0_0], .int .i64 a1] w fun e w' => e = .returned (.bool r) ∧ Below w.heap.size w w' := by
 have hu32 := Try.underlying32
 have HR0_0 := am hr0_0
 have HC0_0 := am hc0_0
 clear hr0_0 hc0_0
 have HB := am (Below.refl w.heap.size w)
 have H : ((spec_l04Right.f k l0_0).bind fun t250 => (if t250 = true then (if a1 ≥ 0 then (some (decide (a1 < (l0_0.length : Int)))) else (some false)) else (some false))) = some r := h
 clear h
 refine be H ?_; clear H; intro t250 A3 H
 refine qT H ?_ ?_ <;> clear H <;> intro c4 H <;> subst c4
 ·refine qL H ?_ ?_ <;> clear H <;> intro c5b0 H
  ·obtain rfl := oi H
   go_enter Try.func83, Try.ntmps83
   go_wp2_with (first | ((with_reducible refine gate_dst (N := 2) rfl ?_); (try (refine gate_guard (by rfl) ?_; dsimp only)); refine box_event ?hg (N := 2) ?hd (cs := #[.slice A0_0 l0_0.length c0_0]) (t := 32) ?hr ?_; (case hd => rfl); (case hg => rfl); (case hr => exact gs); intro gb249 hg w6 hbox hb; have BK249 := am (hbox); have GW249 := gw hg HB; replace HB := bs HB hb; clear hb hbox hg; have hcz7 := bK w6 BK249; have hfz7 := bF BK249) | ((with_reducible refine gk 70 rfl ?_); refine gB 70 (some 6) Try.func70 #[.agg #[.slice A0_0 l0_0.length c0_0]] (spec_l04Right.calls k _ _ l0_0 true _ (cc (Kd.C_below HR0_0.out HB.out)) HC0_0.out A3.out) ?_; intro w8 hb; replace BK249 := bb BK249 hb; replace HB := bs HB hb; clear hb; have hcz9 := bK w8 BK249; have hfz9 := bF BK249))
   go_ret
   exact ⟨er, bw HB⟩
  obtain rfl := oi H
  go_enter Try.func83, Try.ntmps83
  go_wp2_with (first | ((with_reducible refine gate_dst (N := 2) rfl ?_); (try (refine gate_guard (by rfl) ?_; dsimp only)); refine box_event ?hg (N := 2) ?hd (cs := #[.slice A0_0 l0_0.length c0_0]) (t := 32) ?hr ?_; (case hd => rfl); (case hg => rfl); (case hr => exact gs); intro gb249 hg w10 hbox hb; have BK249 := am (hbox); have GW249 := gw hg HB; replace HB := bs HB hb; clear hb hbox hg; have hcz11 := bK w10 BK249; have hfz11 := bF BK249) | ((with_reducible refine gk 70 rfl ?_); refine gB 70 (some 6) Try.func70 #[.agg #[.slice A0_0 l0_0.length c0_0]] (spec_l04Right.calls k _ _ l0_0 true _ (cc (Kd.C_below HR0_0.out HB.out)) HC0_0.out A3.out) ?_; intro w12 hb; replace BK249 := bb BK249 hb; replace HB := bs HB hb; clear hb))
  go_ret
  exact ⟨er, bw HB⟩
 obtain rfl := oi H
 go_enter Try.func83, Try.ntmps83
 go_wp2_with (first | ((with_reducible refine gate_dst (N := 2) rfl ?_); (try (refine gate_guard (by rfl) ?_; dsimp only)); refine box_event ?hg (N := 2) ?hd (cs := #[.slice A0_0 l0_0.length c0_0]) (t := 32) ?hr ?_; (case hd => rfl); (case hg => rfl); (case hr => exact gs); intro gb249 hg w13 hbox hb; have BK249 := am (hbox); have GW249 := gw hg HB; replace HB := bs HB hb; clear hb hbox hg; have hcz14 := bK w13 BK249; have hfz14 := bF BK249) | ((with_reducible refine gk 70 rfl ?_); refine gB 70 (some 6) Try.func70 #[.agg #[.slice A0_0 l0_0.length c0_0]] (spec_l04Right.calls k _ _ l0_0 false _ (cc (Kd.C_below HR0_0.out HB.out)) HC0_0.out A3.out) ?_; intro w15 hb; replace BK249 := bb BK249 hb; replace HB := bs HB hb; clear hb))
 go_ret
 exact ⟨er, bw HB⟩

def spec_l10Loc.f (a0 : Int) : Option (Bool) := if a0 ≥ 0 then (some (decide (a0 < 22))) else (some false)
theorem spec_l10Loc.calls (a0 : Int) (r : Bool) (w : World) (h : spec_l10Loc.f a0 = some r) :
  Calls Try.prog 129 #[.int .i64 a0] w fun e w' => e = .returned (.bool r) ∧ Drawn0 w w' := by
 have H : (if a0 ≥ 0 then (some (decide (a0 < 22))) else (some false)) = some r := h
 clear h
 refine qL H ?_ ?_ <;> clear H <;> intro c2b0 H
 ·obtain rfl := oi H
  go_enter Try.func129, Try.ntmps129
  go_wp2
  go_ret
  exact ⟨by first | rfl | (simp; done) | (simp [*]; done), by repeat (first | exact Drawn0.refl _ | apply Drawn0.step)⟩
 obtain rfl := oi H
 go_enter Try.func129, Try.ntmps129
 go_wp2
 go_ret
 exact ⟨by first | rfl | (simp; done) | (simp [*]; done), by repeat (first | exact Drawn0.refl _ | apply Drawn0.step)⟩

end Go.Proofs.Ytkhpiicijkhpkaa.QFnExactAsmBytes
