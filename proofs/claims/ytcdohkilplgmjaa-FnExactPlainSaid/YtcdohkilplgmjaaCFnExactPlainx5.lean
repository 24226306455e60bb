import Derived.Test.YtcdohkilplgmjaaCFnExactPlainx0
import Derived.Test.YtcdohkilplgmjaaCFnExactPlainx3
import Derived.Test.YtcdohkilplgmjaaCFnExactPlainx4
namespace Go.Proofs.Ytcdohkilplgmjaa.QFnExactPlain
open Go.RowKit Go.Proofs.YtcdohkilplgmjaaW
open PrintWords PrintLast PrintMore PrintShort PrintIsh
attribute [local go_sem] max2_int min2_int max_two min_two max_three min_three max_four min_four   -- for this text's walks alone
set_option linter.unusedVariables false
set_option maxHeartbeats 8000000
set_option maxRecDepth 100000
set_option linter.unusedSimpArgs false

mutual
def spec_l04Func.j0 : Nat → Int → Bool → List (S53) → Int → Int → List (S59) → Option (Int × Int × Int)
 | 0, _, _, _, _, _, _ => none
 | k + 1, x1, x45, x171000, x174000, x174001, x174002 => if x45 = true then (some (x1, 0, 1)) else (spec_l04Func.l0 k x1 0 x171000 x174000 x174001 x174002)
def spec_l04Func.l0 : Nat → Int → Int → List (S53) → Int → Int → List (S59) → Option (Int × Int × Int)
 | 0, _, _, _, _, _, _ => none
 | k + 1, x1, x6, x171000, x174000, x174001, x174002 => if x6 < (x174002.length : Int) then (if 0 ≤ x6 then ((spec_InsRight.f k x171000 x1 ((rd_T59 x174002 x6).f0) ((rd_T59 x174002 x6).f1)).bind fun t175 => (if t175 = true then (spec_l04Func.l0 k x1 (wrap64 (x6 + 1)) x171000 x174000 x174001 x174002) else (some (x1, x6, 1)))) else (none)) else ((spec_l04Heights.f k x171000 x1).bind fun bt176 => (some (bt176.2.1, bt176.2.2.1, bt176.2.2.2)))
end
def spec_l04Func.f (k : Nat) (l0_0 : List (S53)) (a1 : Int) : Option (Int × Int × Int) := if 0 ≤ a1 then (if a1 < (l0_0.length : Int) then (if ((rd_T53 l0_0 a1).f0) < 0 then (spec_l04Func.j0 k a1 true l0_0 ((rd_T53 l0_0 a1).f0) ((rd_T53 l0_0 a1).f1) ((rd_T53 l0_0 a1).f2)) else (if ((rd_T53 l0_0 a1).f0) > 4 then (spec_l04Func.j0 k a1 true l0_0 ((rd_T53 l0_0 a1).f0) ((rd_T53 l0_0 a1).f1) ((rd_T53 l0_0 a1).f2)) else (if ((rd_T53 l0_0 a1).f1) < ((rd_T53 l0_0 a1).f0) then (spec_l04Func.j0 k a1 true l0_0 ((rd_T53 l0_0 a1).f0) ((rd_T53 l0_0 a1).f1) ((rd_T53 l0_0 a1).f2)) else (if ((rd_T53 l0_0 a1).f1) > 8 then (spec_l04Func.j0 k a1 true l0_0 ((rd_T53 l0_0 a1).f0) ((rd_T53 l0_0 a1).f1) ((rd_T53 l0_0 a1).f2)) else (if (((rd_T53 l0_0 a1).f2).length : Int) < 1 then (spec_l04Func.j0 k a1 true l0_0 ((rd_T53 l0_0 a1).f0) ((rd_T53 l0_0 a1).f1) ((rd_T53 l0_0 a1).f2)) else (spec_l04Func.j0 k a1 (decide ((((rd_T53 l0_0 a1).f2).length : Int) > 60)) l0_0 ((rd_T53 l0_0 a1).f0) ((rd_T53 l0_0 a1).f1) ((rd_T53 l0_0 a1).f2))))))) else (none)) else (none)
theorem spec_l04Func.mono_l : ∀ k, (∀ y0 y1 y2 y3 y4 y5, LeO (spec_l04Func.j0 k y0 y1 y2 y3 y4 y5) (spec_l04Func.j0 (k + 1) y0 y1 y2 y3 y4 y5)) ∧ (∀ y0 y1 y2 y3 y4 y5, LeO (spec_l04Func.l0 k y0 y1 y2 y3 y4 y5) (spec_l04Func.l0 (k + 1) y0 y1 y2 y3 y4 y5))
 | 0 => ⟨fun _ _ _ _ _ _ r h => by simp [spec_l04Func.j0] at h, fun _ _ _ _ _ _ r h => by simp [spec_l04Func.l0] at h⟩
 | k + 1 => by
  obtain ⟨ih0, ih1⟩ := spec_l04Func.mono_l k
  refine ⟨?_, ?_⟩
  ·intro y0 y1 y2 y3 y4 y5
   unfold spec_l04Func.j0
   with_reducible repeat' first | exact ih0 .. | exact ih1 .. | exact spec_InsRight.mono .. | exact spec_l04Heights.mono .. | exact LeO.refl _ | exact LeO.none _ | refine LeO.ite ?_ ?_ | refine LeO.bind ?_ (fun _ => ?_)
  ·intro y0 y1 y2 y3 y4 y5
   unfold spec_l04Func.l0
   with_reducible repeat' first | exact ih0 .. | exact ih1 .. | exact spec_InsRight.mono .. | exact spec_l04Heights.mono .. | exact LeO.refl _ | exact LeO.none _ | refine LeO.ite ?_ ?_ | refine LeO.bind ?_ (fun _ => ?_)
theorem spec_l04Func.mono : ∀ a0 a1 k, LeO (spec_l04Func.f k a0 a1) (spec_l04Func.f (k + 1) a0 a1) := by
 intro a0 a1 k
 obtain ⟨ih0, ih1⟩ := spec_l04Func.mono_l k
 unfold spec_l04Func.f
 with_reducible repeat' first | exact ih0 .. | exact ih1 .. | exact spec_InsRight.mono .. | exact spec_l04Heights.mono .. | exact LeO.refl _ | exact LeO.none _ | refine LeO.ite ?_ ?_ | refine LeO.bind ?_ (fun _ => ?_)
def spec_l04Func.T7 : Bool × List (List Nat × List Nat) := (true, [([], []), ([], []), ([], []), ([2], [2]), ([], []), ([3, 4], [3, 4]), ([5], [5]), ([0, 1, 6], [0, 1, 6]), ([7], [7])])
def spec_l04Func.B7 : List Nat := [0, 0, 0, 4, 0, 28, 60, 127, 255]
theorem spec_l04Func.tab7 : rtab .any (opsOf Try.f68 7) = spec_l04Func.T7 := by kernel_rfl
theorem spec_l04Func.bits7 : waitsOk spec_l04Func.T7.2 spec_l04Func.B7 = true := by kernel_rfl
theorem spec_l04Func.calls (k : Nat) (A0_0 : Option Addr) (c0_0 : Nat) (l0_0 : List (S53)) (a1 : Int) (r1 : Int) (r2 : Int) (r3 : Int) (w : World) (hr0_0 : Kd.C k53 w A0_0 l0_0.length l0_0) (hc0_0 : l0_0.length ≤ c0_0) (h : spec_l04Func.f k l0_0 a1 = some (r1, r2, r3)) :
  Calls Try.prog 68 #[.agg #[.slice A0_0 l0_0.length c0_0], .int .i64 a1] w fun e w' => e = .returned (.agg #[.int .i64 r1, .int .i64 r2, .int .i64 r3]) ∧ Below w.heap.size w w' := by
 have hu33 := Try.underlying33
 have hu44 := Try.underlying44
 have hu53 := Try.underlying53
 have hu59 := Try.underlying59
 have HR0_0 := am hr0_0
 have HC0_0 := am hc0_0
 clear hr0_0 hc0_0
 have HB := am (Below.refl w.heap.size w)
 have H : (if 0 ≤ a1 then (if a1 < (l0_0.length : Int) then (if ((rd_T53 l0_0 a1).f0) < 0 then (spec_l04Func.j0 k a1 true l0_0 ((rd_T53 l0_0 a1).f0) ((rd_T53 l0_0 a1).f1) ((rd_T53 l0_0 a1).f2)) else (if ((rd_T53 l0_0 a1).f0) > 4 then (spec_l04Func.j0 k a1 true l0_0 ((rd_T53 l0_0 a1).f0) ((rd_T53 l0_0 a1).f1) ((rd_T53 l0_0 a1).f2)) else (if ((rd_T53 l0_0 a1).f1) < ((rd_T53 l0_0 a1).f0) then (spec_l04Func.j0 k a1 true l0_0 ((rd_T53 l0_0 a1).f0) ((rd_T53 l0_0 a1).f1) ((rd_T53 l0_0 a1).f2)) else (if ((rd_T53 l0_0 a1).f1) > 8 then (spec_l04Func.j0 k a1 true l0_0 ((rd_T53 l0_0 a1).f0) ((rd_T53 l0_0 a1).f1) ((rd_T53 l0_0 a1).f2)) else (if (((rd_T53 l0_0 a1).f2).length : Int) < 1 then (spec_l04Func.j0 k a1 true l0_0 ((rd_T53 l0_0 a1).f0) ((rd_T53 l0_0 a1).f1) ((rd_T53 l0_0 a1).f2)) else (spec_l04Func.j0 k a1 (decide ((((rd_T53 l0_0 a1).f2).length : Int) > 60)) l0_0 ((rd_T53 l0_0 a1).f0) ((rd_T53 l0_0 a1).f1) ((rd_T53 l0_0 a1).f2))))))) else (none)) else (none)) = some (r1, r2, r3) := h
 clear h
 refine iN H ?_; clear H; intro c3 H
 have c3b0 := decide_eq_true c3
 clear c3
 refine iN H ?_; clear H; intro c4 H
 have c4b0 := decide_eq_true c4
 clear c4
 have HC5 := am H
 clear H
 go_enter Try.func68, Try.ntmps68
 go_upto_region 2 with (first | ((with_reducible refine gate_dst (N := 2) rfl ?_); (try (refine gate_guard (by rfl) ?_; dsimp only)); refine box_event ?hg (N := 2) ?hd (cs := #[.slice A0_0 l0_0.length c0_0]) (t := 33) ?hr ?_; (case hd => rfl); (case hg => rfl); (case hr => exact gs); intro gb170 hg w6 hbox hb; have BK170 := am (hbox); have GW170 := gw hg HB; replace HB := bs HB hb; clear hb hbox hg) | ((with_reducible refine gate_dst (N := 4) rfl ?_); (try (refine gate_guard (by rfl) ?_; dsimp only)); refine box_event ?hg (N := 4) ?hd (cs := #[.int .i64 0, .int .i64 0, .int .i64 0]) (t := 44) ?hr ?_; (case hd => rfl); (case hg => rfl); (case hr => exact gs); intro gb171 hg w7 hbox hb; have BK171 := am (hbox); have GW171 := gw hg HB; replace HB := bs HB hb; obtain ⟨NB170_171, NB171_170, BK170⟩ := b3 hg BK170 hb; clear hb hbox hg; have hnb8 := NB170_171.out; have hnc8 := NB171_170.out; have hcz9 := bK w7 BK170; have hfz9 := bF BK170; have p172 : 0 ≤ (a1 : Int) := of_decide_eq_true as1; have q172 : a1 < (l0_0.length : Int) := of_decide_eq_true as1; obtain ⟨ad172, A172_2, c172_2, e172, hx172_0, hx172_1, hx172_2, hl172_2, hi172_2⟩ := at_T53 HR0_0.out a1 p172 q172; cases e172; replace hx172_0 := cl HB hx172_0; replace hx172_1 := cl HB hx172_1; replace hx172_2 := cl HB hx172_2; have HR172_2 := am hi172_2; have HC172_2 := am hl172_2; clear hi172_2 hl172_2; replace p172 := eq_true p172; replace q172 := eq_true q172) | ((with_reducible refine gate_dst (N := 5) rfl ?_); (try (refine gate_guard (by rfl) ?_; dsimp only)); refine box_event ?hg (N := 5) ?hd (cs := #[.int .i64 0, .int .i64 0, .slice none 0 0]) (t := 53) ?hr ?_; (case hd => rfl); (case hg => rfl); (case hr => exact gs); intro gb173 hg w10 hbox hb; have BK173 := am (hbox); have GW173 := gw hg HB; replace HB := bs HB hb; obtain ⟨NB170_173, NB173_170, BK170⟩ := b3 hg BK170 hb; obtain ⟨NB171_173, NB173_171, BK171⟩ := b3 hg BK171 hb; clear hb hbox hg; have hnb11 := NB173_170.out; have hnc11 := NB170_173.out; have hnb12 := NB173_171.out; have hnc12 := NB171_173.out; have hcz13 := bK w10 BK173; have hfz13 := bF BK173))
 (try simp only [Act.put, sa, sz, ss])
 go_cut [45] (fun v45 wc => ∃ (kq : Nat) (x45_4 : Bool), v45 = .bool x45_4 ∧ Aside0 (spec_l04Func.j0 kq a1 x45_4 l0_0 ((rd_T53 l0_0 a1).f0) ((rd_T53 l0_0 a1).f1) ((rd_T53 l0_0 a1).f2) = some (r1, r2, r3)) ∧ Aside0 (kq ≤ k) ∧ Aside0 (wc.heap[gb170]? = some (.cells #[(.slice (some ad172) l0_0.length c0_0)] 33 (0, 0))) ∧ Aside0 (wc.heap[gb171]? = some (.cells #[.int .i64 0, .int .i64 0, .int .i64 0] 44 (0, 0))) ∧ Aside0 (wc.heap[gb173]? = some (.cells #[.int .i64 ((rd_T53 l0_0 a1).f0), .int .i64 ((rd_T53 l0_0 a1).f1), (.slice A172_2 ((rd_T53 l0_0 a1).f2).length c172_2)] 53 (0, 0))) ∧ Aside0 (Below w.heap.size w wc))
 case first =>
  have H := HC5.out
  clear HC5
  refine qI H ?_ ?_ <;> clear H <;> intro c14b0 H
  ·(first | rw [c14b0] | (simp only [i64_w, i32_w]; rw [c14b0]) | skip)
   have H' := am H
   clear H
   have hnb15 := NB173_170.out
   have hnc15 := NB170_173.out
   have hnb16 := NB173_171.out
   have hnc16 := NB171_173.out
   have hcz17 := bK w10 BK173
   have hfz17 := bF BK173
   go_wp2
   go_meet
   case rel => exact ⟨_, (true), dr, H', ⟨lk0⟩, ⟨by (with_reducible repeat (first | apply dN | apply dW | apply dA)); refine blk_far ?_ NB170_173.out _; (with_reducible repeat (first | apply dN | apply dW | apply dA)); refine blk_far ?_ NB170_173.out _; (with_reducible repeat (first | apply dN | apply dW | apply dA)); refine blk_far ?_ NB170_173.out _; exact bp BK170⟩, ⟨by (with_reducible repeat (first | apply dN | apply dW | apply dA)); refine blk_far ?_ NB171_173.out _; (with_reducible repeat (first | apply dN | apply dW | apply dA)); refine blk_far ?_ NB171_173.out _; (with_reducible repeat (first | apply dN | apply dW | apply dA)); refine blk_far ?_ NB171_173.out _; exact bp BK171⟩, ⟨by (with_reducible repeat (first | apply dN | apply dW | apply dA)); refine blk_put (cs := #[.int .i64 ((rd_T53 l0_0 a1).f0), .int .i64 ((rd_T53 l0_0 a1).f1), .slice none 0 0]) ?_ 2 _ rfl; (with_reducible repeat (first | apply dN | apply dW | apply dA)); refine blk_put (cs := #[.int .i64 ((rd_T53 l0_0 a1).f0), .int .i64 0, .slice none 0 0]) ?_ 1 _ rfl; (with_reducible repeat (first | apply dN | apply dW | apply dA)); refine blk_put (cs := #[.int .i64 0, .int .i64 0, .slice none 0 0]) ?_ 0 _ rfl; exact bp BK173⟩, ⟨bw HB⟩⟩
  (first | rw [c14b0] | (simp only [i64_w, i32_w]; rw [c14b0]) | skip)
  refine qG H ?_ ?_ <;> clear H <;> intro c18b0 H
  ·have H' := am H
   clear H
   have hnb19 := NB173_170.out
   have hnc19 := NB170_173.out
   have hnb20 := NB173_171.out
   have hnc20 := NB171_173.out
   have hcz21 := bK w10 BK173
   have hfz21 := bF BK173
   go_wp2
   go_meet
   case rel => exact ⟨_, (true), dr, H', ⟨lk0⟩, ⟨by (with_reducible repeat (first | apply dN | apply dW | apply dA)); refine blk_far ?_ NB170_173.out _; (with_reducible repeat (first | apply dN | apply dW | apply dA)); refine blk_far ?_ NB170_173.out _; (with_reducible repeat (first | apply dN | apply dW | apply dA)); refine blk_far ?_ NB170_173.out _; exact bp BK170⟩, ⟨by (with_reducible repeat (first | apply dN | apply dW | apply dA)); refine blk_far ?_ NB171_173.out _; (with_reducible repeat (first | apply dN | apply dW | apply dA)); refine blk_far ?_ NB171_173.out _; (with_reducible repeat (first | apply dN | apply dW | apply dA)); refine blk_far ?_ NB171_173.out _; exact bp BK171⟩, ⟨by (with_reducible repeat (first | apply dN | apply dW | apply dA)); refine blk_put (cs := #[.int .i64 ((rd_T53 l0_0 a1).f0), .int .i64 ((rd_T53 l0_0 a1).f1), .slice none 0 0]) ?_ 2 _ rfl; (with_reducible repeat (first | apply dN | apply dW | apply dA)); refine blk_put (cs := #[.int .i64 ((rd_T53 l0_0 a1).f0), .int .i64 0, .slice none 0 0]) ?_ 1 _ rfl; (with_reducible repeat (first | apply dN | apply dW | apply dA)); refine blk_put (cs := #[.int .i64 0, .int .i64 0, .slice none 0 0]) ?_ 0 _ rfl; exact bp BK173⟩, ⟨bw HB⟩⟩
  refine qI H ?_ ?_ <;> clear H <;> intro c22b0 H
  ·have H' := am H
   clear H
   have hnb23 := NB173_170.out
   have hnc23 := NB170_173.out
   have hnb24 := NB173_171.out
   have hnc24 := NB171_173.out
   have hcz25 := bK w10 BK173
   have hfz25 := bF BK173
   go_wp2
   go_meet
   case rel => exact ⟨_, (true), dr, H', ⟨lk0⟩, ⟨by (with_reducible repeat (first | apply dN | apply dW | apply dA)); refine blk_far ?_ NB170_173.out _; (with_reducible repeat (first | apply dN | apply dW | apply dA)); refine blk_far ?_ NB170_173.out _; (with_reducible repeat (first | apply dN | apply dW | apply dA)); refine blk_far ?_ NB170_173.out _; exact bp BK170⟩, ⟨by (with_reducible repeat (first | apply dN | apply dW | apply dA)); refine blk_far ?_ NB171_173.out _; (with_reducible repeat (first | apply dN | apply dW | apply dA)); refine blk_far ?_ NB171_173.out _; (with_reducible repeat (first | apply dN | apply dW | apply dA)); refine blk_far ?_ NB171_173.out _; exact bp BK171⟩, ⟨by (with_reducible repeat (first | apply dN | apply dW | apply dA)); refine blk_put (cs := #[.int .i64 ((rd_T53 l0_0 a1).f0), .int .i64 ((rd_T53 l0_0 a1).f1), .slice none 0 0]) ?_ 2 _ rfl; (with_reducible repeat (first | apply dN | apply dW | apply dA)); refine blk_put (cs := #[.int .i64 ((rd_T53 l0_0 a1).f0), .int .i64 0, .slice none 0 0]) ?_ 1 _ rfl; (with_reducible repeat (first | apply dN | apply dW | apply dA)); refine blk_put (cs := #[.int .i64 0, .int .i64 0, .slice none 0 0]) ?_ 0 _ rfl; exact bp BK173⟩, ⟨bw HB⟩⟩
  refine qG H ?_ ?_ <;> clear H <;> intro c26b0 H
  ·have H' := am H
   clear H
   have hnb27 := NB173_170.out
   have hnc27 := NB170_173.out
   have hnb28 := NB173_171.out
   have hnc28 := NB171_173.out
   have hcz29 := bK w10 BK173
   have hfz29 := bF BK173
   go_wp2
   go_meet
   case rel => exact ⟨_, (true), dr, H', ⟨lk0⟩, ⟨by (with_reducible repeat (first | apply dN | apply dW | apply dA)); refine blk_far ?_ NB170_173.out _; (with_reducible repeat (first | apply dN | apply dW | apply dA)); refine blk_far ?_ NB170_173.out _; (with_reducible repeat (first | apply dN | apply dW | apply dA)); refine blk_far ?_ NB170_173.out _; exact bp BK170⟩, ⟨by (with_reducible repeat (first | apply dN | apply dW | apply dA)); refine blk_far ?_ NB171_173.out _; (with_reducible repeat (first | apply dN | apply dW | apply dA)); refine blk_far ?_ NB171_173.out _; (with_reducible repeat (first | apply dN | apply dW | apply dA)); refine blk_far ?_ NB171_173.out _; exact bp BK171⟩, ⟨by (with_reducible repeat (first | apply dN | apply dW | apply dA)); refine blk_put (cs := #[.int .i64 ((rd_T53 l0_0 a1).f0), .int .i64 ((rd_T53 l0_0 a1).f1), .slice none 0 0]) ?_ 2 _ rfl; (with_reducible repeat (first | apply dN | apply dW | apply dA)); refine blk_put (cs := #[.int .i64 ((rd_T53 l0_0 a1).f0), .int .i64 0, .slice none 0 0]) ?_ 1 _ rfl; (with_reducible repeat (first | apply dN | apply dW | apply dA)); refine blk_put (cs := #[.int .i64 0, .int .i64 0, .slice none 0 0]) ?_ 0 _ rfl; exact bp BK173⟩, ⟨bw HB⟩⟩
  refine qI H ?_ ?_ <;> clear H <;> intro c30b0 H
  ·have c30 := of_decide_eq_true c30b0
   have c30b1 : decide (((rd_T53 l0_0 a1).f2).length < 1) = true := decide_eq_true (by omega)
   clear c30
   have H' := am H
   clear H
   have hnb31 := NB173_170.out
   have hnc31 := NB170_173.out
   have hnb32 := NB173_171.out
   have hnc32 := NB171_173.out
   have hcz33 := bK w10 BK173
   have hfz33 := bF BK173
   go_wp2
   go_meet
   case rel => exact ⟨_, (true), dr, H', ⟨lk0⟩, ⟨by (with_reducible repeat (first | apply dN | apply dW | apply dA)); refine blk_far ?_ NB170_173.out _; (with_reducible repeat (first | apply dN | apply dW | apply dA)); refine blk_far ?_ NB170_173.out _; (with_reducible repeat (first | apply dN | apply dW | apply dA)); refine blk_far ?_ NB170_173.out _; exact bp BK170⟩, ⟨by (with_reducible repeat (first | apply dN | apply dW | apply dA)); refine blk_far ?_ NB171_173.out _; (with_reducible repeat (first | apply dN | apply dW | apply dA)); refine blk_far ?_ NB171_173.out _; (with_reducible repeat (first | apply dN | apply dW | apply dA)); refine blk_far ?_ NB171_173.out _; exact bp BK171⟩, ⟨by (with_reducible repeat (first | apply dN | apply dW | apply dA)); refine blk_put (cs := #[.int .i64 ((rd_T53 l0_0 a1).f0), .int .i64 ((rd_T53 l0_0 a1).f1), .slice none 0 0]) ?_ 2 _ rfl; (with_reducible repeat (first | apply dN | apply dW | apply dA)); refine blk_put (cs := #[.int .i64 ((rd_T53 l0_0 a1).f0), .int .i64 0, .slice none 0 0]) ?_ 1 _ rfl; (with_reducible repeat (first | apply dN | apply dW | apply dA)); refine blk_put (cs := #[.int .i64 0, .int .i64 0, .slice none 0 0]) ?_ 0 _ rfl; exact bp BK173⟩, ⟨bw HB⟩⟩
  have c30 := of_decide_eq_false c30b0
  have c30b1 : decide (((rd_T53 l0_0 a1).f2).length < 1) = false := decide_eq_false (by omega)
  clear c30
  have H' := am H
  clear H
  have hnb34 := NB173_170.out
  have hnc34 := NB170_173.out
  have hnb35 := NB173_171.out
  have hnc35 := NB171_173.out
  have hcz36 := bK w10 BK173
  have hfz36 := bF BK173
  go_wp2
  go_meet
  case rel => exact ⟨_, (decide ((((rd_T53 l0_0 a1).f2).length : Int) > 60)), dr, H', ⟨lk0⟩, ⟨by (with_reducible repeat (first | apply dN | apply dW | apply dA)); refine blk_far ?_ NB170_173.out _; (with_reducible repeat (first | apply dN | apply dW | apply dA)); refine blk_far ?_ NB170_173.out _; (with_reducible repeat (first | apply dN | apply dW | apply dA)); refine blk_far ?_ NB170_173.out _; exact bp BK170⟩, ⟨by (with_reducible repeat (first | apply dN | apply dW | apply dA)); refine blk_far ?_ NB171_173.out _; (with_reducible repeat (first | apply dN | apply dW | apply dA)); refine blk_far ?_ NB171_173.out _; (with_reducible repeat (first | apply dN | apply dW | apply dA)); refine blk_far ?_ NB171_173.out _; exact bp BK171⟩, ⟨by (with_reducible repeat (first | apply dN | apply dW | apply dA)); refine blk_put (cs := #[.int .i64 ((rd_T53 l0_0 a1).f0), .int .i64 ((rd_T53 l0_0 a1).f1), .slice none 0 0]) ?_ 2 _ rfl; (with_reducible repeat (first | apply dN | apply dW | apply dA)); refine blk_put (cs := #[.int .i64 ((rd_T53 l0_0 a1).f0), .int .i64 0, .slice none 0 0]) ?_ 1 _ rfl; (with_reducible repeat (first | apply dN | apply dW | apply dA)); refine blk_put (cs := #[.int .i64 0, .int .i64 0, .slice none 0 0]) ?_ 0 _ rfl; exact bp BK173⟩, ⟨bw HB⟩⟩
 clear HC5
 (try clear c1); (try clear p1); (try clear q1); (try clear hx1); (try clear c2); (try clear p2); (try clear c3); (try clear c3b0); (try clear c4); (try clear c4b0); (try clear c6); (try clear c8); (try clear c11); (try clear c12); (try clear c14); (try clear c14b0); (try clear c15); (try clear c16); (try clear c17); (try clear p17); (try clear q17); (try clear hx17); (try clear c18); (try clear c18b0); (try clear c19); (try clear c20); (try clear c22); (try clear c22b0); (try clear c23); (try clear c24); (try clear c26); (try clear c26b0); (try clear c27); (try clear c28); (try clear c30); (try clear c30b0); (try clear c30b1); (try clear c31); (try clear c32); (try clear c34); (try clear c35); (try clear hcz13); (try clear hcz17); (try clear hcz21); (try clear hcz25); (try clear hcz29); (try clear hcz33); (try clear hcz36); (try clear hcz9); (try clear hfz13); (try clear hfz17); (try clear hfz21); (try clear hfz25); (try clear hfz29); (try clear hfz33); (try clear hfz36); (try clear hfz9); (try clear hx172_0); (try clear hx172_1); (try clear hx172_2); (try clear p172); (try clear q172)
 obtain ⟨kq, x45_4, rfl, HA, HJ4, BK170, BK171, BK173, HB⟩ := hcut
 rcases kq with _ | kj4
 ·exact absurd HA.out (by simp [spec_l04Func.j0])
 have H := HA.out
 clear HA
 simp only [spec_l04Func.j0] at H
 refine qT H ?_ ?_ <;> clear H <;> intro c37 H <;> subst c37
 ·simp only [Option.some.injEq, Prod.mk.injEq] at H
  obtain ⟨rfl, rfl, rfl⟩ := H
  have hnb38 := NB171_170.out
  have hnc38 := NB170_171.out
  have hnb39 := NB171_173.out
  have hnc39 := NB173_171.out
  have hcz40 := bK wc BK171
  have hfz40 := bF BK171
  go_wp2
  refine bodyPost_ret (results_cell_row rfl _ _ gb171 44 #[.int .i64 a1, .int .i64 0, .int .i64 1] (0, 0) _ rfl (bt BK171) Try.underlying44 rfl (by kernel_rfl)) rfl ?_
  exact ⟨er, bw HB⟩
 have H' := am H
 clear H
 go_wp2
 go_loopg [6] kj4 (fun kq v6 w' => ∃ (x6_2 : Int) (x172000_2 : Int) (x172001_2 : Int) (x172002_2 : Int), v6 = .int .i64 x6_2 ∧ Aside0 (spec_l04Func.l0 kq a1 x6_2 l0_0 ((rd_T53 l0_0 a1).f0) ((rd_T53 l0_0 a1).f1) ((rd_T53 l0_0 a1).f2) = some (r1, r2, r3)) ∧ Aside0 (kq ≤ kj4) ∧ Aside0 (w'.heap[gb170]? = some (.cells #[(.slice (some ad172) l0_0.length c0_0)] 33 (0, 0))) ∧ Aside0 (w'.heap[gb171]? = some (.cells #[.int .i64 x172000_2, .int .i64 x172001_2, .int .i64 x172002_2] 44 (0, 0))) ∧ Aside0 (w'.heap[gb173]? = some (.cells #[.int .i64 ((rd_T53 l0_0 a1).f0), .int .i64 ((rd_T53 l0_0 a1).f1), (.slice A172_2 ((rd_T53 l0_0 a1).f2).length c172_2)] 53 (0, 0))) ∧ Aside0 (Below w.heap.size w w'))
 case atStart => exact ⟨(0), (0), (0), (0), dr, H', ⟨Nat.le_refl _⟩, ⟨bp BK170⟩, ⟨bp BK171⟩, ⟨bp BK173⟩, ⟨bw HB⟩⟩
 clear H'
 (try clear c37); (try clear c38); (try clear c39); (try clear hcz40); (try clear hfz40)
 obtain ⟨x6_2, x172000_2, x172001_2, x172002_2, rfl, HA, HK2, BK170, BK171, BK173, HB⟩ := hrel
 rcases gk with _ | k2
 ·exact absurd HA.out (by simp [spec_l04Func.l0])
 have H := HA.out
 clear HA
 simp only [spec_l04Func.l0] at H
 refine qI H ?_ ?_ <;> clear H <;> intro c41b0 H
 ·refine iM H ?_; clear H; intro c42b0 H
  refine be H ?_; clear H; intro t175 A43 H
  have HC44 := am H
  clear H
  have hnb45 := NB173_170.out
  have hnc45 := NB170_173.out
  have hnb46 := NB173_171.out
  have hnc46 := NB171_173.out
  have hcz47 := bK wr BK173
  have hfz47 := bF BK173
  try go_wp2
  replace BK170 := am (blk_drew BK170.out)
  replace BK171 := am (blk_drew BK171.out)
  replace BK173 := am (blk_drew BK173.out)
  replace HB := am (below_drew1 HB.out)
  have p174 : 0 ≤ (x6_2 : Int) := of_decide_eq_true as1
  have q174 : x6_2 < (((rd_T53 l0_0 a1).f2).length : Int) := of_decide_eq_true as1
  obtain ⟨ad174, e174, hx174_0, hx174_1⟩ := at_T59 HR172_2.out x6_2 p174 q174
  have hw174_1 := hx174_1
  have hw174_0 := hx174_0
  cases e174
  replace hx174_0 := cl HB hx174_0
  replace hx174_1 := cl HB hx174_1
  replace p174 := eq_true p174
  replace q174 := eq_true q174
  refine start_ (n := 9) (S := fun w' => w'.cell? ⟨gb170, 0, none⟩ = some (.slice (some ad172) l0_0.length c0_0) ∧ w'.cell? ⟨gb173, 0, none⟩ = some (.int .i64 ((rd_T53 l0_0 a1).f0)) ∧ w'.cell? ⟨gb173, 1, none⟩ = some (.int .i64 ((rd_T53 l0_0 a1).f1)) ∧ w'.cell? ⟨gb173, 2, none⟩ = some (.slice (some ad174) ((rd_T53 l0_0 a1).f2).length c172_2) ∧ w'.cell? (ad174.add ((x6_2).toNat * 2)) = some (.int .i64 ((rd_T59 ((rd_T53 l0_0 a1).f2) x6_2).f0)) ∧ w'.cell? ⟨(ad174.add ((x6_2).toNat * 2)).block, (ad174.add ((x6_2).toNat * 2)).off + 1, none⟩ = some (.int .i64 ((rd_T59 ((rd_T53 l0_0 a1).f2) x6_2).f1))) (ds := []) (bv 9 0) (by kernel_rfl) rfl (by kernel_rfl) ⟨bc BK170 0, bc BK173 0, bc BK173 1, bc BK173 2, (cq HB hw174_0), (cq HB hw174_1)⟩ (fun hHeld => ?_); refine with_tabW spec_l04Func.tab7 spec_l04Func.bits7 (fun HT_ HW_ => ?_)
  generalize wr.drew = w48 at BK170 BK171 BK173 HB hx174_0 hx174_1 hHeld ⊢
  refine pu 1 56 9 2 HT_ ?_
  refine pu 2 57 9 6 HT_ ?_
  refine pu 4 59 9 22 HT_ ?_
  refine tk 0 55 9 23 HT_ HW_ hHeld ?_
  refine tk 3 58 9 31 HT_ HW_ hHeld ?_
  refine pu 5 60 9 63 HT_ ?_
  refine tk 6 61 9 127 HT_ HW_ hHeld ?_
  refine on 7 (some 62) 9 255 HT_ fun K hK => ?_
  refine goes_ Try.func75 (by kernel_rfl) rfl #[.agg #[.slice (some ad172) l0_0.length c0_0], .int .i64 a1, .agg #[.int .i64 ((rd_T59 ((rd_T53 l0_0 a1).f2) x6_2).f0), .int .i64 ((rd_T59 ((rd_T53 l0_0 a1).f2) x6_2).f1)]] (by rfl) rfl rfl gl ?_
  with_reducible refine (spec_InsRight.calls k2 _ _ l0_0 a1 ((rd_T59 ((rd_T53 l0_0 a1).f2) x6_2).f0) ((rd_T59 ((rd_T53 l0_0 a1).f2) x6_2).f1) t175 _ ?side1 ?side2 A43.out).mono ?_
  (case side1 => exact cc (Kd.C_below HR0_0.out HB.out))
  (case side2 => exact HC0_0.out)
  rintro e w49 ⟨rfl, hb⟩
  refine ⟨_, rfl, ?_⟩
  replace BK170 := bb BK170 hb
  replace BK171 := bb BK171 hb
  replace BK173 := bb BK173 hb
  replace HB := am (below_step (bw HB) hb)
  clear hb
  refine hK.out _ _ ⟨bc BK170 0, bc BK173 0, bc BK173 1, bc BK173 2, (cq HB hw174_0), (cq HB hw174_1)⟩ (fun hHeld => ?_)
  clear hK K
  refine nm (some 62) ?_
  refine pu 8 63 9 511 HT_ ?_
  refine done_ (done_of HT_.out (by kernel_rfl)) ?_
  go_upto_if 63 with (fail)
  (try simp only [Act.put, sa, sz, ss])
  have H := HC44.out
  clear HC44
  refine qT H ?_ ?_ <;> clear H <;> intro c50 H <;> subst c50
  ·have H' := am H
   clear H
   go_wp2
   go_roundg k2
   case measure => have := HJ4.out; have := HK2.out; omega
   case rel => exact ⟨(wrap64 (x6_2 + 1)), (x172000_2), (x172001_2), (x172002_2), dr, H', ⟨by have := HJ4.out; have := HK2.out; omega⟩, ⟨bp BK170⟩, ⟨bp BK171⟩, ⟨bp BK173⟩, ⟨bw HB⟩⟩
  simp only [Option.some.injEq, Prod.mk.injEq] at H
  obtain ⟨rfl, rfl, rfl⟩ := H
  have hnb51 := NB171_170.out
  have hnc51 := NB170_171.out
  have hnb52 := NB171_173.out
  have hnc52 := NB173_171.out
  have hcz53 := bK w49 BK171
  have hfz53 := bF BK171
  go_wp2
  refine bodyPost_ret (results_cell_row rfl _ _ gb171 44 #[.int .i64 a1, .int .i64 x6_2, .int .i64 1] (0, 0) _ rfl (bt BK171) Try.underlying44 rfl (by kernel_rfl)) rfl ?_
  exact ⟨er, bw HB⟩
 replace H := Option.bind_eq_some_iff.mp H
 obtain ⟨⟨t176, t179, t180, t181⟩, A540, H⟩ := H
 replace H : (some (t179, t180, t181)) = some (r1, r2, r3) := H
 have A54 := am A540
 clear A540
 simp only [Option.some.injEq, Prod.mk.injEq] at H
 obtain ⟨rfl, rfl, rfl⟩ := H
 have hnb55 := NB173_170.out
 have hnc55 := NB170_173.out
 have hnb56 := NB173_171.out
 have hnc56 := NB171_173.out
 have hcz57 := bK wr BK173
 have hfz57 := bF BK173
 have hnb58 := NB170_171.out
 have hnc58 := NB171_170.out
 have hcz59 := bK wr BK170
 have hfz59 := bF BK170
 go_wp2_with (first | ((with_reducible refine gk 15 rfl ?_); refine gC 15 (some 70) Try.func15 #[.agg #[.slice (some ad172) l0_0.length c0_0], .int .i64 a1] ((spec_l04Heights.calls k2 _ _ l0_0 a1 t176 t179 t180 t181 _ (cc (Kd.C_below HR0_0.out HB.out)) HC0_0.out A54.out).mono ?_); rintro e w60 ⟨v177, rfl, ho0, hb⟩; refine ⟨_, rfl, ?_⟩; have HO178 := am (Kd.R_lower ho0 (below_size (bw HB))); replace BK170 := bb BK170 hb; replace BK171 := bb BK171 hb; replace BK173 := bb BK173 hb; replace HB := bs HB hb; clear hb; (try clear ho0)) | ((with_reducible refine gate_dst (N := 8) rfl ?_); (try (refine gate_guard (by rfl) ?_; dsimp only)); refine box_event ?hg (N := 8) ?hd (cs := #[.int .i64 0, .int .i64 0, .int .i64 0]) (t := 44) ?hr ?_; (case hd => rfl); (case hg => rfl); (case hr => exact gs); intro gb182 hg w61 hbox hb; replace HO178 := am (Kd.R_below (kR HO178) hb); have BK182 := am (hbox); have GW182 := gw hg HB; replace HB := bs HB hb; obtain ⟨NB170_182, NB182_170, BK170⟩ := b3 hg BK170 hb; obtain ⟨NB171_182, NB182_171, BK171⟩ := b3 hg BK171 hb; obtain ⟨NB173_182, NB182_173, BK173⟩ := b3 hg BK173 hb; clear hb hbox hg; have hnb62 := NB182_170.out; have hnc62 := NB170_182.out; have hnb63 := NB182_171.out; have hnc63 := NB171_182.out; have hnb64 := NB182_173.out; have hnc64 := NB173_182.out; have hcz65 := bK w61 BK182; have hfz65 := bF BK182; have hcz66 := bK w61 BK171; have hfz66 := bF BK171))
 refine bodyPost_ret (results_cell_row rfl _ _ gb171 44 #[.int .i64 t179, .int .i64 t180, .int .i64 t181] (0, 0) _ rfl (bt BK171) Try.underlying44 rfl (by kernel_rfl)) rfl ?_
 exact ⟨er, bw HB⟩

mutual
def spec_Verify.j0 : Nat → Bool → List (S53) → Option (Int × Int × Int)
 | 0, _, _ => none
 | k + 1, x14, x184000 => if x14 = true then (some (0, 0, 1)) else (spec_Verify.l0 k 0 x184000)
def spec_Verify.l0 : Nat → Int → List (S53) → Option (Int × Int × Int)
 | 0, _, _ => none
 | k + 1, x3, x184000 => if x3 < (x184000.length : Int) then ((spec_l04Func.f k x184000 x3).bind fun bt185 => (if bt185.2.2 = 0 then (spec_Verify.l0 k (wrap64 (x3 + 1)) x184000) else (some (bt185.1, bt185.2.1, bt185.2.2)))) else (some (0, 0, 0))
end
def spec_Verify.f (k : Nat) (l0_0 : List (S53)) : Option (Int × Int × Int) := if (l0_0.length : Int) < 1 then (spec_Verify.j0 k true l0_0) else (spec_Verify.j0 k (decide ((l0_0.length : Int) > 6)) l0_0)
theorem spec_Verify.mono_l : ∀ k, (∀ y0 y1, LeO (spec_Verify.j0 k y0 y1) (spec_Verify.j0 (k + 1) y0 y1)) ∧ (∀ y0 y1, LeO (spec_Verify.l0 k y0 y1) (spec_Verify.l0 (k + 1) y0 y1))
 | 0 => ⟨fun _ _ r h => by simp [spec_Verify.j0] at h, fun _ _ r h => by simp [spec_Verify.l0] at h⟩
 | k + 1 => by
  obtain ⟨ih0, ih1⟩ := spec_Verify.mono_l k
  refine ⟨?_, ?_⟩
  ·intro y0 y1
   unfold spec_Verify.j0
   with_reducible repeat' first | exact ih0 .. | exact ih1 .. | exact spec_l04Func.mono .. | exact LeO.refl _ | exact LeO.none _ | refine LeO.ite ?_ ?_ | refine LeO.bind ?_ (fun _ => ?_)
  ·intro y0 y1
   unfold spec_Verify.l0
   with_reducible repeat' first | exact ih0 .. | exact ih1 .. | exact spec_l04Func.mono .. | exact LeO.refl _ | exact LeO.none _ | refine LeO.ite ?_ ?_ | refine LeO.bind ?_ (fun _ => ?_)
theorem spec_Verify.mono : ∀ a0 k, LeO (spec_Verify.f k a0) (spec_Verify.f (k + 1) a0) := by
 intro a0 k
 obtain ⟨ih0, ih1⟩ := spec_Verify.mono_l k
 unfold spec_Verify.f
 with_reducible repeat' first | exact ih0 .. | exact ih1 .. | exact spec_l04Func.mono .. | exact LeO.refl _ | exact LeO.none _ | refine LeO.ite ?_ ?_ | refine LeO.bind ?_ (fun _ => ?_)
theorem spec_Verify.calls (k : Nat) (A0_0 : Option Addr) (c0_0 : Nat) (l0_0 : List (S53)) (r1 : Int) (r2 : Int) (r3 : Int) (w : World) (hr0_0 : Kd.C k53 w A0_0 l0_0.length l0_0) (hc0_0 : l0_0.length ≤ c0_0) (h : spec_Verify.f k l0_0 = some (r1, r2, r3)) :
  Calls Try.prog 57 #[.agg #[.slice A0_0 l0_0.length c0_0]] w fun e w' => e = .returned (.agg #[.int .i64 r1, .int .i64 r2, .int .i64 r3]) ∧ Below w.heap.size w w' := by
 have hu33 := Try.underlying33
 have hu44 := Try.underlying44
 have HR0_0 := am hr0_0
 have HC0_0 := am hc0_0
 clear hr0_0 hc0_0
 have HB := am (Below.refl w.heap.size w)
 have H : (if (l0_0.length : Int) < 1 then (spec_Verify.j0 k true l0_0) else (spec_Verify.j0 k (decide ((l0_0.length : Int) > 6)) l0_0)) = some (r1, r2, r3) := h
 clear h
 have HC2 := am H
 clear H
 go_enter Try.func57, Try.ntmps57
 go_upto_region 1 with (first | ((with_reducible refine gate_dst (N := 1) rfl ?_); (try (refine gate_guard (by rfl) ?_; dsimp only)); refine box_event ?hg (N := 1) ?hd (cs := #[.slice A0_0 l0_0.length c0_0]) (t := 33) ?hr ?_; (case hd => rfl); (case hg => rfl); (case hr => exact gs); intro gb183 hg w3 hbox hb; have BK183 := am (hbox); have GW183 := gw hg HB; replace HB := bs HB hb; clear hb hbox hg) | ((with_reducible refine gate_dst (N := 2) rfl ?_); (try (refine gate_guard (by rfl) ?_; dsimp only)); refine box_event ?hg (N := 2) ?hd (cs := #[.int .i64 0, .int .i64 0, .int .i64 0]) (t := 44) ?hr ?_; (case hd => rfl); (case hg => rfl); (case hr => exact gs); intro gb184 hg w4 hbox hb; have BK184 := am (hbox); have GW184 := gw hg HB; replace HB := bs HB hb; obtain ⟨NB183_184, NB184_183, BK183⟩ := b3 hg BK183 hb; clear hb hbox hg))
 (try simp only [Act.put, sa, sz, ss])
 go_cut [14] (fun v14 wc => ∃ (kq : Nat) (x14_1 : Bool), v14 = .bool x14_1 ∧ Aside0 (spec_Verify.j0 kq x14_1 l0_0 = some (r1, r2, r3)) ∧ Aside0 (kq ≤ k) ∧ Aside0 (wc.heap[gb183]? = some (.cells #[(.slice A0_0 l0_0.length c0_0)] 33 (0, 0))) ∧ Aside0 (wc.heap[gb184]? = some (.cells #[.int .i64 0, .int .i64 0, .int .i64 0] 44 (0, 0))) ∧ Aside0 (Below w.heap.size w wc))
 case first =>
  have H := HC2.out
  clear HC2
  refine qI H ?_ ?_ <;> clear H <;> intro c5b0 H
  ·have c5 := of_decide_eq_true c5b0
   have c5b1 : decide (l0_0.length < 1) = true := decide_eq_true (by omega)
   clear c5
   (first | rw [c5b0] | (simp only [i64_w, i32_w]; rw [c5b0]) | skip)
   have H' := am H
   clear H
   have hnb6 := NB183_184.out
   have hnc6 := NB184_183.out
   have hcz7 := bK w4 BK183
   have hfz7 := bF BK183
   go_wp2
   go_meet
   case rel => exact ⟨_, (true), dr, H', ⟨lk0⟩, ⟨bp BK183⟩, ⟨bp BK184⟩, ⟨bw HB⟩⟩
  have c5 := of_decide_eq_false c5b0
  have c5b1 : decide (l0_0.length < 1) = false := decide_eq_false (by omega)
  clear c5
  (first | rw [c5b0] | (simp only [i64_w, i32_w]; rw [c5b0]) | skip)
  have H' := am H
  clear H
  have hnb8 := NB183_184.out
  have hnc8 := NB184_183.out
  have hcz9 := bK w4 BK183
  have hfz9 := bF BK183
  go_wp2
  go_meet
  case rel => exact ⟨_, (decide ((l0_0.length : Int) > 6)), dr, H', ⟨lk0⟩, ⟨bp BK183⟩, ⟨bp BK184⟩, ⟨bw HB⟩⟩
 clear HC2
 (try clear p2); (try clear c5); (try clear c5b0); (try clear c5b1); (try clear c6); (try clear c8); (try clear hcz7); (try clear hcz9); (try clear hfz7); (try clear hfz9)
 obtain ⟨kq, x14_1, rfl, HA, HJ1, BK183, BK184, HB⟩ := hcut
 rcases kq with _ | kj1
 ·exact absurd HA.out (by simp [spec_Verify.j0])
 have H := HA.out
 clear HA
 simp only [spec_Verify.j0] at H
 refine qT H ?_ ?_ <;> clear H <;> intro c10 H <;> subst c10
 ·simp only [Option.some.injEq, Prod.mk.injEq] at H
  obtain ⟨rfl, rfl, rfl⟩ := H
  have hnb11 := NB184_183.out
  have hnc11 := NB183_184.out
  have hcz12 := bK wc BK184
  have hfz12 := bF BK184
  go_wp2
  refine bodyPost_ret (results_cell_row rfl _ _ gb184 44 #[.int .i64 0, .int .i64 0, .int .i64 1] (0, 0) _ rfl (bt BK184) Try.underlying44 rfl (by kernel_rfl)) rfl ?_
  exact ⟨er, bw HB⟩
 have H' := am H
 clear H
 go_wp2
 go_loopg [3] kj1 (fun kq v3 w' => ∃ (x3_2 : Int) (x185000_2 : Int) (x185001_2 : Int) (x185002_2 : Int), v3 = .int .i64 x3_2 ∧ Aside0 (spec_Verify.l0 kq x3_2 l0_0 = some (r1, r2, r3)) ∧ Aside0 (kq ≤ kj1) ∧ Aside0 (w'.heap[gb183]? = some (.cells #[(.slice A0_0 l0_0.length c0_0)] 33 (0, 0))) ∧ Aside0 (w'.heap[gb184]? = some (.cells #[.int .i64 x185000_2, .int .i64 x185001_2, .int .i64 x185002_2] 44 (0, 0))) ∧ Aside0 (Below w.heap.size w w'))
 case atStart => exact ⟨(0), (0), (0), (0), dr, H', ⟨Nat.le_refl _⟩, ⟨bp BK183⟩, ⟨bp BK184⟩, ⟨bw HB⟩⟩
 clear H'
 (try clear c1); (try clear c10); (try clear c11); (try clear hcz12); (try clear hfz12)
 obtain ⟨x3_2, x185000_2, x185001_2, x185002_2, rfl, HA, HK2, BK183, BK184, HB⟩ := hrel
 rcases gk with _ | k2
 ·exact absurd HA.out (by simp [spec_Verify.l0])
 have H := HA.out
 clear HA
 simp only [spec_Verify.l0] at H
 refine qI H ?_ ?_ <;> clear H <;> intro c13b0 H
 ·replace H := Option.bind_eq_some_iff.mp H
  obtain ⟨⟨t185, t186, t187⟩, A140, H⟩ := H
  replace H : (if t187 = 0 then (spec_Verify.l0 k2 (wrap64 (x3_2 + 1)) l0_0) else (some (t185, t186, t187))) = some (r1, r2, r3) := H
  have A14 := am A140
  clear A140
  have HC15 := am H
  clear H
  have hnb16 := NB183_184.out
  have hnc16 := NB184_183.out
  have hcz17 := bK wr BK183
  have hfz17 := bF BK183
  go_upto_if 28 with (first | ((with_reducible refine gk 68 rfl ?_); refine gB 68 (some 25) Try.func68 #[.agg #[.slice A0_0 l0_0.length c0_0], .int .i64 x3_2] (spec_l04Func.calls k2 _ _ l0_0 x3_2 t185 t186 t187 _ (cc (Kd.C_below HR0_0.out HB.out)) HC0_0.out A14.out) ?_; intro w18 hb; replace BK183 := bb BK183 hb; replace BK184 := bb BK184 hb; replace HB := bs HB hb; clear hb) | ((with_reducible refine gate_dst (N := 4) rfl ?_); (try (refine gate_guard (by rfl) ?_; dsimp only)); refine box_event ?hg (N := 4) ?hd (cs := #[.int .i64 0, .int .i64 0, .int .i64 0]) (t := 44) ?hr ?_; (case hd => rfl); (case hg => rfl); (case hr => exact gs); intro gb188 hg w19 hbox hb; have BK188 := am (hbox); have GW188 := gw hg HB; replace HB := bs HB hb; obtain ⟨NB183_188, NB188_183, BK183⟩ := b3 hg BK183 hb; obtain ⟨NB184_188, NB188_184, BK184⟩ := b3 hg BK184 hb; clear hb hbox hg; have hnb20 := NB188_183.out; have hnc20 := NB183_188.out; have hnb21 := NB188_184.out; have hnc21 := NB184_188.out; have hcz22 := bK w19 BK188; have hfz22 := bF BK188))
  (try simp only [Act.put, sa, sz, ss])
  have H := HC15.out
  clear HC15
  refine qE H ?_ ?_ <;> clear H
  ·intro c23b0 c23b1 H
   (first | rw [c23b0] | (simp only [i64_w, i32_w]; rw [c23b0]) | skip)
   have H' := am H
   clear H
   go_wp2
   go_roundg k2
   case measure => have := HJ1.out; have := HK2.out; omega
   case rel => exact ⟨(wrap64 (x3_2 + 1)), (x185000_2), (x185001_2), (x185002_2), dr, H', ⟨by have := HJ1.out; have := HK2.out; omega⟩, ⟨by (with_reducible repeat (first | apply dN | apply dW | apply dA)); refine blk_far ?_ NB183_188.out _; (with_reducible repeat (first | apply dN | apply dW | apply dA)); refine blk_far ?_ NB183_188.out _; (with_reducible repeat (first | apply dN | apply dW | apply dA)); refine blk_far ?_ NB183_188.out _; exact bp BK183⟩, ⟨by (with_reducible repeat (first | apply dN | apply dW | apply dA)); refine blk_far ?_ NB184_188.out _; (with_reducible repeat (first | apply dN | apply dW | apply dA)); refine blk_far ?_ NB184_188.out _; (with_reducible repeat (first | apply dN | apply dW | apply dA)); refine blk_far ?_ NB184_188.out _; exact bp BK184⟩, ⟨bw HB⟩⟩
  intro c23 c23b0 c23b1 H
  (first | rw [c23b0] | (simp only [i64_w, i32_w]; rw [c23b0]) | skip)
  simp only [Option.some.injEq, Prod.mk.injEq] at H
  obtain ⟨rfl, rfl, rfl⟩ := H
  have hnb24 := NB188_183.out
  have hnc24 := NB183_188.out
  have hnb25 := NB188_184.out
  have hnc25 := NB184_188.out
  have hcz26 := bK w19 BK188
  have hfz26 := bF BK188
  have hnb27 := NB184_183.out
  have hnc27 := NB183_184.out
  have hcz28 := bK w19 BK184
  have hfz28 := bF BK184
  go_wp2
  refine bodyPost_ret (results_cell_row rfl _ _ gb184 44 #[.int .i64 t185, .int .i64 t186, .int .i64 t187] (0, 0) _ rfl (bt BK184) Try.underlying44 rfl (by kernel_rfl)) rfl ?_
  exact ⟨er, bw HB⟩
 simp only [Option.some.injEq, Prod.mk.injEq] at H
 obtain ⟨rfl, rfl, rfl⟩ := H
 have hnb29 := NB183_184.out
 have hnc29 := NB184_183.out
 have hcz30 := bK wr BK183
 have hfz30 := bF BK183
 have hcz31 := bK wr BK184
 have hfz31 := bF BK184
 go_wp2
 refine bodyPost_ret (results_cell_row rfl _ _ gb184 44 #[.int .i64 0, .int .i64 0, .int .i64 0] (0, 0) _ rfl (bt BK184) Try.underlying44 rfl (by kernel_rfl)) rfl ?_
 exact ⟨er, bw HB⟩

def spec_l04Right.f (k : Nat) (l0_0 : List (S53)) : Option (Bool) := (spec_Verify.f k l0_0).bind fun bt190 => (some (bt190.2.2 == 0))
theorem spec_l04Right.mono : ∀ a0 k, LeO (spec_l04Right.f k a0) (spec_l04Right.f (k + 1) a0) := by
 intro a0 k
 unfold spec_l04Right.f
 with_reducible repeat' first | exact spec_Verify.mono .. | exact LeO.refl _ | exact LeO.none _ | refine LeO.ite ?_ ?_ | refine LeO.bind ?_ (fun _ => ?_)
theorem spec_l04Right.calls (k : Nat) (A0_0 : Option Addr) (c0_0 : Nat) (l0_0 : List (S53)) (r : Bool) (w : World) (hr0_0 : Kd.C k53 w A0_0 l0_0.length l0_0) (hc0_0 : l0_0.length ≤ c0_0) (h : spec_l04Right.f k l0_0 = some r) :
  Calls Try.prog 30 #[.agg #[.slice A0_0 l0_0.length c0_0]] w fun e w' => e = .returned (.bool r) ∧ Below w.heap.size w w' := by
 have hu33 := Try.underlying33
 have hu44 := Try.underlying44
 have hfd44_2 : ∀ (v0_ v1_ v2_ : Value) (W : World), (Instr.field 44 (.agg #[v0_, v1_, v2_]) 2).run Try.prog W = .ok (v2_) W := fun v0_ v1_ v2_ W => by kernel_rfl
 have HR0_0 := am hr0_0
 have HC0_0 := am hc0_0
 clear hr0_0 hc0_0
 have HB := am (Below.refl w.heap.size w)
 have H : ((spec_Verify.f k l0_0).bind fun bt190 => (some (bt190.2.2 == 0))) = some r := h
 clear h
 replace H := Option.bind_eq_some_iff.mp H
 obtain ⟨⟨t190, t191, t192⟩, A20, H⟩ := H
 replace H : (some (t192 == 0)) = some r := H
 have A2 := am A20
 clear A20
 obtain rfl := Option.some.inj H
 go_enter Try.func30, Try.ntmps30
 go_wp2_with (first | ((with_reducible refine gd 1 rfl ?_); refine bX 1 #[.slice A0_0 l0_0.length c0_0] 33 HB ?_; clear HB; intro gb189 w3 hg hb BK189 GW189 HB; clear hb hg; have hcz4 := bK w3 BK189; have hfz4 := bF BK189) | ((with_reducible refine gk 57 rfl ?_); refine gB 57 (some 4) Try.func57 #[.agg #[.slice A0_0 l0_0.length c0_0]] (spec_Verify.calls k _ _ l0_0 t190 t191 t192 _ (cc (Kd.C_below HR0_0.out HB.out)) HC0_0.out A2.out) ?_; intro w5 hb; replace BK189 := bb BK189 hb; replace HB := bs HB hb; clear hb))
 go_ret
 exact ⟨er, bw HB⟩

def spec_l04Is.f (k : Nat) (l0_0 : List (S53)) (a1 : Int) : Option (Bool) := (spec_l04Right.f k l0_0).bind fun t194 => (if t194 = true then (if a1 ≥ 0 then (some (decide (a1 < (l0_0.length : Int)))) else (some false)) else (some false))
theorem spec_l04Is.mono : ∀ a0 a1 k, LeO (spec_l04Is.f k a0 a1) (spec_l04Is.f (k + 1) a0 a1) := by
 intro a0 a1 k
 unfold spec_l04Is.f
 with_reducible repeat' first | exact spec_l04Right.mono .. | exact LeO.refl _ | exact LeO.none _ | refine LeO.ite ?_ ?_ | refine LeO.bind ?_ (fun _ => ?_)
theorem spec_l04Is.calls (k : Nat) (A0_0 : Option Addr) (c0_0 : Nat) (l0_0 : List (S53)) (a1 : Int) (r : Bool) (w : World) (hr0_0 : Kd.C k53 w A0_0 l0_0.length l0_0) (hc0_0 : l0_0.length ≤ c0_0) (h : spec_l04Is.f k l0_0 a1 = some r) :
  Calls Try.prog 14 #[.agg #[.slice A0_0 l0_0.length c0_0], .int .i64 a1] w fun e w' => e = .returned (.bool r) ∧ Below w.heap.size w w' := by
 have hu33 := Try.underlying33
 have HR0_0 := am hr0_0
 have HC0_0 := am hc0_0
 clear hr0_0 hc0_0
 have HB := am (Below.refl w.heap.size w)
 have H : ((spec_l04Right.f k l0_0).bind fun t194 => (if t194 = true then (if a1 ≥ 0 then (some (decide (a1 < (l0_0.length : Int)))) else (some false)) else (some false))) = some r := h
 clear h
 refine be H ?_; clear H; intro t194 A3 H
 refine qT H ?_ ?_ <;> clear H <;> intro c4 H <;> subst c4
 ·refine qL H ?_ ?_ <;> clear H <;> intro c5b0 H
  ·obtain rfl := Option.some.inj H
   go_enter Try.func14, Try.ntmps14
   go_wp2_with (first | ((with_reducible refine gate_dst (N := 2) rfl ?_); (try (refine gate_guard (by rfl) ?_; dsimp only)); refine box_event ?hg (N := 2) ?hd (cs := #[.slice A0_0 l0_0.length c0_0]) (t := 33) ?hr ?_; (case hd => rfl); (case hg => rfl); (case hr => exact gs); intro gb193 hg w6 hbox hb; have BK193 := am (hbox); have GW193 := gw hg HB; replace HB := bs HB hb; clear hb hbox hg; have hcz7 := bK w6 BK193; have hfz7 := bF BK193) | ((with_reducible refine gk 30 rfl ?_); refine gB 30 (some 6) Try.func30 #[.agg #[.slice A0_0 l0_0.length c0_0]] (spec_l04Right.calls k _ _ l0_0 true _ (cc (Kd.C_below HR0_0.out HB.out)) HC0_0.out A3.out) ?_; intro w8 hb; replace BK193 := bb BK193 hb; replace HB := bs HB hb; clear hb; have hcz9 := bK w8 BK193; have hfz9 := bF BK193))
   go_ret
   exact ⟨er, bw HB⟩
  obtain rfl := Option.some.inj H
  go_enter Try.func14, Try.ntmps14
  go_wp2_with (first | ((with_reducible refine gate_dst (N := 2) rfl ?_); (try (refine gate_guard (by rfl) ?_; dsimp only)); refine box_event ?hg (N := 2) ?hd (cs := #[.slice A0_0 l0_0.length c0_0]) (t := 33) ?hr ?_; (case hd => rfl); (case hg => rfl); (case hr => exact gs); intro gb193 hg w10 hbox hb; have BK193 := am (hbox); have GW193 := gw hg HB; replace HB := bs HB hb; clear hb hbox hg; have hcz11 := bK w10 BK193; have hfz11 := bF BK193) | ((with_reducible refine gk 30 rfl ?_); refine gB 30 (some 6) Try.func30 #[.agg #[.slice A0_0 l0_0.length c0_0]] (spec_l04Right.calls k _ _ l0_0 true _ (cc (Kd.C_below HR0_0.out HB.out)) HC0_0.out A3.out) ?_; intro w12 hb; replace BK193 := bb BK193 hb; replace HB := bs HB hb; clear hb))
  go_ret
  exact ⟨er, bw HB⟩
 obtain rfl := Option.some.inj H
 go_enter Try.func14, Try.ntmps14
 go_wp2_with (first | ((with_reducible refine gate_dst (N := 2) rfl ?_); (try (refine gate_guard (by rfl) ?_; dsimp only)); refine box_event ?hg (N := 2) ?hd (cs := #[.slice A0_0 l0_0.length c0_0]) (t := 33) ?hr ?_; (case hd => rfl); (case hg => rfl); (case hr => exact gs); intro gb193 hg w13 hbox hb; have BK193 := am (hbox); have GW193 := gw hg HB; replace HB := bs HB hb; clear hb hbox hg; have hcz14 := bK w13 BK193; have hfz14 := bF BK193) | ((with_reducible refine gk 30 rfl ?_); refine gB 30 (some 6) Try.func30 #[.agg #[.slice A0_0 l0_0.length c0_0]] (spec_l04Right.calls k _ _ l0_0 false _ (cc (Kd.C_below HR0_0.out HB.out)) HC0_0.out A3.out) ?_; intro w15 hb; replace BK193 := bb BK193 hb; replace HB := bs HB hb; clear hb))
 go_ret
 exact ⟨er, bw HB⟩

def spec_l12Cell.f (a0 : Int) : Option (Int × Int) := some (1, wrap64 (6 + a0))
theorem spec_l12Cell.calls (a0 : Int) (r1 : Int) (r2 : Int) (w : World) (h : spec_l12Cell.f a0 = some (r1, r2)) :
  Calls Try.prog 16 #[.int .i64 a0] w fun e w' => e = .returned (.agg #[.int .i64 r1, .int .i64 r2]) ∧ Below w.heap.size w w' := by
 have hu55 := Try.underlying55
 have HB := am (Below.refl w.heap.size w)
 have H : (some (1, wrap64 (6 + a0))) = some (r1, r2) := h
 clear h
 simp only [Option.some.injEq, Prod.mk.injEq] at H
 obtain ⟨rfl, rfl⟩ := H
 go_enter Try.func16, Try.ntmps16
 go_wp2_with (first | ((with_reducible refine gd 2 rfl ?_); refine bX 2 #[.int .i64 0, .int .i64 0] 55 HB ?_; clear HB; intro gb195 w2 hg hb BK195 GW195 HB; clear hb hg; have hcz3 := bK w2 BK195; have hfz3 := bF BK195))
 refine bodyPost_ret (results_cell_row rfl _ _ gb195 55 #[.int .i64 1, .int .i64 (wrap64 (6 + a0))] (0, 0) _ rfl (bt BK195) Try.underlying55 rfl (by kernel_rfl)) rfl ?_
 exact ⟨er, bw HB⟩

end Go.Proofs.Ytcdohkilplgmjaa.QFnExactPlain
