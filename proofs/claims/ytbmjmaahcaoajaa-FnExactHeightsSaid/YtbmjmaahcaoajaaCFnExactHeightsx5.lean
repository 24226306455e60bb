-- Written by this session's own program (wip/tools/xprint.py) on the seat's printed words. Lean checks it.
import Derived.Test.YtbmjmaahcaoajaaCFnExactHeightsx0
import Derived.Test.YtbmjmaahcaoajaaCFnExactHeightsx3
import Derived.Test.YtbmjmaahcaoajaaCFnExactHeightsx4
namespace Go.Proofs.Ytbmjmaahcaoajaa.QFnExactHeights
open Go.RowKit Go.Proofs.YtbmjmaahcaoajaaW.PrintWords Go.Proofs.YtbmjmaahcaoajaaW.PrintLast Go.Proofs.YtbmjmaahcaoajaaW.PrintMore Go.Proofs.YtbmjmaahcaoajaaW.PrintShort Go.Proofs.YtbmjmaahcaoajaaW.PrintIsh
attribute [local go_sem] max2_int min2_int max_two min_two max_three min_three max_four min_four   -- for this text's walks alone
set_option linter.unusedVariables false
set_option maxHeartbeats 8000000
set_option maxRecDepth 100000
set_option linter.unusedSimpArgs false

/-! ### spec_l04Func: function 172 -/
mutual
def spec_l04Func.j0 : Nat → Int → Bool → List (S100) → Int → Int → List (S102) → Option (Int × Int × Int)
 | 0, _, _, _, _, _, _ => none
 | k + 1, x1, x45, x171000, x174000, x174001, x174002 => if x45 = true then (some (x1, 0, 1)) else (spec_l04Func.l0 k x1 0 x171000 x174000 x174001 x174002)
def spec_l04Func.l0 : Nat → Int → Int → List (S100) → Int → Int → List (S102) → Option (Int × Int × Int)
 | 0, _, _, _, _, _, _ => none
 | k + 1, x1, x6, x171000, x174000, x174001, x174002 => if x6 < (x174002.length : Int) then (if 0 ≤ x6 then ((spec_InsRight.f k x171000 x1 ((rd_T102 x174002 x6).f0) ((rd_T102 x174002 x6).f1)).bind fun t175 => (if t175 = true then (spec_l04Func.l0 k x1 (wrap64 (x6 + 1)) x171000 x174000 x174001 x174002) else (some (x1, x6, 1)))) else (none)) else ((spec_l04Heights.f k x171000 x1).bind fun bt176 => (some (bt176.2.1, bt176.2.2.1, bt176.2.2.2)))
end
def spec_l04Func.f (k : Nat) (l0_0 : List (S100)) (a1 : Int) : Option (Int × Int × Int) := if 0 ≤ a1 then (if a1 < (l0_0.length : Int) then (if ((rd_T100 l0_0 a1).f0) < 0 then (spec_l04Func.j0 k a1 true l0_0 ((rd_T100 l0_0 a1).f0) ((rd_T100 l0_0 a1).f1) ((rd_T100 l0_0 a1).f2)) else (if ((rd_T100 l0_0 a1).f0) > 4 then (spec_l04Func.j0 k a1 true l0_0 ((rd_T100 l0_0 a1).f0) ((rd_T100 l0_0 a1).f1) ((rd_T100 l0_0 a1).f2)) else (if ((rd_T100 l0_0 a1).f1) < ((rd_T100 l0_0 a1).f0) then (spec_l04Func.j0 k a1 true l0_0 ((rd_T100 l0_0 a1).f0) ((rd_T100 l0_0 a1).f1) ((rd_T100 l0_0 a1).f2)) else (if ((rd_T100 l0_0 a1).f1) > 8 then (spec_l04Func.j0 k a1 true l0_0 ((rd_T100 l0_0 a1).f0) ((rd_T100 l0_0 a1).f1) ((rd_T100 l0_0 a1).f2)) else (if (((rd_T100 l0_0 a1).f2).length : Int) < 1 then (spec_l04Func.j0 k a1 true l0_0 ((rd_T100 l0_0 a1).f0) ((rd_T100 l0_0 a1).f1) ((rd_T100 l0_0 a1).f2)) else (spec_l04Func.j0 k a1 (decide ((((rd_T100 l0_0 a1).f2).length : Int) > 60)) l0_0 ((rd_T100 l0_0 a1).f0) ((rd_T100 l0_0 a1).f1) ((rd_T100 l0_0 a1).f2))))))) else (none)) else (none)
theorem spec_l04Func.mono_l : ∀ k, (∀ y0 y1 y2 y3 y4 y5, LeO (spec_l04Func.j0 k y0 y1 y2 y3 y4 y5) (spec_l04Func.j0 (k + 1) y0 y1 y2 y3 y4 y5)) ∧ (∀ y0 y1 y2 y3 y4 y5, LeO (spec_l04Func.l0 k y0 y1 y2 y3 y4 y5) (spec_l04Func.l0 (k + 1) y0 y1 y2 y3 y4 y5))
 | 0 => ⟨fun _ _ _ _ _ _ r h => by simp [spec_l04Func.j0] at h, fun _ _ _ _ _ _ r h => by simp [spec_l04Func.l0] at h⟩
 | k + 1 => by
  obtain ⟨ih0, ih1⟩ := spec_l04Func.mono_l k
  refine ⟨?_, ?_⟩
  ·intro y0 y1 y2 y3 y4 y5
   unfold spec_l04Func.j0
   repeat' first
   | (with_reducible exact ih0 _ _ _ _ _ _)
   | (with_reducible exact ih1 _ _ _ _ _ _)
   | (with_reducible exact spec_InsRight.mono _ _ _ _ _)
   | (with_reducible exact spec_l04Heights.mono _ _ _)
   | (with_reducible exact LeO.refl _)
   | (with_reducible exact LeO.none _)
   | (with_reducible refine LeO.ite ?_ ?_)
   | (with_reducible refine LeO.bind ?_ (fun _ => ?_))
   | exact ih0 _ _ _ _ _ _
   | exact ih1 _ _ _ _ _ _
   | exact spec_InsRight.mono _ _ _ _ _
   | exact spec_l04Heights.mono _ _ _
   | exact LeO.none _
   | refine LeO.ite ?_ ?_
   | refine LeO.bind ?_ (fun _ => ?_)
  ·intro y0 y1 y2 y3 y4 y5
   unfold spec_l04Func.l0
   repeat' first
   | (with_reducible exact ih0 _ _ _ _ _ _)
   | (with_reducible exact ih1 _ _ _ _ _ _)
   | (with_reducible exact spec_InsRight.mono _ _ _ _ _)
   | (with_reducible exact spec_l04Heights.mono _ _ _)
   | (with_reducible exact LeO.refl _)
   | (with_reducible exact LeO.none _)
   | (with_reducible refine LeO.ite ?_ ?_)
   | (with_reducible refine LeO.bind ?_ (fun _ => ?_))
   | exact ih0 _ _ _ _ _ _
   | exact ih1 _ _ _ _ _ _
   | exact spec_InsRight.mono _ _ _ _ _
   | exact spec_l04Heights.mono _ _ _
   | exact LeO.none _
   | refine LeO.ite ?_ ?_
   | refine LeO.bind ?_ (fun _ => ?_)
theorem spec_l04Func.mono : ∀ a0 a1 k, LeO (spec_l04Func.f k a0 a1) (spec_l04Func.f (k + 1) a0 a1) := by
 intro a0 a1 k
 obtain ⟨ih0, ih1⟩ := spec_l04Func.mono_l k
 unfold spec_l04Func.f
 repeat' first
   | (with_reducible exact ih0 _ _ _ _ _ _)
   | (with_reducible exact ih1 _ _ _ _ _ _)
   | (with_reducible exact spec_InsRight.mono _ _ _ _ _)
   | (with_reducible exact spec_l04Heights.mono _ _ _)
   | (with_reducible exact LeO.refl _)
   | (with_reducible exact LeO.none _)
   | (with_reducible refine LeO.ite ?_ ?_)
   | (with_reducible refine LeO.bind ?_ (fun _ => ?_))
   | exact ih0 _ _ _ _ _ _
   | exact ih1 _ _ _ _ _ _
   | exact spec_InsRight.mono _ _ _ _ _
   | exact spec_l04Heights.mono _ _ _
   | exact LeO.none _
   | refine LeO.ite ?_ ?_
   | refine LeO.bind ?_ (fun _ => ?_)
def spec_l04Func.T7 : Bool × List (List Nat × List Nat) := (true, [([], []), ([], []), ([], []), ([2], [2]), ([], []), ([3, 4], [3, 4]), ([5], [5]), ([0, 1, 6], [0, 1, 6]), ([7], [7])])
def spec_l04Func.B7 : List Nat := [0, 0, 0, 4, 0, 28, 60, 127, 255]
theorem spec_l04Func.tab7 : rtab .any (opsOf Try.f172 7) = spec_l04Func.T7 := by kernel_rfl
theorem spec_l04Func.bits7 : waitsOk spec_l04Func.T7.2 spec_l04Func.B7 = true := by kernel_rfl
theorem spec_l04Func.calls (k : Nat) (A0_0 : Option Addr) (c0_0 : Nat) (l0_0 : List (S100)) (a1 : Int) (r1 : Int) (r2 : Int) (r3 : Int) (w : World) (hr0_0 : Kd.C k100 w A0_0 l0_0.length l0_0) (hc0_0 : l0_0.length ≤ c0_0) (h : spec_l04Func.f k l0_0 a1 = some (r1, r2, r3)) :
  Calls Try.prog 172 #[.agg #[.slice A0_0 l0_0.length c0_0], .int .i64 a1] w fun e w' => e = .returned (.agg #[.int .i64 r1, .int .i64 r2, .int .i64 r3]) ∧ Below w.heap.size w w' := by
 have hu30 := Try.underlying30
 have hu84 := Try.underlying84
 have hu100 := Try.underlying100
 have hu102 := Try.underlying102
 have HR0_0 := am hr0_0
 have HC0_0 := am hc0_0
 clear hr0_0 hc0_0
 have HB := am (Below.refl w.heap.size w)
 have H : (if 0 ≤ a1 then (if a1 < (l0_0.length : Int) then (if ((rd_T100 l0_0 a1).f0) < 0 then (spec_l04Func.j0 k a1 true l0_0 ((rd_T100 l0_0 a1).f0) ((rd_T100 l0_0 a1).f1) ((rd_T100 l0_0 a1).f2)) else (if ((rd_T100 l0_0 a1).f0) > 4 then (spec_l04Func.j0 k a1 true l0_0 ((rd_T100 l0_0 a1).f0) ((rd_T100 l0_0 a1).f1) ((rd_T100 l0_0 a1).f2)) else (if ((rd_T100 l0_0 a1).f1) < ((rd_T100 l0_0 a1).f0) then (spec_l04Func.j0 k a1 true l0_0 ((rd_T100 l0_0 a1).f0) ((rd_T100 l0_0 a1).f1) ((rd_T100 l0_0 a1).f2)) else (if ((rd_T100 l0_0 a1).f1) > 8 then (spec_l04Func.j0 k a1 true l0_0 ((rd_T100 l0_0 a1).f0) ((rd_T100 l0_0 a1).f1) ((rd_T100 l0_0 a1).f2)) else (if (((rd_T100 l0_0 a1).f2).length : Int) < 1 then (spec_l04Func.j0 k a1 true l0_0 ((rd_T100 l0_0 a1).f0) ((rd_T100 l0_0 a1).f1) ((rd_T100 l0_0 a1).f2)) else (spec_l04Func.j0 k a1 (decide ((((rd_T100 l0_0 a1).f2).length : Int) > 60)) l0_0 ((rd_T100 l0_0 a1).f0) ((rd_T100 l0_0 a1).f1) ((rd_T100 l0_0 a1).f2))))))) else (none)) else (none)) = some (r1, r2, r3) := h
 clear h
 by_cases c3 : 0 ≤ a1
 ·rw [if_pos c3] at H
  have c3b0 : decide (0 ≤ a1) = true := decide_eq_true c3
  clear c3
  by_cases c4 : a1 < (l0_0.length : Int)
  ·rw [if_pos c4] at H
   have c4b0 : decide (a1 < (l0_0.length : Int)) = true := decide_eq_true c4
   clear c4
   have HC5 := am H
   clear H
   go_enter Try.func172, Try.ntmps172
   go_upto_region 2 with (first | ((with_reducible refine gate_dst (N := 2) rfl ?_); (try (refine gate_guard (by rfl) ?_; dsimp only)); refine box_event ?hg (N := 2) ?hd (cs := #[.slice A0_0 l0_0.length c0_0]) (t := 30) ?hr ?_; (case hd => rfl); (case hg => rfl); (case hr => exact gs); intro gb170 hg w6 hbox hb; have n0_ := am (below_step (bw HB) hb); have n1_ := am (hbox); have n2_ := am ((by rw [hg]; exact (below_size (bw HB)) : w.heap.size ≤ gb170)); have n3_ := am ((by rw [hg]; exact (below_size (bw HB)) : w.heap.size ≤ gb170)); clear HB; have HB := n0_; have BK170 := n1_; have GW170 := n2_; have GE170 := n3_; clear n0_ n1_ n2_ n3_; clear hb hbox hg) | ((with_reducible refine gate_dst (N := 4) rfl ?_); (try (refine gate_guard (by rfl) ?_; dsimp only)); refine box_event ?hg (N := 4) ?hd (cs := #[.int .i64 0, .int .i64 0, .int .i64 0]) (t := 84) ?hr ?_; (case hd => rfl); (case hg => rfl); (case hr => exact gs); intro gb171 hg w7 hbox hb; have n0_ := am (blk_below (g := gb170) (o := .cells #[.slice A0_0 l0_0.length c0_0] 30 (0, 0)) (bp BK170) hb); have n1_ := am (below_step (bw HB) hb); have n2_ := am (hbox); have n3_ := am ((by rw [hg]; exact (below_size (bw HB)) : w.heap.size ≤ gb171)); have n4_ := am ((by rw [hg]; exact (below_size (bw HB)) : w.heap.size ≤ gb171)); have n5_ := am ((by rw [hg]; exact Nat.ne_of_lt (blk_lt (g := gb170) (o := .cells #[.slice A0_0 l0_0.length c0_0] 30 (0, 0)) (bp BK170)) : gb170 ≠ gb171)); have n6_ := am ((by rw [hg]; exact Nat.ne_of_gt (blk_lt (g := gb170) (o := .cells #[.slice A0_0 l0_0.length c0_0] 30 (0, 0)) (bp BK170)) : gb171 ≠ gb170)); clear BK170; clear HB; have BK170 := n0_; have HB := n1_; have BK171 := n2_; have GW171 := n3_; have GE171 := n4_; have NB170_171 := n5_; have NB171_170 := n6_; clear n0_ n1_ n2_ n3_ n4_ n5_ n6_; clear hb hbox hg; have hnb8 := NB170_171.out; have hnc8 := NB171_170.out; have hcz9_0 : w7.cell? ⟨gb170, 0, none⟩ = some (.slice A0_0 l0_0.length c0_0) := (blk_cell BK170.out 0).trans rfl; have hfz9_0 := blk_frozen BK170.out 0; have p172 : 0 ≤ (a1 : Int) := of_decide_eq_true as1; have q172 : a1 < (l0_0.length : Int) := of_decide_eq_true as1; obtain ⟨ad172, A172_2, c172_2, e172, hx172_0, hx172_1, hx172_2, hl172_2, hi172_2⟩ := at_T100 HR0_0.out a1 p172 q172; cases e172; replace hx172_0 := (HB.out.cell (World.block_lt_of_cell? w _ hx172_0)).trans hx172_0; replace hx172_1 := (HB.out.cell (World.block_lt_of_cell? w _ hx172_1)).trans hx172_1; replace hx172_2 := (HB.out.cell (World.block_lt_of_cell? w _ hx172_2)).trans hx172_2; have HR172_2 := am hi172_2; have HC172_2 := am hl172_2; clear hi172_2 hl172_2; replace p172 := eq_true p172; replace q172 := eq_true q172) | ((with_reducible refine gate_dst (N := 5) rfl ?_); (try (refine gate_guard (by rfl) ?_; dsimp only)); refine box_event ?hg (N := 5) ?hd (cs := #[.int .i64 0, .int .i64 0, .slice none 0 0]) (t := 100) ?hr ?_; (case hd => rfl); (case hg => rfl); (case hr => exact gs); intro gb173 hg w10 hbox hb; have n0_ := am (blk_below (g := gb170) (o := .cells #[.slice (some ad172) l0_0.length c0_0] 30 (0, 0)) (bp BK170) hb); have n1_ := am (blk_below (g := gb171) (o := .cells #[.int .i64 0, .int .i64 0, .int .i64 0] 84 (0, 0)) (bp BK171) hb); have n2_ := am (below_step (bw HB) hb); have n3_ := am (hbox); have n4_ := am ((by rw [hg]; exact (below_size (bw HB)) : w.heap.size ≤ gb173)); have n5_ := am ((by rw [hg]; exact (below_size (bw HB)) : w.heap.size ≤ gb173)); have n6_ := am ((by rw [hg]; exact Nat.ne_of_lt (blk_lt (g := gb170) (o := .cells #[.slice (some ad172) l0_0.length c0_0] 30 (0, 0)) (bp BK170)) : gb170 ≠ gb173)); have n7_ := am ((by rw [hg]; exact Nat.ne_of_gt (blk_lt (g := gb170) (o := .cells #[.slice (some ad172) l0_0.length c0_0] 30 (0, 0)) (bp BK170)) : gb173 ≠ gb170)); have n8_ := am ((by rw [hg]; exact Nat.ne_of_lt (blk_lt (g := gb171) (o := .cells #[.int .i64 0, .int .i64 0, .int .i64 0] 84 (0, 0)) (bp BK171)) : gb171 ≠ gb173)); have n9_ := am ((by rw [hg]; exact Nat.ne_of_gt (blk_lt (g := gb171) (o := .cells #[.int .i64 0, .int .i64 0, .int .i64 0] 84 (0, 0)) (bp BK171)) : gb173 ≠ gb171)); clear BK170; clear BK171; clear HB; have BK170 := n0_; have BK171 := n1_; have HB := n2_; have BK173 := n3_; have GW173 := n4_; have GE173 := n5_; have NB170_173 := n6_; have NB173_170 := n7_; have NB171_173 := n8_; have NB173_171 := n9_; clear n0_ n1_ n2_ n3_ n4_ n5_ n6_ n7_ n8_ n9_; clear hb hbox hg; have hnb11 := NB173_170.out; have hnc11 := NB170_173.out; have hnb12 := NB173_171.out; have hnc12 := NB171_173.out; have hcz13_0 : w10.cell? ⟨gb173, 0, none⟩ = some (.int .i64 0) := (blk_cell BK173.out 0).trans rfl; have hcz13_1 : w10.cell? ⟨gb173, 1, none⟩ = some (.int .i64 0) := (blk_cell BK173.out 1).trans rfl; have hcz13_2 : w10.cell? ⟨gb173, 2, none⟩ = some (.slice none 0 0) := (blk_cell BK173.out 2).trans rfl; have hfz13_0 := blk_frozen BK173.out 0; have hfz13_1 := blk_frozen BK173.out 1; have hfz13_2 := blk_frozen BK173.out 2))
   (try simp only [Act.put, sa, sz, ss])
   go_cut [45] (fun v45 wc => ∃ (kq : Nat) (x45_4 : Bool), v45 = .bool x45_4 ∧ Aside0 (spec_l04Func.j0 kq a1 x45_4 l0_0 ((rd_T100 l0_0 a1).f0) ((rd_T100 l0_0 a1).f1) ((rd_T100 l0_0 a1).f2) = some (r1, r2, r3)) ∧ Aside0 (kq ≤ k) ∧ Aside0 (wc.heap[gb170]? = some (.cells #[(.slice (some ad172) l0_0.length c0_0)] 30 (0, 0))) ∧ Aside0 (wc.heap[gb171]? = some (.cells #[.int .i64 0, .int .i64 0, .int .i64 0] 84 (0, 0))) ∧ Aside0 (wc.heap[gb173]? = some (.cells #[.int .i64 ((rd_T100 l0_0 a1).f0), .int .i64 ((rd_T100 l0_0 a1).f1), (.slice A172_2 ((rd_T100 l0_0 a1).f2).length c172_2)] 100 (0, 0))) ∧ Aside0 (Below w.heap.size w wc))
   case first =>
    have H := HC5.out
    clear HC5
    by_cases c14 : ((rd_T100 l0_0 a1).f0) < 0
    ·rw [if_pos c14] at H
     have c14b0 : decide (((rd_T100 l0_0 a1).f0) < 0) = true := decide_eq_true c14
     clear c14
     (first | rw [c14b0] | (simp only [i64_w, i32_w]; rw [c14b0]) | skip)
     have H' := am H
     clear H
     have hnb15 := NB173_170.out
     have hnc15 := NB170_173.out
     have hnb16 := NB173_171.out
     have hnc16 := NB171_173.out
     have hcz17_0 : w10.cell? ⟨gb173, 0, none⟩ = some (.int .i64 0) := (blk_cell BK173.out 0).trans rfl
     have hcz17_1 : w10.cell? ⟨gb173, 1, none⟩ = some (.int .i64 0) := (blk_cell BK173.out 1).trans rfl
     have hcz17_2 : w10.cell? ⟨gb173, 2, none⟩ = some (.slice none 0 0) := (blk_cell BK173.out 2).trans rfl
     have hfz17_0 := blk_frozen BK173.out 0
     have hfz17_1 := blk_frozen BK173.out 1
     have hfz17_2 := blk_frozen BK173.out 2
     go_wp2
     go_meet
     case rel => exact ⟨_, (true), dr, H', ⟨by first | omega | exact Nat.le_refl _⟩, ⟨by (with_reducible repeat (first | apply dN | apply dW | apply dA)); refine blk_far ?_ NB170_173.out _; (with_reducible repeat (first | apply dN | apply dW | apply dA)); refine blk_far ?_ NB170_173.out _; (with_reducible repeat (first | apply dN | apply dW | apply dA)); refine blk_far ?_ NB170_173.out _; exact bp BK170⟩, ⟨by (with_reducible repeat (first | apply dN | apply dW | apply dA)); refine blk_far ?_ NB171_173.out _; (with_reducible repeat (first | apply dN | apply dW | apply dA)); refine blk_far ?_ NB171_173.out _; (with_reducible repeat (first | apply dN | apply dW | apply dA)); refine blk_far ?_ NB171_173.out _; exact bp BK171⟩, ⟨by (with_reducible repeat (first | apply dN | apply dW | apply dA)); refine blk_put (cs := #[.int .i64 ((rd_T100 l0_0 a1).f0), .int .i64 ((rd_T100 l0_0 a1).f1), .slice none 0 0]) ?_ 2 _ rfl; (with_reducible repeat (first | apply dN | apply dW | apply dA)); refine blk_put (cs := #[.int .i64 ((rd_T100 l0_0 a1).f0), .int .i64 0, .slice none 0 0]) ?_ 1 _ rfl; (with_reducible repeat (first | apply dN | apply dW | apply dA)); refine blk_put (cs := #[.int .i64 0, .int .i64 0, .slice none 0 0]) ?_ 0 _ rfl; exact bp BK173⟩, ⟨bw HB⟩⟩
    ·rw [if_neg c14] at H
     have c14b0 : decide (((rd_T100 l0_0 a1).f0) < 0) = false := decide_eq_false c14
     clear c14
     (first | rw [c14b0] | (simp only [i64_w, i32_w]; rw [c14b0]) | skip)
     by_cases c18 : ((rd_T100 l0_0 a1).f0) > 4
     ·rw [if_pos c18] at H
      have c18b0 : decide (4 < ((rd_T100 l0_0 a1).f0)) = true := decide_eq_true c18
      clear c18
      have H' := am H
      clear H
      have hnb19 := NB173_170.out
      have hnc19 := NB170_173.out
      have hnb20 := NB173_171.out
      have hnc20 := NB171_173.out
      have hcz21_0 : w10.cell? ⟨gb173, 0, none⟩ = some (.int .i64 0) := (blk_cell BK173.out 0).trans rfl
      have hcz21_1 : w10.cell? ⟨gb173, 1, none⟩ = some (.int .i64 0) := (blk_cell BK173.out 1).trans rfl
      have hcz21_2 : w10.cell? ⟨gb173, 2, none⟩ = some (.slice none 0 0) := (blk_cell BK173.out 2).trans rfl
      have hfz21_0 := blk_frozen BK173.out 0
      have hfz21_1 := blk_frozen BK173.out 1
      have hfz21_2 := blk_frozen BK173.out 2
      go_wp2
      go_meet
      case rel => exact ⟨_, (true), dr, H', ⟨by first | omega | exact Nat.le_refl _⟩, ⟨by (with_reducible repeat (first | apply dN | apply dW | apply dA)); refine blk_far ?_ NB170_173.out _; (with_reducible repeat (first | apply dN | apply dW | apply dA)); refine blk_far ?_ NB170_173.out _; (with_reducible repeat (first | apply dN | apply dW | apply dA)); refine blk_far ?_ NB170_173.out _; exact bp BK170⟩, ⟨by (with_reducible repeat (first | apply dN | apply dW | apply dA)); refine blk_far ?_ NB171_173.out _; (with_reducible repeat (first | apply dN | apply dW | apply dA)); refine blk_far ?_ NB171_173.out _; (with_reducible repeat (first | apply dN | apply dW | apply dA)); refine blk_far ?_ NB171_173.out _; exact bp BK171⟩, ⟨by (with_reducible repeat (first | apply dN | apply dW | apply dA)); refine blk_put (cs := #[.int .i64 ((rd_T100 l0_0 a1).f0), .int .i64 ((rd_T100 l0_0 a1).f1), .slice none 0 0]) ?_ 2 _ rfl; (with_reducible repeat (first | apply dN | apply dW | apply dA)); refine blk_put (cs := #[.int .i64 ((rd_T100 l0_0 a1).f0), .int .i64 0, .slice none 0 0]) ?_ 1 _ rfl; (with_reducible repeat (first | apply dN | apply dW | apply dA)); refine blk_put (cs := #[.int .i64 0, .int .i64 0, .slice none 0 0]) ?_ 0 _ rfl; exact bp BK173⟩, ⟨bw HB⟩⟩
     ·rw [if_neg c18] at H
      have c18b0 : decide (4 < ((rd_T100 l0_0 a1).f0)) = false := decide_eq_false c18
      clear c18
      by_cases c22 : ((rd_T100 l0_0 a1).f1) < ((rd_T100 l0_0 a1).f0)
      ·rw [if_pos c22] at H
       have c22b0 : decide (((rd_T100 l0_0 a1).f1) < ((rd_T100 l0_0 a1).f0)) = true := decide_eq_true c22
       clear c22
       have H' := am H
       clear H
       have hnb23 := NB173_170.out
       have hnc23 := NB170_173.out
       have hnb24 := NB173_171.out
       have hnc24 := NB171_173.out
       have hcz25_0 : w10.cell? ⟨gb173, 0, none⟩ = some (.int .i64 0) := (blk_cell BK173.out 0).trans rfl
       have hcz25_1 : w10.cell? ⟨gb173, 1, none⟩ = some (.int .i64 0) := (blk_cell BK173.out 1).trans rfl
       have hcz25_2 : w10.cell? ⟨gb173, 2, none⟩ = some (.slice none 0 0) := (blk_cell BK173.out 2).trans rfl
       have hfz25_0 := blk_frozen BK173.out 0
       have hfz25_1 := blk_frozen BK173.out 1
       have hfz25_2 := blk_frozen BK173.out 2
       go_wp2
       go_meet
       case rel => exact ⟨_, (true), dr, H', ⟨by first | omega | exact Nat.le_refl _⟩, ⟨by (with_reducible repeat (first | apply dN | apply dW | apply dA)); refine blk_far ?_ NB170_173.out _; (with_reducible repeat (first | apply dN | apply dW | apply dA)); refine blk_far ?_ NB170_173.out _; (with_reducible repeat (first | apply dN | apply dW | apply dA)); refine blk_far ?_ NB170_173.out _; exact bp BK170⟩, ⟨by (with_reducible repeat (first | apply dN | apply dW | apply dA)); refine blk_far ?_ NB171_173.out _; (with_reducible repeat (first | apply dN | apply dW | apply dA)); refine blk_far ?_ NB171_173.out _; (with_reducible repeat (first | apply dN | apply dW | apply dA)); refine blk_far ?_ NB171_173.out _; exact bp BK171⟩, ⟨by (with_reducible repeat (first | apply dN | apply dW | apply dA)); refine blk_put (cs := #[.int .i64 ((rd_T100 l0_0 a1).f0), .int .i64 ((rd_T100 l0_0 a1).f1), .slice none 0 0]) ?_ 2 _ rfl; (with_reducible repeat (first | apply dN | apply dW | apply dA)); refine blk_put (cs := #[.int .i64 ((rd_T100 l0_0 a1).f0), .int .i64 0, .slice none 0 0]) ?_ 1 _ rfl; (with_reducible repeat (first | apply dN | apply dW | apply dA)); refine blk_put (cs := #[.int .i64 0, .int .i64 0, .slice none 0 0]) ?_ 0 _ rfl; exact bp BK173⟩, ⟨bw HB⟩⟩
      ·rw [if_neg c22] at H
       have c22b0 : decide (((rd_T100 l0_0 a1).f1) < ((rd_T100 l0_0 a1).f0)) = false := decide_eq_false c22
       clear c22
       by_cases c26 : ((rd_T100 l0_0 a1).f1) > 8
       ·rw [if_pos c26] at H
        have c26b0 : decide (8 < ((rd_T100 l0_0 a1).f1)) = true := decide_eq_true c26
        clear c26
        have H' := am H
        clear H
        have hnb27 := NB173_170.out
        have hnc27 := NB170_173.out
        have hnb28 := NB173_171.out
        have hnc28 := NB171_173.out
        have hcz29_0 : w10.cell? ⟨gb173, 0, none⟩ = some (.int .i64 0) := (blk_cell BK173.out 0).trans rfl
        have hcz29_1 : w10.cell? ⟨gb173, 1, none⟩ = some (.int .i64 0) := (blk_cell BK173.out 1).trans rfl
        have hcz29_2 : w10.cell? ⟨gb173, 2, none⟩ = some (.slice none 0 0) := (blk_cell BK173.out 2).trans rfl
        have hfz29_0 := blk_frozen BK173.out 0
        have hfz29_1 := blk_frozen BK173.out 1
        have hfz29_2 := blk_frozen BK173.out 2
        go_wp2
        go_meet
        case rel => exact ⟨_, (true), dr, H', ⟨by first | omega | exact Nat.le_refl _⟩, ⟨by (with_reducible repeat (first | apply dN | apply dW | apply dA)); refine blk_far ?_ NB170_173.out _; (with_reducible repeat (first | apply dN | apply dW | apply dA)); refine blk_far ?_ NB170_173.out _; (with_reducible repeat (first | apply dN | apply dW | apply dA)); refine blk_far ?_ NB170_173.out _; exact bp BK170⟩, ⟨by (with_reducible repeat (first | apply dN | apply dW | apply dA)); refine blk_far ?_ NB171_173.out _; (with_reducible repeat (first | apply dN | apply dW | apply dA)); refine blk_far ?_ NB171_173.out _; (with_reducible repeat (first | apply dN | apply dW | apply dA)); refine blk_far ?_ NB171_173.out _; exact bp BK171⟩, ⟨by (with_reducible repeat (first | apply dN | apply dW | apply dA)); refine blk_put (cs := #[.int .i64 ((rd_T100 l0_0 a1).f0), .int .i64 ((rd_T100 l0_0 a1).f1), .slice none 0 0]) ?_ 2 _ rfl; (with_reducible repeat (first | apply dN | apply dW | apply dA)); refine blk_put (cs := #[.int .i64 ((rd_T100 l0_0 a1).f0), .int .i64 0, .slice none 0 0]) ?_ 1 _ rfl; (with_reducible repeat (first | apply dN | apply dW | apply dA)); refine blk_put (cs := #[.int .i64 0, .int .i64 0, .slice none 0 0]) ?_ 0 _ rfl; exact bp BK173⟩, ⟨bw HB⟩⟩
       ·rw [if_neg c26] at H
        have c26b0 : decide (8 < ((rd_T100 l0_0 a1).f1)) = false := decide_eq_false c26
        clear c26
        by_cases c30 : (((rd_T100 l0_0 a1).f2).length : Int) < 1
        ·rw [if_pos c30] at H
         have c30b0 : decide ((((rd_T100 l0_0 a1).f2).length : Int) < 1) = true := decide_eq_true c30
         have c30b1 : decide (((rd_T100 l0_0 a1).f2).length < 1) = true := decide_eq_true (by omega)
         clear c30
         have H' := am H
         clear H
         have hnb31 := NB173_170.out
         have hnc31 := NB170_173.out
         have hnb32 := NB173_171.out
         have hnc32 := NB171_173.out
         have hcz33_0 : w10.cell? ⟨gb173, 0, none⟩ = some (.int .i64 0) := (blk_cell BK173.out 0).trans rfl
         have hcz33_1 : w10.cell? ⟨gb173, 1, none⟩ = some (.int .i64 0) := (blk_cell BK173.out 1).trans rfl
         have hcz33_2 : w10.cell? ⟨gb173, 2, none⟩ = some (.slice none 0 0) := (blk_cell BK173.out 2).trans rfl
         have hfz33_0 := blk_frozen BK173.out 0
         have hfz33_1 := blk_frozen BK173.out 1
         have hfz33_2 := blk_frozen BK173.out 2
         go_wp2
         go_meet
         case rel => exact ⟨_, (true), dr, H', ⟨by first | omega | exact Nat.le_refl _⟩, ⟨by (with_reducible repeat (first | apply dN | apply dW | apply dA)); refine blk_far ?_ NB170_173.out _; (with_reducible repeat (first | apply dN | apply dW | apply dA)); refine blk_far ?_ NB170_173.out _; (with_reducible repeat (first | apply dN | apply dW | apply dA)); refine blk_far ?_ NB170_173.out _; exact bp BK170⟩, ⟨by (with_reducible repeat (first | apply dN | apply dW | apply dA)); refine blk_far ?_ NB171_173.out _; (with_reducible repeat (first | apply dN | apply dW | apply dA)); refine blk_far ?_ NB171_173.out _; (with_reducible repeat (first | apply dN | apply dW | apply dA)); refine blk_far ?_ NB171_173.out _; exact bp BK171⟩, ⟨by (with_reducible repeat (first | apply dN | apply dW | apply dA)); refine blk_put (cs := #[.int .i64 ((rd_T100 l0_0 a1).f0), .int .i64 ((rd_T100 l0_0 a1).f1), .slice none 0 0]) ?_ 2 _ rfl; (with_reducible repeat (first | apply dN | apply dW | apply dA)); refine blk_put (cs := #[.int .i64 ((rd_T100 l0_0 a1).f0), .int .i64 0, .slice none 0 0]) ?_ 1 _ rfl; (with_reducible repeat (first | apply dN | apply dW | apply dA)); refine blk_put (cs := #[.int .i64 0, .int .i64 0, .slice none 0 0]) ?_ 0 _ rfl; exact bp BK173⟩, ⟨bw HB⟩⟩
        ·rw [if_neg c30] at H
         have c30b0 : decide ((((rd_T100 l0_0 a1).f2).length : Int) < 1) = false := decide_eq_false c30
         have c30b1 : decide (((rd_T100 l0_0 a1).f2).length < 1) = false := decide_eq_false (by omega)
         clear c30
         have H' := am H
         clear H
         have hnb34 := NB173_170.out
         have hnc34 := NB170_173.out
         have hnb35 := NB173_171.out
         have hnc35 := NB171_173.out
         have hcz36_0 : w10.cell? ⟨gb173, 0, none⟩ = some (.int .i64 0) := (blk_cell BK173.out 0).trans rfl
         have hcz36_1 : w10.cell? ⟨gb173, 1, none⟩ = some (.int .i64 0) := (blk_cell BK173.out 1).trans rfl
         have hcz36_2 : w10.cell? ⟨gb173, 2, none⟩ = some (.slice none 0 0) := (blk_cell BK173.out 2).trans rfl
         have hfz36_0 := blk_frozen BK173.out 0
         have hfz36_1 := blk_frozen BK173.out 1
         have hfz36_2 := blk_frozen BK173.out 2
         go_wp2
         go_meet
         case rel => exact ⟨_, (decide ((((rd_T100 l0_0 a1).f2).length : Int) > 60)), dr, H', ⟨by first | omega | exact Nat.le_refl _⟩, ⟨by (with_reducible repeat (first | apply dN | apply dW | apply dA)); refine blk_far ?_ NB170_173.out _; (with_reducible repeat (first | apply dN | apply dW | apply dA)); refine blk_far ?_ NB170_173.out _; (with_reducible repeat (first | apply dN | apply dW | apply dA)); refine blk_far ?_ NB170_173.out _; exact bp BK170⟩, ⟨by (with_reducible repeat (first | apply dN | apply dW | apply dA)); refine blk_far ?_ NB171_173.out _; (with_reducible repeat (first | apply dN | apply dW | apply dA)); refine blk_far ?_ NB171_173.out _; (with_reducible repeat (first | apply dN | apply dW | apply dA)); refine blk_far ?_ NB171_173.out _; exact bp BK171⟩, ⟨by (with_reducible repeat (first | apply dN | apply dW | apply dA)); refine blk_put (cs := #[.int .i64 ((rd_T100 l0_0 a1).f0), .int .i64 ((rd_T100 l0_0 a1).f1), .slice none 0 0]) ?_ 2 _ rfl; (with_reducible repeat (first | apply dN | apply dW | apply dA)); refine blk_put (cs := #[.int .i64 ((rd_T100 l0_0 a1).f0), .int .i64 0, .slice none 0 0]) ?_ 1 _ rfl; (with_reducible repeat (first | apply dN | apply dW | apply dA)); refine blk_put (cs := #[.int .i64 0, .int .i64 0, .slice none 0 0]) ?_ 0 _ rfl; exact bp BK173⟩, ⟨bw HB⟩⟩
   case rest =>
    clear HC5
    (try clear c1); (try clear p1); (try clear q1); (try clear hx1); (try clear c2); (try clear p2); (try clear c3); (try clear c3b0); (try clear c4); (try clear c4b0); (try clear c8); (try clear c11); (try clear c12); (try clear c14); (try clear c14b0); (try clear c15); (try clear c16); (try clear c17); (try clear p17); (try clear q17); (try clear hx17); (try clear c18); (try clear c18b0); (try clear c19); (try clear c20); (try clear c22); (try clear c22b0); (try clear c23); (try clear c24); (try clear c26); (try clear c26b0); (try clear c27); (try clear c28); (try clear c30); (try clear c30b0); (try clear c30b1); (try clear c31); (try clear c32); (try clear c34); (try clear c35); (try clear hcz13_0); (try clear hcz13_1); (try clear hcz13_2); (try clear hcz17_0); (try clear hcz17_1); (try clear hcz17_2); (try clear hcz21_0); (try clear hcz21_1); (try clear hcz21_2); (try clear hcz25_0); (try clear hcz25_1); (try clear hcz25_2); (try clear hcz29_0); (try clear hcz29_1); (try clear hcz29_2); (try clear hcz33_0); (try clear hcz33_1); (try clear hcz33_2); (try clear hcz36_0); (try clear hcz36_1); (try clear hcz36_2); (try clear hcz9_0); (try clear hfz13_0); (try clear hfz13_1); (try clear hfz13_2); (try clear hfz17_0); (try clear hfz17_1); (try clear hfz17_2); (try clear hfz21_0); (try clear hfz21_1); (try clear hfz21_2); (try clear hfz25_0); (try clear hfz25_1); (try clear hfz25_2); (try clear hfz29_0); (try clear hfz29_1); (try clear hfz29_2); (try clear hfz33_0); (try clear hfz33_1); (try clear hfz33_2); (try clear hfz36_0); (try clear hfz36_1); (try clear hfz36_2); (try clear hfz9_0); (try clear hx172_0); (try clear hx172_1); (try clear hx172_2); (try clear p172); (try clear q172)
    obtain ⟨kq, x45_4, rfl, HA, HJ4, BK170, BK171, BK173, HB⟩ := hcut
    cases kq with
    | zero => exact absurd HA.out (by simp [spec_l04Func.j0])
    | succ kj4 =>
     have H := HA.out
     clear HA
     simp only [spec_l04Func.j0] at H
     by_cases c37 : x45_4 = true
     ·subst c37
      have H1 : (some (a1, 0, 1)) = some (r1, r2, r3) := by rw [if_pos rfl] at H; exact H
      clear H
      have H := H1
      clear H1
      simp only [Option.some.injEq, Prod.mk.injEq] at H
      obtain ⟨rfl, rfl, rfl⟩ := H
      have hnb38 := NB171_170.out
      have hnc38 := NB170_171.out
      have hnb39 := NB171_173.out
      have hnc39 := NB173_171.out
      have hcz40_0 : wc.cell? ⟨gb171, 0, none⟩ = some (.int .i64 0) := (blk_cell BK171.out 0).trans rfl
      have hcz40_1 : wc.cell? ⟨gb171, 1, none⟩ = some (.int .i64 0) := (blk_cell BK171.out 1).trans rfl
      have hcz40_2 : wc.cell? ⟨gb171, 2, none⟩ = some (.int .i64 0) := (blk_cell BK171.out 2).trans rfl
      have hfz40_0 := blk_frozen BK171.out 0
      have hfz40_1 := blk_frozen BK171.out 1
      have hfz40_2 := blk_frozen BK171.out 2
      go_wp2
      refine bodyPost_ret (results_cell_row rfl _ _ gb171 84 #[.int .i64 a1, .int .i64 0, .int .i64 1] (0, 0) _ rfl (by (with_reducible repeat (first | apply dN | apply dW | apply dA)); refine blk_put (cs := #[.int .i64 a1, .int .i64 0, .int .i64 0]) ?_ 2 _ rfl; (with_reducible repeat (first | apply dN | apply dW | apply dA)); refine blk_put (cs := #[.int .i64 a1, .int .i64 0, .int .i64 0]) ?_ 1 _ rfl; (with_reducible repeat (first | apply dN | apply dW | apply dA)); refine blk_put (cs := #[.int .i64 0, .int .i64 0, .int .i64 0]) ?_ 0 _ rfl; exact bp BK171) Try.underlying84 rfl (by kernel_rfl)) rfl ?_
      exact ⟨er, bw HB⟩
     ·replace c37 := Bool.eq_false_iff.mpr c37
      subst c37
      have H1 : (spec_l04Func.l0 kj4 a1 0 l0_0 ((rd_T100 l0_0 a1).f0) ((rd_T100 l0_0 a1).f1) ((rd_T100 l0_0 a1).f2)) = some (r1, r2, r3) := by rw [if_neg (show ¬ (false = true) by decide)] at H; exact H
      clear H
      have H := H1
      clear H1
      have H' := am H
      clear H
      go_wp2
      go_loopg [6] kj4 (fun kq v6 w' => ∃ (x6_2 : Int) (x172000_2 : Int) (x172001_2 : Int) (x172002_2 : Int), v6 = .int .i64 x6_2 ∧ Aside0 (spec_l04Func.l0 kq a1 x6_2 l0_0 ((rd_T100 l0_0 a1).f0) ((rd_T100 l0_0 a1).f1) ((rd_T100 l0_0 a1).f2) = some (r1, r2, r3)) ∧ Aside0 (kq ≤ kj4) ∧ Aside0 (w'.heap[gb170]? = some (.cells #[(.slice (some ad172) l0_0.length c0_0)] 30 (0, 0))) ∧ Aside0 (w'.heap[gb171]? = some (.cells #[.int .i64 x172000_2, .int .i64 x172001_2, .int .i64 x172002_2] 84 (0, 0))) ∧ Aside0 (w'.heap[gb173]? = some (.cells #[.int .i64 ((rd_T100 l0_0 a1).f0), .int .i64 ((rd_T100 l0_0 a1).f1), (.slice A172_2 ((rd_T100 l0_0 a1).f2).length c172_2)] 100 (0, 0))) ∧ Aside0 (Below w.heap.size w w'))
      case atStart => exact ⟨(0), (0), (0), (0), dr, H', ⟨Nat.le_refl _⟩, ⟨bp BK170⟩, ⟨bp BK171⟩, ⟨bp BK173⟩, ⟨bw HB⟩⟩
      case round =>
       clear H'
       (try clear c1); (try clear p1); (try clear q1); (try clear hx1); (try clear c2); (try clear p2); (try clear c3); (try clear c3b0); (try clear c4); (try clear c4b0); (try clear c8); (try clear c11); (try clear c12); (try clear c14); (try clear c14b0); (try clear c15); (try clear c16); (try clear c17); (try clear p17); (try clear q17); (try clear hx17); (try clear c18); (try clear c18b0); (try clear c19); (try clear c20); (try clear c22); (try clear c22b0); (try clear c23); (try clear c24); (try clear c26); (try clear c26b0); (try clear c27); (try clear c28); (try clear c30); (try clear c30b0); (try clear c30b1); (try clear c31); (try clear c32); (try clear c34); (try clear c35); (try clear c37); (try clear c38); (try clear c39); (try clear hcz13_0); (try clear hcz13_1); (try clear hcz13_2); (try clear hcz17_0); (try clear hcz17_1); (try clear hcz17_2); (try clear hcz21_0); (try clear hcz21_1); (try clear hcz21_2); (try clear hcz25_0); (try clear hcz25_1); (try clear hcz25_2); (try clear hcz29_0); (try clear hcz29_1); (try clear hcz29_2); (try clear hcz33_0); (try clear hcz33_1); (try clear hcz33_2); (try clear hcz36_0); (try clear hcz36_1); (try clear hcz36_2); (try clear hcz40_0); (try clear hcz40_1); (try clear hcz40_2); (try clear hcz9_0); (try clear hfz13_0); (try clear hfz13_1); (try clear hfz13_2); (try clear hfz17_0); (try clear hfz17_1); (try clear hfz17_2); (try clear hfz21_0); (try clear hfz21_1); (try clear hfz21_2); (try clear hfz25_0); (try clear hfz25_1); (try clear hfz25_2); (try clear hfz29_0); (try clear hfz29_1); (try clear hfz29_2); (try clear hfz33_0); (try clear hfz33_1); (try clear hfz33_2); (try clear hfz36_0); (try clear hfz36_1); (try clear hfz36_2); (try clear hfz40_0); (try clear hfz40_1); (try clear hfz40_2); (try clear hfz9_0); (try clear hx172_0); (try clear hx172_1); (try clear hx172_2); (try clear p1); (try clear p17); (try clear p172); (try clear p2); (try clear q1); (try clear q17); (try clear q172)
       obtain ⟨x6_2, x172000_2, x172001_2, x172002_2, rfl, HA, HK2, BK170, BK171, BK173, HB⟩ := hrel
       cases gk with
       | zero => exact absurd HA.out (by simp [spec_l04Func.l0])
       | succ k2 =>
        have H := HA.out
        clear HA
        simp only [spec_l04Func.l0] at H
        by_cases c41 : x6_2 < (((rd_T100 l0_0 a1).f2).length : Int)
        ·rw [if_pos c41] at H
         have c41b0 : decide (x6_2 < (((rd_T100 l0_0 a1).f2).length : Int)) = true := decide_eq_true c41
         clear c41
         by_cases c42 : 0 ≤ x6_2
         ·rw [if_pos c42] at H
          have c42b0 : decide (0 ≤ x6_2) = true := decide_eq_true c42
          clear c42
          replace H := Option.bind_eq_some_iff.mp H
          obtain ⟨t175, A430, H⟩ := H
          replace H : (if t175 = true then (spec_l04Func.l0 k2 a1 (wrap64 (x6_2 + 1)) l0_0 ((rd_T100 l0_0 a1).f0) ((rd_T100 l0_0 a1).f1) ((rd_T100 l0_0 a1).f2)) else (some (a1, x6_2, 1))) = some (r1, r2, r3) := H
          have A43 := am A430
          clear A430
          by_cases c44 : t175 = true
          ·subst c44
           have H1 : (spec_l04Func.l0 k2 a1 (wrap64 (x6_2 + 1)) l0_0 ((rd_T100 l0_0 a1).f0) ((rd_T100 l0_0 a1).f1) ((rd_T100 l0_0 a1).f2)) = some (r1, r2, r3) := by rw [if_pos rfl] at H; exact H
           clear H
           have H := H1
           clear H1
           have H' := am H
           clear H
           have hnb45 := NB173_170.out
           have hnc45 := NB170_173.out
           have hnb46 := NB173_171.out
           have hnc46 := NB171_173.out
           have hcz47_0 : wr.cell? ⟨gb173, 0, none⟩ = some (.int .i64 ((rd_T100 l0_0 a1).f0)) := (blk_cell BK173.out 0).trans rfl
           have hcz47_1 : wr.cell? ⟨gb173, 1, none⟩ = some (.int .i64 ((rd_T100 l0_0 a1).f1)) := (blk_cell BK173.out 1).trans rfl
           have hcz47_2 : wr.cell? ⟨gb173, 2, none⟩ = some (.slice A172_2 ((rd_T100 l0_0 a1).f2).length c172_2) := (blk_cell BK173.out 2).trans rfl
           have hfz47_0 := blk_frozen BK173.out 0
           have hfz47_1 := blk_frozen BK173.out 1
           have hfz47_2 := blk_frozen BK173.out 2
           try go_wp2
           have n0_ := am (blk_drew BK170.out)
           have n1_ := am (blk_drew BK171.out)
           have n2_ := am (blk_drew BK173.out)
           have n3_ := am (below_drew1 HB.out)
           clear BK170
           clear BK171
           clear BK173
           clear HB
           have BK170 := n0_
           have BK171 := n1_
           have BK173 := n2_
           have HB := n3_
           clear n0_ n1_ n2_ n3_
           have p174 : 0 ≤ (x6_2 : Int) := of_decide_eq_true as1
           have q174 : x6_2 < (((rd_T100 l0_0 a1).f2).length : Int) := of_decide_eq_true as1
           obtain ⟨ad174, e174, hx174_0, hx174_1⟩ := at_T102 HR172_2.out x6_2 p174 q174
           have hw174_1 := hx174_1
           have hw174_0 := hx174_0
           cases e174
           replace hx174_0 := (HB.out.cell (World.block_lt_of_cell? w _ hx174_0)).trans hx174_0
           replace hx174_1 := (HB.out.cell (World.block_lt_of_cell? w _ hx174_1)).trans hx174_1
           replace p174 := eq_true p174
           replace q174 := eq_true q174
           refine start_ (n := 9) (S := fun w' => w'.cell? ⟨gb170, 0, none⟩ = some (.slice (some ad172) l0_0.length c0_0) ∧ w'.cell? ⟨gb173, 0, none⟩ = some (.int .i64 ((rd_T100 l0_0 a1).f0)) ∧ w'.cell? ⟨gb173, 1, none⟩ = some (.int .i64 ((rd_T100 l0_0 a1).f1)) ∧ w'.cell? ⟨gb173, 2, none⟩ = some (.slice (some ad174) ((rd_T100 l0_0 a1).f2).length c172_2) ∧ w'.cell? (ad174.add ((x6_2).toNat * 2)) = some (.int .i64 ((rd_T102 ((rd_T100 l0_0 a1).f2) x6_2).f0)) ∧ w'.cell? ⟨(ad174.add ((x6_2).toNat * 2)).block, (ad174.add ((x6_2).toNat * 2)).off + 1, none⟩ = some (.int .i64 ((rd_T102 ((rd_T100 l0_0 a1).f2) x6_2).f1))) (ds := []) #[false, false, false, false, false, false, false, false, false] (by kernel_rfl) rfl rfl ⟨(blk_cell BK170.out 0).trans rfl, (blk_cell BK173.out 0).trans rfl, (blk_cell BK173.out 1).trans rfl, (blk_cell BK173.out 2).trans rfl, ((HB.out.cell (World.block_lt_of_cell? _ _ hw174_0)).trans hw174_0), ((HB.out.cell (World.block_lt_of_cell? _ _ hw174_1)).trans hw174_1)⟩ (fun hHeld => ?_); refine with_tabW spec_l04Func.tab7 spec_l04Func.bits7 (fun HT_ HW_ => ?_)
           generalize wr.drew = w48 at BK170 BK171 BK173 HB hx174_0 hx174_1 hHeld ⊢
           refine pure_ (i := 1) (N := some 56) (v := ?_) (a' := ?_) #[false, true, false, false, false, false, false, false, false] rfl rfl (any_of HT_.out (by kernel_rfl)) (fun _ _ _ h => h) (Or.inl ⟨by rfl, ?_⟩) ?_ ?_
           rotate_left
           ·intro w'
            go_simp
            with_reducible rfl
           rotate_left
           ·simp only [Act.put, sa, sz, ss, i64_w, i32_w]
            rfl
           refine pure_ (i := 2) (N := some 57) (v := ?_) (a' := ?_) #[false, true, true, false, false, false, false, false, false] rfl rfl (any_of HT_.out (by kernel_rfl)) (fun _ _ _ h => h) (Or.inl ⟨by rfl, ?_⟩) ?_ ?_
           rotate_left
           ·intro w'
            go_simp
            with_reducible rfl
           rotate_left
           ·simp only [Act.put, sa, sz, ss, i64_w, i32_w]
            rfl
           refine pure_ (i := 4) (N := some 59) (v := ?_) (a' := ?_) #[false, true, true, false, true, false, false, false, false] rfl rfl (any_of HT_.out (by kernel_rfl)) (fun _ _ _ h => h) (Or.inl ⟨by rfl, ?_⟩) ?_ ?_
           rotate_left
           ·intro w'
            go_simp
            with_reducible rfl
           rotate_left
           ·simp only [Act.put, sa, sz, ss, i64_w, i32_w]
            rfl
           refine take_ (i := 0) (N := some 55) (v := ?_) (a' := ?_) #[true, true, true, false, true, false, false, false, false] rfl rfl (take_ofW HT_.out HW_.out (by kernel_rfl)) (fun _ _ _ h => h) (Or.inl ⟨by rfl, ?_⟩) hHeld ?_ ?_
           rotate_left
           ·rintro w' ⟨s0, s1, s2, s3, s4, s5⟩
            go_simp
            with_reducible rfl
           rotate_left
           ·simp only [Act.put, sa, sz, ss, i64_w, i32_w]
            rfl
           refine take_ (i := 3) (N := some 58) (v := ?_) (a' := ?_) #[true, true, true, true, true, false, false, false, false] rfl rfl (take_ofW HT_.out HW_.out (by kernel_rfl)) (fun _ _ _ h => h) (Or.inl ⟨by rfl, ?_⟩) hHeld ?_ ?_
           rotate_left
           ·rintro w' ⟨s0, s1, s2, s3, s4, s5⟩
            go_simp
            with_reducible rfl
           rotate_left
           ·simp only [Act.put, sa, sz, ss, i64_w, i32_w]
            rfl
           refine pure_ (i := 5) (N := some 60) (v := ?_) (a' := ?_) #[true, true, true, true, true, true, false, false, false] rfl rfl (any_of HT_.out (by kernel_rfl)) (fun _ _ _ h => h) (Or.inl ⟨by rfl, ?_⟩) ?_ ?_
           rotate_left
           ·intro w'
            go_simp
            with_reducible rfl
           rotate_left
           ·simp only [Act.put, sa, sz, ss, i64_w, i32_w]
            rfl
           refine take_ (i := 6) (N := some 61) (v := ?_) (a' := ?_) #[true, true, true, true, true, true, true, false, false] rfl rfl (take_ofW HT_.out HW_.out (by kernel_rfl)) (fun _ _ _ h => h) (Or.inl ⟨by rfl, ?_⟩) hHeld ?_ ?_
           rotate_left
           ·rintro w' ⟨s0, s1, s2, s3, s4, s5⟩
            go_simp
            with_reducible rfl
           rotate_left
           ·simp only [Act.put, sa, sz, ss, i64_w, i32_w]
            rfl
           refine one_ (i := 7) (N := some 62) #[true, true, true, true, true, true, true, true, false] rfl rfl (one_of HT_.out (by kernel_rfl)) (by decide) (fun K hK => ?_)
           refine goes_ Try.func191 (by kernel_rfl) rfl #[.agg #[.slice (some ad172) l0_0.length c0_0], .int .i64 a1, .agg #[.int .i64 ((rd_T102 ((rd_T100 l0_0 a1).f2) x6_2).f0), .int .i64 ((rd_T102 ((rd_T100 l0_0 a1).f2) x6_2).f1)]] (by rfl) rfl rfl gl ?_
           with_reducible refine (spec_InsRight.calls k2 _ _ l0_0 a1 ((rd_T102 ((rd_T100 l0_0 a1).f2) x6_2).f0) ((rd_T102 ((rd_T100 l0_0 a1).f2) x6_2).f1) true _ ?side1 ?side2 A43.out).mono ?_
           (case side1 => exact cc (Kd.C_below HR0_0.out HB.out))
           (case side2 => exact HC0_0.out)
           rintro e w49 ⟨rfl, hb⟩
           refine ⟨_, rfl, ?_⟩
           have n0_ := am (blk_below (g := gb170) (o := .cells #[.slice (some ad172) l0_0.length c0_0] 30 (0, 0)) (bp BK170) hb)
           have n1_ := am (blk_below (g := gb171) (o := .cells #[.int .i64 x172000_2, .int .i64 x172001_2, .int .i64 x172002_2] 84 (0, 0)) (bp BK171) hb)
           have n2_ := am (blk_below (g := gb173) (o := .cells #[.int .i64 ((rd_T100 l0_0 a1).f0), .int .i64 ((rd_T100 l0_0 a1).f1), .slice (some ad174) ((rd_T100 l0_0 a1).f2).length c172_2] 100 (0, 0)) (bp BK173) hb)
           have n3_ := am (below_step (bw HB) hb)
           clear BK170
           clear BK171
           clear BK173
           clear HB
           have BK170 := n0_
           have BK171 := n1_
           have BK173 := n2_
           have HB := n3_
           clear n0_ n1_ n2_ n3_
           (try clear hb)
           (try clear hb2)
           (try clear hk)
           (try clear hi)
           refine hK.out _ _ ⟨(blk_cell BK170.out 0).trans rfl, (blk_cell BK173.out 0).trans rfl, (blk_cell BK173.out 1).trans rfl, (blk_cell BK173.out 2).trans rfl, ((HB.out.cell (World.block_lt_of_cell? _ _ hw174_0)).trans hw174_0), ((HB.out.cell (World.block_lt_of_cell? _ _ hw174_1)).trans hw174_1)⟩ (fun hHeld => ?_)
           clear hK K
           refine norm_ (a' := ?_) ?_ ?_
           rotate_left
           ·show Act.put _ (some 62) _ = _
            simp only [Act.put, sa, sz, ss, i64_w, i32_w]
            rfl
           refine pure_ (i := 8) (N := some 63) (v := ?_) (a' := ?_) #[true, true, true, true, true, true, true, true, true] rfl rfl (any_of HT_.out (by kernel_rfl)) (fun _ _ _ h => h) (Or.inl ⟨by rfl, ?_⟩) ?_ ?_
           rotate_left
           ·intro w'
            go_simp
            with_reducible rfl
           rotate_left
           ·simp only [Act.put, sa, sz, ss, i64_w, i32_w]
            rfl
           refine done_ (done_of HT_.out (by kernel_rfl)) ?_
           try go_wp2
           go_roundg k2
           case measure => have := HJ4.out; have := HK2.out; omega
           case rel => exact ⟨(wrap64 (x6_2 + 1)), (x172000_2), (x172001_2), (x172002_2), dr, H', ⟨by have := HJ4.out; have := HK2.out; omega⟩, ⟨bp BK170⟩, ⟨bp BK171⟩, ⟨bp BK173⟩, ⟨bw HB⟩⟩
          ·replace c44 := Bool.eq_false_iff.mpr c44
           subst c44
           have H1 : (some (a1, x6_2, 1)) = some (r1, r2, r3) := by rw [if_neg (show ¬ (false = true) by decide)] at H; exact H
           clear H
           have H := H1
           clear H1
           simp only [Option.some.injEq, Prod.mk.injEq] at H
           obtain ⟨rfl, rfl, rfl⟩ := H
           have hnb50 := NB173_170.out
           have hnc50 := NB170_173.out
           have hnb51 := NB173_171.out
           have hnc51 := NB171_173.out
           have hcz52_0 : wr.cell? ⟨gb173, 0, none⟩ = some (.int .i64 ((rd_T100 l0_0 a1).f0)) := (blk_cell BK173.out 0).trans rfl
           have hcz52_1 : wr.cell? ⟨gb173, 1, none⟩ = some (.int .i64 ((rd_T100 l0_0 a1).f1)) := (blk_cell BK173.out 1).trans rfl
           have hcz52_2 : wr.cell? ⟨gb173, 2, none⟩ = some (.slice A172_2 ((rd_T100 l0_0 a1).f2).length c172_2) := (blk_cell BK173.out 2).trans rfl
           have hfz52_0 := blk_frozen BK173.out 0
           have hfz52_1 := blk_frozen BK173.out 1
           have hfz52_2 := blk_frozen BK173.out 2
           try go_wp2
           have n0_ := am (blk_drew BK170.out)
           have n1_ := am (blk_drew BK171.out)
           have n2_ := am (blk_drew BK173.out)
           have n3_ := am (below_drew1 HB.out)
           clear BK170
           clear BK171
           clear BK173
           clear HB
           have BK170 := n0_
           have BK171 := n1_
           have BK173 := n2_
           have HB := n3_
           clear n0_ n1_ n2_ n3_
           have p174 : 0 ≤ (x6_2 : Int) := of_decide_eq_true as1
           have q174 : x6_2 < (((rd_T100 l0_0 a1).f2).length : Int) := of_decide_eq_true as1
           obtain ⟨ad174, e174, hx174_0, hx174_1⟩ := at_T102 HR172_2.out x6_2 p174 q174
           have hw174_1 := hx174_1
           have hw174_0 := hx174_0
           cases e174
           replace hx174_0 := (HB.out.cell (World.block_lt_of_cell? w _ hx174_0)).trans hx174_0
           replace hx174_1 := (HB.out.cell (World.block_lt_of_cell? w _ hx174_1)).trans hx174_1
           replace p174 := eq_true p174
           replace q174 := eq_true q174
           refine start_ (n := 9) (S := fun w' => w'.cell? ⟨gb170, 0, none⟩ = some (.slice (some ad172) l0_0.length c0_0) ∧ w'.cell? ⟨gb173, 0, none⟩ = some (.int .i64 ((rd_T100 l0_0 a1).f0)) ∧ w'.cell? ⟨gb173, 1, none⟩ = some (.int .i64 ((rd_T100 l0_0 a1).f1)) ∧ w'.cell? ⟨gb173, 2, none⟩ = some (.slice (some ad174) ((rd_T100 l0_0 a1).f2).length c172_2) ∧ w'.cell? (ad174.add ((x6_2).toNat * 2)) = some (.int .i64 ((rd_T102 ((rd_T100 l0_0 a1).f2) x6_2).f0)) ∧ w'.cell? ⟨(ad174.add ((x6_2).toNat * 2)).block, (ad174.add ((x6_2).toNat * 2)).off + 1, none⟩ = some (.int .i64 ((rd_T102 ((rd_T100 l0_0 a1).f2) x6_2).f1))) (ds := []) #[false, false, false, false, false, false, false, false, false] (by kernel_rfl) rfl rfl ⟨(blk_cell BK170.out 0).trans rfl, (blk_cell BK173.out 0).trans rfl, (blk_cell BK173.out 1).trans rfl, (blk_cell BK173.out 2).trans rfl, ((HB.out.cell (World.block_lt_of_cell? _ _ hw174_0)).trans hw174_0), ((HB.out.cell (World.block_lt_of_cell? _ _ hw174_1)).trans hw174_1)⟩ (fun hHeld => ?_); refine with_tabW spec_l04Func.tab7 spec_l04Func.bits7 (fun HT_ HW_ => ?_)
           generalize wr.drew = w53 at BK170 BK171 BK173 HB hx174_0 hx174_1 hHeld ⊢
           refine pure_ (i := 1) (N := some 56) (v := ?_) (a' := ?_) #[false, true, false, false, false, false, false, false, false] rfl rfl (any_of HT_.out (by kernel_rfl)) (fun _ _ _ h => h) (Or.inl ⟨by rfl, ?_⟩) ?_ ?_
           rotate_left
           ·intro w'
            go_simp
            with_reducible rfl
           rotate_left
           ·simp only [Act.put, sa, sz, ss, i64_w, i32_w]
            rfl
           refine pure_ (i := 2) (N := some 57) (v := ?_) (a' := ?_) #[false, true, true, false, false, false, false, false, false] rfl rfl (any_of HT_.out (by kernel_rfl)) (fun _ _ _ h => h) (Or.inl ⟨by rfl, ?_⟩) ?_ ?_
           rotate_left
           ·intro w'
            go_simp
            with_reducible rfl
           rotate_left
           ·simp only [Act.put, sa, sz, ss, i64_w, i32_w]
            rfl
           refine pure_ (i := 4) (N := some 59) (v := ?_) (a' := ?_) #[false, true, true, false, true, false, false, false, false] rfl rfl (any_of HT_.out (by kernel_rfl)) (fun _ _ _ h => h) (Or.inl ⟨by rfl, ?_⟩) ?_ ?_
           rotate_left
           ·intro w'
            go_simp
            with_reducible rfl
           rotate_left
           ·simp only [Act.put, sa, sz, ss, i64_w, i32_w]
            rfl
           refine take_ (i := 0) (N := some 55) (v := ?_) (a' := ?_) #[true, true, true, false, true, false, false, false, false] rfl rfl (take_ofW HT_.out HW_.out (by kernel_rfl)) (fun _ _ _ h => h) (Or.inl ⟨by rfl, ?_⟩) hHeld ?_ ?_
           rotate_left
           ·rintro w' ⟨s0, s1, s2, s3, s4, s5⟩
            go_simp
            with_reducible rfl
           rotate_left
           ·simp only [Act.put, sa, sz, ss, i64_w, i32_w]
            rfl
           refine take_ (i := 3) (N := some 58) (v := ?_) (a' := ?_) #[true, true, true, true, true, false, false, false, false] rfl rfl (take_ofW HT_.out HW_.out (by kernel_rfl)) (fun _ _ _ h => h) (Or.inl ⟨by rfl, ?_⟩) hHeld ?_ ?_
           rotate_left
           ·rintro w' ⟨s0, s1, s2, s3, s4, s5⟩
            go_simp
            with_reducible rfl
           rotate_left
           ·simp only [Act.put, sa, sz, ss, i64_w, i32_w]
            rfl
           refine pure_ (i := 5) (N := some 60) (v := ?_) (a' := ?_) #[true, true, true, true, true, true, false, false, false] rfl rfl (any_of HT_.out (by kernel_rfl)) (fun _ _ _ h => h) (Or.inl ⟨by rfl, ?_⟩) ?_ ?_
           rotate_left
           ·intro w'
            go_simp
            with_reducible rfl
           rotate_left
           ·simp only [Act.put, sa, sz, ss, i64_w, i32_w]
            rfl
           refine take_ (i := 6) (N := some 61) (v := ?_) (a' := ?_) #[true, true, true, true, true, true, true, false, false] rfl rfl (take_ofW HT_.out HW_.out (by kernel_rfl)) (fun _ _ _ h => h) (Or.inl ⟨by rfl, ?_⟩) hHeld ?_ ?_
           rotate_left
           ·rintro w' ⟨s0, s1, s2, s3, s4, s5⟩
            go_simp
            with_reducible rfl
           rotate_left
           ·simp only [Act.put, sa, sz, ss, i64_w, i32_w]
            rfl
           refine one_ (i := 7) (N := some 62) #[true, true, true, true, true, true, true, true, false] rfl rfl (one_of HT_.out (by kernel_rfl)) (by decide) (fun K hK => ?_)
           refine goes_ Try.func191 (by kernel_rfl) rfl #[.agg #[.slice (some ad172) l0_0.length c0_0], .int .i64 a1, .agg #[.int .i64 ((rd_T102 ((rd_T100 l0_0 a1).f2) x6_2).f0), .int .i64 ((rd_T102 ((rd_T100 l0_0 a1).f2) x6_2).f1)]] (by rfl) rfl rfl gl ?_
           with_reducible refine (spec_InsRight.calls k2 _ _ l0_0 a1 ((rd_T102 ((rd_T100 l0_0 a1).f2) x6_2).f0) ((rd_T102 ((rd_T100 l0_0 a1).f2) x6_2).f1) false _ ?side1 ?side2 A43.out).mono ?_
           (case side1 => exact cc (Kd.C_below HR0_0.out HB.out))
           (case side2 => exact HC0_0.out)
           rintro e w54 ⟨rfl, hb⟩
           refine ⟨_, rfl, ?_⟩
           have n0_ := am (blk_below (g := gb170) (o := .cells #[.slice (some ad172) l0_0.length c0_0] 30 (0, 0)) (bp BK170) hb)
           have n1_ := am (blk_below (g := gb171) (o := .cells #[.int .i64 x172000_2, .int .i64 x172001_2, .int .i64 x172002_2] 84 (0, 0)) (bp BK171) hb)
           have n2_ := am (blk_below (g := gb173) (o := .cells #[.int .i64 ((rd_T100 l0_0 a1).f0), .int .i64 ((rd_T100 l0_0 a1).f1), .slice (some ad174) ((rd_T100 l0_0 a1).f2).length c172_2] 100 (0, 0)) (bp BK173) hb)
           have n3_ := am (below_step (bw HB) hb)
           clear BK170
           clear BK171
           clear BK173
           clear HB
           have BK170 := n0_
           have BK171 := n1_
           have BK173 := n2_
           have HB := n3_
           clear n0_ n1_ n2_ n3_
           (try clear hb)
           (try clear hb2)
           (try clear hk)
           (try clear hi)
           refine hK.out _ _ ⟨(blk_cell BK170.out 0).trans rfl, (blk_cell BK173.out 0).trans rfl, (blk_cell BK173.out 1).trans rfl, (blk_cell BK173.out 2).trans rfl, ((HB.out.cell (World.block_lt_of_cell? _ _ hw174_0)).trans hw174_0), ((HB.out.cell (World.block_lt_of_cell? _ _ hw174_1)).trans hw174_1)⟩ (fun hHeld => ?_)
           clear hK K
           refine norm_ (a' := ?_) ?_ ?_
           rotate_left
           ·show Act.put _ (some 62) _ = _
            simp only [Act.put, sa, sz, ss, i64_w, i32_w]
            rfl
           refine pure_ (i := 8) (N := some 63) (v := ?_) (a' := ?_) #[true, true, true, true, true, true, true, true, true] rfl rfl (any_of HT_.out (by kernel_rfl)) (fun _ _ _ h => h) (Or.inl ⟨by rfl, ?_⟩) ?_ ?_
           rotate_left
           ·intro w'
            go_simp
            with_reducible rfl
           rotate_left
           ·simp only [Act.put, sa, sz, ss, i64_w, i32_w]
            rfl
           refine done_ (done_of HT_.out (by kernel_rfl)) ?_
           have hnb55 := NB171_170.out
           have hnc55 := NB170_171.out
           have hcz56_0 : w54.cell? ⟨gb171, 0, none⟩ = some (.int .i64 x172000_2) := (blk_cell BK171.out 0).trans rfl
           have hcz56_1 : w54.cell? ⟨gb171, 1, none⟩ = some (.int .i64 x172001_2) := (blk_cell BK171.out 1).trans rfl
           have hcz56_2 : w54.cell? ⟨gb171, 2, none⟩ = some (.int .i64 x172002_2) := (blk_cell BK171.out 2).trans rfl
           have hfz56_0 := blk_frozen BK171.out 0
           have hfz56_1 := blk_frozen BK171.out 1
           have hfz56_2 := blk_frozen BK171.out 2
           try go_wp2
           refine bodyPost_ret (results_cell_row rfl _ _ gb171 84 #[.int .i64 a1, .int .i64 x6_2, .int .i64 1] (0, 0) _ rfl (by (with_reducible repeat (first | apply dN | apply dW | apply dA)); refine blk_put (cs := #[.int .i64 a1, .int .i64 x6_2, .int .i64 x172002_2]) ?_ 2 _ rfl; (with_reducible repeat (first | apply dN | apply dW | apply dA)); refine blk_put (cs := #[.int .i64 a1, .int .i64 x172001_2, .int .i64 x172002_2]) ?_ 1 _ rfl; (with_reducible repeat (first | apply dN | apply dW | apply dA)); refine blk_put (cs := #[.int .i64 x172000_2, .int .i64 x172001_2, .int .i64 x172002_2]) ?_ 0 _ rfl; exact bp BK171) Try.underlying84 rfl (by kernel_rfl)) rfl ?_
           exact ⟨er, bw HB⟩
         ·rw [if_neg c42] at H
          exact absurd H (by simp)
        ·rw [if_neg c41] at H
         have c41b0 : decide (x6_2 < (((rd_T100 l0_0 a1).f2).length : Int)) = false := decide_eq_false c41
         clear c41
         replace H := Option.bind_eq_some_iff.mp H
         obtain ⟨⟨t176, t179, t180, t181⟩, A570, H⟩ := H
         replace H : (some (t179, t180, t181)) = some (r1, r2, r3) := H
         have A57 := am A570
         clear A570
         simp only [Option.some.injEq, Prod.mk.injEq] at H
         obtain ⟨rfl, rfl, rfl⟩ := H
         have hnb58 := NB173_170.out
         have hnc58 := NB170_173.out
         have hnb59 := NB173_171.out
         have hnc59 := NB171_173.out
         have hcz60_0 : wr.cell? ⟨gb173, 0, none⟩ = some (.int .i64 ((rd_T100 l0_0 a1).f0)) := (blk_cell BK173.out 0).trans rfl
         have hcz60_1 : wr.cell? ⟨gb173, 1, none⟩ = some (.int .i64 ((rd_T100 l0_0 a1).f1)) := (blk_cell BK173.out 1).trans rfl
         have hcz60_2 : wr.cell? ⟨gb173, 2, none⟩ = some (.slice A172_2 ((rd_T100 l0_0 a1).f2).length c172_2) := (blk_cell BK173.out 2).trans rfl
         have hfz60_0 := blk_frozen BK173.out 0
         have hfz60_1 := blk_frozen BK173.out 1
         have hfz60_2 := blk_frozen BK173.out 2
         have hnb61 := NB170_171.out
         have hnc61 := NB171_170.out
         have hcz62_0 : wr.cell? ⟨gb170, 0, none⟩ = some (.slice (some ad172) l0_0.length c0_0) := (blk_cell BK170.out 0).trans rfl
         have hfz62_0 := blk_frozen BK170.out 0
         go_wp2_with (first | ((with_reducible refine gate_callee (f := 58) rfl ?_); refine goesL_ (some 70) rfl rfl Try.func58 (by kernel_rfl) rfl #[.agg #[.slice (some ad172) l0_0.length c0_0], .int .i64 a1] rfl gl ?_; (with_reducible refine (spec_l04Heights.calls k2 _ _ l0_0 a1 t176 t179 t180 t181 _ ?side1 ?side2 A57.out).mono ?_); (case side1 => exact cc (Kd.C_below HR0_0.out HB.out)); (case side2 => exact HC0_0.out); rintro e w63 ⟨v177, rfl, ho0, hb⟩; refine ⟨_, rfl, ?_⟩; have n0_ := am (Kd.R_lower ho0 (below_size (bw HB))); have n1_ := am (blk_below (g := gb170) (o := .cells #[.slice (some ad172) l0_0.length c0_0] 30 (0, 0)) (bp BK170) hb); have n2_ := am (blk_below (g := gb171) (o := .cells #[.int .i64 x172000_2, .int .i64 x172001_2, .int .i64 x172002_2] 84 (0, 0)) (bp BK171) hb); have n3_ := am (blk_below (g := gb173) (o := .cells #[.int .i64 ((rd_T100 l0_0 a1).f0), .int .i64 ((rd_T100 l0_0 a1).f1), .slice A172_2 ((rd_T100 l0_0 a1).f2).length c172_2] 100 (0, 0)) (bp BK173) hb); have n4_ := am (below_step (bw HB) hb); clear BK170; clear BK171; clear BK173; clear HB; have HO178 := n0_; have BK170 := n1_; have BK171 := n2_; have BK173 := n3_; have HB := n4_; clear n0_ n1_ n2_ n3_ n4_; (try clear hb); (try clear hb2); (try clear hk); (try clear hi); (try clear ho0)) | ((with_reducible refine gate_dst (N := 8) rfl ?_); (try (refine gate_guard (by rfl) ?_; dsimp only)); refine box_event ?hg (N := 8) ?hd (cs := #[.int .i64 0, .int .i64 0, .int .i64 0]) (t := 84) ?hr ?_; (case hd => rfl); (case hg => rfl); (case hr => exact gs); intro gb182 hg w64 hbox hb; have n0_ := am (Kd.R_below (kR HO178) hb); have n1_ := am (blk_below (g := gb170) (o := .cells #[.slice (some ad172) l0_0.length c0_0] 30 (0, 0)) (bp BK170) hb); have n2_ := am (blk_below (g := gb171) (o := .cells #[.int .i64 x172000_2, .int .i64 x172001_2, .int .i64 x172002_2] 84 (0, 0)) (bp BK171) hb); have n3_ := am (blk_below (g := gb173) (o := .cells #[.int .i64 ((rd_T100 l0_0 a1).f0), .int .i64 ((rd_T100 l0_0 a1).f1), .slice A172_2 ((rd_T100 l0_0 a1).f2).length c172_2] 100 (0, 0)) (bp BK173) hb); have n4_ := am (below_step (bw HB) hb); have n5_ := am (hbox); have n6_ := am ((by rw [hg]; exact (below_size (bw HB)) : w.heap.size ≤ gb182)); have n7_ := am ((by rw [hg]; exact (below_size (bw HB)) : w.heap.size ≤ gb182)); have n8_ := am ((by rw [hg]; exact Nat.ne_of_lt (blk_lt (g := gb170) (o := .cells #[.slice (some ad172) l0_0.length c0_0] 30 (0, 0)) (bp BK170)) : gb170 ≠ gb182)); have n9_ := am ((by rw [hg]; exact Nat.ne_of_gt (blk_lt (g := gb170) (o := .cells #[.slice (some ad172) l0_0.length c0_0] 30 (0, 0)) (bp BK170)) : gb182 ≠ gb170)); have n10_ := am ((by rw [hg]; exact Nat.ne_of_lt (blk_lt (g := gb171) (o := .cells #[.int .i64 x172000_2, .int .i64 x172001_2, .int .i64 x172002_2] 84 (0, 0)) (bp BK171)) : gb171 ≠ gb182)); have n11_ := am ((by rw [hg]; exact Nat.ne_of_gt (blk_lt (g := gb171) (o := .cells #[.int .i64 x172000_2, .int .i64 x172001_2, .int .i64 x172002_2] 84 (0, 0)) (bp BK171)) : gb182 ≠ gb171)); have n12_ := am ((by rw [hg]; exact Nat.ne_of_lt (blk_lt (g := gb173) (o := .cells #[.int .i64 ((rd_T100 l0_0 a1).f0), .int .i64 ((rd_T100 l0_0 a1).f1), .slice A172_2 ((rd_T100 l0_0 a1).f2).length c172_2] 100 (0, 0)) (bp BK173)) : gb173 ≠ gb182)); have n13_ := am ((by rw [hg]; exact Nat.ne_of_gt (blk_lt (g := gb173) (o := .cells #[.int .i64 ((rd_T100 l0_0 a1).f0), .int .i64 ((rd_T100 l0_0 a1).f1), .slice A172_2 ((rd_T100 l0_0 a1).f2).length c172_2] 100 (0, 0)) (bp BK173)) : gb182 ≠ gb173)); clear HO178; clear BK170; clear BK171; clear BK173; clear HB; have HO178 := n0_; have BK170 := n1_; have BK171 := n2_; have BK173 := n3_; have HB := n4_; have BK182 := n5_; have GW182 := n6_; have GE182 := n7_; have NB170_182 := n8_; have NB182_170 := n9_; have NB171_182 := n10_; have NB182_171 := n11_; have NB173_182 := n12_; have NB182_173 := n13_; clear n0_ n1_ n2_ n3_ n4_ n5_ n6_ n7_ n8_ n9_ n10_ n11_ n12_ n13_; clear hb hbox hg; have hnb65 := NB182_170.out; have hnc65 := NB170_182.out; have hnb66 := NB182_171.out; have hnc66 := NB171_182.out; have hnb67 := NB182_173.out; have hnc67 := NB173_182.out; have hcz68_0 : w64.cell? ⟨gb182, 0, none⟩ = some (.int .i64 0) := (blk_cell BK182.out 0).trans rfl; have hcz68_1 : w64.cell? ⟨gb182, 1, none⟩ = some (.int .i64 0) := (blk_cell BK182.out 1).trans rfl; have hcz68_2 : w64.cell? ⟨gb182, 2, none⟩ = some (.int .i64 0) := (blk_cell BK182.out 2).trans rfl; have hfz68_0 := blk_frozen BK182.out 0; have hfz68_1 := blk_frozen BK182.out 1; have hfz68_2 := blk_frozen BK182.out 2; have hcz69_0 : w64.cell? ⟨gb171, 0, none⟩ = some (.int .i64 x172000_2) := (blk_cell BK171.out 0).trans rfl; have hcz69_1 : w64.cell? ⟨gb171, 1, none⟩ = some (.int .i64 x172001_2) := (blk_cell BK171.out 1).trans rfl; have hcz69_2 : w64.cell? ⟨gb171, 2, none⟩ = some (.int .i64 x172002_2) := (blk_cell BK171.out 2).trans rfl; have hfz69_0 := blk_frozen BK171.out 0; have hfz69_1 := blk_frozen BK171.out 1; have hfz69_2 := blk_frozen BK171.out 2))
         refine bodyPost_ret (results_cell_row rfl _ _ gb171 84 #[.int .i64 t179, .int .i64 t180, .int .i64 t181] (0, 0) _ rfl (by (with_reducible repeat (first | apply dN | apply dW | apply dA)); refine blk_put (cs := #[.int .i64 t179, .int .i64 t180, .int .i64 x172002_2]) ?_ 2 _ rfl; (with_reducible repeat (first | apply dN | apply dW | apply dA)); refine blk_put (cs := #[.int .i64 t179, .int .i64 x172001_2, .int .i64 x172002_2]) ?_ 1 _ rfl; (with_reducible repeat (first | apply dN | apply dW | apply dA)); refine blk_put (cs := #[.int .i64 x172000_2, .int .i64 x172001_2, .int .i64 x172002_2]) ?_ 0 _ rfl; (with_reducible repeat (first | apply dN | apply dW | apply dA)); refine blk_far ?_ NB171_182.out _; (with_reducible repeat (first | apply dN | apply dW | apply dA)); refine blk_far ?_ NB171_182.out _; (with_reducible repeat (first | apply dN | apply dW | apply dA)); refine blk_far ?_ NB171_182.out _; exact bp BK171) Try.underlying84 rfl (by kernel_rfl)) rfl ?_
         exact ⟨er, bw HB⟩
  ·rw [if_neg c4] at H
   exact absurd H (by simp)
 ·rw [if_neg c3] at H
  exact absurd H (by simp)

/-! ### spec_Verify: function 124 -/
mutual
def spec_Verify.j0 : Nat → Bool → List (S100) → Option (Int × Int × Int)
 | 0, _, _ => none
 | k + 1, x14, x184000 => if x14 = true then (some (0, 0, 1)) else (spec_Verify.l0 k 0 x184000)
def spec_Verify.l0 : Nat → Int → List (S100) → Option (Int × Int × Int)
 | 0, _, _ => none
 | k + 1, x3, x184000 => if x3 < (x184000.length : Int) then ((spec_l04Func.f k x184000 x3).bind fun bt185 => (if bt185.2.2 = 0 then (spec_Verify.l0 k (wrap64 (x3 + 1)) x184000) else (some (bt185.1, bt185.2.1, bt185.2.2)))) else (some (0, 0, 0))
end
def spec_Verify.f (k : Nat) (l0_0 : List (S100)) : Option (Int × Int × Int) := if (l0_0.length : Int) < 1 then (spec_Verify.j0 k true l0_0) else (spec_Verify.j0 k (decide ((l0_0.length : Int) > 6)) l0_0)
theorem spec_Verify.mono_l : ∀ k, (∀ y0 y1, LeO (spec_Verify.j0 k y0 y1) (spec_Verify.j0 (k + 1) y0 y1)) ∧ (∀ y0 y1, LeO (spec_Verify.l0 k y0 y1) (spec_Verify.l0 (k + 1) y0 y1))
 | 0 => ⟨fun _ _ r h => by simp [spec_Verify.j0] at h, fun _ _ r h => by simp [spec_Verify.l0] at h⟩
 | k + 1 => by
  obtain ⟨ih0, ih1⟩ := spec_Verify.mono_l k
  refine ⟨?_, ?_⟩
  ·intro y0 y1
   unfold spec_Verify.j0
   repeat' first
   | (with_reducible exact ih0 _ _)
   | (with_reducible exact ih1 _ _)
   | (with_reducible exact spec_l04Func.mono _ _ _)
   | (with_reducible exact LeO.refl _)
   | (with_reducible exact LeO.none _)
   | (with_reducible refine LeO.ite ?_ ?_)
   | (with_reducible refine LeO.bind ?_ (fun _ => ?_))
   | exact ih0 _ _
   | exact ih1 _ _
   | exact spec_l04Func.mono _ _ _
   | exact LeO.none _
   | refine LeO.ite ?_ ?_
   | refine LeO.bind ?_ (fun _ => ?_)
  ·intro y0 y1
   unfold spec_Verify.l0
   repeat' first
   | (with_reducible exact ih0 _ _)
   | (with_reducible exact ih1 _ _)
   | (with_reducible exact spec_l04Func.mono _ _ _)
   | (with_reducible exact LeO.refl _)
   | (with_reducible exact LeO.none _)
   | (with_reducible refine LeO.ite ?_ ?_)
   | (with_reducible refine LeO.bind ?_ (fun _ => ?_))
   | exact ih0 _ _
   | exact ih1 _ _
   | exact spec_l04Func.mono _ _ _
   | exact LeO.none _
   | refine LeO.ite ?_ ?_
   | refine LeO.bind ?_ (fun _ => ?_)
theorem spec_Verify.mono : ∀ a0 k, LeO (spec_Verify.f k a0) (spec_Verify.f (k + 1) a0) := by
 intro a0 k
 obtain ⟨ih0, ih1⟩ := spec_Verify.mono_l k
 unfold spec_Verify.f
 repeat' first
   | (with_reducible exact ih0 _ _)
   | (with_reducible exact ih1 _ _)
   | (with_reducible exact spec_l04Func.mono _ _ _)
   | (with_reducible exact LeO.refl _)
   | (with_reducible exact LeO.none _)
   | (with_reducible refine LeO.ite ?_ ?_)
   | (with_reducible refine LeO.bind ?_ (fun _ => ?_))
   | exact ih0 _ _
   | exact ih1 _ _
   | exact spec_l04Func.mono _ _ _
   | exact LeO.none _
   | refine LeO.ite ?_ ?_
   | refine LeO.bind ?_ (fun _ => ?_)
theorem spec_Verify.calls (k : Nat) (A0_0 : Option Addr) (c0_0 : Nat) (l0_0 : List (S100)) (r1 : Int) (r2 : Int) (r3 : Int) (w : World) (hr0_0 : Kd.C k100 w A0_0 l0_0.length l0_0) (hc0_0 : l0_0.length ≤ c0_0) (h : spec_Verify.f k l0_0 = some (r1, r2, r3)) :
  Calls Try.prog 124 #[.agg #[.slice A0_0 l0_0.length c0_0]] w fun e w' => e = .returned (.agg #[.int .i64 r1, .int .i64 r2, .int .i64 r3]) ∧ Below w.heap.size w w' := by
 have hu30 := Try.underlying30
 have hu84 := Try.underlying84
 have HR0_0 := am hr0_0
 have HC0_0 := am hc0_0
 clear hr0_0 hc0_0
 have HB := am (Below.refl w.heap.size w)
 have H : (if (l0_0.length : Int) < 1 then (spec_Verify.j0 k true l0_0) else (spec_Verify.j0 k (decide ((l0_0.length : Int) > 6)) l0_0)) = some (r1, r2, r3) := h
 clear h
 have HC2 := am H
 clear H
 go_enter Try.func124, Try.ntmps124
 go_upto_region 1 with (first | ((with_reducible refine gate_dst (N := 1) rfl ?_); (try (refine gate_guard (by rfl) ?_; dsimp only)); refine box_event ?hg (N := 1) ?hd (cs := #[.slice A0_0 l0_0.length c0_0]) (t := 30) ?hr ?_; (case hd => rfl); (case hg => rfl); (case hr => exact gs); intro gb183 hg w3 hbox hb; have n0_ := am (below_step (bw HB) hb); have n1_ := am (hbox); have n2_ := am ((by rw [hg]; exact (below_size (bw HB)) : w.heap.size ≤ gb183)); have n3_ := am ((by rw [hg]; exact (below_size (bw HB)) : w.heap.size ≤ gb183)); clear HB; have HB := n0_; have BK183 := n1_; have GW183 := n2_; have GE183 := n3_; clear n0_ n1_ n2_ n3_; clear hb hbox hg) | ((with_reducible refine gate_dst (N := 2) rfl ?_); (try (refine gate_guard (by rfl) ?_; dsimp only)); refine box_event ?hg (N := 2) ?hd (cs := #[.int .i64 0, .int .i64 0, .int .i64 0]) (t := 84) ?hr ?_; (case hd => rfl); (case hg => rfl); (case hr => exact gs); intro gb184 hg w4 hbox hb; have n0_ := am (blk_below (g := gb183) (o := .cells #[.slice A0_0 l0_0.length c0_0] 30 (0, 0)) (bp BK183) hb); have n1_ := am (below_step (bw HB) hb); have n2_ := am (hbox); have n3_ := am ((by rw [hg]; exact (below_size (bw HB)) : w.heap.size ≤ gb184)); have n4_ := am ((by rw [hg]; exact (below_size (bw HB)) : w.heap.size ≤ gb184)); have n5_ := am ((by rw [hg]; exact Nat.ne_of_lt (blk_lt (g := gb183) (o := .cells #[.slice A0_0 l0_0.length c0_0] 30 (0, 0)) (bp BK183)) : gb183 ≠ gb184)); have n6_ := am ((by rw [hg]; exact Nat.ne_of_gt (blk_lt (g := gb183) (o := .cells #[.slice A0_0 l0_0.length c0_0] 30 (0, 0)) (bp BK183)) : gb184 ≠ gb183)); clear BK183; clear HB; have BK183 := n0_; have HB := n1_; have BK184 := n2_; have GW184 := n3_; have GE184 := n4_; have NB183_184 := n5_; have NB184_183 := n6_; clear n0_ n1_ n2_ n3_ n4_ n5_ n6_; clear hb hbox hg))
 (try simp only [Act.put, sa, sz, ss])
 go_cut [14] (fun v14 wc => ∃ (kq : Nat) (x14_1 : Bool), v14 = .bool x14_1 ∧ Aside0 (spec_Verify.j0 kq x14_1 l0_0 = some (r1, r2, r3)) ∧ Aside0 (kq ≤ k) ∧ Aside0 (wc.heap[gb183]? = some (.cells #[(.slice A0_0 l0_0.length c0_0)] 30 (0, 0))) ∧ Aside0 (wc.heap[gb184]? = some (.cells #[.int .i64 0, .int .i64 0, .int .i64 0] 84 (0, 0))) ∧ Aside0 (Below w.heap.size w wc))
 case first =>
  have H := HC2.out
  clear HC2
  by_cases c5 : (l0_0.length : Int) < 1
  ·rw [if_pos c5] at H
   have c5b0 : decide ((l0_0.length : Int) < 1) = true := decide_eq_true c5
   have c5b1 : decide (l0_0.length < 1) = true := decide_eq_true (by omega)
   clear c5
   (first | rw [c5b0] | (simp only [i64_w, i32_w]; rw [c5b0]) | skip)
   have H' := am H
   clear H
   have hnb6 := NB183_184.out
   have hnc6 := NB184_183.out
   have hcz7_0 : w4.cell? ⟨gb183, 0, none⟩ = some (.slice A0_0 l0_0.length c0_0) := (blk_cell BK183.out 0).trans rfl
   have hfz7_0 := blk_frozen BK183.out 0
   go_wp2
   go_meet
   case rel => exact ⟨_, (true), dr, H', ⟨by first | omega | exact Nat.le_refl _⟩, ⟨bp BK183⟩, ⟨bp BK184⟩, ⟨bw HB⟩⟩
  ·rw [if_neg c5] at H
   have c5b0 : decide ((l0_0.length : Int) < 1) = false := decide_eq_false c5
   have c5b1 : decide (l0_0.length < 1) = false := decide_eq_false (by omega)
   clear c5
   (first | rw [c5b0] | (simp only [i64_w, i32_w]; rw [c5b0]) | skip)
   have H' := am H
   clear H
   have hnb8 := NB183_184.out
   have hnc8 := NB184_183.out
   have hcz9_0 : w4.cell? ⟨gb183, 0, none⟩ = some (.slice A0_0 l0_0.length c0_0) := (blk_cell BK183.out 0).trans rfl
   have hfz9_0 := blk_frozen BK183.out 0
   go_wp2
   go_meet
   case rel => exact ⟨_, (decide ((l0_0.length : Int) > 6)), dr, H', ⟨by first | omega | exact Nat.le_refl _⟩, ⟨bp BK183⟩, ⟨bp BK184⟩, ⟨bw HB⟩⟩
 case rest =>
  clear HC2
  (try clear c1); (try clear p2); (try clear c5); (try clear c5b0); (try clear c5b1); (try clear c6); (try clear c8); (try clear hcz7_0); (try clear hcz9_0); (try clear hfz7_0); (try clear hfz9_0)
  obtain ⟨kq, x14_1, rfl, HA, HJ1, BK183, BK184, HB⟩ := hcut
  cases kq with
  | zero => exact absurd HA.out (by simp [spec_Verify.j0])
  | succ kj1 =>
   have H := HA.out
   clear HA
   simp only [spec_Verify.j0] at H
   by_cases c10 : x14_1 = true
   ·subst c10
    have H1 : (some (0, 0, 1)) = some (r1, r2, r3) := by rw [if_pos rfl] at H; exact H
    clear H
    have H := H1
    clear H1
    simp only [Option.some.injEq, Prod.mk.injEq] at H
    obtain ⟨rfl, rfl, rfl⟩ := H
    have hnb11 := NB184_183.out
    have hnc11 := NB183_184.out
    have hcz12_0 : wc.cell? ⟨gb184, 0, none⟩ = some (.int .i64 0) := (blk_cell BK184.out 0).trans rfl
    have hcz12_1 : wc.cell? ⟨gb184, 1, none⟩ = some (.int .i64 0) := (blk_cell BK184.out 1).trans rfl
    have hcz12_2 : wc.cell? ⟨gb184, 2, none⟩ = some (.int .i64 0) := (blk_cell BK184.out 2).trans rfl
    have hfz12_0 := blk_frozen BK184.out 0
    have hfz12_1 := blk_frozen BK184.out 1
    have hfz12_2 := blk_frozen BK184.out 2
    go_wp2
    refine bodyPost_ret (results_cell_row rfl _ _ gb184 84 #[.int .i64 0, .int .i64 0, .int .i64 1] (0, 0) _ rfl (by (with_reducible repeat (first | apply dN | apply dW | apply dA)); refine blk_put (cs := #[.int .i64 0, .int .i64 0, .int .i64 0]) ?_ 2 _ rfl; (with_reducible repeat (first | apply dN | apply dW | apply dA)); refine blk_put (cs := #[.int .i64 0, .int .i64 0, .int .i64 0]) ?_ 1 _ rfl; (with_reducible repeat (first | apply dN | apply dW | apply dA)); refine blk_put (cs := #[.int .i64 0, .int .i64 0, .int .i64 0]) ?_ 0 _ rfl; exact bp BK184) Try.underlying84 rfl (by kernel_rfl)) rfl ?_
    exact ⟨er, bw HB⟩
   ·replace c10 := Bool.eq_false_iff.mpr c10
    subst c10
    have H1 : (spec_Verify.l0 kj1 0 l0_0) = some (r1, r2, r3) := by rw [if_neg (show ¬ (false = true) by decide)] at H; exact H
    clear H
    have H := H1
    clear H1
    have H' := am H
    clear H
    go_wp2
    go_loopg [3] kj1 (fun kq v3 w' => ∃ (x3_2 : Int) (x185000_2 : Int) (x185001_2 : Int) (x185002_2 : Int), v3 = .int .i64 x3_2 ∧ Aside0 (spec_Verify.l0 kq x3_2 l0_0 = some (r1, r2, r3)) ∧ Aside0 (kq ≤ kj1) ∧ Aside0 (w'.heap[gb183]? = some (.cells #[(.slice A0_0 l0_0.length c0_0)] 30 (0, 0))) ∧ Aside0 (w'.heap[gb184]? = some (.cells #[.int .i64 x185000_2, .int .i64 x185001_2, .int .i64 x185002_2] 84 (0, 0))) ∧ Aside0 (Below w.heap.size w w'))
    case atStart => exact ⟨(0), (0), (0), (0), dr, H', ⟨Nat.le_refl _⟩, ⟨bp BK183⟩, ⟨bp BK184⟩, ⟨bw HB⟩⟩
    case round =>
     clear H'
     (try clear c1); (try clear p2); (try clear c5); (try clear c5b0); (try clear c5b1); (try clear c6); (try clear c8); (try clear c10); (try clear c11); (try clear c12); (try clear hcz12_0); (try clear hcz12_1); (try clear hcz12_2); (try clear hcz7_0); (try clear hcz9_0); (try clear hfz12_0); (try clear hfz12_1); (try clear hfz12_2); (try clear hfz7_0); (try clear hfz9_0); (try clear p2)
     obtain ⟨x3_2, x185000_2, x185001_2, x185002_2, rfl, HA, HK2, BK183, BK184, HB⟩ := hrel
     cases gk with
     | zero => exact absurd HA.out (by simp [spec_Verify.l0])
     | succ k2 =>
      have H := HA.out
      clear HA
      simp only [spec_Verify.l0] at H
      by_cases c13 : x3_2 < (l0_0.length : Int)
      ·rw [if_pos c13] at H
       have c13b0 : decide (x3_2 < (l0_0.length : Int)) = true := decide_eq_true c13
       clear c13
       replace H := Option.bind_eq_some_iff.mp H
       obtain ⟨⟨t185, t186, t187⟩, A140, H⟩ := H
       replace H : (if t187 = 0 then (spec_Verify.l0 k2 (wrap64 (x3_2 + 1)) l0_0) else (some (t185, t186, t187))) = some (r1, r2, r3) := H
       have A14 := am A140
       clear A140
       by_cases c15 : t187 = 0
       ·rw [if_pos c15] at H
        have c15b0 : (t187 == 0) = true := beq_iff_eq.mpr c15
        have c15b1 : (t187 != 0) = false := bne_eq_false_iff_eq.mpr c15
        clear c15
        have H' := am H
        clear H
        have hnb16 := NB183_184.out
        have hnc16 := NB184_183.out
        have hcz17_0 : wr.cell? ⟨gb183, 0, none⟩ = some (.slice A0_0 l0_0.length c0_0) := (blk_cell BK183.out 0).trans rfl
        have hfz17_0 := blk_frozen BK183.out 0
        go_wp2_with (first | ((with_reducible refine gate_callee (f := 172) rfl ?_); refine goesL_ (some 25) rfl rfl Try.func172 (by kernel_rfl) rfl #[.agg #[.slice A0_0 l0_0.length c0_0], .int .i64 x3_2] rfl gl ?_; (with_reducible refine (spec_l04Func.calls k2 _ _ l0_0 x3_2 t185 t186 t187 _ ?side1 ?side2 A14.out).mono ?_); (case side1 => exact cc (Kd.C_below HR0_0.out HB.out)); (case side2 => exact HC0_0.out); rintro e w18 ⟨rfl, hb⟩; refine ⟨_, rfl, ?_⟩; have n0_ := am (blk_below (g := gb183) (o := .cells #[.slice A0_0 l0_0.length c0_0] 30 (0, 0)) (bp BK183) hb); have n1_ := am (blk_below (g := gb184) (o := .cells #[.int .i64 x185000_2, .int .i64 x185001_2, .int .i64 x185002_2] 84 (0, 0)) (bp BK184) hb); have n2_ := am (below_step (bw HB) hb); clear BK183; clear BK184; clear HB; have BK183 := n0_; have BK184 := n1_; have HB := n2_; clear n0_ n1_ n2_; (try clear hb); (try clear hb2); (try clear hk); (try clear hi)) | ((with_reducible refine gate_dst (N := 4) rfl ?_); (try (refine gate_guard (by rfl) ?_; dsimp only)); refine box_event ?hg (N := 4) ?hd (cs := #[.int .i64 0, .int .i64 0, .int .i64 0]) (t := 84) ?hr ?_; (case hd => rfl); (case hg => rfl); (case hr => exact gs); intro gb188 hg w19 hbox hb; have n0_ := am (blk_below (g := gb183) (o := .cells #[.slice A0_0 l0_0.length c0_0] 30 (0, 0)) (bp BK183) hb); have n1_ := am (blk_below (g := gb184) (o := .cells #[.int .i64 x185000_2, .int .i64 x185001_2, .int .i64 x185002_2] 84 (0, 0)) (bp BK184) hb); have n2_ := am (below_step (bw HB) hb); have n3_ := am (hbox); have n4_ := am ((by rw [hg]; exact (below_size (bw HB)) : w.heap.size ≤ gb188)); have n5_ := am ((by rw [hg]; exact (below_size (bw HB)) : w.heap.size ≤ gb188)); have n6_ := am ((by rw [hg]; exact Nat.ne_of_lt (blk_lt (g := gb183) (o := .cells #[.slice A0_0 l0_0.length c0_0] 30 (0, 0)) (bp BK183)) : gb183 ≠ gb188)); have n7_ := am ((by rw [hg]; exact Nat.ne_of_gt (blk_lt (g := gb183) (o := .cells #[.slice A0_0 l0_0.length c0_0] 30 (0, 0)) (bp BK183)) : gb188 ≠ gb183)); have n8_ := am ((by rw [hg]; exact Nat.ne_of_lt (blk_lt (g := gb184) (o := .cells #[.int .i64 x185000_2, .int .i64 x185001_2, .int .i64 x185002_2] 84 (0, 0)) (bp BK184)) : gb184 ≠ gb188)); have n9_ := am ((by rw [hg]; exact Nat.ne_of_gt (blk_lt (g := gb184) (o := .cells #[.int .i64 x185000_2, .int .i64 x185001_2, .int .i64 x185002_2] 84 (0, 0)) (bp BK184)) : gb188 ≠ gb184)); clear BK183; clear BK184; clear HB; have BK183 := n0_; have BK184 := n1_; have HB := n2_; have BK188 := n3_; have GW188 := n4_; have GE188 := n5_; have NB183_188 := n6_; have NB188_183 := n7_; have NB184_188 := n8_; have NB188_184 := n9_; clear n0_ n1_ n2_ n3_ n4_ n5_ n6_ n7_ n8_ n9_; clear hb hbox hg; have hnb20 := NB188_183.out; have hnc20 := NB183_188.out; have hnb21 := NB188_184.out; have hnc21 := NB184_188.out; have hcz22_0 : w19.cell? ⟨gb188, 0, none⟩ = some (.int .i64 0) := (blk_cell BK188.out 0).trans rfl; have hcz22_1 : w19.cell? ⟨gb188, 1, none⟩ = some (.int .i64 0) := (blk_cell BK188.out 1).trans rfl; have hcz22_2 : w19.cell? ⟨gb188, 2, none⟩ = some (.int .i64 0) := (blk_cell BK188.out 2).trans rfl; have hfz22_0 := blk_frozen BK188.out 0; have hfz22_1 := blk_frozen BK188.out 1; have hfz22_2 := blk_frozen BK188.out 2))
        go_roundg k2
        case measure => have := HJ1.out; have := HK2.out; omega
        case rel => exact ⟨(wrap64 (x3_2 + 1)), (x185000_2), (x185001_2), (x185002_2), dr, H', ⟨by have := HJ1.out; have := HK2.out; omega⟩, ⟨by (with_reducible repeat (first | apply dN | apply dW | apply dA)); refine blk_far ?_ NB183_188.out _; (with_reducible repeat (first | apply dN | apply dW | apply dA)); refine blk_far ?_ NB183_188.out _; (with_reducible repeat (first | apply dN | apply dW | apply dA)); refine blk_far ?_ NB183_188.out _; exact bp BK183⟩, ⟨by (with_reducible repeat (first | apply dN | apply dW | apply dA)); refine blk_far ?_ NB184_188.out _; (with_reducible repeat (first | apply dN | apply dW | apply dA)); refine blk_far ?_ NB184_188.out _; (with_reducible repeat (first | apply dN | apply dW | apply dA)); refine blk_far ?_ NB184_188.out _; exact bp BK184⟩, ⟨bw HB⟩⟩
       ·rw [if_neg c15] at H
        have c15b0 : (t187 == 0) = false := beq_eq_false_iff_ne.mpr c15
        have c15b1 : (t187 != 0) = true := bne_iff_ne.mpr c15
        simp only [Option.some.injEq, Prod.mk.injEq] at H
        obtain ⟨rfl, rfl, rfl⟩ := H
        have hnb23 := NB183_184.out
        have hnc23 := NB184_183.out
        have hcz24_0 : wr.cell? ⟨gb183, 0, none⟩ = some (.slice A0_0 l0_0.length c0_0) := (blk_cell BK183.out 0).trans rfl
        have hfz24_0 := blk_frozen BK183.out 0
        go_wp2_with (first | ((with_reducible refine gate_callee (f := 172) rfl ?_); refine goesL_ (some 25) rfl rfl Try.func172 (by kernel_rfl) rfl #[.agg #[.slice A0_0 l0_0.length c0_0], .int .i64 x3_2] rfl gl ?_; (with_reducible refine (spec_l04Func.calls k2 _ _ l0_0 x3_2 t185 t186 t187 _ ?side1 ?side2 A14.out).mono ?_); (case side1 => exact cc (Kd.C_below HR0_0.out HB.out)); (case side2 => exact HC0_0.out); rintro e w25 ⟨rfl, hb⟩; refine ⟨_, rfl, ?_⟩; have n0_ := am (blk_below (g := gb183) (o := .cells #[.slice A0_0 l0_0.length c0_0] 30 (0, 0)) (bp BK183) hb); have n1_ := am (blk_below (g := gb184) (o := .cells #[.int .i64 x185000_2, .int .i64 x185001_2, .int .i64 x185002_2] 84 (0, 0)) (bp BK184) hb); have n2_ := am (below_step (bw HB) hb); clear BK183; clear BK184; clear HB; have BK183 := n0_; have BK184 := n1_; have HB := n2_; clear n0_ n1_ n2_; (try clear hb); (try clear hb2); (try clear hk); (try clear hi)) | ((with_reducible refine gate_dst (N := 4) rfl ?_); (try (refine gate_guard (by rfl) ?_; dsimp only)); refine box_event ?hg (N := 4) ?hd (cs := #[.int .i64 0, .int .i64 0, .int .i64 0]) (t := 84) ?hr ?_; (case hd => rfl); (case hg => rfl); (case hr => exact gs); intro gb188 hg w26 hbox hb; have n0_ := am (blk_below (g := gb183) (o := .cells #[.slice A0_0 l0_0.length c0_0] 30 (0, 0)) (bp BK183) hb); have n1_ := am (blk_below (g := gb184) (o := .cells #[.int .i64 x185000_2, .int .i64 x185001_2, .int .i64 x185002_2] 84 (0, 0)) (bp BK184) hb); have n2_ := am (below_step (bw HB) hb); have n3_ := am (hbox); have n4_ := am ((by rw [hg]; exact (below_size (bw HB)) : w.heap.size ≤ gb188)); have n5_ := am ((by rw [hg]; exact (below_size (bw HB)) : w.heap.size ≤ gb188)); have n6_ := am ((by rw [hg]; exact Nat.ne_of_lt (blk_lt (g := gb183) (o := .cells #[.slice A0_0 l0_0.length c0_0] 30 (0, 0)) (bp BK183)) : gb183 ≠ gb188)); have n7_ := am ((by rw [hg]; exact Nat.ne_of_gt (blk_lt (g := gb183) (o := .cells #[.slice A0_0 l0_0.length c0_0] 30 (0, 0)) (bp BK183)) : gb188 ≠ gb183)); have n8_ := am ((by rw [hg]; exact Nat.ne_of_lt (blk_lt (g := gb184) (o := .cells #[.int .i64 x185000_2, .int .i64 x185001_2, .int .i64 x185002_2] 84 (0, 0)) (bp BK184)) : gb184 ≠ gb188)); have n9_ := am ((by rw [hg]; exact Nat.ne_of_gt (blk_lt (g := gb184) (o := .cells #[.int .i64 x185000_2, .int .i64 x185001_2, .int .i64 x185002_2] 84 (0, 0)) (bp BK184)) : gb188 ≠ gb184)); clear BK183; clear BK184; clear HB; have BK183 := n0_; have BK184 := n1_; have HB := n2_; have BK188 := n3_; have GW188 := n4_; have GE188 := n5_; have NB183_188 := n6_; have NB188_183 := n7_; have NB184_188 := n8_; have NB188_184 := n9_; clear n0_ n1_ n2_ n3_ n4_ n5_ n6_ n7_ n8_ n9_; clear hb hbox hg; have hnb27 := NB188_183.out; have hnc27 := NB183_188.out; have hnb28 := NB188_184.out; have hnc28 := NB184_188.out; have hcz29_0 : w26.cell? ⟨gb188, 0, none⟩ = some (.int .i64 0) := (blk_cell BK188.out 0).trans rfl; have hcz29_1 : w26.cell? ⟨gb188, 1, none⟩ = some (.int .i64 0) := (blk_cell BK188.out 1).trans rfl; have hcz29_2 : w26.cell? ⟨gb188, 2, none⟩ = some (.int .i64 0) := (blk_cell BK188.out 2).trans rfl; have hfz29_0 := blk_frozen BK188.out 0; have hfz29_1 := blk_frozen BK188.out 1; have hfz29_2 := blk_frozen BK188.out 2; have hcz30_0 : w26.cell? ⟨gb184, 0, none⟩ = some (.int .i64 x185000_2) := (blk_cell BK184.out 0).trans rfl; have hcz30_1 : w26.cell? ⟨gb184, 1, none⟩ = some (.int .i64 x185001_2) := (blk_cell BK184.out 1).trans rfl; have hcz30_2 : w26.cell? ⟨gb184, 2, none⟩ = some (.int .i64 x185002_2) := (blk_cell BK184.out 2).trans rfl; have hfz30_0 := blk_frozen BK184.out 0; have hfz30_1 := blk_frozen BK184.out 1; have hfz30_2 := blk_frozen BK184.out 2))
        refine bodyPost_ret (results_cell_row rfl _ _ gb184 84 #[.int .i64 t185, .int .i64 t186, .int .i64 t187] (0, 0) _ rfl (by (with_reducible repeat (first | apply dN | apply dW | apply dA)); refine blk_put (cs := #[.int .i64 t185, .int .i64 t186, .int .i64 x185002_2]) ?_ 2 _ rfl; (with_reducible repeat (first | apply dN | apply dW | apply dA)); refine blk_put (cs := #[.int .i64 t185, .int .i64 x185001_2, .int .i64 x185002_2]) ?_ 1 _ rfl; (with_reducible repeat (first | apply dN | apply dW | apply dA)); refine blk_put (cs := #[.int .i64 x185000_2, .int .i64 x185001_2, .int .i64 x185002_2]) ?_ 0 _ rfl; (with_reducible repeat (first | apply dN | apply dW | apply dA)); refine blk_far ?_ NB184_188.out _; (with_reducible repeat (first | apply dN | apply dW | apply dA)); refine blk_far ?_ NB184_188.out _; (with_reducible repeat (first | apply dN | apply dW | apply dA)); refine blk_far ?_ NB184_188.out _; exact bp BK184) Try.underlying84 rfl (by kernel_rfl)) rfl ?_
        exact ⟨er, bw HB⟩
      ·rw [if_neg c13] at H
       have c13b0 : decide (x3_2 < (l0_0.length : Int)) = false := decide_eq_false c13
       clear c13
       simp only [Option.some.injEq, Prod.mk.injEq] at H
       obtain ⟨rfl, rfl, rfl⟩ := H
       have hnb31 := NB183_184.out
       have hnc31 := NB184_183.out
       have hcz32_0 : wr.cell? ⟨gb183, 0, none⟩ = some (.slice A0_0 l0_0.length c0_0) := (blk_cell BK183.out 0).trans rfl
       have hfz32_0 := blk_frozen BK183.out 0
       have hcz33_0 : wr.cell? ⟨gb184, 0, none⟩ = some (.int .i64 x185000_2) := (blk_cell BK184.out 0).trans rfl
       have hcz33_1 : wr.cell? ⟨gb184, 1, none⟩ = some (.int .i64 x185001_2) := (blk_cell BK184.out 1).trans rfl
       have hcz33_2 : wr.cell? ⟨gb184, 2, none⟩ = some (.int .i64 x185002_2) := (blk_cell BK184.out 2).trans rfl
       have hfz33_0 := blk_frozen BK184.out 0
       have hfz33_1 := blk_frozen BK184.out 1
       have hfz33_2 := blk_frozen BK184.out 2
       go_wp2
       refine bodyPost_ret (results_cell_row rfl _ _ gb184 84 #[.int .i64 0, .int .i64 0, .int .i64 0] (0, 0) _ rfl (by (with_reducible repeat (first | apply dN | apply dW | apply dA)); refine blk_put (cs := #[.int .i64 0, .int .i64 0, .int .i64 x185002_2]) ?_ 2 _ rfl; (with_reducible repeat (first | apply dN | apply dW | apply dA)); refine blk_put (cs := #[.int .i64 0, .int .i64 x185001_2, .int .i64 x185002_2]) ?_ 1 _ rfl; (with_reducible repeat (first | apply dN | apply dW | apply dA)); refine blk_put (cs := #[.int .i64 x185000_2, .int .i64 x185001_2, .int .i64 x185002_2]) ?_ 0 _ rfl; exact bp BK184) Try.underlying84 rfl (by kernel_rfl)) rfl ?_
       exact ⟨er, bw HB⟩

/-! ### spec_l04Right: function 63 -/
def spec_l04Right.f (k : Nat) (l0_0 : List (S100)) : Option (Bool) := (spec_Verify.f k l0_0).bind fun bt190 => (some (bt190.2.2 == 0))
theorem spec_l04Right.mono : ∀ a0 k, LeO (spec_l04Right.f k a0) (spec_l04Right.f (k + 1) a0) := by
 intro a0 k
 unfold spec_l04Right.f
 repeat' first
   | (with_reducible exact spec_Verify.mono _ _)
   | (with_reducible exact LeO.refl _)
   | (with_reducible exact LeO.none _)
   | (with_reducible refine LeO.ite ?_ ?_)
   | (with_reducible refine LeO.bind ?_ (fun _ => ?_))
   | exact spec_Verify.mono _ _
   | exact LeO.none _
   | refine LeO.ite ?_ ?_
   | refine LeO.bind ?_ (fun _ => ?_)
theorem spec_l04Right.calls (k : Nat) (A0_0 : Option Addr) (c0_0 : Nat) (l0_0 : List (S100)) (r : Bool) (w : World) (hr0_0 : Kd.C k100 w A0_0 l0_0.length l0_0) (hc0_0 : l0_0.length ≤ c0_0) (h : spec_l04Right.f k l0_0 = some r) :
  Calls Try.prog 63 #[.agg #[.slice A0_0 l0_0.length c0_0]] w fun e w' => e = .returned (.bool r) ∧ Below w.heap.size w w' := by
 have hu30 := Try.underlying30
 have hu84 := Try.underlying84
 have hfd84_2 : ∀ (v0_ v1_ v2_ : Value) (W : World), (Instr.field 84 (.agg #[v0_, v1_, v2_]) 2).run Try.prog W = .ok (v2_) W := fun v0_ v1_ v2_ W => by kernel_rfl
 have HR0_0 := am hr0_0
 have HC0_0 := am hc0_0
 clear hr0_0 hc0_0
 have HB := am (Below.refl w.heap.size w)
 have H : ((spec_Verify.f k l0_0).bind fun bt190 => (some (bt190.2.2 == 0))) = some r := h
 clear h
 replace H := Option.bind_eq_some_iff.mp H
 obtain ⟨⟨t190, t191, t192⟩, A20, H⟩ := H
 replace H : (some (t192 == 0)) = some r := H
 have A2 := am A20
 clear A20
 obtain rfl := Option.some.inj H
 go_enter Try.func63, Try.ntmps63
 go_wp2_with (first | ((with_reducible refine gate_dst (N := 1) rfl ?_); refine box_event ?hg (N := 1) ?hd (cs := #[.slice A0_0 l0_0.length c0_0]) (t := 30) ?hr ?_; (case hd => rfl); (case hg => rfl); (case hr => exact gs); intro gb189 hg w3 hbox hb; have n0_ := am (below_step (bw HB) hb); have n1_ := am (hbox); have n2_ := am ((by rw [hg]; exact (below_size (bw HB)) : w.heap.size ≤ gb189)); have n3_ := am ((by rw [hg]; exact (below_size (bw HB)) : w.heap.size ≤ gb189)); clear HB; have HB := n0_; have BK189 := n1_; have GW189 := n2_; have GE189 := n3_; clear n0_ n1_ n2_ n3_; clear hb hbox hg; have hcz4_0 : w3.cell? ⟨gb189, 0, none⟩ = some (.slice A0_0 l0_0.length c0_0) := (blk_cell BK189.out 0).trans rfl; have hfz4_0 := blk_frozen BK189.out 0) | ((with_reducible refine gate_callee (f := 124) rfl ?_); refine goesL_ (some 4) rfl rfl Try.func124 (by kernel_rfl) rfl #[.agg #[.slice A0_0 l0_0.length c0_0]] rfl gl ?_; (with_reducible refine (spec_Verify.calls k _ _ l0_0 t190 t191 t192 _ ?side1 ?side2 A2.out).mono ?_); (case side1 => exact cc (Kd.C_below HR0_0.out HB.out)); (case side2 => exact HC0_0.out); rintro e w5 ⟨rfl, hb⟩; refine ⟨_, rfl, ?_⟩; have n0_ := am (blk_below (g := gb189) (o := .cells #[.slice A0_0 l0_0.length c0_0] 30 (0, 0)) (bp BK189) hb); have n1_ := am (below_step (bw HB) hb); clear BK189; clear HB; have BK189 := n0_; have HB := n1_; clear n0_ n1_; (try clear hb); (try clear hb2); (try clear hk); (try clear hi)))
 go_ret
 exact ⟨er, bw HB⟩

end Go.Proofs.Ytbmjmaahcaoajaa.QFnExactHeights
