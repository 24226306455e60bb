-- Written by this session's own program (wip/tools/xprint.py) on the seat's printed words. Lean checks it.
import Derived.Test.YtbmjmaahcaoajaaCFnExactHeightsx0
import Derived.Test.YtbmjmaahcaoajaaCFnExactHeightsx6
namespace Go.Proofs.Ytbmjmaahcaoajaa.QFnExactHeights
open Go.RowKit Go.Proofs.YtbmjmaahcaoajaaW.PrintWords Go.Proofs.YtbmjmaahcaoajaaW.PrintLast Go.Proofs.YtbmjmaahcaoajaaW.PrintMore Go.Proofs.YtbmjmaahcaoajaaW.PrintShort Go.Proofs.YtbmjmaahcaoajaaW.PrintIsh
attribute [local go_sem] max2_int min2_int max_two min_two max_three min_three max_four min_four   -- for this text's walks alone
set_option linter.unusedVariables false
set_option maxHeartbeats 8000000
set_option maxRecDepth 100000
set_option linter.unusedSimpArgs false

/-! ### impl_InsRight: function 173 -/
mutual
def impl_InsRight.j0 : Nat → Int → Int → Bool → List (S100) → Int → Int → Option (Bool)
 | 0, _, _, _, _, _, _ => none
 | k + 1, x1, x12, x15, x249000, x250000, x250001 => if x15 = true then (if x250001 ≥ 0 then (if 0 ≤ x1 then (if x1 < (x249000.length : Int) then (some (decide (x250001 < ((rd_T100 x249000 x1).f1)))) else (none)) else (none)) else (some false)) else (if x12 = 30 then (impl_InsRight.j1 k x1 x12 (x12 == 30) x249000 x250000 x250001) else (impl_InsRight.j1 k x1 x12 (x12 == 31) x249000 x250000 x250001))
def impl_InsRight.j1 : Nat → Int → Int → Bool → List (S100) → Int → Int → Option (Bool)
 | 0, _, _, _, _, _, _ => none
 | k + 1, x1, x12, x32, x249000, x250000, x250001 => if x32 = true then (if x250001 ≥ 0 then (if 0 ≤ x1 then (if x1 < (x249000.length : Int) then (some (decide (x250001 < (((rd_T100 x249000 x1).f2).length : Int)))) else (none)) else (none)) else (some false)) else (if x12 = 32 then ((impl_hasFunc.f x249000 x250001).bind fun t253 => (some t253)) else ((impl_OpName.f x250000).bind fun t254 => (if t254.toList = ([] : List UInt8) then (some false) else (some (x250001 == 0)))))
end
def impl_InsRight.f (k : Nat) (l0_0 : List (S100)) (a1 : Int) (a2_0 : Int) (a2_1 : Int) : Option (Bool) := (impl_hasFunc.f l0_0 a1).bind fun t250 => (if t250 = true then (if a2_0 = 1 then (some true) else (if a2_0 = 2 then (impl_InsRight.j0 k a1 a2_0 (a2_0 == 2) l0_0 a2_0 a2_1) else (impl_InsRight.j0 k a1 a2_0 (a2_0 == 3) l0_0 a2_0 a2_1))) else (some false))
theorem impl_InsRight.mono_l : ∀ k, (∀ y0 y1 y2 y3 y4 y5, LeO (impl_InsRight.j0 k y0 y1 y2 y3 y4 y5) (impl_InsRight.j0 (k + 1) y0 y1 y2 y3 y4 y5)) ∧ (∀ y0 y1 y2 y3 y4 y5, LeO (impl_InsRight.j1 k y0 y1 y2 y3 y4 y5) (impl_InsRight.j1 (k + 1) y0 y1 y2 y3 y4 y5))
 | 0 => ⟨fun _ _ _ _ _ _ r h => by simp [impl_InsRight.j0] at h, fun _ _ _ _ _ _ r h => by simp [impl_InsRight.j1] at h⟩
 | k + 1 => by
  obtain ⟨ih0, ih1⟩ := impl_InsRight.mono_l k
  refine ⟨?_, ?_⟩
  ·intro y0 y1 y2 y3 y4 y5
   unfold impl_InsRight.j0
   repeat' first
   | (with_reducible exact ih0 _ _ _ _ _ _)
   | (with_reducible exact ih1 _ _ _ _ _ _)
   | (with_reducible exact LeO.refl _)
   | (with_reducible exact LeO.none _)
   | (with_reducible refine LeO.ite ?_ ?_)
   | (with_reducible refine LeO.bind ?_ (fun _ => ?_))
   | exact ih0 _ _ _ _ _ _
   | exact ih1 _ _ _ _ _ _
   | exact LeO.none _
   | refine LeO.ite ?_ ?_
   | refine LeO.bind ?_ (fun _ => ?_)
  ·intro y0 y1 y2 y3 y4 y5
   unfold impl_InsRight.j1
   repeat' first
   | (with_reducible exact ih0 _ _ _ _ _ _)
   | (with_reducible exact ih1 _ _ _ _ _ _)
   | (with_reducible exact LeO.refl _)
   | (with_reducible exact LeO.none _)
   | (with_reducible refine LeO.ite ?_ ?_)
   | (with_reducible refine LeO.bind ?_ (fun _ => ?_))
   | exact ih0 _ _ _ _ _ _
   | exact ih1 _ _ _ _ _ _
   | exact LeO.none _
   | refine LeO.ite ?_ ?_
   | refine LeO.bind ?_ (fun _ => ?_)
theorem impl_InsRight.mono : ∀ a0 a1 a2 a3 k, LeO (impl_InsRight.f k a0 a1 a2 a3) (impl_InsRight.f (k + 1) a0 a1 a2 a3) := by
 intro a0 a1 a2 a3 k
 obtain ⟨ih0, ih1⟩ := impl_InsRight.mono_l k
 unfold impl_InsRight.f
 repeat' first
   | (with_reducible exact ih0 _ _ _ _ _ _)
   | (with_reducible exact ih1 _ _ _ _ _ _)
   | (with_reducible exact LeO.refl _)
   | (with_reducible exact LeO.none _)
   | (with_reducible refine LeO.ite ?_ ?_)
   | (with_reducible refine LeO.bind ?_ (fun _ => ?_))
   | exact ih0 _ _ _ _ _ _
   | exact ih1 _ _ _ _ _ _
   | exact LeO.none _
   | refine LeO.ite ?_ ?_
   | refine LeO.bind ?_ (fun _ => ?_)
theorem impl_InsRight.calls (k : Nat) (A0_0 : Option Addr) (c0_0 : Nat) (l0_0 : List (S100)) (a1 : Int) (a2_0 : Int) (a2_1 : Int) (r : Bool) (w : World) (hr0_0 : Kd.C k100 w A0_0 l0_0.length l0_0) (hc0_0 : l0_0.length ≤ c0_0) (h : impl_InsRight.f k l0_0 a1 a2_0 a2_1 = some r) :
  Calls Try.prog 173 #[.agg #[.slice A0_0 l0_0.length c0_0], .int .i64 a1, .agg #[.int .i64 a2_0, .int .i64 a2_1]] w fun e w' => e = .returned (.bool r) ∧ Below w.heap.size w w' := by
 have hu30 := Try.underlying30
 have hu102 := Try.underlying102
 have HR0_0 := am hr0_0
 have HC0_0 := am hc0_0
 clear hr0_0 hc0_0
 have HB := am (Below.refl w.heap.size w)
 have H : ((impl_hasFunc.f l0_0 a1).bind fun t250 => (if t250 = true then (if a2_0 = 1 then (some true) else (if a2_0 = 2 then (impl_InsRight.j0 k a1 a2_0 (a2_0 == 2) l0_0 a2_0 a2_1) else (impl_InsRight.j0 k a1 a2_0 (a2_0 == 3) l0_0 a2_0 a2_1))) else (some false))) = some r := h
 clear h
 replace H := Option.bind_eq_some_iff.mp H
 obtain ⟨t250, A40, H⟩ := H
 replace H : (if t250 = true then (if a2_0 = 1 then (some true) else (if a2_0 = 2 then (impl_InsRight.j0 k a1 a2_0 (a2_0 == 2) l0_0 a2_0 a2_1) else (impl_InsRight.j0 k a1 a2_0 (a2_0 == 3) l0_0 a2_0 a2_1))) else (some false)) = some r := H
 have A4 := am A40
 clear A40
 by_cases c5 : t250 = true
 ·subst c5
  have H1 : (if a2_0 = 1 then (some true) else (if a2_0 = 2 then (impl_InsRight.j0 k a1 a2_0 (a2_0 == 2) l0_0 a2_0 a2_1) else (impl_InsRight.j0 k a1 a2_0 (a2_0 == 3) l0_0 a2_0 a2_1))) = some r := by rw [if_pos rfl] at H; exact H
  clear H
  have H := H1
  clear H1
  by_cases c6 : a2_0 = 1
  ·rw [if_pos c6] at H
   have c6b0 : (a2_0 == 1) = true := beq_iff_eq.mpr c6
   have c6b1 : (a2_0 != 1) = false := bne_eq_false_iff_eq.mpr c6
   clear c6
   obtain rfl := Option.some.inj H
   go_enter Try.func173, Try.ntmps173
   go_wp2_with (first | ((with_reducible refine gate_dst (N := 3) rfl ?_); (try (refine gate_guard (by rfl) ?_; dsimp only)); refine box_event ?hg (N := 3) ?hd (cs := #[.slice A0_0 l0_0.length c0_0]) (t := 30) ?hr ?_; (case hd => rfl); (case hg => rfl); (case hr => exact gs); intro gb248 hg w7 hbox hb; have n0_ := am (below_step (bw HB) hb); have n1_ := am (hbox); have n2_ := am ((by rw [hg]; exact (below_size (bw HB)) : w.heap.size ≤ gb248)); have n3_ := am ((by rw [hg]; exact (below_size (bw HB)) : w.heap.size ≤ gb248)); clear HB; have HB := n0_; have BK248 := n1_; have GW248 := n2_; have GE248 := n3_; clear n0_ n1_ n2_ n3_; clear hb hbox hg) | ((with_reducible refine gate_dst (N := 5) rfl ?_); (try (refine gate_guard (by rfl) ?_; dsimp only)); refine box_event ?hg (N := 5) ?hd (cs := #[.int .i64 a2_0, .int .i64 a2_1]) (t := 102) ?hr ?_; (case hd => rfl); (case hg => rfl); (case hr => exact gs); intro gb249 hg w8 hbox hb; have n0_ := am (blk_below (g := gb248) (o := .cells #[.slice A0_0 l0_0.length c0_0] 30 (0, 0)) (bp BK248) hb); have n1_ := am (below_step (bw HB) hb); have n2_ := am (hbox); have n3_ := am ((by rw [hg]; exact (below_size (bw HB)) : w.heap.size ≤ gb249)); have n4_ := am ((by rw [hg]; exact (below_size (bw HB)) : w.heap.size ≤ gb249)); have n5_ := am ((by rw [hg]; exact Nat.ne_of_lt (blk_lt (g := gb248) (o := .cells #[.slice A0_0 l0_0.length c0_0] 30 (0, 0)) (bp BK248)) : gb248 ≠ gb249)); have n6_ := am ((by rw [hg]; exact Nat.ne_of_gt (blk_lt (g := gb248) (o := .cells #[.slice A0_0 l0_0.length c0_0] 30 (0, 0)) (bp BK248)) : gb249 ≠ gb248)); clear BK248; clear HB; have BK248 := n0_; have HB := n1_; have BK249 := n2_; have GW249 := n3_; have GE249 := n4_; have NB248_249 := n5_; have NB249_248 := n6_; clear n0_ n1_ n2_ n3_ n4_ n5_ n6_; clear hb hbox hg; have hnb9 := NB248_249.out; have hnc9 := NB249_248.out; have hcz10_0 : w8.cell? ⟨gb248, 0, none⟩ = some (.slice A0_0 l0_0.length c0_0) := (blk_cell BK248.out 0).trans rfl; have hfz10_0 := blk_frozen BK248.out 0) | (go_at_call 121; (with_reducible refine (impl_hasFunc.calls _ _ l0_0 a1 true _ ?side1 ?side2 A4.out).mono ?_); (case side1 => exact cc (Kd.C_below HR0_0.out HB.out)); (case side2 => exact HC0_0.out); rintro e w11 ⟨rfl, hb⟩; have n0_ := am (blk_below (g := gb248) (o := .cells #[.slice A0_0 l0_0.length c0_0] 30 (0, 0)) (bp BK248) hb); have n1_ := am (blk_below (g := gb249) (o := .cells #[.int .i64 a2_0, .int .i64 a2_1] 102 (0, 0)) (bp BK249) hb); have n2_ := am (below_step (bw HB) hb); clear BK248; clear BK249; clear HB; have BK248 := n0_; have BK249 := n1_; have HB := n2_; clear n0_ n1_ n2_; (try clear hb); (try clear hb2); (try clear hk); (try clear hi); have hcz12_0 : w11.cell? ⟨gb249, 0, none⟩ = some (.int .i64 a2_0) := (blk_cell BK249.out 0).trans rfl; have hcz12_1 : w11.cell? ⟨gb249, 1, none⟩ = some (.int .i64 a2_1) := (blk_cell BK249.out 1).trans rfl; have hfz12_0 := blk_frozen BK249.out 0; have hfz12_1 := blk_frozen BK249.out 1))
   repeat (go_quiet (first | ((with_reducible refine gate_dst (N := 3) rfl ?_); (try (refine gate_guard (by rfl) ?_; dsimp only)); refine box_event ?hg (N := 3) ?hd (cs := #[.slice A0_0 l0_0.length c0_0]) (t := 30) ?hr ?_; (case hd => rfl); (case hg => rfl); (case hr => exact gs); intro gb248 hg w7 hbox hb; have n0_ := am (below_step (bw HB) hb); have n1_ := am (hbox); have n2_ := am ((by rw [hg]; exact (below_size (bw HB)) : w.heap.size ≤ gb248)); have n3_ := am ((by rw [hg]; exact (below_size (bw HB)) : w.heap.size ≤ gb248)); clear HB; have HB := n0_; have BK248 := n1_; have GW248 := n2_; have GE248 := n3_; clear n0_ n1_ n2_ n3_; clear hb hbox hg) | ((with_reducible refine gate_dst (N := 5) rfl ?_); (try (refine gate_guard (by rfl) ?_; dsimp only)); refine box_event ?hg (N := 5) ?hd (cs := #[.int .i64 a2_0, .int .i64 a2_1]) (t := 102) ?hr ?_; (case hd => rfl); (case hg => rfl); (case hr => exact gs); intro gb249 hg w8 hbox hb; have n0_ := am (blk_below (g := gb248) (o := .cells #[.slice A0_0 l0_0.length c0_0] 30 (0, 0)) (bp BK248) hb); have n1_ := am (below_step (bw HB) hb); have n2_ := am (hbox); have n3_ := am ((by rw [hg]; exact (below_size (bw HB)) : w.heap.size ≤ gb249)); have n4_ := am ((by rw [hg]; exact (below_size (bw HB)) : w.heap.size ≤ gb249)); have n5_ := am ((by rw [hg]; exact Nat.ne_of_lt (blk_lt (g := gb248) (o := .cells #[.slice A0_0 l0_0.length c0_0] 30 (0, 0)) (bp BK248)) : gb248 ≠ gb249)); have n6_ := am ((by rw [hg]; exact Nat.ne_of_gt (blk_lt (g := gb248) (o := .cells #[.slice A0_0 l0_0.length c0_0] 30 (0, 0)) (bp BK248)) : gb249 ≠ gb248)); clear BK248; clear HB; have BK248 := n0_; have HB := n1_; have BK249 := n2_; have GW249 := n3_; have GE249 := n4_; have NB248_249 := n5_; have NB249_248 := n6_; clear n0_ n1_ n2_ n3_ n4_ n5_ n6_; clear hb hbox hg; have hnb9 := NB248_249.out; have hnc9 := NB249_248.out; have hcz10_0 : w8.cell? ⟨gb248, 0, none⟩ = some (.slice A0_0 l0_0.length c0_0) := (blk_cell BK248.out 0).trans rfl; have hfz10_0 := blk_frozen BK248.out 0) | (go_at_call 121; (with_reducible refine (impl_hasFunc.calls _ _ l0_0 a1 true _ ?side1 ?side2 A4.out).mono ?_); (case side1 => exact cc (Kd.C_below HR0_0.out HB.out)); (case side2 => exact HC0_0.out); rintro e w11 ⟨rfl, hb⟩; have n0_ := am (blk_below (g := gb248) (o := .cells #[.slice A0_0 l0_0.length c0_0] 30 (0, 0)) (bp BK248) hb); have n1_ := am (blk_below (g := gb249) (o := .cells #[.int .i64 a2_0, .int .i64 a2_1] 102 (0, 0)) (bp BK249) hb); have n2_ := am (below_step (bw HB) hb); clear BK248; clear BK249; clear HB; have BK248 := n0_; have BK249 := n1_; have HB := n2_; clear n0_ n1_ n2_; (try clear hb); (try clear hb2); (try clear hk); (try clear hi); have hcz12_0 : w11.cell? ⟨gb249, 0, none⟩ = some (.int .i64 a2_0) := (blk_cell BK249.out 0).trans rfl; have hcz12_1 : w11.cell? ⟨gb249, 1, none⟩ = some (.int .i64 a2_1) := (blk_cell BK249.out 1).trans rfl; have hfz12_0 := blk_frozen BK249.out 0; have hfz12_1 := blk_frozen BK249.out 1)); try go_wp2_with (first | ((with_reducible refine gate_dst (N := 3) rfl ?_); (try (refine gate_guard (by rfl) ?_; dsimp only)); refine box_event ?hg (N := 3) ?hd (cs := #[.slice A0_0 l0_0.length c0_0]) (t := 30) ?hr ?_; (case hd => rfl); (case hg => rfl); (case hr => exact gs); intro gb248 hg w7 hbox hb; have n0_ := am (below_step (bw HB) hb); have n1_ := am (hbox); have n2_ := am ((by rw [hg]; exact (below_size (bw HB)) : w.heap.size ≤ gb248)); have n3_ := am ((by rw [hg]; exact (below_size (bw HB)) : w.heap.size ≤ gb248)); clear HB; have HB := n0_; have BK248 := n1_; have GW248 := n2_; have GE248 := n3_; clear n0_ n1_ n2_ n3_; clear hb hbox hg) | ((with_reducible refine gate_dst (N := 5) rfl ?_); (try (refine gate_guard (by rfl) ?_; dsimp only)); refine box_event ?hg (N := 5) ?hd (cs := #[.int .i64 a2_0, .int .i64 a2_1]) (t := 102) ?hr ?_; (case hd => rfl); (case hg => rfl); (case hr => exact gs); intro gb249 hg w8 hbox hb; have n0_ := am (blk_below (g := gb248) (o := .cells #[.slice A0_0 l0_0.length c0_0] 30 (0, 0)) (bp BK248) hb); have n1_ := am (below_step (bw HB) hb); have n2_ := am (hbox); have n3_ := am ((by rw [hg]; exact (below_size (bw HB)) : w.heap.size ≤ gb249)); have n4_ := am ((by rw [hg]; exact (below_size (bw HB)) : w.heap.size ≤ gb249)); have n5_ := am ((by rw [hg]; exact Nat.ne_of_lt (blk_lt (g := gb248) (o := .cells #[.slice A0_0 l0_0.length c0_0] 30 (0, 0)) (bp BK248)) : gb248 ≠ gb249)); have n6_ := am ((by rw [hg]; exact Nat.ne_of_gt (blk_lt (g := gb248) (o := .cells #[.slice A0_0 l0_0.length c0_0] 30 (0, 0)) (bp BK248)) : gb249 ≠ gb248)); clear BK248; clear HB; have BK248 := n0_; have HB := n1_; have BK249 := n2_; have GW249 := n3_; have GE249 := n4_; have NB248_249 := n5_; have NB249_248 := n6_; clear n0_ n1_ n2_ n3_ n4_ n5_ n6_; clear hb hbox hg; have hnb9 := NB248_249.out; have hnc9 := NB249_248.out; have hcz10_0 : w8.cell? ⟨gb248, 0, none⟩ = some (.slice A0_0 l0_0.length c0_0) := (blk_cell BK248.out 0).trans rfl; have hfz10_0 := blk_frozen BK248.out 0) | (go_at_call 121; (with_reducible refine (impl_hasFunc.calls _ _ l0_0 a1 true _ ?side1 ?side2 A4.out).mono ?_); (case side1 => exact cc (Kd.C_below HR0_0.out HB.out)); (case side2 => exact HC0_0.out); rintro e w11 ⟨rfl, hb⟩; have n0_ := am (blk_below (g := gb248) (o := .cells #[.slice A0_0 l0_0.length c0_0] 30 (0, 0)) (bp BK248) hb); have n1_ := am (blk_below (g := gb249) (o := .cells #[.int .i64 a2_0, .int .i64 a2_1] 102 (0, 0)) (bp BK249) hb); have n2_ := am (below_step (bw HB) hb); clear BK248; clear BK249; clear HB; have BK248 := n0_; have BK249 := n1_; have HB := n2_; clear n0_ n1_ n2_; (try clear hb); (try clear hb2); (try clear hk); (try clear hi); have hcz12_0 : w11.cell? ⟨gb249, 0, none⟩ = some (.int .i64 a2_0) := (blk_cell BK249.out 0).trans rfl; have hcz12_1 : w11.cell? ⟨gb249, 1, none⟩ = some (.int .i64 a2_1) := (blk_cell BK249.out 1).trans rfl; have hfz12_0 := blk_frozen BK249.out 0; have hfz12_1 := blk_frozen BK249.out 1)))
   go_ret
   exact ⟨er, bw HB⟩
  ·rw [if_neg c6] at H
   have c6b0 : (a2_0 == 1) = false := beq_eq_false_iff_ne.mpr c6
   have c6b1 : (a2_0 != 1) = true := bne_iff_ne.mpr c6
   have HC13 := am H
   clear H
   go_enter Try.func173, Try.ntmps173
   go_upto_if 15 with (first | ((with_reducible refine gate_dst (N := 3) rfl ?_); (try (refine gate_guard (by rfl) ?_; dsimp only)); refine box_event ?hg (N := 3) ?hd (cs := #[.slice A0_0 l0_0.length c0_0]) (t := 30) ?hr ?_; (case hd => rfl); (case hg => rfl); (case hr => exact gs); intro gb248 hg w14 hbox hb; have n0_ := am (below_step (bw HB) hb); have n1_ := am (hbox); have n2_ := am ((by rw [hg]; exact (below_size (bw HB)) : w.heap.size ≤ gb248)); have n3_ := am ((by rw [hg]; exact (below_size (bw HB)) : w.heap.size ≤ gb248)); clear HB; have HB := n0_; have BK248 := n1_; have GW248 := n2_; have GE248 := n3_; clear n0_ n1_ n2_ n3_; clear hb hbox hg) | ((with_reducible refine gate_dst (N := 5) rfl ?_); (try (refine gate_guard (by rfl) ?_; dsimp only)); refine box_event ?hg (N := 5) ?hd (cs := #[.int .i64 a2_0, .int .i64 a2_1]) (t := 102) ?hr ?_; (case hd => rfl); (case hg => rfl); (case hr => exact gs); intro gb249 hg w15 hbox hb; have n0_ := am (blk_below (g := gb248) (o := .cells #[.slice A0_0 l0_0.length c0_0] 30 (0, 0)) (bp BK248) hb); have n1_ := am (below_step (bw HB) hb); have n2_ := am (hbox); have n3_ := am ((by rw [hg]; exact (below_size (bw HB)) : w.heap.size ≤ gb249)); have n4_ := am ((by rw [hg]; exact (below_size (bw HB)) : w.heap.size ≤ gb249)); have n5_ := am ((by rw [hg]; exact Nat.ne_of_lt (blk_lt (g := gb248) (o := .cells #[.slice A0_0 l0_0.length c0_0] 30 (0, 0)) (bp BK248)) : gb248 ≠ gb249)); have n6_ := am ((by rw [hg]; exact Nat.ne_of_gt (blk_lt (g := gb248) (o := .cells #[.slice A0_0 l0_0.length c0_0] 30 (0, 0)) (bp BK248)) : gb249 ≠ gb248)); clear BK248; clear HB; have BK248 := n0_; have HB := n1_; have BK249 := n2_; have GW249 := n3_; have GE249 := n4_; have NB248_249 := n5_; have NB249_248 := n6_; clear n0_ n1_ n2_ n3_ n4_ n5_ n6_; clear hb hbox hg; have hnb16 := NB248_249.out; have hnc16 := NB249_248.out; have hcz17_0 : w15.cell? ⟨gb248, 0, none⟩ = some (.slice A0_0 l0_0.length c0_0) := (blk_cell BK248.out 0).trans rfl; have hfz17_0 := blk_frozen BK248.out 0) | (go_at_call 121; (with_reducible refine (impl_hasFunc.calls _ _ l0_0 a1 true _ ?side1 ?side2 A4.out).mono ?_); (case side1 => exact cc (Kd.C_below HR0_0.out HB.out)); (case side2 => exact HC0_0.out); rintro e w18 ⟨rfl, hb⟩; have n0_ := am (blk_below (g := gb248) (o := .cells #[.slice A0_0 l0_0.length c0_0] 30 (0, 0)) (bp BK248) hb); have n1_ := am (blk_below (g := gb249) (o := .cells #[.int .i64 a2_0, .int .i64 a2_1] 102 (0, 0)) (bp BK249) hb); have n2_ := am (below_step (bw HB) hb); clear BK248; clear BK249; clear HB; have BK248 := n0_; have BK249 := n1_; have HB := n2_; clear n0_ n1_ n2_; (try clear hb); (try clear hb2); (try clear hk); (try clear hi); have hcz19_0 : w18.cell? ⟨gb249, 0, none⟩ = some (.int .i64 a2_0) := (blk_cell BK249.out 0).trans rfl; have hcz19_1 : w18.cell? ⟨gb249, 1, none⟩ = some (.int .i64 a2_1) := (blk_cell BK249.out 1).trans rfl; have hfz19_0 := blk_frozen BK249.out 0; have hfz19_1 := blk_frozen BK249.out 1))
   repeat (go_quiet (first | ((with_reducible refine gate_dst (N := 3) rfl ?_); (try (refine gate_guard (by rfl) ?_; dsimp only)); refine box_event ?hg (N := 3) ?hd (cs := #[.slice A0_0 l0_0.length c0_0]) (t := 30) ?hr ?_; (case hd => rfl); (case hg => rfl); (case hr => exact gs); intro gb248 hg w14 hbox hb; have n0_ := am (below_step (bw HB) hb); have n1_ := am (hbox); have n2_ := am ((by rw [hg]; exact (below_size (bw HB)) : w.heap.size ≤ gb248)); have n3_ := am ((by rw [hg]; exact (below_size (bw HB)) : w.heap.size ≤ gb248)); clear HB; have HB := n0_; have BK248 := n1_; have GW248 := n2_; have GE248 := n3_; clear n0_ n1_ n2_ n3_; clear hb hbox hg) | ((with_reducible refine gate_dst (N := 5) rfl ?_); (try (refine gate_guard (by rfl) ?_; dsimp only)); refine box_event ?hg (N := 5) ?hd (cs := #[.int .i64 a2_0, .int .i64 a2_1]) (t := 102) ?hr ?_; (case hd => rfl); (case hg => rfl); (case hr => exact gs); intro gb249 hg w15 hbox hb; have n0_ := am (blk_below (g := gb248) (o := .cells #[.slice A0_0 l0_0.length c0_0] 30 (0, 0)) (bp BK248) hb); have n1_ := am (below_step (bw HB) hb); have n2_ := am (hbox); have n3_ := am ((by rw [hg]; exact (below_size (bw HB)) : w.heap.size ≤ gb249)); have n4_ := am ((by rw [hg]; exact (below_size (bw HB)) : w.heap.size ≤ gb249)); have n5_ := am ((by rw [hg]; exact Nat.ne_of_lt (blk_lt (g := gb248) (o := .cells #[.slice A0_0 l0_0.length c0_0] 30 (0, 0)) (bp BK248)) : gb248 ≠ gb249)); have n6_ := am ((by rw [hg]; exact Nat.ne_of_gt (blk_lt (g := gb248) (o := .cells #[.slice A0_0 l0_0.length c0_0] 30 (0, 0)) (bp BK248)) : gb249 ≠ gb248)); clear BK248; clear HB; have BK248 := n0_; have HB := n1_; have BK249 := n2_; have GW249 := n3_; have GE249 := n4_; have NB248_249 := n5_; have NB249_248 := n6_; clear n0_ n1_ n2_ n3_ n4_ n5_ n6_; clear hb hbox hg; have hnb16 := NB248_249.out; have hnc16 := NB249_248.out; have hcz17_0 : w15.cell? ⟨gb248, 0, none⟩ = some (.slice A0_0 l0_0.length c0_0) := (blk_cell BK248.out 0).trans rfl; have hfz17_0 := blk_frozen BK248.out 0) | (go_at_call 121; (with_reducible refine (impl_hasFunc.calls _ _ l0_0 a1 true _ ?side1 ?side2 A4.out).mono ?_); (case side1 => exact cc (Kd.C_below HR0_0.out HB.out)); (case side2 => exact HC0_0.out); rintro e w18 ⟨rfl, hb⟩; have n0_ := am (blk_below (g := gb248) (o := .cells #[.slice A0_0 l0_0.length c0_0] 30 (0, 0)) (bp BK248) hb); have n1_ := am (blk_below (g := gb249) (o := .cells #[.int .i64 a2_0, .int .i64 a2_1] 102 (0, 0)) (bp BK249) hb); have n2_ := am (below_step (bw HB) hb); clear BK248; clear BK249; clear HB; have BK248 := n0_; have BK249 := n1_; have HB := n2_; clear n0_ n1_ n2_; (try clear hb); (try clear hb2); (try clear hk); (try clear hi); have hcz19_0 : w18.cell? ⟨gb249, 0, none⟩ = some (.int .i64 a2_0) := (blk_cell BK249.out 0).trans rfl; have hcz19_1 : w18.cell? ⟨gb249, 1, none⟩ = some (.int .i64 a2_1) := (blk_cell BK249.out 1).trans rfl; have hfz19_0 := blk_frozen BK249.out 0; have hfz19_1 := blk_frozen BK249.out 1)); go_upto_if 15 with (first | ((with_reducible refine gate_dst (N := 3) rfl ?_); (try (refine gate_guard (by rfl) ?_; dsimp only)); refine box_event ?hg (N := 3) ?hd (cs := #[.slice A0_0 l0_0.length c0_0]) (t := 30) ?hr ?_; (case hd => rfl); (case hg => rfl); (case hr => exact gs); intro gb248 hg w14 hbox hb; have n0_ := am (below_step (bw HB) hb); have n1_ := am (hbox); have n2_ := am ((by rw [hg]; exact (below_size (bw HB)) : w.heap.size ≤ gb248)); have n3_ := am ((by rw [hg]; exact (below_size (bw HB)) : w.heap.size ≤ gb248)); clear HB; have HB := n0_; have BK248 := n1_; have GW248 := n2_; have GE248 := n3_; clear n0_ n1_ n2_ n3_; clear hb hbox hg) | ((with_reducible refine gate_dst (N := 5) rfl ?_); (try (refine gate_guard (by rfl) ?_; dsimp only)); refine box_event ?hg (N := 5) ?hd (cs := #[.int .i64 a2_0, .int .i64 a2_1]) (t := 102) ?hr ?_; (case hd => rfl); (case hg => rfl); (case hr => exact gs); intro gb249 hg w15 hbox hb; have n0_ := am (blk_below (g := gb248) (o := .cells #[.slice A0_0 l0_0.length c0_0] 30 (0, 0)) (bp BK248) hb); have n1_ := am (below_step (bw HB) hb); have n2_ := am (hbox); have n3_ := am ((by rw [hg]; exact (below_size (bw HB)) : w.heap.size ≤ gb249)); have n4_ := am ((by rw [hg]; exact (below_size (bw HB)) : w.heap.size ≤ gb249)); have n5_ := am ((by rw [hg]; exact Nat.ne_of_lt (blk_lt (g := gb248) (o := .cells #[.slice A0_0 l0_0.length c0_0] 30 (0, 0)) (bp BK248)) : gb248 ≠ gb249)); have n6_ := am ((by rw [hg]; exact Nat.ne_of_gt (blk_lt (g := gb248) (o := .cells #[.slice A0_0 l0_0.length c0_0] 30 (0, 0)) (bp BK248)) : gb249 ≠ gb248)); clear BK248; clear HB; have BK248 := n0_; have HB := n1_; have BK249 := n2_; have GW249 := n3_; have GE249 := n4_; have NB248_249 := n5_; have NB249_248 := n6_; clear n0_ n1_ n2_ n3_ n4_ n5_ n6_; clear hb hbox hg; have hnb16 := NB248_249.out; have hnc16 := NB249_248.out; have hcz17_0 : w15.cell? ⟨gb248, 0, none⟩ = some (.slice A0_0 l0_0.length c0_0) := (blk_cell BK248.out 0).trans rfl; have hfz17_0 := blk_frozen BK248.out 0) | (go_at_call 121; (with_reducible refine (impl_hasFunc.calls _ _ l0_0 a1 true _ ?side1 ?side2 A4.out).mono ?_); (case side1 => exact cc (Kd.C_below HR0_0.out HB.out)); (case side2 => exact HC0_0.out); rintro e w18 ⟨rfl, hb⟩; have n0_ := am (blk_below (g := gb248) (o := .cells #[.slice A0_0 l0_0.length c0_0] 30 (0, 0)) (bp BK248) hb); have n1_ := am (blk_below (g := gb249) (o := .cells #[.int .i64 a2_0, .int .i64 a2_1] 102 (0, 0)) (bp BK249) hb); have n2_ := am (below_step (bw HB) hb); clear BK248; clear BK249; clear HB; have BK248 := n0_; have BK249 := n1_; have HB := n2_; clear n0_ n1_ n2_; (try clear hb); (try clear hb2); (try clear hk); (try clear hi); have hcz19_0 : w18.cell? ⟨gb249, 0, none⟩ = some (.int .i64 a2_0) := (blk_cell BK249.out 0).trans rfl; have hcz19_1 : w18.cell? ⟨gb249, 1, none⟩ = some (.int .i64 a2_1) := (blk_cell BK249.out 1).trans rfl; have hfz19_0 := blk_frozen BK249.out 0; have hfz19_1 := blk_frozen BK249.out 1)))
   (try simp only [Act.put, sa, sz, ss])
   go_cut [15] (fun v15 wc => ∃ (kq : Nat) (x15_12 : Bool), v15 = .bool x15_12 ∧ Aside0 (impl_InsRight.j0 kq a1 a2_0 x15_12 l0_0 a2_0 a2_1 = some r) ∧ Aside0 (kq ≤ k) ∧ Aside0 (wc.heap[gb248]? = some (.cells #[(.slice A0_0 l0_0.length c0_0)] 30 (0, 0))) ∧ Aside0 (wc.heap[gb249]? = some (.cells #[.int .i64 a2_0, .int .i64 a2_1] 102 (0, 0))) ∧ Aside0 (Below w.heap.size w wc))
   case first =>
    have H := HC13.out
    clear HC13
    by_cases c20 : a2_0 = 2
    ·rw [if_pos c20] at H
     have c20b0 : (a2_0 == 2) = true := beq_iff_eq.mpr c20
     have c20b1 : (a2_0 != 2) = false := bne_eq_false_iff_eq.mpr c20
     clear c20
     (first | rw [c20b0] | (simp only [i64_w, i32_w]; rw [c20b0]) | skip)
     have H' := am H
     clear H
     go_wp2
     repeat (go_quiet (fail); try go_wp2)
     go_meet
     case rel => exact ⟨_, ((a2_0 == 2)), dr, H', ⟨by first | omega | exact Nat.le_refl _⟩, ⟨bp BK248⟩, ⟨bp BK249⟩, ⟨bw HB⟩⟩
    ·rw [if_neg c20] at H
     have c20b0 : (a2_0 == 2) = false := beq_eq_false_iff_ne.mpr c20
     have c20b1 : (a2_0 != 2) = true := bne_iff_ne.mpr c20
     (first | rw [c20b0] | (simp only [i64_w, i32_w]; rw [c20b0]) | skip)
     have H' := am H
     clear H
     go_wp2
     repeat (go_quiet (fail); try go_wp2)
     go_meet
     case rel => exact ⟨_, ((a2_0 == 3)), dr, H', ⟨by first | omega | exact Nat.le_refl _⟩, ⟨bp BK248⟩, ⟨bp BK249⟩, ⟨bw HB⟩⟩
   case rest =>
    clear HC13
    (try clear c1); (try clear c2); (try clear p2); (try clear c5); (try clear c6); (try clear c6b0); (try clear c6b1); (try clear c9); (try clear c16); (try clear c17); (try clear c20); (try clear c20b0); (try clear c20b1); (try clear hcz10_0); (try clear hcz12_0); (try clear hcz12_1); (try clear hcz17_0); (try clear hcz19_0); (try clear hcz19_1); (try clear hfz10_0); (try clear hfz12_0); (try clear hfz12_1); (try clear hfz17_0); (try clear hfz19_0); (try clear hfz19_1)
    obtain ⟨kq, x15_12, rfl, HA, HJ12, BK248, BK249, HB⟩ := hcut
    cases kq with
    | zero => exact absurd HA.out (by simp [impl_InsRight.j0])
    | succ kj12 =>
     have H := HA.out
     clear HA
     simp only [impl_InsRight.j0] at H
     by_cases c21 : x15_12 = true
     ·subst c21
      have H1 : (if a2_1 ≥ 0 then (if 0 ≤ a1 then (if a1 < (l0_0.length : Int) then (some (decide (a2_1 < ((rd_T100 l0_0 a1).f1)))) else (none)) else (none)) else (some false)) = some r := by rw [if_pos rfl] at H; exact H
      clear H
      have H := H1
      clear H1
      by_cases c22 : a2_1 ≥ 0
      ·rw [if_pos c22] at H
       have c22b0 : decide (0 ≤ a2_1) = true := decide_eq_true c22
       clear c22
       by_cases c23 : 0 ≤ a1
       ·rw [if_pos c23] at H
        have c23b0 : decide (0 ≤ a1) = true := decide_eq_true c23
        clear c23
        by_cases c24 : a1 < (l0_0.length : Int)
        ·rw [if_pos c24] at H
         have c24b0 : decide (a1 < (l0_0.length : Int)) = true := decide_eq_true c24
         clear c24
         obtain rfl := Option.some.inj H
         have hnb25 := NB249_248.out
         have hnc25 := NB248_249.out
         have hcz26_0 : wc.cell? ⟨gb249, 0, none⟩ = some (.int .i64 a2_0) := (blk_cell BK249.out 0).trans rfl
         have hcz26_1 : wc.cell? ⟨gb249, 1, none⟩ = some (.int .i64 a2_1) := (blk_cell BK249.out 1).trans rfl
         have hfz26_0 := blk_frozen BK249.out 0
         have hfz26_1 := blk_frozen BK249.out 1
         have hcz27_0 : wc.cell? ⟨gb248, 0, none⟩ = some (.slice A0_0 l0_0.length c0_0) := (blk_cell BK248.out 0).trans rfl
         have hfz27_0 := blk_frozen BK248.out 0
         have p251 : 0 ≤ (a1 : Int) := of_decide_eq_true as1
         have q251 : a1 < (l0_0.length : Int) := of_decide_eq_true as1
         obtain ⟨ad251, A251_2, c251_2, e251, hx251_0, hx251_1, hx251_2, hl251_2, hi251_2⟩ := at_T100 HR0_0.out a1 p251 q251
         cases e251
         replace hx251_0 := (HB.out.cell (World.block_lt_of_cell? w _ hx251_0)).trans hx251_0
         replace hx251_1 := (HB.out.cell (World.block_lt_of_cell? w _ hx251_1)).trans hx251_1
         replace hx251_2 := (HB.out.cell (World.block_lt_of_cell? w _ hx251_2)).trans hx251_2
         have HR251_2 := am hi251_2
         have HC251_2 := am hl251_2
         clear hi251_2 hl251_2
         replace p251 := eq_true p251
         replace q251 := eq_true q251
         go_wp2
         repeat (go_quiet (fail); try go_wp2)
         go_ret
         exact ⟨er, bw HB⟩
        ·rw [if_neg c24] at H
         exact absurd H (by simp)
       ·rw [if_neg c23] at H
        exact absurd H (by simp)
      ·rw [if_neg c22] at H
       have c22b0 : decide (0 ≤ a2_1) = false := decide_eq_false c22
       clear c22
       obtain rfl := Option.some.inj H
       have hnb28 := NB249_248.out
       have hnc28 := NB248_249.out
       have hcz29_0 : wc.cell? ⟨gb249, 0, none⟩ = some (.int .i64 a2_0) := (blk_cell BK249.out 0).trans rfl
       have hcz29_1 : wc.cell? ⟨gb249, 1, none⟩ = some (.int .i64 a2_1) := (blk_cell BK249.out 1).trans rfl
       have hfz29_0 := blk_frozen BK249.out 0
       have hfz29_1 := blk_frozen BK249.out 1
       go_wp2
       repeat (go_quiet (fail); try go_wp2)
       go_ret
       exact ⟨er, bw HB⟩
     ·replace c21 := Bool.eq_false_iff.mpr c21
      subst c21
      have H1 : (if a2_0 = 30 then (impl_InsRight.j1 kj12 a1 a2_0 (a2_0 == 30) l0_0 a2_0 a2_1) else (impl_InsRight.j1 kj12 a1 a2_0 (a2_0 == 31) l0_0 a2_0 a2_1)) = some r := by rw [if_neg (show ¬ (false = true) by decide)] at H; exact H
      clear H
      have H := H1
      clear H1
      have HC30 := am H
      clear H
      go_upto_if 32 with (fail)
      repeat (go_quiet (fail); go_upto_if 32 with (fail))
      go_cut [32] (fun v32 wc => ∃ (kq : Nat) (x32_29 : Bool), v32 = .bool x32_29 ∧ Aside0 (impl_InsRight.j1 kq a1 a2_0 x32_29 l0_0 a2_0 a2_1 = some r) ∧ Aside0 (kq ≤ kj12) ∧ Aside0 (wc.heap[gb248]? = some (.cells #[(.slice A0_0 l0_0.length c0_0)] 30 (0, 0))) ∧ Aside0 (wc.heap[gb249]? = some (.cells #[.int .i64 a2_0, .int .i64 a2_1] 102 (0, 0))) ∧ Aside0 (Below w.heap.size w wc))
      case first =>
       have H := HC30.out
       clear HC30
       by_cases c31 : a2_0 = 30
       ·rw [if_pos c31] at H
        have c31b0 : (a2_0 == 30) = true := beq_iff_eq.mpr c31
        have c31b1 : (a2_0 != 30) = false := bne_eq_false_iff_eq.mpr c31
        clear c31
        (first | rw [c31b0] | (simp only [i64_w, i32_w]; rw [c31b0]) | skip)
        have H' := am H
        clear H
        go_wp2
        repeat (go_quiet (fail); try go_wp2)
        go_meet
        case rel => exact ⟨_, ((a2_0 == 30)), dr, H', ⟨by have := HJ12.out; first | omega | exact Nat.le_refl _⟩, ⟨bp BK248⟩, ⟨bp BK249⟩, ⟨bw HB⟩⟩
       ·rw [if_neg c31] at H
        have c31b0 : (a2_0 == 30) = false := beq_eq_false_iff_ne.mpr c31
        have c31b1 : (a2_0 != 30) = true := bne_iff_ne.mpr c31
        (first | rw [c31b0] | (simp only [i64_w, i32_w]; rw [c31b0]) | skip)
        have H' := am H
        clear H
        go_wp2
        repeat (go_quiet (fail); try go_wp2)
        go_meet
        case rel => exact ⟨_, ((a2_0 == 31)), dr, H', ⟨by have := HJ12.out; first | omega | exact Nat.le_refl _⟩, ⟨bp BK248⟩, ⟨bp BK249⟩, ⟨bw HB⟩⟩
      case rest =>
       clear HC30
       (try clear c1); (try clear c2); (try clear p2); (try clear q2); (try clear hx2); (try clear c3); (try clear c5); (try clear c6); (try clear c6b0); (try clear c6b1); (try clear c9); (try clear c16); (try clear c17); (try clear c20); (try clear c20b0); (try clear c20b1); (try clear c21); (try clear c22); (try clear c22b0); (try clear c23); (try clear c23b0); (try clear c24); (try clear c24b0); (try clear c25); (try clear p25); (try clear q25); (try clear hx25); (try clear c28); (try clear c31); (try clear c31b0); (try clear c31b1); (try clear hcz10_0); (try clear hcz12_0); (try clear hcz12_1); (try clear hcz17_0); (try clear hcz19_0); (try clear hcz19_1); (try clear hcz26_0); (try clear hcz26_1); (try clear hcz27_0); (try clear hcz29_0); (try clear hcz29_1); (try clear hfz10_0); (try clear hfz12_0); (try clear hfz12_1); (try clear hfz17_0); (try clear hfz19_0); (try clear hfz19_1); (try clear hfz26_0); (try clear hfz26_1); (try clear hfz27_0); (try clear hfz29_0); (try clear hfz29_1); (try clear hx251_0); (try clear hx251_1); (try clear hx251_2); (try clear p2); (try clear p251); (try clear q251)
       obtain ⟨kq, x32_29, rfl, HA, HJ29, BK248, BK249, HB⟩ := hcut
       cases kq with
       | zero => exact absurd HA.out (by simp [impl_InsRight.j1])
       | succ kj29 =>
        have H := HA.out
        clear HA
        simp only [impl_InsRight.j1] at H
        by_cases c32 : x32_29 = true
        ·subst c32
         have H1 : (if a2_1 ≥ 0 then (if 0 ≤ a1 then (if a1 < (l0_0.length : Int) then (some (decide (a2_1 < (((rd_T100 l0_0 a1).f2).length : Int)))) else (none)) else (none)) else (some false)) = some r := by rw [if_pos rfl] at H; exact H
         clear H
         have H := H1
         clear H1
         by_cases c33 : a2_1 ≥ 0
         ·rw [if_pos c33] at H
          have c33b0 : decide (0 ≤ a2_1) = true := decide_eq_true c33
          clear c33
          by_cases c34 : 0 ≤ a1
          ·rw [if_pos c34] at H
           have c34b0 : decide (0 ≤ a1) = true := decide_eq_true c34
           clear c34
           by_cases c35 : a1 < (l0_0.length : Int)
           ·rw [if_pos c35] at H
            have c35b0 : decide (a1 < (l0_0.length : Int)) = true := decide_eq_true c35
            clear c35
            obtain rfl := Option.some.inj H
            have hnb36 := NB249_248.out
            have hnc36 := NB248_249.out
            have hcz37_0 : wc.cell? ⟨gb249, 0, none⟩ = some (.int .i64 a2_0) := (blk_cell BK249.out 0).trans rfl
            have hcz37_1 : wc.cell? ⟨gb249, 1, none⟩ = some (.int .i64 a2_1) := (blk_cell BK249.out 1).trans rfl
            have hfz37_0 := blk_frozen BK249.out 0
            have hfz37_1 := blk_frozen BK249.out 1
            have hcz38_0 : wc.cell? ⟨gb248, 0, none⟩ = some (.slice A0_0 l0_0.length c0_0) := (blk_cell BK248.out 0).trans rfl
            have hfz38_0 := blk_frozen BK248.out 0
            have p252 : 0 ≤ (a1 : Int) := of_decide_eq_true as1
            have q252 : a1 < (l0_0.length : Int) := of_decide_eq_true as1
            obtain ⟨ad252, A252_2, c252_2, e252, hx252_0, hx252_1, hx252_2, hl252_2, hi252_2⟩ := at_T100 HR0_0.out a1 p252 q252
            cases e252
            replace hx252_0 := (HB.out.cell (World.block_lt_of_cell? w _ hx252_0)).trans hx252_0
            replace hx252_1 := (HB.out.cell (World.block_lt_of_cell? w _ hx252_1)).trans hx252_1
            replace hx252_2 := (HB.out.cell (World.block_lt_of_cell? w _ hx252_2)).trans hx252_2
            have HR252_2 := am hi252_2
            have HC252_2 := am hl252_2
            clear hi252_2 hl252_2
            replace p252 := eq_true p252
            replace q252 := eq_true q252
            go_wp2
            repeat (go_quiet (fail); try go_wp2)
            go_ret
            exact ⟨er, bw HB⟩
           ·rw [if_neg c35] at H
            exact absurd H (by simp)
          ·rw [if_neg c34] at H
           exact absurd H (by simp)
         ·rw [if_neg c33] at H
          have c33b0 : decide (0 ≤ a2_1) = false := decide_eq_false c33
          clear c33
          obtain rfl := Option.some.inj H
          have hnb39 := NB249_248.out
          have hnc39 := NB248_249.out
          have hcz40_0 : wc.cell? ⟨gb249, 0, none⟩ = some (.int .i64 a2_0) := (blk_cell BK249.out 0).trans rfl
          have hcz40_1 : wc.cell? ⟨gb249, 1, none⟩ = some (.int .i64 a2_1) := (blk_cell BK249.out 1).trans rfl
          have hfz40_0 := blk_frozen BK249.out 0
          have hfz40_1 := blk_frozen BK249.out 1
          go_wp2
          repeat (go_quiet (fail); try go_wp2)
          go_ret
          exact ⟨er, bw HB⟩
        ·replace c32 := Bool.eq_false_iff.mpr c32
         subst c32
         have H1 : (if a2_0 = 32 then ((impl_hasFunc.f l0_0 a2_1).bind fun t253 => (some t253)) else ((impl_OpName.f a2_0).bind fun t254 => (if t254.toList = ([] : List UInt8) then (some false) else (some (a2_1 == 0))))) = some r := by rw [if_neg (show ¬ (false = true) by decide)] at H; exact H
         clear H
         have H := H1
         clear H1
         by_cases c41 : a2_0 = 32
         ·rw [if_pos c41] at H
          have c41b0 : (a2_0 == 32) = true := beq_iff_eq.mpr c41
          have c41b1 : (a2_0 != 32) = false := bne_eq_false_iff_eq.mpr c41
          clear c41
          replace H := Option.bind_eq_some_iff.mp H
          obtain ⟨t253, A420, H⟩ := H
          replace H : (some t253) = some r := H
          have A42 := am A420
          clear A420
          obtain rfl := Option.some.inj H
          have hnb43 := NB248_249.out
          have hnc43 := NB249_248.out
          have hcz44_0 : wc.cell? ⟨gb248, 0, none⟩ = some (.slice A0_0 l0_0.length c0_0) := (blk_cell BK248.out 0).trans rfl
          have hfz44_0 := blk_frozen BK248.out 0
          have hcz45_0 : wc.cell? ⟨gb249, 0, none⟩ = some (.int .i64 a2_0) := (blk_cell BK249.out 0).trans rfl
          have hcz45_1 : wc.cell? ⟨gb249, 1, none⟩ = some (.int .i64 a2_1) := (blk_cell BK249.out 1).trans rfl
          have hfz45_0 := blk_frozen BK249.out 0
          have hfz45_1 := blk_frozen BK249.out 1
          go_wp2_with (first | (go_at_call 121; (with_reducible refine (impl_hasFunc.calls _ _ l0_0 a2_1 t253 _ ?side1 ?side2 A42.out).mono ?_); (case side1 => exact cc (Kd.C_below HR0_0.out HB.out)); (case side2 => exact HC0_0.out); rintro e w46 ⟨rfl, hb⟩; have n0_ := am (blk_below (g := gb248) (o := .cells #[.slice A0_0 l0_0.length c0_0] 30 (0, 0)) (bp BK248) hb); have n1_ := am (blk_below (g := gb249) (o := .cells #[.int .i64 a2_0, .int .i64 a2_1] 102 (0, 0)) (bp BK249) hb); have n2_ := am (below_step (bw HB) hb); clear BK248; clear BK249; clear HB; have BK248 := n0_; have BK249 := n1_; have HB := n2_; clear n0_ n1_ n2_; (try clear hb); (try clear hb2); (try clear hk); (try clear hi)))
          repeat (go_quiet (first | (go_at_call 121; (with_reducible refine (impl_hasFunc.calls _ _ l0_0 a2_1 t253 _ ?side1 ?side2 A42.out).mono ?_); (case side1 => exact cc (Kd.C_below HR0_0.out HB.out)); (case side2 => exact HC0_0.out); rintro e w46 ⟨rfl, hb⟩; have n0_ := am (blk_below (g := gb248) (o := .cells #[.slice A0_0 l0_0.length c0_0] 30 (0, 0)) (bp BK248) hb); have n1_ := am (blk_below (g := gb249) (o := .cells #[.int .i64 a2_0, .int .i64 a2_1] 102 (0, 0)) (bp BK249) hb); have n2_ := am (below_step (bw HB) hb); clear BK248; clear BK249; clear HB; have BK248 := n0_; have BK249 := n1_; have HB := n2_; clear n0_ n1_ n2_; (try clear hb); (try clear hb2); (try clear hk); (try clear hi))); try go_wp2_with (first | (go_at_call 121; (with_reducible refine (impl_hasFunc.calls _ _ l0_0 a2_1 t253 _ ?side1 ?side2 A42.out).mono ?_); (case side1 => exact cc (Kd.C_below HR0_0.out HB.out)); (case side2 => exact HC0_0.out); rintro e w46 ⟨rfl, hb⟩; have n0_ := am (blk_below (g := gb248) (o := .cells #[.slice A0_0 l0_0.length c0_0] 30 (0, 0)) (bp BK248) hb); have n1_ := am (blk_below (g := gb249) (o := .cells #[.int .i64 a2_0, .int .i64 a2_1] 102 (0, 0)) (bp BK249) hb); have n2_ := am (below_step (bw HB) hb); clear BK248; clear BK249; clear HB; have BK248 := n0_; have BK249 := n1_; have HB := n2_; clear n0_ n1_ n2_; (try clear hb); (try clear hb2); (try clear hk); (try clear hi))))
          go_ret
          exact ⟨er, bw HB⟩
         ·rw [if_neg c41] at H
          have c41b0 : (a2_0 == 32) = false := beq_eq_false_iff_ne.mpr c41
          have c41b1 : (a2_0 != 32) = true := bne_iff_ne.mpr c41
          replace H := Option.bind_eq_some_iff.mp H
          obtain ⟨t254, A470, H⟩ := H
          replace H : (if t254.toList = ([] : List UInt8) then (some false) else (some (a2_1 == 0))) = some r := H
          have A47 := am A470
          clear A470
          by_cases c48 : t254.toList = ([] : List UInt8)
          ·rw [if_pos c48] at H
           have c48b0 : (t254.toList == ([] : List UInt8)) = true := beq_iff_eq.mpr c48
           have c48b1 : (t254.toList != ([] : List UInt8)) = false := bne_eq_false_iff_eq.mpr c48
           clear c48
           obtain rfl := Option.some.inj H
           have hnb49 := NB249_248.out
           have hnc49 := NB248_249.out
           have hcz50_0 : wc.cell? ⟨gb249, 0, none⟩ = some (.int .i64 a2_0) := (blk_cell BK249.out 0).trans rfl
           have hcz50_1 : wc.cell? ⟨gb249, 1, none⟩ = some (.int .i64 a2_1) := (blk_cell BK249.out 1).trans rfl
           have hfz50_0 := blk_frozen BK249.out 0
           have hfz50_1 := blk_frozen BK249.out 1
           go_wp2_with (first | (go_at_call 192; (with_reducible refine (impl_OpName.calls a2_0 t254 _ A47.out).mono ?_); rintro e w51 ⟨rfl, hb⟩; have n0_ := am (blk_below (g := gb248) (o := .cells #[.slice A0_0 l0_0.length c0_0] 30 (0, 0)) (bp BK248) hb); have n1_ := am (blk_below (g := gb249) (o := .cells #[.int .i64 a2_0, .int .i64 a2_1] 102 (0, 0)) (bp BK249) hb); have n2_ := am (below_step (bw HB) hb); clear BK248; clear BK249; clear HB; have BK248 := n0_; have BK249 := n1_; have HB := n2_; clear n0_ n1_ n2_; (try clear hb); (try clear hb2); (try clear hk); (try clear hi)))
           repeat (go_quiet (first | (go_at_call 192; (with_reducible refine (impl_OpName.calls a2_0 t254 _ A47.out).mono ?_); rintro e w51 ⟨rfl, hb⟩; have n0_ := am (blk_below (g := gb248) (o := .cells #[.slice A0_0 l0_0.length c0_0] 30 (0, 0)) (bp BK248) hb); have n1_ := am (blk_below (g := gb249) (o := .cells #[.int .i64 a2_0, .int .i64 a2_1] 102 (0, 0)) (bp BK249) hb); have n2_ := am (below_step (bw HB) hb); clear BK248; clear BK249; clear HB; have BK248 := n0_; have BK249 := n1_; have HB := n2_; clear n0_ n1_ n2_; (try clear hb); (try clear hb2); (try clear hk); (try clear hi))); try go_wp2_with (first | (go_at_call 192; (with_reducible refine (impl_OpName.calls a2_0 t254 _ A47.out).mono ?_); rintro e w51 ⟨rfl, hb⟩; have n0_ := am (blk_below (g := gb248) (o := .cells #[.slice A0_0 l0_0.length c0_0] 30 (0, 0)) (bp BK248) hb); have n1_ := am (blk_below (g := gb249) (o := .cells #[.int .i64 a2_0, .int .i64 a2_1] 102 (0, 0)) (bp BK249) hb); have n2_ := am (below_step (bw HB) hb); clear BK248; clear BK249; clear HB; have BK248 := n0_; have BK249 := n1_; have HB := n2_; clear n0_ n1_ n2_; (try clear hb); (try clear hb2); (try clear hk); (try clear hi))))
           go_ret
           exact ⟨er, bw HB⟩
          ·rw [if_neg c48] at H
           have c48b0 : (t254.toList == ([] : List UInt8)) = false := beq_eq_false_iff_ne.mpr c48
           have c48b1 : (t254.toList != ([] : List UInt8)) = true := bne_iff_ne.mpr c48
           obtain rfl := Option.some.inj H
           have hnb52 := NB249_248.out
           have hnc52 := NB248_249.out
           have hcz53_0 : wc.cell? ⟨gb249, 0, none⟩ = some (.int .i64 a2_0) := (blk_cell BK249.out 0).trans rfl
           have hcz53_1 : wc.cell? ⟨gb249, 1, none⟩ = some (.int .i64 a2_1) := (blk_cell BK249.out 1).trans rfl
           have hfz53_0 := blk_frozen BK249.out 0
           have hfz53_1 := blk_frozen BK249.out 1
           go_wp2_with (first | (go_at_call 192; (with_reducible refine (impl_OpName.calls a2_0 t254 _ A47.out).mono ?_); rintro e w54 ⟨rfl, hb⟩; have n0_ := am (blk_below (g := gb248) (o := .cells #[.slice A0_0 l0_0.length c0_0] 30 (0, 0)) (bp BK248) hb); have n1_ := am (blk_below (g := gb249) (o := .cells #[.int .i64 a2_0, .int .i64 a2_1] 102 (0, 0)) (bp BK249) hb); have n2_ := am (below_step (bw HB) hb); clear BK248; clear BK249; clear HB; have BK248 := n0_; have BK249 := n1_; have HB := n2_; clear n0_ n1_ n2_; (try clear hb); (try clear hb2); (try clear hk); (try clear hi); have hcz55_0 : w54.cell? ⟨gb249, 0, none⟩ = some (.int .i64 a2_0) := (blk_cell BK249.out 0).trans rfl; have hcz55_1 : w54.cell? ⟨gb249, 1, none⟩ = some (.int .i64 a2_1) := (blk_cell BK249.out 1).trans rfl; have hfz55_0 := blk_frozen BK249.out 0; have hfz55_1 := blk_frozen BK249.out 1))
           repeat (go_quiet (first | (go_at_call 192; (with_reducible refine (impl_OpName.calls a2_0 t254 _ A47.out).mono ?_); rintro e w54 ⟨rfl, hb⟩; have n0_ := am (blk_below (g := gb248) (o := .cells #[.slice A0_0 l0_0.length c0_0] 30 (0, 0)) (bp BK248) hb); have n1_ := am (blk_below (g := gb249) (o := .cells #[.int .i64 a2_0, .int .i64 a2_1] 102 (0, 0)) (bp BK249) hb); have n2_ := am (below_step (bw HB) hb); clear BK248; clear BK249; clear HB; have BK248 := n0_; have BK249 := n1_; have HB := n2_; clear n0_ n1_ n2_; (try clear hb); (try clear hb2); (try clear hk); (try clear hi); have hcz55_0 : w54.cell? ⟨gb249, 0, none⟩ = some (.int .i64 a2_0) := (blk_cell BK249.out 0).trans rfl; have hcz55_1 : w54.cell? ⟨gb249, 1, none⟩ = some (.int .i64 a2_1) := (blk_cell BK249.out 1).trans rfl; have hfz55_0 := blk_frozen BK249.out 0; have hfz55_1 := blk_frozen BK249.out 1)); try go_wp2_with (first | (go_at_call 192; (with_reducible refine (impl_OpName.calls a2_0 t254 _ A47.out).mono ?_); rintro e w54 ⟨rfl, hb⟩; have n0_ := am (blk_below (g := gb248) (o := .cells #[.slice A0_0 l0_0.length c0_0] 30 (0, 0)) (bp BK248) hb); have n1_ := am (blk_below (g := gb249) (o := .cells #[.int .i64 a2_0, .int .i64 a2_1] 102 (0, 0)) (bp BK249) hb); have n2_ := am (below_step (bw HB) hb); clear BK248; clear BK249; clear HB; have BK248 := n0_; have BK249 := n1_; have HB := n2_; clear n0_ n1_ n2_; (try clear hb); (try clear hb2); (try clear hk); (try clear hi); have hcz55_0 : w54.cell? ⟨gb249, 0, none⟩ = some (.int .i64 a2_0) := (blk_cell BK249.out 0).trans rfl; have hcz55_1 : w54.cell? ⟨gb249, 1, none⟩ = some (.int .i64 a2_1) := (blk_cell BK249.out 1).trans rfl; have hfz55_0 := blk_frozen BK249.out 0; have hfz55_1 := blk_frozen BK249.out 1)))
           go_ret
           exact ⟨er, bw HB⟩
 ·replace c5 := Bool.eq_false_iff.mpr c5
  subst c5
  have H1 : (some false) = some r := by rw [if_neg (show ¬ (false = true) by decide)] at H; exact H
  clear H
  have H := H1
  clear H1
  obtain rfl := Option.some.inj H
  go_enter Try.func173, Try.ntmps173
  go_wp2_with (first | ((with_reducible refine gate_dst (N := 3) rfl ?_); (try (refine gate_guard (by rfl) ?_; dsimp only)); refine box_event ?hg (N := 3) ?hd (cs := #[.slice A0_0 l0_0.length c0_0]) (t := 30) ?hr ?_; (case hd => rfl); (case hg => rfl); (case hr => exact gs); intro gb248 hg w56 hbox hb; have n0_ := am (below_step (bw HB) hb); have n1_ := am (hbox); have n2_ := am ((by rw [hg]; exact (below_size (bw HB)) : w.heap.size ≤ gb248)); have n3_ := am ((by rw [hg]; exact (below_size (bw HB)) : w.heap.size ≤ gb248)); clear HB; have HB := n0_; have BK248 := n1_; have GW248 := n2_; have GE248 := n3_; clear n0_ n1_ n2_ n3_; clear hb hbox hg) | ((with_reducible refine gate_dst (N := 5) rfl ?_); (try (refine gate_guard (by rfl) ?_; dsimp only)); refine box_event ?hg (N := 5) ?hd (cs := #[.int .i64 a2_0, .int .i64 a2_1]) (t := 102) ?hr ?_; (case hd => rfl); (case hg => rfl); (case hr => exact gs); intro gb249 hg w57 hbox hb; have n0_ := am (blk_below (g := gb248) (o := .cells #[.slice A0_0 l0_0.length c0_0] 30 (0, 0)) (bp BK248) hb); have n1_ := am (below_step (bw HB) hb); have n2_ := am (hbox); have n3_ := am ((by rw [hg]; exact (below_size (bw HB)) : w.heap.size ≤ gb249)); have n4_ := am ((by rw [hg]; exact (below_size (bw HB)) : w.heap.size ≤ gb249)); have n5_ := am ((by rw [hg]; exact Nat.ne_of_lt (blk_lt (g := gb248) (o := .cells #[.slice A0_0 l0_0.length c0_0] 30 (0, 0)) (bp BK248)) : gb248 ≠ gb249)); have n6_ := am ((by rw [hg]; exact Nat.ne_of_gt (blk_lt (g := gb248) (o := .cells #[.slice A0_0 l0_0.length c0_0] 30 (0, 0)) (bp BK248)) : gb249 ≠ gb248)); clear BK248; clear HB; have BK248 := n0_; have HB := n1_; have BK249 := n2_; have GW249 := n3_; have GE249 := n4_; have NB248_249 := n5_; have NB249_248 := n6_; clear n0_ n1_ n2_ n3_ n4_ n5_ n6_; clear hb hbox hg; have hnb58 := NB248_249.out; have hnc58 := NB249_248.out; have hcz59_0 : w57.cell? ⟨gb248, 0, none⟩ = some (.slice A0_0 l0_0.length c0_0) := (blk_cell BK248.out 0).trans rfl; have hfz59_0 := blk_frozen BK248.out 0) | (go_at_call 121; (with_reducible refine (impl_hasFunc.calls _ _ l0_0 a1 false _ ?side1 ?side2 A4.out).mono ?_); (case side1 => exact cc (Kd.C_below HR0_0.out HB.out)); (case side2 => exact HC0_0.out); rintro e w60 ⟨rfl, hb⟩; have n0_ := am (blk_below (g := gb248) (o := .cells #[.slice A0_0 l0_0.length c0_0] 30 (0, 0)) (bp BK248) hb); have n1_ := am (blk_below (g := gb249) (o := .cells #[.int .i64 a2_0, .int .i64 a2_1] 102 (0, 0)) (bp BK249) hb); have n2_ := am (below_step (bw HB) hb); clear BK248; clear BK249; clear HB; have BK248 := n0_; have BK249 := n1_; have HB := n2_; clear n0_ n1_ n2_; (try clear hb); (try clear hb2); (try clear hk); (try clear hi)))
  repeat (go_quiet (first | ((with_reducible refine gate_dst (N := 3) rfl ?_); (try (refine gate_guard (by rfl) ?_; dsimp only)); refine box_event ?hg (N := 3) ?hd (cs := #[.slice A0_0 l0_0.length c0_0]) (t := 30) ?hr ?_; (case hd => rfl); (case hg => rfl); (case hr => exact gs); intro gb248 hg w56 hbox hb; have n0_ := am (below_step (bw HB) hb); have n1_ := am (hbox); have n2_ := am ((by rw [hg]; exact (below_size (bw HB)) : w.heap.size ≤ gb248)); have n3_ := am ((by rw [hg]; exact (below_size (bw HB)) : w.heap.size ≤ gb248)); clear HB; have HB := n0_; have BK248 := n1_; have GW248 := n2_; have GE248 := n3_; clear n0_ n1_ n2_ n3_; clear hb hbox hg) | ((with_reducible refine gate_dst (N := 5) rfl ?_); (try (refine gate_guard (by rfl) ?_; dsimp only)); refine box_event ?hg (N := 5) ?hd (cs := #[.int .i64 a2_0, .int .i64 a2_1]) (t := 102) ?hr ?_; (case hd => rfl); (case hg => rfl); (case hr => exact gs); intro gb249 hg w57 hbox hb; have n0_ := am (blk_below (g := gb248) (o := .cells #[.slice A0_0 l0_0.length c0_0] 30 (0, 0)) (bp BK248) hb); have n1_ := am (below_step (bw HB) hb); have n2_ := am (hbox); have n3_ := am ((by rw [hg]; exact (below_size (bw HB)) : w.heap.size ≤ gb249)); have n4_ := am ((by rw [hg]; exact (below_size (bw HB)) : w.heap.size ≤ gb249)); have n5_ := am ((by rw [hg]; exact Nat.ne_of_lt (blk_lt (g := gb248) (o := .cells #[.slice A0_0 l0_0.length c0_0] 30 (0, 0)) (bp BK248)) : gb248 ≠ gb249)); have n6_ := am ((by rw [hg]; exact Nat.ne_of_gt (blk_lt (g := gb248) (o := .cells #[.slice A0_0 l0_0.length c0_0] 30 (0, 0)) (bp BK248)) : gb249 ≠ gb248)); clear BK248; clear HB; have BK248 := n0_; have HB := n1_; have BK249 := n2_; have GW249 := n3_; have GE249 := n4_; have NB248_249 := n5_; have NB249_248 := n6_; clear n0_ n1_ n2_ n3_ n4_ n5_ n6_; clear hb hbox hg; have hnb58 := NB248_249.out; have hnc58 := NB249_248.out; have hcz59_0 : w57.cell? ⟨gb248, 0, none⟩ = some (.slice A0_0 l0_0.length c0_0) := (blk_cell BK248.out 0).trans rfl; have hfz59_0 := blk_frozen BK248.out 0) | (go_at_call 121; (with_reducible refine (impl_hasFunc.calls _ _ l0_0 a1 false _ ?side1 ?side2 A4.out).mono ?_); (case side1 => exact cc (Kd.C_below HR0_0.out HB.out)); (case side2 => exact HC0_0.out); rintro e w60 ⟨rfl, hb⟩; have n0_ := am (blk_below (g := gb248) (o := .cells #[.slice A0_0 l0_0.length c0_0] 30 (0, 0)) (bp BK248) hb); have n1_ := am (blk_below (g := gb249) (o := .cells #[.int .i64 a2_0, .int .i64 a2_1] 102 (0, 0)) (bp BK249) hb); have n2_ := am (below_step (bw HB) hb); clear BK248; clear BK249; clear HB; have BK248 := n0_; have BK249 := n1_; have HB := n2_; clear n0_ n1_ n2_; (try clear hb); (try clear hb2); (try clear hk); (try clear hi))); try go_wp2_with (first | ((with_reducible refine gate_dst (N := 3) rfl ?_); (try (refine gate_guard (by rfl) ?_; dsimp only)); refine box_event ?hg (N := 3) ?hd (cs := #[.slice A0_0 l0_0.length c0_0]) (t := 30) ?hr ?_; (case hd => rfl); (case hg => rfl); (case hr => exact gs); intro gb248 hg w56 hbox hb; have n0_ := am (below_step (bw HB) hb); have n1_ := am (hbox); have n2_ := am ((by rw [hg]; exact (below_size (bw HB)) : w.heap.size ≤ gb248)); have n3_ := am ((by rw [hg]; exact (below_size (bw HB)) : w.heap.size ≤ gb248)); clear HB; have HB := n0_; have BK248 := n1_; have GW248 := n2_; have GE248 := n3_; clear n0_ n1_ n2_ n3_; clear hb hbox hg) | ((with_reducible refine gate_dst (N := 5) rfl ?_); (try (refine gate_guard (by rfl) ?_; dsimp only)); refine box_event ?hg (N := 5) ?hd (cs := #[.int .i64 a2_0, .int .i64 a2_1]) (t := 102) ?hr ?_; (case hd => rfl); (case hg => rfl); (case hr => exact gs); intro gb249 hg w57 hbox hb; have n0_ := am (blk_below (g := gb248) (o := .cells #[.slice A0_0 l0_0.length c0_0] 30 (0, 0)) (bp BK248) hb); have n1_ := am (below_step (bw HB) hb); have n2_ := am (hbox); have n3_ := am ((by rw [hg]; exact (below_size (bw HB)) : w.heap.size ≤ gb249)); have n4_ := am ((by rw [hg]; exact (below_size (bw HB)) : w.heap.size ≤ gb249)); have n5_ := am ((by rw [hg]; exact Nat.ne_of_lt (blk_lt (g := gb248) (o := .cells #[.slice A0_0 l0_0.length c0_0] 30 (0, 0)) (bp BK248)) : gb248 ≠ gb249)); have n6_ := am ((by rw [hg]; exact Nat.ne_of_gt (blk_lt (g := gb248) (o := .cells #[.slice A0_0 l0_0.length c0_0] 30 (0, 0)) (bp BK248)) : gb249 ≠ gb248)); clear BK248; clear HB; have BK248 := n0_; have HB := n1_; have BK249 := n2_; have GW249 := n3_; have GE249 := n4_; have NB248_249 := n5_; have NB249_248 := n6_; clear n0_ n1_ n2_ n3_ n4_ n5_ n6_; clear hb hbox hg; have hnb58 := NB248_249.out; have hnc58 := NB249_248.out; have hcz59_0 : w57.cell? ⟨gb248, 0, none⟩ = some (.slice A0_0 l0_0.length c0_0) := (blk_cell BK248.out 0).trans rfl; have hfz59_0 := blk_frozen BK248.out 0) | (go_at_call 121; (with_reducible refine (impl_hasFunc.calls _ _ l0_0 a1 false _ ?side1 ?side2 A4.out).mono ?_); (case side1 => exact cc (Kd.C_below HR0_0.out HB.out)); (case side2 => exact HC0_0.out); rintro e w60 ⟨rfl, hb⟩; have n0_ := am (blk_below (g := gb248) (o := .cells #[.slice A0_0 l0_0.length c0_0] 30 (0, 0)) (bp BK248) hb); have n1_ := am (blk_below (g := gb249) (o := .cells #[.int .i64 a2_0, .int .i64 a2_1] 102 (0, 0)) (bp BK249) hb); have n2_ := am (below_step (bw HB) hb); clear BK248; clear BK249; clear HB; have BK248 := n0_; have BK249 := n1_; have HB := n2_; clear n0_ n1_ n2_; (try clear hb); (try clear hb2); (try clear hk); (try clear hi))))
  go_ret
  exact ⟨er, bw HB⟩

/-! ### impl_isBinary: function 175 -/
def impl_isBinary.f (a0 : Int) : Option (Bool) := (impl_in.f a0 10 23).bind fun t255 => (some t255)
theorem impl_isBinary.calls (a0 : Int) (r : Bool) (w : World) (h : impl_isBinary.f a0 = some r) :
  Calls Try.prog 175 #[.int .i64 a0] w fun e w' => e = .returned (.bool r) ∧ Drawn0 w w' := by
 have H : ((impl_in.f a0 10 23).bind fun t255 => (some t255)) = some r := h
 clear h
 replace H := Option.bind_eq_some_iff.mp H
 obtain ⟨t255, A20, H⟩ := H
 replace H : (some t255) = some r := H
 have A2 := am A20
 clear A20
 obtain rfl := Option.some.inj H
 go_enter Try.func175, Try.ntmps175
 go_wp2_with (first | ((with_reducible refine gate_callee (f := 85) rfl ?_); refine goesL_ (some 4) rfl rfl Try.func85 (by kernel_rfl) rfl #[.int .i64 a0, .int .i64 10, .int .i64 23] rfl gl ?_; (with_reducible refine (impl_in.calls a0 10 23 t255 _ A2.out).mono ?_); rintro e w' ⟨rfl, ⟨nd, rfl⟩⟩; refine ⟨_, rfl, ?_⟩))
 go_ret
 exact ⟨by first | rfl | (simp; done) | (simp [*]; done), by repeat (first | exact Drawn0.refl _ | apply Drawn0.step)⟩

/-! ### impl_isUnary: function 176 -/
def impl_isUnary.f (a0 : Int) : Option (Bool) := (impl_in.f a0 24 29).bind fun t256 => (some t256)
theorem impl_isUnary.calls (a0 : Int) (r : Bool) (w : World) (h : impl_isUnary.f a0 = some r) :
  Calls Try.prog 176 #[.int .i64 a0] w fun e w' => e = .returned (.bool r) ∧ Drawn0 w w' := by
 have H : ((impl_in.f a0 24 29).bind fun t256 => (some t256)) = some r := h
 clear h
 replace H := Option.bind_eq_some_iff.mp H
 obtain ⟨t256, A20, H⟩ := H
 replace H : (some t256) = some r := H
 have A2 := am A20
 clear A20
 obtain rfl := Option.some.inj H
 go_enter Try.func176, Try.ntmps176
 go_wp2_with (first | ((with_reducible refine gate_callee (f := 85) rfl ?_); refine goesL_ (some 4) rfl rfl Try.func85 (by kernel_rfl) rfl #[.int .i64 a0, .int .i64 24, .int .i64 29] rfl gl ?_; (with_reducible refine (impl_in.calls a0 24 29 t256 _ A2.out).mono ?_); rintro e w' ⟨rfl, ⟨nd, rfl⟩⟩; refine ⟨_, rfl, ?_⟩))
 go_ret
 exact ⟨by first | rfl | (simp; done) | (simp [*]; done), by repeat (first | exact Drawn0.refl _ | apply Drawn0.step)⟩

/-! ### impl_Takes: function 134 -/
def impl_Takes.j0 : Nat → Bool → List (S100) → Int → Int → Option (Int)
 | 0, _, _, _, _ => none
 | k + 1, x5, x258000, x259000, x259001 => if x5 = true then (some 2) else (if x259000 = 36 then (some 3) else (if x259000 = 32 then ((impl_hasFunc.f x258000 x259001).bind fun t260 => (if t260 = true then (if 0 ≤ x259001 then (if x259001 < (x258000.length : Int) then (some ((rd_T100 x258000 x259001).f0)) else (none)) else (none)) else (some 0))) else ((impl_isUnary.f x259000).bind fun t262 => (if t262 = true then (some 1) else (if x259000 = 3 then (some 1) else (if x259000 = 4 then (some 1) else (if x259000 = 5 then (some 1) else (if x259000 = 31 then (some 1) else (if x259000 = 33 then (some 1) else (if x259000 = 34 then (some 1) else (if x259000 = 37 then (some 1) else (if x259000 = 38 then (some 1) else (some 0)))))))))))))
def impl_Takes.f (k : Nat) (l0_0 : List (S100)) (a1_0 : Int) (a1_1 : Int) : Option (Int) := (impl_isBinary.f a1_0).bind fun t259 => (if t259 = true then (impl_Takes.j0 k t259 l0_0 a1_0 a1_1) else (impl_Takes.j0 k (a1_0 == 35) l0_0 a1_0 a1_1))
theorem impl_Takes.mono_l : ∀ k, (∀ y0 y1 y2 y3, LeO (impl_Takes.j0 k y0 y1 y2 y3) (impl_Takes.j0 (k + 1) y0 y1 y2 y3))
 | 0 => fun _ _ _ _ r h => by simp [impl_Takes.j0] at h
 | k + 1 => by
  have ih0 := impl_Takes.mono_l k
  ·intro y0 y1 y2 y3
   unfold impl_Takes.j0
   repeat' first
   | (with_reducible exact ih0 _ _ _ _)
   | (with_reducible exact LeO.refl _)
   | (with_reducible exact LeO.none _)
   | (with_reducible refine LeO.ite ?_ ?_)
   | (with_reducible refine LeO.bind ?_ (fun _ => ?_))
   | exact ih0 _ _ _ _
   | exact LeO.none _
   | refine LeO.ite ?_ ?_
   | refine LeO.bind ?_ (fun _ => ?_)
theorem impl_Takes.mono : ∀ a0 a1 a2 k, LeO (impl_Takes.f k a0 a1 a2) (impl_Takes.f (k + 1) a0 a1 a2) := by
 intro a0 a1 a2 k
 have ih0 := impl_Takes.mono_l k
 unfold impl_Takes.f
 repeat' first
   | (with_reducible exact ih0 _ _ _ _)
   | (with_reducible exact LeO.refl _)
   | (with_reducible exact LeO.none _)
   | (with_reducible refine LeO.ite ?_ ?_)
   | (with_reducible refine LeO.bind ?_ (fun _ => ?_))
   | exact ih0 _ _ _ _
   | exact LeO.none _
   | refine LeO.ite ?_ ?_
   | refine LeO.bind ?_ (fun _ => ?_)
theorem impl_Takes.calls (k : Nat) (A0_0 : Option Addr) (c0_0 : Nat) (l0_0 : List (S100)) (a1_0 : Int) (a1_1 : Int) (r : Int) (w : World) (hr0_0 : Kd.C k100 w A0_0 l0_0.length l0_0) (hc0_0 : l0_0.length ≤ c0_0) (h : impl_Takes.f k l0_0 a1_0 a1_1 = some r) :
  Calls Try.prog 134 #[.agg #[.slice A0_0 l0_0.length c0_0], .agg #[.int .i64 a1_0, .int .i64 a1_1]] w fun e w' => e = .returned (.int .i64 r) ∧ Below w.heap.size w w' := by
 have hu30 := Try.underlying30
 have hu102 := Try.underlying102
 have HR0_0 := am hr0_0
 have HC0_0 := am hc0_0
 clear hr0_0 hc0_0
 have HB := am (Below.refl w.heap.size w)
 have H : ((impl_isBinary.f a1_0).bind fun t259 => (if t259 = true then (impl_Takes.j0 k t259 l0_0 a1_0 a1_1) else (impl_Takes.j0 k (a1_0 == 35) l0_0 a1_0 a1_1))) = some r := h
 clear h
 replace H := Option.bind_eq_some_iff.mp H
 obtain ⟨t259, A30, H⟩ := H
 replace H : (if t259 = true then (impl_Takes.j0 k t259 l0_0 a1_0 a1_1) else (impl_Takes.j0 k (a1_0 == 35) l0_0 a1_0 a1_1)) = some r := H
 have A3 := am A30
 clear A30
 have HC4 := am H
 clear H
 go_enter Try.func134, Try.ntmps134
 go_upto_if 5 with (first | ((with_reducible refine gate_dst (N := 2) rfl ?_); refine box_event ?hg (N := 2) ?hd (cs := #[.slice A0_0 l0_0.length c0_0]) (t := 30) ?hr ?_; (case hd => rfl); (case hg => rfl); (case hr => exact gs); intro gb257 hg w5 hbox hb; have n0_ := am (below_step (bw HB) hb); have n1_ := am (hbox); have n2_ := am ((by rw [hg]; exact (below_size (bw HB)) : w.heap.size ≤ gb257)); have n3_ := am ((by rw [hg]; exact (below_size (bw HB)) : w.heap.size ≤ gb257)); clear HB; have HB := n0_; have BK257 := n1_; have GW257 := n2_; have GE257 := n3_; clear n0_ n1_ n2_ n3_; clear hb hbox hg) | ((with_reducible refine gate_dst (N := 3) rfl ?_); refine box_event ?hg (N := 3) ?hd (cs := #[.int .i64 a1_0, .int .i64 a1_1]) (t := 102) ?hr ?_; (case hd => rfl); (case hg => rfl); (case hr => exact gs); intro gb258 hg w6 hbox hb; have n0_ := am (blk_below (g := gb257) (o := .cells #[.slice A0_0 l0_0.length c0_0] 30 (0, 0)) (bp BK257) hb); have n1_ := am (below_step (bw HB) hb); have n2_ := am (hbox); have n3_ := am ((by rw [hg]; exact (below_size (bw HB)) : w.heap.size ≤ gb258)); have n4_ := am ((by rw [hg]; exact (below_size (bw HB)) : w.heap.size ≤ gb258)); have n5_ := am ((by rw [hg]; exact Nat.ne_of_lt (blk_lt (g := gb257) (o := .cells #[.slice A0_0 l0_0.length c0_0] 30 (0, 0)) (bp BK257)) : gb257 ≠ gb258)); have n6_ := am ((by rw [hg]; exact Nat.ne_of_gt (blk_lt (g := gb257) (o := .cells #[.slice A0_0 l0_0.length c0_0] 30 (0, 0)) (bp BK257)) : gb258 ≠ gb257)); clear BK257; clear HB; have BK257 := n0_; have HB := n1_; have BK258 := n2_; have GW258 := n3_; have GE258 := n4_; have NB257_258 := n5_; have NB258_257 := n6_; clear n0_ n1_ n2_ n3_ n4_ n5_ n6_; clear hb hbox hg; have hnb7 := NB258_257.out; have hnc7 := NB257_258.out; have hcz8_0 : w6.cell? ⟨gb258, 0, none⟩ = some (.int .i64 a1_0) := (blk_cell BK258.out 0).trans rfl; have hcz8_1 : w6.cell? ⟨gb258, 1, none⟩ = some (.int .i64 a1_1) := (blk_cell BK258.out 1).trans rfl; have hfz8_0 := blk_frozen BK258.out 0; have hfz8_1 := blk_frozen BK258.out 1) | ((with_reducible refine gate_callee (f := 175) rfl ?_); refine goesL_ (some 8) rfl rfl Try.func175 (by kernel_rfl) rfl #[.int .i64 a1_0] rfl gl ?_; (with_reducible refine (impl_isBinary.calls a1_0 t259 _ A3.out).mono ?_); rintro e w' ⟨rfl, ⟨nd, rfl⟩⟩; refine ⟨_, rfl, ?_⟩))
 (try simp only [Act.put, sa, sz, ss])
 go_cut [5] (fun v5 wc => ∃ (kq : Nat) (x5_3 : Bool), v5 = .bool x5_3 ∧ Aside0 (impl_Takes.j0 kq x5_3 l0_0 a1_0 a1_1 = some r) ∧ Aside0 (kq ≤ k) ∧ Aside0 (wc.heap[gb257]? = some (.cells #[(.slice A0_0 l0_0.length c0_0)] 30 (0, 0))) ∧ Aside0 (wc.heap[gb258]? = some (.cells #[.int .i64 a1_0, .int .i64 a1_1] 102 (0, 0))) ∧ Aside0 (Below w.heap.size w wc))
 case first =>
  have H := HC4.out
  clear HC4
  by_cases c9 : t259 = true
  ·subst c9
   have H1 : (impl_Takes.j0 k true l0_0 a1_0 a1_1) = some r := by rw [if_pos rfl] at H; exact H
   clear H
   have H := H1
   clear H1
   have H' := am H
   clear H
   go_wp2
   go_meet
   case rel => exact ⟨_, (true), dr, H', ⟨by first | omega | exact Nat.le_refl _⟩, ⟨bp BK257⟩, ⟨bp BK258⟩, ⟨bw HB⟩⟩
  ·replace c9 := Bool.eq_false_iff.mpr c9
   subst c9
   have H1 : (impl_Takes.j0 k (a1_0 == 35) l0_0 a1_0 a1_1) = some r := by rw [if_neg (show ¬ (false = true) by decide)] at H; exact H
   clear H
   have H := H1
   clear H1
   have H' := am H
   clear H
   have hnb10 := NB258_257.out
   have hnc10 := NB257_258.out
   have hcz11_0 : w6.cell? ⟨gb258, 0, none⟩ = some (.int .i64 a1_0) := (blk_cell BK258.out 0).trans rfl
   have hcz11_1 : w6.cell? ⟨gb258, 1, none⟩ = some (.int .i64 a1_1) := (blk_cell BK258.out 1).trans rfl
   have hfz11_0 := blk_frozen BK258.out 0
   have hfz11_1 := blk_frozen BK258.out 1
   go_wp2
   go_meet
   case rel => exact ⟨_, ((a1_0 == 35)), dr, H', ⟨by first | omega | exact Nat.le_refl _⟩, ⟨bp BK257⟩, ⟨bp BK258⟩, ⟨bw HB⟩⟩
 case rest =>
  clear HC4
  (try clear c1); (try clear p2); (try clear c7); (try clear c9); (try clear c10); (try clear hcz11_0); (try clear hcz11_1); (try clear hcz8_0); (try clear hcz8_1); (try clear hfz11_0); (try clear hfz11_1); (try clear hfz8_0); (try clear hfz8_1)
  obtain ⟨kq, x5_3, rfl, HA, HJ3, BK257, BK258, HB⟩ := hcut
  cases kq with
  | zero => exact absurd HA.out (by simp [impl_Takes.j0])
  | succ kj3 =>
   have H := HA.out
   clear HA
   simp only [impl_Takes.j0] at H
   by_cases c12 : x5_3 = true
   ·subst c12
    have H1 : (some 2) = some r := by rw [if_pos rfl] at H; exact H
    clear H
    have H := H1
    clear H1
    obtain rfl := Option.some.inj H
    go_wp2
    go_ret
    exact ⟨er, bw HB⟩
   ·replace c12 := Bool.eq_false_iff.mpr c12
    subst c12
    have H1 : (if a1_0 = 36 then (some 3) else (if a1_0 = 32 then ((impl_hasFunc.f l0_0 a1_1).bind fun t260 => (if t260 = true then (if 0 ≤ a1_1 then (if a1_1 < (l0_0.length : Int) then (some ((rd_T100 l0_0 a1_1).f0)) else (none)) else (none)) else (some 0))) else ((impl_isUnary.f a1_0).bind fun t262 => (if t262 = true then (some 1) else (if a1_0 = 3 then (some 1) else (if a1_0 = 4 then (some 1) else (if a1_0 = 5 then (some 1) else (if a1_0 = 31 then (some 1) else (if a1_0 = 33 then (some 1) else (if a1_0 = 34 then (some 1) else (if a1_0 = 37 then (some 1) else (if a1_0 = 38 then (some 1) else (some 0))))))))))))) = some r := by rw [if_neg (show ¬ (false = true) by decide)] at H; exact H
    clear H
    have H := H1
    clear H1
    by_cases c13 : a1_0 = 36
    ·rw [if_pos c13] at H
     have c13b0 : (a1_0 == 36) = true := beq_iff_eq.mpr c13
     have c13b1 : (a1_0 != 36) = false := bne_eq_false_iff_eq.mpr c13
     clear c13
     obtain rfl := Option.some.inj H
     have hnb14 := NB258_257.out
     have hnc14 := NB257_258.out
     have hcz15_0 : wc.cell? ⟨gb258, 0, none⟩ = some (.int .i64 a1_0) := (blk_cell BK258.out 0).trans rfl
     have hcz15_1 : wc.cell? ⟨gb258, 1, none⟩ = some (.int .i64 a1_1) := (blk_cell BK258.out 1).trans rfl
     have hfz15_0 := blk_frozen BK258.out 0
     have hfz15_1 := blk_frozen BK258.out 1
     go_wp2
     go_ret
     exact ⟨er, bw HB⟩
    ·rw [if_neg c13] at H
     have c13b0 : (a1_0 == 36) = false := beq_eq_false_iff_ne.mpr c13
     have c13b1 : (a1_0 != 36) = true := bne_iff_ne.mpr c13
     by_cases c16 : a1_0 = 32
     ·rw [if_pos c16] at H
      have c16b0 : (a1_0 == 32) = true := beq_iff_eq.mpr c16
      have c16b1 : (a1_0 != 32) = false := bne_eq_false_iff_eq.mpr c16
      clear c16
      replace H := Option.bind_eq_some_iff.mp H
      obtain ⟨t260, A170, H⟩ := H
      replace H : (if t260 = true then (if 0 ≤ a1_1 then (if a1_1 < (l0_0.length : Int) then (some ((rd_T100 l0_0 a1_1).f0)) else (none)) else (none)) else (some 0)) = some r := H
      have A17 := am A170
      clear A170
      by_cases c18 : t260 = true
      ·subst c18
       have H1 : (if 0 ≤ a1_1 then (if a1_1 < (l0_0.length : Int) then (some ((rd_T100 l0_0 a1_1).f0)) else (none)) else (none)) = some r := by rw [if_pos rfl] at H; exact H
       clear H
       have H := H1
       clear H1
       by_cases c19 : 0 ≤ a1_1
       ·rw [if_pos c19] at H
        have c19b0 : decide (0 ≤ a1_1) = true := decide_eq_true c19
        clear c19
        by_cases c20 : a1_1 < (l0_0.length : Int)
        ·rw [if_pos c20] at H
         have c20b0 : decide (a1_1 < (l0_0.length : Int)) = true := decide_eq_true c20
         clear c20
         obtain rfl := Option.some.inj H
         have hnb21 := NB258_257.out
         have hnc21 := NB257_258.out
         have hcz22_0 : wc.cell? ⟨gb258, 0, none⟩ = some (.int .i64 a1_0) := (blk_cell BK258.out 0).trans rfl
         have hcz22_1 : wc.cell? ⟨gb258, 1, none⟩ = some (.int .i64 a1_1) := (blk_cell BK258.out 1).trans rfl
         have hfz22_0 := blk_frozen BK258.out 0
         have hfz22_1 := blk_frozen BK258.out 1
         have hcz23_0 : wc.cell? ⟨gb257, 0, none⟩ = some (.slice A0_0 l0_0.length c0_0) := (blk_cell BK257.out 0).trans rfl
         have hfz23_0 := blk_frozen BK257.out 0
         go_wp2_with (first | ((with_reducible refine gate_callee (f := 121) rfl ?_); refine goesL_ (some 23) rfl rfl Try.func121 (by kernel_rfl) rfl #[.agg #[.slice A0_0 l0_0.length c0_0], .int .i64 a1_1] rfl gl ?_; (with_reducible refine (impl_hasFunc.calls _ _ l0_0 a1_1 true _ ?side1 ?side2 A17.out).mono ?_); (case side1 => exact cc (Kd.C_below HR0_0.out HB.out)); (case side2 => exact HC0_0.out); rintro e w24 ⟨rfl, hb⟩; refine ⟨_, rfl, ?_⟩; have n0_ := am (blk_below (g := gb257) (o := .cells #[.slice A0_0 l0_0.length c0_0] 30 (0, 0)) (bp BK257) hb); have n1_ := am (blk_below (g := gb258) (o := .cells #[.int .i64 a1_0, .int .i64 a1_1] 102 (0, 0)) (bp BK258) hb); have n2_ := am (below_step (bw HB) hb); clear BK257; clear BK258; clear HB; have BK257 := n0_; have BK258 := n1_; have HB := n2_; clear n0_ n1_ n2_; (try clear hb); (try clear hb2); (try clear hk); (try clear hi); have hcz25_0 : w24.cell? ⟨gb257, 0, none⟩ = some (.slice A0_0 l0_0.length c0_0) := (blk_cell BK257.out 0).trans rfl; have hfz25_0 := blk_frozen BK257.out 0; have hcz26_0 : w24.cell? ⟨gb258, 0, none⟩ = some (.int .i64 a1_0) := (blk_cell BK258.out 0).trans rfl; have hcz26_1 : w24.cell? ⟨gb258, 1, none⟩ = some (.int .i64 a1_1) := (blk_cell BK258.out 1).trans rfl; have hfz26_0 := blk_frozen BK258.out 0; have hfz26_1 := blk_frozen BK258.out 1; have p261 : 0 ≤ (a1_1 : Int) := of_decide_eq_true as1; have q261 : a1_1 < (l0_0.length : Int) := of_decide_eq_true as1; obtain ⟨ad261, A261_2, c261_2, e261, hx261_0, hx261_1, hx261_2, hl261_2, hi261_2⟩ := at_T100 HR0_0.out a1_1 p261 q261; cases e261; replace hx261_0 := (HB.out.cell (World.block_lt_of_cell? w _ hx261_0)).trans hx261_0; replace hx261_1 := (HB.out.cell (World.block_lt_of_cell? w _ hx261_1)).trans hx261_1; replace hx261_2 := (HB.out.cell (World.block_lt_of_cell? w _ hx261_2)).trans hx261_2; have HR261_2 := am hi261_2; have HC261_2 := am hl261_2; clear hi261_2 hl261_2; replace p261 := eq_true p261; replace q261 := eq_true q261))
         go_ret
         exact ⟨er, bw HB⟩
        ·rw [if_neg c20] at H
         exact absurd H (by simp)
       ·rw [if_neg c19] at H
        exact absurd H (by simp)
      ·replace c18 := Bool.eq_false_iff.mpr c18
       subst c18
       have H1 : (some 0) = some r := by rw [if_neg (show ¬ (false = true) by decide)] at H; exact H
       clear H
       have H := H1
       clear H1
       obtain rfl := Option.some.inj H
       have hnb27 := NB258_257.out
       have hnc27 := NB257_258.out
       have hcz28_0 : wc.cell? ⟨gb258, 0, none⟩ = some (.int .i64 a1_0) := (blk_cell BK258.out 0).trans rfl
       have hcz28_1 : wc.cell? ⟨gb258, 1, none⟩ = some (.int .i64 a1_1) := (blk_cell BK258.out 1).trans rfl
       have hfz28_0 := blk_frozen BK258.out 0
       have hfz28_1 := blk_frozen BK258.out 1
       have hcz29_0 : wc.cell? ⟨gb257, 0, none⟩ = some (.slice A0_0 l0_0.length c0_0) := (blk_cell BK257.out 0).trans rfl
       have hfz29_0 := blk_frozen BK257.out 0
       go_wp2_with (first | ((with_reducible refine gate_callee (f := 121) rfl ?_); refine goesL_ (some 23) rfl rfl Try.func121 (by kernel_rfl) rfl #[.agg #[.slice A0_0 l0_0.length c0_0], .int .i64 a1_1] rfl gl ?_; (with_reducible refine (impl_hasFunc.calls _ _ l0_0 a1_1 false _ ?side1 ?side2 A17.out).mono ?_); (case side1 => exact cc (Kd.C_below HR0_0.out HB.out)); (case side2 => exact HC0_0.out); rintro e w30 ⟨rfl, hb⟩; refine ⟨_, rfl, ?_⟩; have n0_ := am (blk_below (g := gb257) (o := .cells #[.slice A0_0 l0_0.length c0_0] 30 (0, 0)) (bp BK257) hb); have n1_ := am (blk_below (g := gb258) (o := .cells #[.int .i64 a1_0, .int .i64 a1_1] 102 (0, 0)) (bp BK258) hb); have n2_ := am (below_step (bw HB) hb); clear BK257; clear BK258; clear HB; have BK257 := n0_; have BK258 := n1_; have HB := n2_; clear n0_ n1_ n2_; (try clear hb); (try clear hb2); (try clear hk); (try clear hi)))
       go_ret
       exact ⟨er, bw HB⟩
     ·rw [if_neg c16] at H
      have c16b0 : (a1_0 == 32) = false := beq_eq_false_iff_ne.mpr c16
      have c16b1 : (a1_0 != 32) = true := bne_iff_ne.mpr c16
      replace H := Option.bind_eq_some_iff.mp H
      obtain ⟨t262, A310, H⟩ := H
      replace H : (if t262 = true then (some 1) else (if a1_0 = 3 then (some 1) else (if a1_0 = 4 then (some 1) else (if a1_0 = 5 then (some 1) else (if a1_0 = 31 then (some 1) else (if a1_0 = 33 then (some 1) else (if a1_0 = 34 then (some 1) else (if a1_0 = 37 then (some 1) else (if a1_0 = 38 then (some 1) else (some 0)))))))))) = some r := H
      have A31 := am A310
      clear A310
      by_cases c32 : t262 = true
      ·subst c32
       have H1 : (some 1) = some r := by rw [if_pos rfl] at H; exact H
       clear H
       have H := H1
       clear H1
       obtain rfl := Option.some.inj H
       have hnb33 := NB258_257.out
       have hnc33 := NB257_258.out
       have hcz34_0 : wc.cell? ⟨gb258, 0, none⟩ = some (.int .i64 a1_0) := (blk_cell BK258.out 0).trans rfl
       have hcz34_1 : wc.cell? ⟨gb258, 1, none⟩ = some (.int .i64 a1_1) := (blk_cell BK258.out 1).trans rfl
       have hfz34_0 := blk_frozen BK258.out 0
       have hfz34_1 := blk_frozen BK258.out 1
       go_wp2_with (first | ((with_reducible refine gate_callee (f := 176) rfl ?_); refine goesL_ (some 34) rfl rfl Try.func176 (by kernel_rfl) rfl #[.int .i64 a1_0] rfl gl ?_; (with_reducible refine (impl_isUnary.calls a1_0 true _ A31.out).mono ?_); rintro e w' ⟨rfl, ⟨nd, rfl⟩⟩; refine ⟨_, rfl, ?_⟩))
       go_ret
       exact ⟨er, bw HB⟩
      ·replace c32 := Bool.eq_false_iff.mpr c32
       subst c32
       have H1 : (if a1_0 = 3 then (some 1) else (if a1_0 = 4 then (some 1) else (if a1_0 = 5 then (some 1) else (if a1_0 = 31 then (some 1) else (if a1_0 = 33 then (some 1) else (if a1_0 = 34 then (some 1) else (if a1_0 = 37 then (some 1) else (if a1_0 = 38 then (some 1) else (some 0))))))))) = some r := by rw [if_neg (show ¬ (false = true) by decide)] at H; exact H
       clear H
       have H := H1
       clear H1
       by_cases c35 : a1_0 = 3
       ·rw [if_pos c35] at H
        have c35b0 : (a1_0 == 3) = true := beq_iff_eq.mpr c35
        have c35b1 : (a1_0 != 3) = false := bne_eq_false_iff_eq.mpr c35
        clear c35
        obtain rfl := Option.some.inj H
        have hnb36 := NB258_257.out
        have hnc36 := NB257_258.out
        have hcz37_0 : wc.cell? ⟨gb258, 0, none⟩ = some (.int .i64 a1_0) := (blk_cell BK258.out 0).trans rfl
        have hcz37_1 : wc.cell? ⟨gb258, 1, none⟩ = some (.int .i64 a1_1) := (blk_cell BK258.out 1).trans rfl
        have hfz37_0 := blk_frozen BK258.out 0
        have hfz37_1 := blk_frozen BK258.out 1
        go_wp2_with (first | ((with_reducible refine gate_callee (f := 176) rfl ?_); refine goesL_ (some 34) rfl rfl Try.func176 (by kernel_rfl) rfl #[.int .i64 a1_0] rfl gl ?_; (with_reducible refine (impl_isUnary.calls a1_0 false _ A31.out).mono ?_); rintro e w' ⟨rfl, ⟨nd, rfl⟩⟩; refine ⟨_, rfl, ?_⟩))
        go_ret
        exact ⟨er, bw HB⟩
       ·rw [if_neg c35] at H
        have c35b0 : (a1_0 == 3) = false := beq_eq_false_iff_ne.mpr c35
        have c35b1 : (a1_0 != 3) = true := bne_iff_ne.mpr c35
        by_cases c38 : a1_0 = 4
        ·rw [if_pos c38] at H
         have c38b0 : (a1_0 == 4) = true := beq_iff_eq.mpr c38
         have c38b1 : (a1_0 != 4) = false := bne_eq_false_iff_eq.mpr c38
         clear c38
         obtain rfl := Option.some.inj H
         have hnb39 := NB258_257.out
         have hnc39 := NB257_258.out
         have hcz40_0 : wc.cell? ⟨gb258, 0, none⟩ = some (.int .i64 a1_0) := (blk_cell BK258.out 0).trans rfl
         have hcz40_1 : wc.cell? ⟨gb258, 1, none⟩ = some (.int .i64 a1_1) := (blk_cell BK258.out 1).trans rfl
         have hfz40_0 := blk_frozen BK258.out 0
         have hfz40_1 := blk_frozen BK258.out 1
         go_wp2_with (first | ((with_reducible refine gate_callee (f := 176) rfl ?_); refine goesL_ (some 34) rfl rfl Try.func176 (by kernel_rfl) rfl #[.int .i64 a1_0] rfl gl ?_; (with_reducible refine (impl_isUnary.calls a1_0 false _ A31.out).mono ?_); rintro e w' ⟨rfl, ⟨nd, rfl⟩⟩; refine ⟨_, rfl, ?_⟩))
         go_ret
         exact ⟨er, bw HB⟩
        ·rw [if_neg c38] at H
         have c38b0 : (a1_0 == 4) = false := beq_eq_false_iff_ne.mpr c38
         have c38b1 : (a1_0 != 4) = true := bne_iff_ne.mpr c38
         by_cases c41 : a1_0 = 5
         ·rw [if_pos c41] at H
          have c41b0 : (a1_0 == 5) = true := beq_iff_eq.mpr c41
          have c41b1 : (a1_0 != 5) = false := bne_eq_false_iff_eq.mpr c41
          clear c41
          obtain rfl := Option.some.inj H
          have hnb42 := NB258_257.out
          have hnc42 := NB257_258.out
          have hcz43_0 : wc.cell? ⟨gb258, 0, none⟩ = some (.int .i64 a1_0) := (blk_cell BK258.out 0).trans rfl
          have hcz43_1 : wc.cell? ⟨gb258, 1, none⟩ = some (.int .i64 a1_1) := (blk_cell BK258.out 1).trans rfl
          have hfz43_0 := blk_frozen BK258.out 0
          have hfz43_1 := blk_frozen BK258.out 1
          go_wp2_with (first | ((with_reducible refine gate_callee (f := 176) rfl ?_); refine goesL_ (some 34) rfl rfl Try.func176 (by kernel_rfl) rfl #[.int .i64 a1_0] rfl gl ?_; (with_reducible refine (impl_isUnary.calls a1_0 false _ A31.out).mono ?_); rintro e w' ⟨rfl, ⟨nd, rfl⟩⟩; refine ⟨_, rfl, ?_⟩))
          go_ret
          exact ⟨er, bw HB⟩
         ·rw [if_neg c41] at H
          have c41b0 : (a1_0 == 5) = false := beq_eq_false_iff_ne.mpr c41
          have c41b1 : (a1_0 != 5) = true := bne_iff_ne.mpr c41
          by_cases c44 : a1_0 = 31
          ·rw [if_pos c44] at H
           have c44b0 : (a1_0 == 31) = true := beq_iff_eq.mpr c44
           have c44b1 : (a1_0 != 31) = false := bne_eq_false_iff_eq.mpr c44
           clear c44
           obtain rfl := Option.some.inj H
           have hnb45 := NB258_257.out
           have hnc45 := NB257_258.out
           have hcz46_0 : wc.cell? ⟨gb258, 0, none⟩ = some (.int .i64 a1_0) := (blk_cell BK258.out 0).trans rfl
           have hcz46_1 : wc.cell? ⟨gb258, 1, none⟩ = some (.int .i64 a1_1) := (blk_cell BK258.out 1).trans rfl
           have hfz46_0 := blk_frozen BK258.out 0
           have hfz46_1 := blk_frozen BK258.out 1
           go_wp2_with (first | ((with_reducible refine gate_callee (f := 176) rfl ?_); refine goesL_ (some 34) rfl rfl Try.func176 (by kernel_rfl) rfl #[.int .i64 a1_0] rfl gl ?_; (with_reducible refine (impl_isUnary.calls a1_0 false _ A31.out).mono ?_); rintro e w' ⟨rfl, ⟨nd, rfl⟩⟩; refine ⟨_, rfl, ?_⟩))
           go_ret
           exact ⟨er, bw HB⟩
          ·rw [if_neg c44] at H
           have c44b0 : (a1_0 == 31) = false := beq_eq_false_iff_ne.mpr c44
           have c44b1 : (a1_0 != 31) = true := bne_iff_ne.mpr c44
           by_cases c47 : a1_0 = 33
           ·rw [if_pos c47] at H
            have c47b0 : (a1_0 == 33) = true := beq_iff_eq.mpr c47
            have c47b1 : (a1_0 != 33) = false := bne_eq_false_iff_eq.mpr c47
            clear c47
            obtain rfl := Option.some.inj H
            have hnb48 := NB258_257.out
            have hnc48 := NB257_258.out
            have hcz49_0 : wc.cell? ⟨gb258, 0, none⟩ = some (.int .i64 a1_0) := (blk_cell BK258.out 0).trans rfl
            have hcz49_1 : wc.cell? ⟨gb258, 1, none⟩ = some (.int .i64 a1_1) := (blk_cell BK258.out 1).trans rfl
            have hfz49_0 := blk_frozen BK258.out 0
            have hfz49_1 := blk_frozen BK258.out 1
            go_wp2_with (first | ((with_reducible refine gate_callee (f := 176) rfl ?_); refine goesL_ (some 34) rfl rfl Try.func176 (by kernel_rfl) rfl #[.int .i64 a1_0] rfl gl ?_; (with_reducible refine (impl_isUnary.calls a1_0 false _ A31.out).mono ?_); rintro e w' ⟨rfl, ⟨nd, rfl⟩⟩; refine ⟨_, rfl, ?_⟩))
            go_ret
            exact ⟨er, bw HB⟩
           ·rw [if_neg c47] at H
            have c47b0 : (a1_0 == 33) = false := beq_eq_false_iff_ne.mpr c47
            have c47b1 : (a1_0 != 33) = true := bne_iff_ne.mpr c47
            by_cases c50 : a1_0 = 34
            ·rw [if_pos c50] at H
             have c50b0 : (a1_0 == 34) = true := beq_iff_eq.mpr c50
             have c50b1 : (a1_0 != 34) = false := bne_eq_false_iff_eq.mpr c50
             clear c50
             obtain rfl := Option.some.inj H
             have hnb51 := NB258_257.out
             have hnc51 := NB257_258.out
             have hcz52_0 : wc.cell? ⟨gb258, 0, none⟩ = some (.int .i64 a1_0) := (blk_cell BK258.out 0).trans rfl
             have hcz52_1 : wc.cell? ⟨gb258, 1, none⟩ = some (.int .i64 a1_1) := (blk_cell BK258.out 1).trans rfl
             have hfz52_0 := blk_frozen BK258.out 0
             have hfz52_1 := blk_frozen BK258.out 1
             go_wp2_with (first | ((with_reducible refine gate_callee (f := 176) rfl ?_); refine goesL_ (some 34) rfl rfl Try.func176 (by kernel_rfl) rfl #[.int .i64 a1_0] rfl gl ?_; (with_reducible refine (impl_isUnary.calls a1_0 false _ A31.out).mono ?_); rintro e w' ⟨rfl, ⟨nd, rfl⟩⟩; refine ⟨_, rfl, ?_⟩))
             go_ret
             exact ⟨er, bw HB⟩
            ·rw [if_neg c50] at H
             have c50b0 : (a1_0 == 34) = false := beq_eq_false_iff_ne.mpr c50
             have c50b1 : (a1_0 != 34) = true := bne_iff_ne.mpr c50
             by_cases c53 : a1_0 = 37
             ·rw [if_pos c53] at H
              have c53b0 : (a1_0 == 37) = true := beq_iff_eq.mpr c53
              have c53b1 : (a1_0 != 37) = false := bne_eq_false_iff_eq.mpr c53
              clear c53
              obtain rfl := Option.some.inj H
              have hnb54 := NB258_257.out
              have hnc54 := NB257_258.out
              have hcz55_0 : wc.cell? ⟨gb258, 0, none⟩ = some (.int .i64 a1_0) := (blk_cell BK258.out 0).trans rfl
              have hcz55_1 : wc.cell? ⟨gb258, 1, none⟩ = some (.int .i64 a1_1) := (blk_cell BK258.out 1).trans rfl
              have hfz55_0 := blk_frozen BK258.out 0
              have hfz55_1 := blk_frozen BK258.out 1
              go_wp2_with (first | ((with_reducible refine gate_callee (f := 176) rfl ?_); refine goesL_ (some 34) rfl rfl Try.func176 (by kernel_rfl) rfl #[.int .i64 a1_0] rfl gl ?_; (with_reducible refine (impl_isUnary.calls a1_0 false _ A31.out).mono ?_); rintro e w' ⟨rfl, ⟨nd, rfl⟩⟩; refine ⟨_, rfl, ?_⟩))
              go_ret
              exact ⟨er, bw HB⟩
             ·rw [if_neg c53] at H
              have c53b0 : (a1_0 == 37) = false := beq_eq_false_iff_ne.mpr c53
              have c53b1 : (a1_0 != 37) = true := bne_iff_ne.mpr c53
              by_cases c56 : a1_0 = 38
              ·rw [if_pos c56] at H
               have c56b0 : (a1_0 == 38) = true := beq_iff_eq.mpr c56
               have c56b1 : (a1_0 != 38) = false := bne_eq_false_iff_eq.mpr c56
               clear c56
               obtain rfl := Option.some.inj H
               have hnb57 := NB258_257.out
               have hnc57 := NB257_258.out
               have hcz58_0 : wc.cell? ⟨gb258, 0, none⟩ = some (.int .i64 a1_0) := (blk_cell BK258.out 0).trans rfl
               have hcz58_1 : wc.cell? ⟨gb258, 1, none⟩ = some (.int .i64 a1_1) := (blk_cell BK258.out 1).trans rfl
               have hfz58_0 := blk_frozen BK258.out 0
               have hfz58_1 := blk_frozen BK258.out 1
               go_wp2_with (first | ((with_reducible refine gate_callee (f := 176) rfl ?_); refine goesL_ (some 34) rfl rfl Try.func176 (by kernel_rfl) rfl #[.int .i64 a1_0] rfl gl ?_; (with_reducible refine (impl_isUnary.calls a1_0 false _ A31.out).mono ?_); rintro e w' ⟨rfl, ⟨nd, rfl⟩⟩; refine ⟨_, rfl, ?_⟩))
               go_ret
               exact ⟨er, bw HB⟩
              ·rw [if_neg c56] at H
               have c56b0 : (a1_0 == 38) = false := beq_eq_false_iff_ne.mpr c56
               have c56b1 : (a1_0 != 38) = true := bne_iff_ne.mpr c56
               obtain rfl := Option.some.inj H
               have hnb59 := NB258_257.out
               have hnc59 := NB257_258.out
               have hcz60_0 : wc.cell? ⟨gb258, 0, none⟩ = some (.int .i64 a1_0) := (blk_cell BK258.out 0).trans rfl
               have hcz60_1 : wc.cell? ⟨gb258, 1, none⟩ = some (.int .i64 a1_1) := (blk_cell BK258.out 1).trans rfl
               have hfz60_0 := blk_frozen BK258.out 0
               have hfz60_1 := blk_frozen BK258.out 1
               go_wp2_with (first | ((with_reducible refine gate_callee (f := 176) rfl ?_); refine goesL_ (some 34) rfl rfl Try.func176 (by kernel_rfl) rfl #[.int .i64 a1_0] rfl gl ?_; (with_reducible refine (impl_isUnary.calls a1_0 false _ A31.out).mono ?_); rintro e w' ⟨rfl, ⟨nd, rfl⟩⟩; refine ⟨_, rfl, ?_⟩))
               go_ret
               exact ⟨er, bw HB⟩

/-! ### impl_isArith: function 177 -/
def impl_isArith.f (a0 : Int) : Option (Bool) := (impl_in.f a0 10 29).bind fun t263 => (some t263)
theorem impl_isArith.calls (a0 : Int) (r : Bool) (w : World) (h : impl_isArith.f a0 = some r) :
  Calls Try.prog 177 #[.int .i64 a0] w fun e w' => e = .returned (.bool r) ∧ Drawn0 w w' := by
 have H : ((impl_in.f a0 10 29).bind fun t263 => (some t263)) = some r := h
 clear h
 replace H := Option.bind_eq_some_iff.mp H
 obtain ⟨t263, A20, H⟩ := H
 replace H : (some t263) = some r := H
 have A2 := am A20
 clear A20
 obtain rfl := Option.some.inj H
 go_enter Try.func177, Try.ntmps177
 go_wp2_with (first | ((with_reducible refine gate_callee (f := 85) rfl ?_); refine goesL_ (some 4) rfl rfl Try.func85 (by kernel_rfl) rfl #[.int .i64 a0, .int .i64 10, .int .i64 29] rfl gl ?_; (with_reducible refine (impl_in.calls a0 10 29 t263 _ A2.out).mono ?_); rintro e w' ⟨rfl, ⟨nd, rfl⟩⟩; refine ⟨_, rfl, ?_⟩))
 go_ret
 exact ⟨by first | rfl | (simp; done) | (simp [*]; done), by repeat (first | exact Drawn0.refl _ | apply Drawn0.step)⟩

end Go.Proofs.Ytbmjmaahcaoajaa.QFnExactHeights
