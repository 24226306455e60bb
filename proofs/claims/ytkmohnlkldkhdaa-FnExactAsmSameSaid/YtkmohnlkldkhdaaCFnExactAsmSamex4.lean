import Derived.Test.YtkmohnlkldkhdaaCFnExactAsmSamex0
import Derived.Test.YtkmohnlkldkhdaaCFnExactAsmSamex2
import Derived.Test.YtkmohnlkldkhdaaCFnExactAsmSamex3
namespace Go.Proofs.Ytkmohnlkldkhdaa.QFnExactAsmSame
open Go.RowKit Go.Proofs.YtkmohnlkldkhdaaW
open PrintWords PrintLast PrintMore PrintShort PrintIsh
attribute [local go_sem] max2_int min2_int max_two min_two max_three min_three max_four min_four   -- for this text's walks alone
set_option linter.unusedVariables false
set_option maxHeartbeats 8000000
set_option maxRecDepth 100000
set_option linter.unusedSimpArgs false

attribute [local go_sem high] eqA154
mutual
def spec_l10SameIns.j0 : Nat → Bool → List (S154) → Int → Int → List (S130) → Int → List (S154) → Int → Int → List (S130) → Int → Option (Bool)
 | 0, _, _, _, _, _, _, _, _, _, _, _ => none
 | k + 1, x41, x114000, x114001, x114002, x114003, x114004, x115000, x115001, x115002, x115003, x115004 => if x41 = true then (some false) else (spec_l10SameIns.l0 k 0 x114000 x114001 x114002 x114003 x114004 x115000 x115001 x115002 x115003 x115004)
def spec_l10SameIns.l0 : Nat → Int → List (S154) → Int → Int → List (S130) → Int → List (S154) → Int → Int → List (S130) → Int → Option (Bool)
 | 0, _, _, _, _, _, _, _, _, _, _, _ => none
 | k + 1, x5, x114000, x114001, x114002, x114003, x114004, x115000, x115001, x115002, x115003, x115004 => if x5 < (x114000.length : Int) then (if 0 ≤ x5 then (if x5 < (x115000.length : Int) then (if (!(((rd_T154 x114000 x5).f0) == ((rd_T154 x115000 x5).f0)) || ((!(((rd_T154 x114000 x5).f1.f0) == ((rd_T154 x115000 x5).f1.f0)) || (!(((rd_T154 x114000 x5).f1.f1) == ((rd_T154 x115000 x5).f1.f1)))))) = true then (some false) else (spec_l10SameIns.l0 k (wrap64 (x5 + 1)) x114000 x114001 x114002 x114003 x114004 x115000 x115001 x115002 x115003 x115004)) else (none)) else (none)) else (some true)
end
def spec_l10SameIns.f (k : Nat) (l0_0 : List (S154)) (a0_1 : Int) (a0_2 : Int) (l0_3 : List (S130)) (a0_4 : Int) (l1_0 : List (S154)) (a1_1 : Int) (a1_2 : Int) (l1_3 : List (S130)) (a1_4 : Int) : Option (Bool) := if a0_1 = a1_1 then (if a0_2 = a1_2 then (if a0_4 = a1_4 then (if (l0_0.length : Int) = (l1_0.length : Int) then ((spec_l10SameVals.f k l0_3 l1_3).bind fun t115 => (spec_l10SameIns.j0 k (!t115) l0_0 a0_1 a0_2 l0_3 a0_4 l1_0 a1_1 a1_2 l1_3 a1_4)) else (spec_l10SameIns.j0 k true l0_0 a0_1 a0_2 l0_3 a0_4 l1_0 a1_1 a1_2 l1_3 a1_4)) else (spec_l10SameIns.j0 k true l0_0 a0_1 a0_2 l0_3 a0_4 l1_0 a1_1 a1_2 l1_3 a1_4)) else (spec_l10SameIns.j0 k true l0_0 a0_1 a0_2 l0_3 a0_4 l1_0 a1_1 a1_2 l1_3 a1_4)) else (spec_l10SameIns.j0 k true l0_0 a0_1 a0_2 l0_3 a0_4 l1_0 a1_1 a1_2 l1_3 a1_4)
theorem spec_l10SameIns.mono_l : ∀ k, (∀ y0 y1 y2 y3 y4 y5 y6 y7 y8 y9 y10, LeO (spec_l10SameIns.j0 k y0 y1 y2 y3 y4 y5 y6 y7 y8 y9 y10) (spec_l10SameIns.j0 (k + 1) y0 y1 y2 y3 y4 y5 y6 y7 y8 y9 y10)) ∧ (∀ y0 y1 y2 y3 y4 y5 y6 y7 y8 y9 y10, LeO (spec_l10SameIns.l0 k y0 y1 y2 y3 y4 y5 y6 y7 y8 y9 y10) (spec_l10SameIns.l0 (k + 1) y0 y1 y2 y3 y4 y5 y6 y7 y8 y9 y10))
 | 0 => ⟨fun _ _ _ _ _ _ _ _ _ _ _ r h => by simp [spec_l10SameIns.j0] at h, fun _ _ _ _ _ _ _ _ _ _ _ r h => by simp [spec_l10SameIns.l0] at h⟩
 | k + 1 => by
  obtain ⟨ih0, ih1⟩ := spec_l10SameIns.mono_l k
  refine ⟨?_, ?_⟩
  ·intro y0 y1 y2 y3 y4 y5 y6 y7 y8 y9 y10
   unfold spec_l10SameIns.j0
   repeat' first
   | (with_reducible exact ih0 _ _ _ _ _ _ _ _ _ _ _)
   | (with_reducible exact ih1 _ _ _ _ _ _ _ _ _ _ _)
   | (with_reducible exact spec_l10SameVals.mono _ _ _)
   | (with_reducible exact LeO.refl _)
   | (with_reducible exact LeO.none _)
   | (with_reducible refine LeO.ite ?_ ?_)
   | (with_reducible refine LeO.bind ?_ (fun _ => ?_))
  ·intro y0 y1 y2 y3 y4 y5 y6 y7 y8 y9 y10
   unfold spec_l10SameIns.l0
   repeat' first
   | (with_reducible exact ih0 _ _ _ _ _ _ _ _ _ _ _)
   | (with_reducible exact ih1 _ _ _ _ _ _ _ _ _ _ _)
   | (with_reducible exact spec_l10SameVals.mono _ _ _)
   | (with_reducible exact LeO.refl _)
   | (with_reducible exact LeO.none _)
   | (with_reducible refine LeO.ite ?_ ?_)
   | (with_reducible refine LeO.bind ?_ (fun _ => ?_))
theorem spec_l10SameIns.mono : ∀ a0 a1 a2 a3 a4 a5 a6 a7 a8 a9 k, LeO (spec_l10SameIns.f k a0 a1 a2 a3 a4 a5 a6 a7 a8 a9) (spec_l10SameIns.f (k + 1) a0 a1 a2 a3 a4 a5 a6 a7 a8 a9) := by
 intro a0 a1 a2 a3 a4 a5 a6 a7 a8 a9 k
 obtain ⟨ih0, ih1⟩ := spec_l10SameIns.mono_l k
 unfold spec_l10SameIns.f
 repeat' first
   | (with_reducible exact ih0 _ _ _ _ _ _ _ _ _ _ _)
   | (with_reducible exact ih1 _ _ _ _ _ _ _ _ _ _ _)
   | (with_reducible exact spec_l10SameVals.mono _ _ _)
   | (with_reducible exact LeO.refl _)
   | (with_reducible exact LeO.none _)
   | (with_reducible refine LeO.ite ?_ ?_)
   | (with_reducible refine LeO.bind ?_ (fun _ => ?_))
theorem spec_l10SameIns.calls (k : Nat) (A0_0 : Option Addr) (c0_0 : Nat) (l0_0 : List (S154)) (a0_1 : Int) (a0_2 : Int) (A0_3 : Option Addr) (c0_3 : Nat) (l0_3 : List (S130)) (a0_4 : Int) (A1_0 : Option Addr) (c1_0 : Nat) (l1_0 : List (S154)) (a1_1 : Int) (a1_2 : Int) (A1_3 : Option Addr) (c1_3 : Nat) (l1_3 : List (S130)) (a1_4 : Int) (r : Bool) (w : World) (hr0_0 : Kd.C k154 w A0_0 l0_0.length l0_0) (hc0_0 : l0_0.length ≤ c0_0) (hr0_3 : Kd.C k130 w A0_3 l0_3.length l0_3) (hc0_3 : l0_3.length ≤ c0_3) (hr1_0 : Kd.C k154 w A1_0 l1_0.length l1_0) (hc1_0 : l1_0.length ≤ c1_0) (hr1_3 : Kd.C k130 w A1_3 l1_3.length l1_3) (hc1_3 : l1_3.length ≤ c1_3) (h : spec_l10SameIns.f k l0_0 a0_1 a0_2 l0_3 a0_4 l1_0 a1_1 a1_2 l1_3 a1_4 = some r) :
  Calls Try.prog 88 #[.agg #[.slice A0_0 l0_0.length c0_0, .int .i64 a0_1, .int .i64 a0_2, .slice A0_3 l0_3.length c0_3, .int .i64 a0_4], .agg #[.slice A1_0 l1_0.length c1_0, .int .i64 a1_1, .int .i64 a1_2, .slice A1_3 l1_3.length c1_3, .int .i64 a1_4]] w fun e w' => e = .returned (.bool r) ∧ Below w.heap.size w w' := by
 have hu123 := Try.underlying123
 have hu154 := Try.underlying154
 have HR0_0 := am hr0_0
 have HC0_0 := am hc0_0
 clear hr0_0 hc0_0
 have HR0_3 := am hr0_3
 have HC0_3 := am hc0_3
 clear hr0_3 hc0_3
 have HR1_0 := am hr1_0
 have HC1_0 := am hc1_0
 clear hr1_0 hc1_0
 have HR1_3 := am hr1_3
 have HC1_3 := am hc1_3
 clear hr1_3 hc1_3
 have HB := am (Below.refl w.heap.size w)
 have H : (if a0_1 = a1_1 then (if a0_2 = a1_2 then (if a0_4 = a1_4 then (if (l0_0.length : Int) = (l1_0.length : Int) then ((spec_l10SameVals.f k l0_3 l1_3).bind fun t115 => (spec_l10SameIns.j0 k (!t115) l0_0 a0_1 a0_2 l0_3 a0_4 l1_0 a1_1 a1_2 l1_3 a1_4)) else (spec_l10SameIns.j0 k true l0_0 a0_1 a0_2 l0_3 a0_4 l1_0 a1_1 a1_2 l1_3 a1_4)) else (spec_l10SameIns.j0 k true l0_0 a0_1 a0_2 l0_3 a0_4 l1_0 a1_1 a1_2 l1_3 a1_4)) else (spec_l10SameIns.j0 k true l0_0 a0_1 a0_2 l0_3 a0_4 l1_0 a1_1 a1_2 l1_3 a1_4)) else (spec_l10SameIns.j0 k true l0_0 a0_1 a0_2 l0_3 a0_4 l1_0 a1_1 a1_2 l1_3 a1_4)) = some r := h
 clear h
 have HC3 := am H
 clear H
 go_enter Try.func88, Try.ntmps88
 go_upto_region 1 with (first | ((with_reducible refine gate_dst (N := 2) rfl ?_); (try (refine gate_guard (by rfl) ?_; dsimp only)); refine box_event ?hg (N := 2) ?hd (cs := #[.slice A0_0 l0_0.length c0_0, .int .i64 a0_1, .int .i64 a0_2, .slice A0_3 l0_3.length c0_3, .int .i64 a0_4]) (t := 123) ?hr ?_; (case hd => rfl); (case hg => rfl); (case hr => exact gs); intro gb113 hg w4 hbox hb; have BK113 := am (hbox); have GW113 := am ((by rw [hg]; exact (below_size (bw HB)) : w.heap.size ≤ gb113)); have GE113 := am ((by rw [hg]; exact (below_size (bw HB)) : w.heap.size ≤ gb113)); replace HB := am (below_step (bw HB) hb); clear hb hbox hg) | ((with_reducible refine gate_dst (N := 3) rfl ?_); (try (refine gate_guard (by rfl) ?_; dsimp only)); refine box_event ?hg (N := 3) ?hd (cs := #[.slice A1_0 l1_0.length c1_0, .int .i64 a1_1, .int .i64 a1_2, .slice A1_3 l1_3.length c1_3, .int .i64 a1_4]) (t := 123) ?hr ?_; (case hd => rfl); (case hg => rfl); (case hr => exact gs); intro gb114 hg w5 hbox hb; have BK114 := am (hbox); have GW114 := am ((by rw [hg]; exact (below_size (bw HB)) : w.heap.size ≤ gb114)); have GE114 := am ((by rw [hg]; exact (below_size (bw HB)) : w.heap.size ≤ gb114)); replace HB := am (below_step (bw HB) hb); have NB113_114 := am ((by rw [hg]; exact Nat.ne_of_lt (blk_lt (g := gb113) (o := .cells #[.slice A0_0 l0_0.length c0_0, .int .i64 a0_1, .int .i64 a0_2, .slice A0_3 l0_3.length c0_3, .int .i64 a0_4] 123 (0, 0)) (bp BK113)) : gb113 ≠ gb114)); have NB114_113 := am ((by rw [hg]; exact Nat.ne_of_gt (blk_lt (g := gb113) (o := .cells #[.slice A0_0 l0_0.length c0_0, .int .i64 a0_1, .int .i64 a0_2, .slice A0_3 l0_3.length c0_3, .int .i64 a0_4] 123 (0, 0)) (bp BK113)) : gb114 ≠ gb113)); replace BK113 := am (blk_below (g := gb113) (o := .cells #[.slice A0_0 l0_0.length c0_0, .int .i64 a0_1, .int .i64 a0_2, .slice A0_3 l0_3.length c0_3, .int .i64 a0_4] 123 (0, 0)) (bp BK113) hb); clear hb hbox hg))
 repeat (go_quiet (first | ((with_reducible refine gate_dst (N := 2) rfl ?_); (try (refine gate_guard (by rfl) ?_; dsimp only)); refine box_event ?hg (N := 2) ?hd (cs := #[.slice A0_0 l0_0.length c0_0, .int .i64 a0_1, .int .i64 a0_2, .slice A0_3 l0_3.length c0_3, .int .i64 a0_4]) (t := 123) ?hr ?_; (case hd => rfl); (case hg => rfl); (case hr => exact gs); intro gb113 hg w4 hbox hb; have BK113 := am (hbox); have GW113 := am ((by rw [hg]; exact (below_size (bw HB)) : w.heap.size ≤ gb113)); have GE113 := am ((by rw [hg]; exact (below_size (bw HB)) : w.heap.size ≤ gb113)); replace HB := am (below_step (bw HB) hb); clear hb hbox hg) | ((with_reducible refine gate_dst (N := 3) rfl ?_); (try (refine gate_guard (by rfl) ?_; dsimp only)); refine box_event ?hg (N := 3) ?hd (cs := #[.slice A1_0 l1_0.length c1_0, .int .i64 a1_1, .int .i64 a1_2, .slice A1_3 l1_3.length c1_3, .int .i64 a1_4]) (t := 123) ?hr ?_; (case hd => rfl); (case hg => rfl); (case hr => exact gs); intro gb114 hg w5 hbox hb; have BK114 := am (hbox); have GW114 := am ((by rw [hg]; exact (below_size (bw HB)) : w.heap.size ≤ gb114)); have GE114 := am ((by rw [hg]; exact (below_size (bw HB)) : w.heap.size ≤ gb114)); replace HB := am (below_step (bw HB) hb); have NB113_114 := am ((by rw [hg]; exact Nat.ne_of_lt (blk_lt (g := gb113) (o := .cells #[.slice A0_0 l0_0.length c0_0, .int .i64 a0_1, .int .i64 a0_2, .slice A0_3 l0_3.length c0_3, .int .i64 a0_4] 123 (0, 0)) (bp BK113)) : gb113 ≠ gb114)); have NB114_113 := am ((by rw [hg]; exact Nat.ne_of_gt (blk_lt (g := gb113) (o := .cells #[.slice A0_0 l0_0.length c0_0, .int .i64 a0_1, .int .i64 a0_2, .slice A0_3 l0_3.length c0_3, .int .i64 a0_4] 123 (0, 0)) (bp BK113)) : gb114 ≠ gb113)); replace BK113 := am (blk_below (g := gb113) (o := .cells #[.slice A0_0 l0_0.length c0_0, .int .i64 a0_1, .int .i64 a0_2, .slice A0_3 l0_3.length c0_3, .int .i64 a0_4] 123 (0, 0)) (bp BK113) hb); clear hb hbox hg)); go_upto_region 1 with (first | ((with_reducible refine gate_dst (N := 2) rfl ?_); (try (refine gate_guard (by rfl) ?_; dsimp only)); refine box_event ?hg (N := 2) ?hd (cs := #[.slice A0_0 l0_0.length c0_0, .int .i64 a0_1, .int .i64 a0_2, .slice A0_3 l0_3.length c0_3, .int .i64 a0_4]) (t := 123) ?hr ?_; (case hd => rfl); (case hg => rfl); (case hr => exact gs); intro gb113 hg w4 hbox hb; have BK113 := am (hbox); have GW113 := am ((by rw [hg]; exact (below_size (bw HB)) : w.heap.size ≤ gb113)); have GE113 := am ((by rw [hg]; exact (below_size (bw HB)) : w.heap.size ≤ gb113)); replace HB := am (below_step (bw HB) hb); clear hb hbox hg) | ((with_reducible refine gate_dst (N := 3) rfl ?_); (try (refine gate_guard (by rfl) ?_; dsimp only)); refine box_event ?hg (N := 3) ?hd (cs := #[.slice A1_0 l1_0.length c1_0, .int .i64 a1_1, .int .i64 a1_2, .slice A1_3 l1_3.length c1_3, .int .i64 a1_4]) (t := 123) ?hr ?_; (case hd => rfl); (case hg => rfl); (case hr => exact gs); intro gb114 hg w5 hbox hb; have BK114 := am (hbox); have GW114 := am ((by rw [hg]; exact (below_size (bw HB)) : w.heap.size ≤ gb114)); have GE114 := am ((by rw [hg]; exact (below_size (bw HB)) : w.heap.size ≤ gb114)); replace HB := am (below_step (bw HB) hb); have NB113_114 := am ((by rw [hg]; exact Nat.ne_of_lt (blk_lt (g := gb113) (o := .cells #[.slice A0_0 l0_0.length c0_0, .int .i64 a0_1, .int .i64 a0_2, .slice A0_3 l0_3.length c0_3, .int .i64 a0_4] 123 (0, 0)) (bp BK113)) : gb113 ≠ gb114)); have NB114_113 := am ((by rw [hg]; exact Nat.ne_of_gt (blk_lt (g := gb113) (o := .cells #[.slice A0_0 l0_0.length c0_0, .int .i64 a0_1, .int .i64 a0_2, .slice A0_3 l0_3.length c0_3, .int .i64 a0_4] 123 (0, 0)) (bp BK113)) : gb114 ≠ gb113)); replace BK113 := am (blk_below (g := gb113) (o := .cells #[.slice A0_0 l0_0.length c0_0, .int .i64 a0_1, .int .i64 a0_2, .slice A0_3 l0_3.length c0_3, .int .i64 a0_4] 123 (0, 0)) (bp BK113) hb); clear hb hbox hg)))
 (try simp only [Act.put, sa, sz, ss])
 go_cut [41] (fun v41 wc => ∃ (kq : Nat) (x41_2 : Bool), v41 = .bool x41_2 ∧ Aside0 (spec_l10SameIns.j0 kq x41_2 l0_0 a0_1 a0_2 l0_3 a0_4 l1_0 a1_1 a1_2 l1_3 a1_4 = some r) ∧ Aside0 (kq ≤ k) ∧ Aside0 (wc.heap[gb113]? = some (.cells #[(.slice A0_0 l0_0.length c0_0), .int .i64 a0_1, .int .i64 a0_2, (.slice A0_3 l0_3.length c0_3), .int .i64 a0_4] 123 (0, 0))) ∧ Aside0 (wc.heap[gb114]? = some (.cells #[(.slice A1_0 l1_0.length c1_0), .int .i64 a1_1, .int .i64 a1_2, (.slice A1_3 l1_3.length c1_3), .int .i64 a1_4] 123 (0, 0))) ∧ Aside0 (Below w.heap.size w wc))
 case first =>
  have H := HC3.out
  clear HC3
  by_cases c6 : a0_1 = a1_1
  ·rw [if_pos c6] at H
   have c6b0 : (a0_1 == a1_1) = true := beq_iff_eq.mpr c6
   have c6b1 : (a0_1 != a1_1) = false := bne_eq_false_iff_eq.mpr c6
   clear c6
   (first | rw [c6b0] | (simp only [i64_w, i32_w]; rw [c6b0]) | skip)
   by_cases c7 : a0_2 = a1_2
   ·rw [if_pos c7] at H
    have c7b0 : (a0_2 == a1_2) = true := beq_iff_eq.mpr c7
    have c7b1 : (a0_2 != a1_2) = false := bne_eq_false_iff_eq.mpr c7
    clear c7
    by_cases c8 : a0_4 = a1_4
    ·rw [if_pos c8] at H
     have c8b0 : (a0_4 == a1_4) = true := beq_iff_eq.mpr c8
     have c8b1 : (a0_4 != a1_4) = false := bne_eq_false_iff_eq.mpr c8
     clear c8
     by_cases c9 : (l0_0.length : Int) = (l1_0.length : Int)
     ·rw [if_pos c9] at H
      have c9b0 : ((l0_0.length : Int) == (l1_0.length : Int)) = true := beq_iff_eq.mpr c9
      have c9b1 : ((l0_0.length : Int) != (l1_0.length : Int)) = false := bne_eq_false_iff_eq.mpr c9
      have c9b2 : (l0_0.length == l1_0.length) = true := by first | simpa using c9 | (simp at c9 ⊢; omega)
      clear c9
      replace H := Option.bind_eq_some_iff.mp H
      obtain ⟨t115, A100, H⟩ := H
      replace H : (spec_l10SameIns.j0 k (!t115) l0_0 a0_1 a0_2 l0_3 a0_4 l1_0 a1_1 a1_2 l1_3 a1_4) = some r := H
      have A10 := am A100
      clear A100
      have H' := am H
      clear H
      have hnb11 := NB113_114.out
      have hnc11 := NB114_113.out
      have hcz12_0 : w5.cell? ⟨gb113, 0, none⟩ = some (.slice A0_0 l0_0.length c0_0) := bc BK113 0
      have hcz12_1 : w5.cell? ⟨gb113, 1, none⟩ = some (.int .i64 a0_1) := bc BK113 1
      have hcz12_2 : w5.cell? ⟨gb113, 2, none⟩ = some (.int .i64 a0_2) := bc BK113 2
      have hcz12_3 : w5.cell? ⟨gb113, 3, none⟩ = some (.slice A0_3 l0_3.length c0_3) := bc BK113 3
      have hcz12_4 : w5.cell? ⟨gb113, 4, none⟩ = some (.int .i64 a0_4) := bc BK113 4
      have hfz12_0 := bf BK113 0
      have hfz12_1 := bf BK113 1
      have hfz12_2 := bf BK113 2
      have hfz12_3 := bf BK113 3
      have hfz12_4 := bf BK113 4
      have hcz13_0 : w5.cell? ⟨gb114, 0, none⟩ = some (.slice A1_0 l1_0.length c1_0) := bc BK114 0
      have hcz13_1 : w5.cell? ⟨gb114, 1, none⟩ = some (.int .i64 a1_1) := bc BK114 1
      have hcz13_2 : w5.cell? ⟨gb114, 2, none⟩ = some (.int .i64 a1_2) := bc BK114 2
      have hcz13_3 : w5.cell? ⟨gb114, 3, none⟩ = some (.slice A1_3 l1_3.length c1_3) := bc BK114 3
      have hcz13_4 : w5.cell? ⟨gb114, 4, none⟩ = some (.int .i64 a1_4) := bc BK114 4
      have hfz13_0 := bf BK114 0
      have hfz13_1 := bf BK114 1
      have hfz13_2 := bf BK114 2
      have hfz13_3 := bf BK114 3
      have hfz13_4 := bf BK114 4
      go_wp2_with (first | (go_at_call 89; (with_reducible refine (spec_l10SameVals.calls k _ _ l0_3 _ _ l1_3 t115 _ ?side1 ?side2 ?side3 ?side4 A10.out).mono ?_); (case side1 => exact cc (Kd.C_below HR0_3.out HB.out)); (case side2 => exact HC0_3.out); (case side3 => exact cc (Kd.C_below HR1_3.out HB.out)); (case side4 => exact HC1_3.out); rintro e w' ⟨rfl, ⟨nd, rfl⟩⟩; (try first | exact ⟨rfl, _, World.drewN_drewN _ _ _⟩ | exact ⟨rfl, _, Eq.trans (World.drewN_drewN _ _ _) (congrArg (World.drewN _) (Nat.add_assoc _ _ _))⟩)))
      repeat (go_quiet (first | (go_at_call 89; (with_reducible refine (spec_l10SameVals.calls k _ _ l0_3 _ _ l1_3 t115 _ ?side1 ?side2 ?side3 ?side4 A10.out).mono ?_); (case side1 => exact cc (Kd.C_below HR0_3.out HB.out)); (case side2 => exact HC0_3.out); (case side3 => exact cc (Kd.C_below HR1_3.out HB.out)); (case side4 => exact HC1_3.out); rintro e w' ⟨rfl, ⟨nd, rfl⟩⟩; (try first | exact ⟨rfl, _, World.drewN_drewN _ _ _⟩ | exact ⟨rfl, _, Eq.trans (World.drewN_drewN _ _ _) (congrArg (World.drewN _) (Nat.add_assoc _ _ _))⟩))); try go_wp2_with (first | (go_at_call 89; (with_reducible refine (spec_l10SameVals.calls k _ _ l0_3 _ _ l1_3 t115 _ ?side1 ?side2 ?side3 ?side4 A10.out).mono ?_); (case side1 => exact cc (Kd.C_below HR0_3.out HB.out)); (case side2 => exact HC0_3.out); (case side3 => exact cc (Kd.C_below HR1_3.out HB.out)); (case side4 => exact HC1_3.out); rintro e w' ⟨rfl, ⟨nd, rfl⟩⟩; (try first | exact ⟨rfl, _, World.drewN_drewN _ _ _⟩ | exact ⟨rfl, _, Eq.trans (World.drewN_drewN _ _ _) (congrArg (World.drewN _) (Nat.add_assoc _ _ _))⟩))))
      go_meet
      case rel => exact ⟨_, (!t115), dr, H', ⟨by first | omega | exact Nat.le_refl _⟩, ⟨bp BK113⟩, ⟨bp BK114⟩, ⟨bw HB⟩⟩
     ·rw [if_neg c9] at H
      have c9b0 : ((l0_0.length : Int) == (l1_0.length : Int)) = false := beq_eq_false_iff_ne.mpr c9
      have c9b1 : ((l0_0.length : Int) != (l1_0.length : Int)) = true := bne_iff_ne.mpr c9
      have c9b2 : (l0_0.length == l1_0.length) = false := by first | simpa using c9 | (simp at c9 ⊢; omega)
      have H' := am H
      clear H
      have hnb14 := NB113_114.out
      have hnc14 := NB114_113.out
      have hcz15_0 : w5.cell? ⟨gb113, 0, none⟩ = some (.slice A0_0 l0_0.length c0_0) := bc BK113 0
      have hcz15_1 : w5.cell? ⟨gb113, 1, none⟩ = some (.int .i64 a0_1) := bc BK113 1
      have hcz15_2 : w5.cell? ⟨gb113, 2, none⟩ = some (.int .i64 a0_2) := bc BK113 2
      have hcz15_3 : w5.cell? ⟨gb113, 3, none⟩ = some (.slice A0_3 l0_3.length c0_3) := bc BK113 3
      have hcz15_4 : w5.cell? ⟨gb113, 4, none⟩ = some (.int .i64 a0_4) := bc BK113 4
      have hfz15_0 := bf BK113 0
      have hfz15_1 := bf BK113 1
      have hfz15_2 := bf BK113 2
      have hfz15_3 := bf BK113 3
      have hfz15_4 := bf BK113 4
      have hcz16_0 : w5.cell? ⟨gb114, 0, none⟩ = some (.slice A1_0 l1_0.length c1_0) := bc BK114 0
      have hcz16_1 : w5.cell? ⟨gb114, 1, none⟩ = some (.int .i64 a1_1) := bc BK114 1
      have hcz16_2 : w5.cell? ⟨gb114, 2, none⟩ = some (.int .i64 a1_2) := bc BK114 2
      have hcz16_3 : w5.cell? ⟨gb114, 3, none⟩ = some (.slice A1_3 l1_3.length c1_3) := bc BK114 3
      have hcz16_4 : w5.cell? ⟨gb114, 4, none⟩ = some (.int .i64 a1_4) := bc BK114 4
      have hfz16_0 := bf BK114 0
      have hfz16_1 := bf BK114 1
      have hfz16_2 := bf BK114 2
      have hfz16_3 := bf BK114 3
      have hfz16_4 := bf BK114 4
      go_wp2
      repeat (go_quiet (fail); try go_wp2)
      go_meet
      case rel => exact ⟨_, (true), dr, H', ⟨by first | omega | exact Nat.le_refl _⟩, ⟨bp BK113⟩, ⟨bp BK114⟩, ⟨bw HB⟩⟩
    ·rw [if_neg c8] at H
     have c8b0 : (a0_4 == a1_4) = false := beq_eq_false_iff_ne.mpr c8
     have c8b1 : (a0_4 != a1_4) = true := bne_iff_ne.mpr c8
     have H' := am H
     clear H
     have hnb17 := NB113_114.out
     have hnc17 := NB114_113.out
     have hcz18_0 : w5.cell? ⟨gb113, 0, none⟩ = some (.slice A0_0 l0_0.length c0_0) := bc BK113 0
     have hcz18_1 : w5.cell? ⟨gb113, 1, none⟩ = some (.int .i64 a0_1) := bc BK113 1
     have hcz18_2 : w5.cell? ⟨gb113, 2, none⟩ = some (.int .i64 a0_2) := bc BK113 2
     have hcz18_3 : w5.cell? ⟨gb113, 3, none⟩ = some (.slice A0_3 l0_3.length c0_3) := bc BK113 3
     have hcz18_4 : w5.cell? ⟨gb113, 4, none⟩ = some (.int .i64 a0_4) := bc BK113 4
     have hfz18_0 := bf BK113 0
     have hfz18_1 := bf BK113 1
     have hfz18_2 := bf BK113 2
     have hfz18_3 := bf BK113 3
     have hfz18_4 := bf BK113 4
     have hcz19_0 : w5.cell? ⟨gb114, 0, none⟩ = some (.slice A1_0 l1_0.length c1_0) := bc BK114 0
     have hcz19_1 : w5.cell? ⟨gb114, 1, none⟩ = some (.int .i64 a1_1) := bc BK114 1
     have hcz19_2 : w5.cell? ⟨gb114, 2, none⟩ = some (.int .i64 a1_2) := bc BK114 2
     have hcz19_3 : w5.cell? ⟨gb114, 3, none⟩ = some (.slice A1_3 l1_3.length c1_3) := bc BK114 3
     have hcz19_4 : w5.cell? ⟨gb114, 4, none⟩ = some (.int .i64 a1_4) := bc BK114 4
     have hfz19_0 := bf BK114 0
     have hfz19_1 := bf BK114 1
     have hfz19_2 := bf BK114 2
     have hfz19_3 := bf BK114 3
     have hfz19_4 := bf BK114 4
     go_wp2
     repeat (go_quiet (fail); try go_wp2)
     go_meet
     case rel => exact ⟨_, (true), dr, H', ⟨by first | omega | exact Nat.le_refl _⟩, ⟨bp BK113⟩, ⟨bp BK114⟩, ⟨bw HB⟩⟩
   ·rw [if_neg c7] at H
    have c7b0 : (a0_2 == a1_2) = false := beq_eq_false_iff_ne.mpr c7
    have c7b1 : (a0_2 != a1_2) = true := bne_iff_ne.mpr c7
    have H' := am H
    clear H
    have hnb20 := NB113_114.out
    have hnc20 := NB114_113.out
    have hcz21_0 : w5.cell? ⟨gb113, 0, none⟩ = some (.slice A0_0 l0_0.length c0_0) := bc BK113 0
    have hcz21_1 : w5.cell? ⟨gb113, 1, none⟩ = some (.int .i64 a0_1) := bc BK113 1
    have hcz21_2 : w5.cell? ⟨gb113, 2, none⟩ = some (.int .i64 a0_2) := bc BK113 2
    have hcz21_3 : w5.cell? ⟨gb113, 3, none⟩ = some (.slice A0_3 l0_3.length c0_3) := bc BK113 3
    have hcz21_4 : w5.cell? ⟨gb113, 4, none⟩ = some (.int .i64 a0_4) := bc BK113 4
    have hfz21_0 := bf BK113 0
    have hfz21_1 := bf BK113 1
    have hfz21_2 := bf BK113 2
    have hfz21_3 := bf BK113 3
    have hfz21_4 := bf BK113 4
    have hcz22_0 : w5.cell? ⟨gb114, 0, none⟩ = some (.slice A1_0 l1_0.length c1_0) := bc BK114 0
    have hcz22_1 : w5.cell? ⟨gb114, 1, none⟩ = some (.int .i64 a1_1) := bc BK114 1
    have hcz22_2 : w5.cell? ⟨gb114, 2, none⟩ = some (.int .i64 a1_2) := bc BK114 2
    have hcz22_3 : w5.cell? ⟨gb114, 3, none⟩ = some (.slice A1_3 l1_3.length c1_3) := bc BK114 3
    have hcz22_4 : w5.cell? ⟨gb114, 4, none⟩ = some (.int .i64 a1_4) := bc BK114 4
    have hfz22_0 := bf BK114 0
    have hfz22_1 := bf BK114 1
    have hfz22_2 := bf BK114 2
    have hfz22_3 := bf BK114 3
    have hfz22_4 := bf BK114 4
    go_wp2
    repeat (go_quiet (fail); try go_wp2)
    go_meet
    case rel => exact ⟨_, (true), dr, H', ⟨by first | omega | exact Nat.le_refl _⟩, ⟨bp BK113⟩, ⟨bp BK114⟩, ⟨bw HB⟩⟩
  ·rw [if_neg c6] at H
   have c6b0 : (a0_1 == a1_1) = false := beq_eq_false_iff_ne.mpr c6
   have c6b1 : (a0_1 != a1_1) = true := bne_iff_ne.mpr c6
   (first | rw [c6b0] | (simp only [i64_w, i32_w]; rw [c6b0]) | skip)
   have H' := am H
   clear H
   have hnb23 := NB113_114.out
   have hnc23 := NB114_113.out
   have hcz24_0 : w5.cell? ⟨gb113, 0, none⟩ = some (.slice A0_0 l0_0.length c0_0) := bc BK113 0
   have hcz24_1 : w5.cell? ⟨gb113, 1, none⟩ = some (.int .i64 a0_1) := bc BK113 1
   have hcz24_2 : w5.cell? ⟨gb113, 2, none⟩ = some (.int .i64 a0_2) := bc BK113 2
   have hcz24_3 : w5.cell? ⟨gb113, 3, none⟩ = some (.slice A0_3 l0_3.length c0_3) := bc BK113 3
   have hcz24_4 : w5.cell? ⟨gb113, 4, none⟩ = some (.int .i64 a0_4) := bc BK113 4
   have hfz24_0 := bf BK113 0
   have hfz24_1 := bf BK113 1
   have hfz24_2 := bf BK113 2
   have hfz24_3 := bf BK113 3
   have hfz24_4 := bf BK113 4
   have hcz25_0 : w5.cell? ⟨gb114, 0, none⟩ = some (.slice A1_0 l1_0.length c1_0) := bc BK114 0
   have hcz25_1 : w5.cell? ⟨gb114, 1, none⟩ = some (.int .i64 a1_1) := bc BK114 1
   have hcz25_2 : w5.cell? ⟨gb114, 2, none⟩ = some (.int .i64 a1_2) := bc BK114 2
   have hcz25_3 : w5.cell? ⟨gb114, 3, none⟩ = some (.slice A1_3 l1_3.length c1_3) := bc BK114 3
   have hcz25_4 : w5.cell? ⟨gb114, 4, none⟩ = some (.int .i64 a1_4) := bc BK114 4
   have hfz25_0 := bf BK114 0
   have hfz25_1 := bf BK114 1
   have hfz25_2 := bf BK114 2
   have hfz25_3 := bf BK114 3
   have hfz25_4 := bf BK114 4
   go_wp2
   repeat (go_quiet (fail); try go_wp2)
   go_meet
   case rel => exact ⟨_, (true), dr, H', ⟨by first | omega | exact Nat.le_refl _⟩, ⟨bp BK113⟩, ⟨bp BK114⟩, ⟨bw HB⟩⟩
 case rest =>
  clear HC3
  (try clear c1); (try clear c2); (try clear p2); (try clear c6); (try clear c6b0); (try clear c6b1); (try clear c7); (try clear c7b0); (try clear c7b1); (try clear c8); (try clear c8b0); (try clear c8b1); (try clear c9); (try clear c9b0); (try clear c9b1); (try clear c9b2); (try clear c11); (try clear c14); (try clear c17); (try clear c20); (try clear c23); (try clear hcz12_0); (try clear hcz12_1); (try clear hcz12_2); (try clear hcz12_3); (try clear hcz12_4); (try clear hcz13_0); (try clear hcz13_1); (try clear hcz13_2); (try clear hcz13_3); (try clear hcz13_4); (try clear hcz15_0); (try clear hcz15_1); (try clear hcz15_2); (try clear hcz15_3); (try clear hcz15_4); (try clear hcz16_0); (try clear hcz16_1); (try clear hcz16_2); (try clear hcz16_3); (try clear hcz16_4); (try clear hcz18_0); (try clear hcz18_1); (try clear hcz18_2); (try clear hcz18_3); (try clear hcz18_4); (try clear hcz19_0); (try clear hcz19_1); (try clear hcz19_2); (try clear hcz19_3); (try clear hcz19_4); (try clear hcz21_0); (try clear hcz21_1); (try clear hcz21_2); (try clear hcz21_3); (try clear hcz21_4); (try clear hcz22_0); (try clear hcz22_1); (try clear hcz22_2); (try clear hcz22_3); (try clear hcz22_4); (try clear hcz24_0); (try clear hcz24_1); (try clear hcz24_2); (try clear hcz24_3); (try clear hcz24_4); (try clear hcz25_0); (try clear hcz25_1); (try clear hcz25_2); (try clear hcz25_3); (try clear hcz25_4); (try clear hfz12_0); (try clear hfz12_1); (try clear hfz12_2); (try clear hfz12_3); (try clear hfz12_4); (try clear hfz13_0); (try clear hfz13_1); (try clear hfz13_2); (try clear hfz13_3); (try clear hfz13_4); (try clear hfz15_0); (try clear hfz15_1); (try clear hfz15_2); (try clear hfz15_3); (try clear hfz15_4); (try clear hfz16_0); (try clear hfz16_1); (try clear hfz16_2); (try clear hfz16_3); (try clear hfz16_4); (try clear hfz18_0); (try clear hfz18_1); (try clear hfz18_2); (try clear hfz18_3); (try clear hfz18_4); (try clear hfz19_0); (try clear hfz19_1); (try clear hfz19_2); (try clear hfz19_3); (try clear hfz19_4); (try clear hfz21_0); (try clear hfz21_1); (try clear hfz21_2); (try clear hfz21_3); (try clear hfz21_4); (try clear hfz22_0); (try clear hfz22_1); (try clear hfz22_2); (try clear hfz22_3); (try clear hfz22_4); (try clear hfz24_0); (try clear hfz24_1); (try clear hfz24_2); (try clear hfz24_3); (try clear hfz24_4); (try clear hfz25_0); (try clear hfz25_1); (try clear hfz25_2); (try clear hfz25_3); (try clear hfz25_4)
  obtain ⟨kq, x41_2, rfl, HA, HJ2, BK113, BK114, HB⟩ := hcut
  cases kq with
  | zero => exact absurd HA.out (by simp [spec_l10SameIns.j0])
  | succ kj2 =>
   have H := HA.out
   clear HA
   simp only [spec_l10SameIns.j0] at H
   by_cases c26 : x41_2 = true
   ·subst c26
    have H1 : (some false) = some r := by rw [if_pos rfl] at H; exact H
    clear H
    have H := H1
    clear H1
    obtain rfl := Option.some.inj H
    go_wp2
    repeat (go_quiet (fail); try go_wp2)
    go_ret
    exact ⟨er, bw HB⟩
   ·replace c26 := Bool.eq_false_iff.mpr c26
    subst c26
    have H1 : (spec_l10SameIns.l0 kj2 0 l0_0 a0_1 a0_2 l0_3 a0_4 l1_0 a1_1 a1_2 l1_3 a1_4) = some r := by rw [if_neg (show ¬ (false = true) by decide)] at H; exact H
    clear H
    have H := H1
    clear H1
    have H' := am H
    clear H
    go_wp2
    repeat (go_quiet (fail); try go_wp2)
    go_loopg [5] kj2 (fun kq v5 w' => ∃ (x5_2 : Int), v5 = .int .i64 x5_2 ∧ Aside0 (spec_l10SameIns.l0 kq x5_2 l0_0 a0_1 a0_2 l0_3 a0_4 l1_0 a1_1 a1_2 l1_3 a1_4 = some r) ∧ Aside0 (kq ≤ kj2) ∧ Aside0 (w'.heap[gb113]? = some (.cells #[(.slice A0_0 l0_0.length c0_0), .int .i64 a0_1, .int .i64 a0_2, (.slice A0_3 l0_3.length c0_3), .int .i64 a0_4] 123 (0, 0))) ∧ Aside0 (w'.heap[gb114]? = some (.cells #[(.slice A1_0 l1_0.length c1_0), .int .i64 a1_1, .int .i64 a1_2, (.slice A1_3 l1_3.length c1_3), .int .i64 a1_4] 123 (0, 0))) ∧ Aside0 (Below w.heap.size w w'))
    case atStart => exact ⟨(0), dr, H', ⟨Nat.le_refl _⟩, ⟨bp BK113⟩, ⟨bp BK114⟩, ⟨bw HB⟩⟩
    case round =>
     clear H'
     (try clear c1); (try clear c2); (try clear p2); (try clear c6); (try clear c6b0); (try clear c6b1); (try clear c7); (try clear c7b0); (try clear c7b1); (try clear c8); (try clear c8b0); (try clear c8b1); (try clear c9); (try clear c9b0); (try clear c9b1); (try clear c9b2); (try clear c11); (try clear c14); (try clear c17); (try clear c20); (try clear c23); (try clear c26); (try clear hcz12_0); (try clear hcz12_1); (try clear hcz12_2); (try clear hcz12_3); (try clear hcz12_4); (try clear hcz13_0); (try clear hcz13_1); (try clear hcz13_2); (try clear hcz13_3); (try clear hcz13_4); (try clear hcz15_0); (try clear hcz15_1); (try clear hcz15_2); (try clear hcz15_3); (try clear hcz15_4); (try clear hcz16_0); (try clear hcz16_1); (try clear hcz16_2); (try clear hcz16_3); (try clear hcz16_4); (try clear hcz18_0); (try clear hcz18_1); (try clear hcz18_2); (try clear hcz18_3); (try clear hcz18_4); (try clear hcz19_0); (try clear hcz19_1); (try clear hcz19_2); (try clear hcz19_3); (try clear hcz19_4); (try clear hcz21_0); (try clear hcz21_1); (try clear hcz21_2); (try clear hcz21_3); (try clear hcz21_4); (try clear hcz22_0); (try clear hcz22_1); (try clear hcz22_2); (try clear hcz22_3); (try clear hcz22_4); (try clear hcz24_0); (try clear hcz24_1); (try clear hcz24_2); (try clear hcz24_3); (try clear hcz24_4); (try clear hcz25_0); (try clear hcz25_1); (try clear hcz25_2); (try clear hcz25_3); (try clear hcz25_4); (try clear hfz12_0); (try clear hfz12_1); (try clear hfz12_2); (try clear hfz12_3); (try clear hfz12_4); (try clear hfz13_0); (try clear hfz13_1); (try clear hfz13_2); (try clear hfz13_3); (try clear hfz13_4); (try clear hfz15_0); (try clear hfz15_1); (try clear hfz15_2); (try clear hfz15_3); (try clear hfz15_4); (try clear hfz16_0); (try clear hfz16_1); (try clear hfz16_2); (try clear hfz16_3); (try clear hfz16_4); (try clear hfz18_0); (try clear hfz18_1); (try clear hfz18_2); (try clear hfz18_3); (try clear hfz18_4); (try clear hfz19_0); (try clear hfz19_1); (try clear hfz19_2); (try clear hfz19_3); (try clear hfz19_4); (try clear hfz21_0); (try clear hfz21_1); (try clear hfz21_2); (try clear hfz21_3); (try clear hfz21_4); (try clear hfz22_0); (try clear hfz22_1); (try clear hfz22_2); (try clear hfz22_3); (try clear hfz22_4); (try clear hfz24_0); (try clear hfz24_1); (try clear hfz24_2); (try clear hfz24_3); (try clear hfz24_4); (try clear hfz25_0); (try clear hfz25_1); (try clear hfz25_2); (try clear hfz25_3); (try clear hfz25_4); (try clear p2)
     obtain ⟨x5_2, rfl, HA, HK2, BK113, BK114, HB⟩ := hrel
     cases gk with
     | zero => exact absurd HA.out (by simp [spec_l10SameIns.l0])
     | succ k2 =>
      have H := HA.out
      clear HA
      simp only [spec_l10SameIns.l0] at H
      by_cases c27 : x5_2 < (l0_0.length : Int)
      ·rw [if_pos c27] at H
       have c27b0 := decide_eq_true c27
       clear c27
       by_cases c28 : 0 ≤ x5_2
       ·rw [if_pos c28] at H
        have c28b0 := decide_eq_true c28
        clear c28
        by_cases c29 : x5_2 < (l1_0.length : Int)
        ·rw [if_pos c29] at H
         have c29b0 := decide_eq_true c29
         clear c29
         by_cases c30 : (!(((rd_T154 l0_0 x5_2).f0) == ((rd_T154 l1_0 x5_2).f0)) || ((!(((rd_T154 l0_0 x5_2).f1.f0) == ((rd_T154 l1_0 x5_2).f1.f0)) || (!(((rd_T154 l0_0 x5_2).f1.f1) == ((rd_T154 l1_0 x5_2).f1.f1)))))) = true
         ·rw [if_pos c30] at H
          have c30b0 : (!(((rd_T154 l0_0 x5_2).f0) == ((rd_T154 l1_0 x5_2).f0)) || ((!(((rd_T154 l0_0 x5_2).f1.f0) == ((rd_T154 l1_0 x5_2).f1.f0)) || (!(((rd_T154 l0_0 x5_2).f1.f1) == ((rd_T154 l1_0 x5_2).f1.f1)))))) = true := c30
          clear c30
          obtain rfl := Option.some.inj H
          have hnb31 := NB113_114.out
          have hnc31 := NB114_113.out
          have hcz32_0 : wr.cell? ⟨gb113, 0, none⟩ = some (.slice A0_0 l0_0.length c0_0) := bc BK113 0
          have hcz32_1 : wr.cell? ⟨gb113, 1, none⟩ = some (.int .i64 a0_1) := bc BK113 1
          have hcz32_2 : wr.cell? ⟨gb113, 2, none⟩ = some (.int .i64 a0_2) := bc BK113 2
          have hcz32_3 : wr.cell? ⟨gb113, 3, none⟩ = some (.slice A0_3 l0_3.length c0_3) := bc BK113 3
          have hcz32_4 : wr.cell? ⟨gb113, 4, none⟩ = some (.int .i64 a0_4) := bc BK113 4
          have hfz32_0 := bf BK113 0
          have hfz32_1 := bf BK113 1
          have hfz32_2 := bf BK113 2
          have hfz32_3 := bf BK113 3
          have hfz32_4 := bf BK113 4
          have p116 : 0 ≤ (x5_2 : Int) := of_decide_eq_true as1
          have q116 : x5_2 < (l0_0.length : Int) := of_decide_eq_true as1
          obtain ⟨ad116, e116, hx116_0, hx116_1, hx116_2⟩ := at_T154 HR0_0.out x5_2 p116 q116
          cases e116
          replace hx116_0 := (HB.out.cell (World.block_lt_of_cell? w _ hx116_0)).trans hx116_0
          replace hx116_1 := (HB.out.cell (World.block_lt_of_cell? w _ hx116_1)).trans hx116_1
          replace hx116_2 := (HB.out.cell (World.block_lt_of_cell? w _ hx116_2)).trans hx116_2
          replace p116 := eq_true p116
          replace q116 := eq_true q116
          have hcz33_0 : wr.cell? ⟨gb114, 0, none⟩ = some (.slice A1_0 l1_0.length c1_0) := bc BK114 0
          have hcz33_1 : wr.cell? ⟨gb114, 1, none⟩ = some (.int .i64 a1_1) := bc BK114 1
          have hcz33_2 : wr.cell? ⟨gb114, 2, none⟩ = some (.int .i64 a1_2) := bc BK114 2
          have hcz33_3 : wr.cell? ⟨gb114, 3, none⟩ = some (.slice A1_3 l1_3.length c1_3) := bc BK114 3
          have hcz33_4 : wr.cell? ⟨gb114, 4, none⟩ = some (.int .i64 a1_4) := bc BK114 4
          have hfz33_0 := bf BK114 0
          have hfz33_1 := bf BK114 1
          have hfz33_2 := bf BK114 2
          have hfz33_3 := bf BK114 3
          have hfz33_4 := bf BK114 4
          have p117 : 0 ≤ (x5_2 : Int) := of_decide_eq_true as1
          have q117 : x5_2 < (l1_0.length : Int) := of_decide_eq_true as1
          obtain ⟨ad117, e117, hx117_0, hx117_1, hx117_2⟩ := at_T154 HR1_0.out x5_2 p117 q117
          cases e117
          replace hx117_0 := (HB.out.cell (World.block_lt_of_cell? w _ hx117_0)).trans hx117_0
          replace hx117_1 := (HB.out.cell (World.block_lt_of_cell? w _ hx117_1)).trans hx117_1
          replace hx117_2 := (HB.out.cell (World.block_lt_of_cell? w _ hx117_2)).trans hx117_2
          replace p117 := eq_true p117
          replace q117 := eq_true q117
          go_wp2
          repeat (go_quiet (fail); try go_wp2)
          go_ret
          exact ⟨er, bw HB⟩
         ·rw [if_neg c30] at H
          have c30b0 : (!(((rd_T154 l0_0 x5_2).f0) == ((rd_T154 l1_0 x5_2).f0)) || ((!(((rd_T154 l0_0 x5_2).f1.f0) == ((rd_T154 l1_0 x5_2).f1.f0)) || (!(((rd_T154 l0_0 x5_2).f1.f1) == ((rd_T154 l1_0 x5_2).f1.f1)))))) = false := by simpa using c30
          clear c30
          have H' := am H
          clear H
          have hnb34 := NB113_114.out
          have hnc34 := NB114_113.out
          have hcz35_0 : wr.cell? ⟨gb113, 0, none⟩ = some (.slice A0_0 l0_0.length c0_0) := bc BK113 0
          have hcz35_1 : wr.cell? ⟨gb113, 1, none⟩ = some (.int .i64 a0_1) := bc BK113 1
          have hcz35_2 : wr.cell? ⟨gb113, 2, none⟩ = some (.int .i64 a0_2) := bc BK113 2
          have hcz35_3 : wr.cell? ⟨gb113, 3, none⟩ = some (.slice A0_3 l0_3.length c0_3) := bc BK113 3
          have hcz35_4 : wr.cell? ⟨gb113, 4, none⟩ = some (.int .i64 a0_4) := bc BK113 4
          have hfz35_0 := bf BK113 0
          have hfz35_1 := bf BK113 1
          have hfz35_2 := bf BK113 2
          have hfz35_3 := bf BK113 3
          have hfz35_4 := bf BK113 4
          have p116 : 0 ≤ (x5_2 : Int) := of_decide_eq_true as1
          have q116 : x5_2 < (l0_0.length : Int) := of_decide_eq_true as1
          obtain ⟨ad116, e116, hx116_0, hx116_1, hx116_2⟩ := at_T154 HR0_0.out x5_2 p116 q116
          cases e116
          replace hx116_0 := (HB.out.cell (World.block_lt_of_cell? w _ hx116_0)).trans hx116_0
          replace hx116_1 := (HB.out.cell (World.block_lt_of_cell? w _ hx116_1)).trans hx116_1
          replace hx116_2 := (HB.out.cell (World.block_lt_of_cell? w _ hx116_2)).trans hx116_2
          replace p116 := eq_true p116
          replace q116 := eq_true q116
          have hcz36_0 : wr.cell? ⟨gb114, 0, none⟩ = some (.slice A1_0 l1_0.length c1_0) := bc BK114 0
          have hcz36_1 : wr.cell? ⟨gb114, 1, none⟩ = some (.int .i64 a1_1) := bc BK114 1
          have hcz36_2 : wr.cell? ⟨gb114, 2, none⟩ = some (.int .i64 a1_2) := bc BK114 2
          have hcz36_3 : wr.cell? ⟨gb114, 3, none⟩ = some (.slice A1_3 l1_3.length c1_3) := bc BK114 3
          have hcz36_4 : wr.cell? ⟨gb114, 4, none⟩ = some (.int .i64 a1_4) := bc BK114 4
          have hfz36_0 := bf BK114 0
          have hfz36_1 := bf BK114 1
          have hfz36_2 := bf BK114 2
          have hfz36_3 := bf BK114 3
          have hfz36_4 := bf BK114 4
          have p117 : 0 ≤ (x5_2 : Int) := of_decide_eq_true as1
          have q117 : x5_2 < (l1_0.length : Int) := of_decide_eq_true as1
          obtain ⟨ad117, e117, hx117_0, hx117_1, hx117_2⟩ := at_T154 HR1_0.out x5_2 p117 q117
          cases e117
          replace hx117_0 := (HB.out.cell (World.block_lt_of_cell? w _ hx117_0)).trans hx117_0
          replace hx117_1 := (HB.out.cell (World.block_lt_of_cell? w _ hx117_1)).trans hx117_1
          replace hx117_2 := (HB.out.cell (World.block_lt_of_cell? w _ hx117_2)).trans hx117_2
          replace p117 := eq_true p117
          replace q117 := eq_true q117
          go_wp2
          repeat (go_quiet (fail); try go_wp2)
          go_roundg k2
          case measure => have := HJ2.out; have := HK2.out; omega
          case rel => exact ⟨(wrap64 (x5_2 + 1)), dr, H', ⟨by have := HJ2.out; have := HK2.out; omega⟩, ⟨bp BK113⟩, ⟨bp BK114⟩, ⟨bw HB⟩⟩
        ·rw [if_neg c29] at H
         exact absurd H (by simp)
       ·rw [if_neg c28] at H
        exact absurd H (by simp)
      ·rw [if_neg c27] at H
       have c27b0 := decide_eq_false c27
       clear c27
       obtain rfl := Option.some.inj H
       have hnb37 := NB113_114.out
       have hnc37 := NB114_113.out
       have hcz38_0 : wr.cell? ⟨gb113, 0, none⟩ = some (.slice A0_0 l0_0.length c0_0) := bc BK113 0
       have hcz38_1 : wr.cell? ⟨gb113, 1, none⟩ = some (.int .i64 a0_1) := bc BK113 1
       have hcz38_2 : wr.cell? ⟨gb113, 2, none⟩ = some (.int .i64 a0_2) := bc BK113 2
       have hcz38_3 : wr.cell? ⟨gb113, 3, none⟩ = some (.slice A0_3 l0_3.length c0_3) := bc BK113 3
       have hcz38_4 : wr.cell? ⟨gb113, 4, none⟩ = some (.int .i64 a0_4) := bc BK113 4
       have hfz38_0 := bf BK113 0
       have hfz38_1 := bf BK113 1
       have hfz38_2 := bf BK113 2
       have hfz38_3 := bf BK113 3
       have hfz38_4 := bf BK113 4
       go_wp2
       repeat (go_quiet (fail); try go_wp2)
       go_ret
       exact ⟨er, bw HB⟩

end Go.Proofs.Ytkmohnlkldkhdaa.QFnExactAsmSame
