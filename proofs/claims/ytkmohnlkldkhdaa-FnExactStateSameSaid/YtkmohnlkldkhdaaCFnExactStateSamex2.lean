import Derived.Test.YtkmohnlkldkhdaaCFnExactStateSamex0
import Derived.Test.YtkmohnlkldkhdaaCFnExactStateSamex1
namespace Go.Proofs.Ytkmohnlkldkhdaa.QFnExactStateSame
open Go.RowKit Go.Proofs.YtkmohnlkldkhdaaW
open PrintWords PrintLast PrintMore PrintShort PrintIsh
attribute [local go_sem] max2_int min2_int max_two min_two max_three min_three max_four min_four   -- for this text's walks alone
set_option linter.unusedVariables false
set_option maxHeartbeats 8000000
set_option maxRecDepth 100000
set_option linter.unusedSimpArgs false

mutual
def spec_StateSame.j0 : Nat → Bool → List (S111) → List (List Int) → List Int → Int → Bool → Int → Int → List (S111) → List (List Int) → List Int → Int → Bool → Int → Int → Option (Bool)
 | 0, _, _, _, _, _, _, _, _, _, _, _, _, _, _, _ => none
 | k + 1, x58, x118000, x118001, x118002, x118003, x118004, x118005, x118006, x119000, x119001, x119002, x119003, x119004, x119005, x119006 => if x58 = true then (some false) else (spec_StateSame.l0 k 0 x118000 x118001 x118002 x118003 x118004 x118005 x118006 x119000 x119001 x119002 x119003 x119004 x119005 x119006)
def spec_StateSame.l0 : Nat → Int → List (S111) → List (List Int) → List Int → Int → Bool → Int → Int → List (S111) → List (List Int) → List Int → Int → Bool → Int → Int → Option (Bool)
 | 0, _, _, _, _, _, _, _, _, _, _, _, _, _, _, _ => none
 | k + 1, x5, x118000, x118001, x118002, x118003, x118004, x118005, x118006, x119000, x119001, x119002, x119003, x119004, x119005, x119006 => if x5 < (x118000.length : Int) then (if 0 ≤ x5 then (if x5 < (x119000.length : Int) then (if ((rd_T111 x118000 x5).f0) = ((rd_T111 x119000 x5).f0) then (if ((rd_T111 x118000 x5).f1) = ((rd_T111 x119000 x5).f1) then ((spec_l06SameNums.f k ((rd_T111 x118000 x5).f2) ((rd_T111 x119000 x5).f2)).bind fun t125 => (if t125 = true then ((spec_l06SameNums.f k ((rd_T111 x118000 x5).f3) ((rd_T111 x119000 x5).f3)).bind fun t126 => (if t126 = true then (spec_StateSame.l0 k (wrap64 (x5 + 1)) x118000 x118001 x118002 x118003 x118004 x118005 x118006 x119000 x119001 x119002 x119003 x119004 x119005 x119006) else (some false))) else (some false))) else (some false)) else (some false)) else (none)) else (none)) else (some true)
end
def spec_StateSame.f (k : Nat) (l0_0 : List (S111)) (l0_1 : List (List Int)) (l0_2 : List Int) (a0_3 : Int) (a0_4 : Bool) (a0_5 : Int) (a0_6 : Int) (l1_0 : List (S111)) (l1_1 : List (List Int)) (l1_2 : List Int) (a1_3 : Int) (a1_4 : Bool) (a1_5 : Int) (a1_6 : Int) : Option (Bool) := if (l0_0.length : Int) = (l1_0.length : Int) then (if a0_3 = a1_3 then (if (a0_4 != a1_4) = true then (spec_StateSame.j0 k true l0_0 l0_1 l0_2 a0_3 a0_4 a0_5 a0_6 l1_0 l1_1 l1_2 a1_3 a1_4 a1_5 a1_6) else (if a0_5 = a1_5 then (if a0_6 = a1_6 then ((spec_l06SameHeap.f k l0_1 l1_1).bind fun t119 => (if t119 = true then ((spec_l06SameNums.f k l0_2 l1_2).bind fun t120 => (spec_StateSame.j0 k (!t120) l0_0 l0_1 l0_2 a0_3 a0_4 a0_5 a0_6 l1_0 l1_1 l1_2 a1_3 a1_4 a1_5 a1_6)) else (spec_StateSame.j0 k true l0_0 l0_1 l0_2 a0_3 a0_4 a0_5 a0_6 l1_0 l1_1 l1_2 a1_3 a1_4 a1_5 a1_6))) else (spec_StateSame.j0 k true l0_0 l0_1 l0_2 a0_3 a0_4 a0_5 a0_6 l1_0 l1_1 l1_2 a1_3 a1_4 a1_5 a1_6)) else (spec_StateSame.j0 k true l0_0 l0_1 l0_2 a0_3 a0_4 a0_5 a0_6 l1_0 l1_1 l1_2 a1_3 a1_4 a1_5 a1_6))) else (spec_StateSame.j0 k true l0_0 l0_1 l0_2 a0_3 a0_4 a0_5 a0_6 l1_0 l1_1 l1_2 a1_3 a1_4 a1_5 a1_6)) else (spec_StateSame.j0 k true l0_0 l0_1 l0_2 a0_3 a0_4 a0_5 a0_6 l1_0 l1_1 l1_2 a1_3 a1_4 a1_5 a1_6)
theorem spec_StateSame.mono_l : ∀ k, (∀ y0 y1 y2 y3 y4 y5 y6 y7 y8 y9 y10 y11 y12 y13 y14, LeO (spec_StateSame.j0 k y0 y1 y2 y3 y4 y5 y6 y7 y8 y9 y10 y11 y12 y13 y14) (spec_StateSame.j0 (k + 1) y0 y1 y2 y3 y4 y5 y6 y7 y8 y9 y10 y11 y12 y13 y14)) ∧ (∀ y0 y1 y2 y3 y4 y5 y6 y7 y8 y9 y10 y11 y12 y13 y14, LeO (spec_StateSame.l0 k y0 y1 y2 y3 y4 y5 y6 y7 y8 y9 y10 y11 y12 y13 y14) (spec_StateSame.l0 (k + 1) y0 y1 y2 y3 y4 y5 y6 y7 y8 y9 y10 y11 y12 y13 y14))
 | 0 => ⟨fun _ _ _ _ _ _ _ _ _ _ _ _ _ _ _ r h => by simp [spec_StateSame.j0] at h, fun _ _ _ _ _ _ _ _ _ _ _ _ _ _ _ r h => by simp [spec_StateSame.l0] at h⟩
 | k + 1 => by
  obtain ⟨ih0, ih1⟩ := spec_StateSame.mono_l k
  refine ⟨?_, ?_⟩
  ·intro y0 y1 y2 y3 y4 y5 y6 y7 y8 y9 y10 y11 y12 y13 y14
   unfold spec_StateSame.j0
   repeat' first
   | (with_reducible exact ih0 _ _ _ _ _ _ _ _ _ _ _ _ _ _ _)
   | (with_reducible exact ih1 _ _ _ _ _ _ _ _ _ _ _ _ _ _ _)
   | (with_reducible exact spec_l06SameHeap.mono _ _ _)
   | (with_reducible exact spec_l06SameNums.mono _ _ _)
   | (with_reducible exact LeO.refl _)
   | (with_reducible exact LeO.none _)
   | (with_reducible refine LeO.ite ?_ ?_)
   | (with_reducible refine LeO.bind ?_ (fun _ => ?_))
  ·intro y0 y1 y2 y3 y4 y5 y6 y7 y8 y9 y10 y11 y12 y13 y14
   unfold spec_StateSame.l0
   repeat' first
   | (with_reducible exact ih0 _ _ _ _ _ _ _ _ _ _ _ _ _ _ _)
   | (with_reducible exact ih1 _ _ _ _ _ _ _ _ _ _ _ _ _ _ _)
   | (with_reducible exact spec_l06SameHeap.mono _ _ _)
   | (with_reducible exact spec_l06SameNums.mono _ _ _)
   | (with_reducible exact LeO.refl _)
   | (with_reducible exact LeO.none _)
   | (with_reducible refine LeO.ite ?_ ?_)
   | (with_reducible refine LeO.bind ?_ (fun _ => ?_))
theorem spec_StateSame.mono : ∀ a0 a1 a2 a3 a4 a5 a6 a7 a8 a9 a10 a11 a12 a13 k, LeO (spec_StateSame.f k a0 a1 a2 a3 a4 a5 a6 a7 a8 a9 a10 a11 a12 a13) (spec_StateSame.f (k + 1) a0 a1 a2 a3 a4 a5 a6 a7 a8 a9 a10 a11 a12 a13) := by
 intro a0 a1 a2 a3 a4 a5 a6 a7 a8 a9 a10 a11 a12 a13 k
 obtain ⟨ih0, ih1⟩ := spec_StateSame.mono_l k
 unfold spec_StateSame.f
 repeat' first
   | (with_reducible exact ih0 _ _ _ _ _ _ _ _ _ _ _ _ _ _ _)
   | (with_reducible exact ih1 _ _ _ _ _ _ _ _ _ _ _ _ _ _ _)
   | (with_reducible exact spec_l06SameHeap.mono _ _ _)
   | (with_reducible exact spec_l06SameNums.mono _ _ _)
   | (with_reducible exact LeO.refl _)
   | (with_reducible exact LeO.none _)
   | (with_reducible refine LeO.ite ?_ ?_)
   | (with_reducible refine LeO.bind ?_ (fun _ => ?_))
theorem spec_StateSame.calls (k : Nat) (A0_0 : Option Addr) (c0_0 : Nat) (l0_0 : List (S111)) (A0_1 : Option Addr) (c0_1 : Nat) (l0_1 : List (List Int)) (A0_2 : Option Addr) (c0_2 : Nat) (l0_2 : List Int) (a0_3 : Int) (a0_4 : Bool) (a0_5 : Int) (a0_6 : Int) (A1_0 : Option Addr) (c1_0 : Nat) (l1_0 : List (S111)) (A1_1 : Option Addr) (c1_1 : Nat) (l1_1 : List (List Int)) (A1_2 : Option Addr) (c1_2 : Nat) (l1_2 : List Int) (a1_3 : Int) (a1_4 : Bool) (a1_5 : Int) (a1_6 : Int) (r : Bool) (w : World) (hr0_0 : Kd.C k111 w A0_0 l0_0.length l0_0) (hc0_0 : l0_0.length ≤ c0_0) (hr0_1 : Kd.C (Kd.slice 2 (Kd.int .i64)) w A0_1 l0_1.length l0_1) (hc0_1 : l0_1.length ≤ c0_1) (hr0_2 : Kd.C (Kd.int .i64) w A0_2 l0_2.length l0_2) (hc0_2 : l0_2.length ≤ c0_2) (hr1_0 : Kd.C k111 w A1_0 l1_0.length l1_0) (hc1_0 : l1_0.length ≤ c1_0) (hr1_1 : Kd.C (Kd.slice 2 (Kd.int .i64)) w A1_1 l1_1.length l1_1) (hc1_1 : l1_1.length ≤ c1_1) (hr1_2 : Kd.C (Kd.int .i64) w A1_2 l1_2.length l1_2) (hc1_2 : l1_2.length ≤ c1_2) (h : spec_StateSame.f k l0_0 l0_1 l0_2 a0_3 a0_4 a0_5 a0_6 l1_0 l1_1 l1_2 a1_3 a1_4 a1_5 a1_6 = some r) :
  Calls Try.prog 43 #[.agg #[.slice A0_0 l0_0.length c0_0, .slice A0_1 l0_1.length c0_1, .slice A0_2 l0_2.length c0_2, .int .i64 a0_3, .bool a0_4, .int .i64 a0_5, .int .i64 a0_6], .agg #[.slice A1_0 l1_0.length c1_0, .slice A1_1 l1_1.length c1_1, .slice A1_2 l1_2.length c1_2, .int .i64 a1_3, .bool a1_4, .int .i64 a1_5, .int .i64 a1_6]] w fun e w' => e = .returned (.bool r) ∧ Below w.heap.size w w' := by
 have hu67 := Try.underlying67
 have hu111 := Try.underlying111
 have HR0_0 := am hr0_0
 have HC0_0 := am hc0_0
 clear hr0_0 hc0_0
 have HR0_1 := am hr0_1
 have HC0_1 := am hc0_1
 clear hr0_1 hc0_1
 have HR0_2 := am hr0_2
 have HC0_2 := am hc0_2
 clear hr0_2 hc0_2
 have HR1_0 := am hr1_0
 have HC1_0 := am hc1_0
 clear hr1_0 hc1_0
 have HR1_1 := am hr1_1
 have HC1_1 := am hc1_1
 clear hr1_1 hc1_1
 have HR1_2 := am hr1_2
 have HC1_2 := am hc1_2
 clear hr1_2 hc1_2
 have HB := am (Below.refl w.heap.size w)
 have H : (if (l0_0.length : Int) = (l1_0.length : Int) then (if a0_3 = a1_3 then (if (a0_4 != a1_4) = true then (spec_StateSame.j0 k true l0_0 l0_1 l0_2 a0_3 a0_4 a0_5 a0_6 l1_0 l1_1 l1_2 a1_3 a1_4 a1_5 a1_6) else (if a0_5 = a1_5 then (if a0_6 = a1_6 then ((spec_l06SameHeap.f k l0_1 l1_1).bind fun t119 => (if t119 = true then ((spec_l06SameNums.f k l0_2 l1_2).bind fun t120 => (spec_StateSame.j0 k (!t120) l0_0 l0_1 l0_2 a0_3 a0_4 a0_5 a0_6 l1_0 l1_1 l1_2 a1_3 a1_4 a1_5 a1_6)) else (spec_StateSame.j0 k true l0_0 l0_1 l0_2 a0_3 a0_4 a0_5 a0_6 l1_0 l1_1 l1_2 a1_3 a1_4 a1_5 a1_6))) else (spec_StateSame.j0 k true l0_0 l0_1 l0_2 a0_3 a0_4 a0_5 a0_6 l1_0 l1_1 l1_2 a1_3 a1_4 a1_5 a1_6)) else (spec_StateSame.j0 k true l0_0 l0_1 l0_2 a0_3 a0_4 a0_5 a0_6 l1_0 l1_1 l1_2 a1_3 a1_4 a1_5 a1_6))) else (spec_StateSame.j0 k true l0_0 l0_1 l0_2 a0_3 a0_4 a0_5 a0_6 l1_0 l1_1 l1_2 a1_3 a1_4 a1_5 a1_6)) else (spec_StateSame.j0 k true l0_0 l0_1 l0_2 a0_3 a0_4 a0_5 a0_6 l1_0 l1_1 l1_2 a1_3 a1_4 a1_5 a1_6)) = some r := h
 clear h
 have HC3 := am H
 clear H
 go_enter Try.func43, Try.ntmps43
 go_upto_region 1 with (first | ((with_reducible refine gate_dst (N := 2) rfl ?_); refine box_event ?hg (N := 2) ?hd (cs := #[.slice A0_0 l0_0.length c0_0, .slice A0_1 l0_1.length c0_1, .slice A0_2 l0_2.length c0_2, .int .i64 a0_3, .bool a0_4, .int .i64 a0_5, .int .i64 a0_6]) (t := 67) ?hr ?_; (case hd => rfl); (case hg => rfl); (case hr => exact gs); intro gb117 hg w4 hbox hb; have BK117 := am (hbox); have GW117 := am ((by rw [hg]; exact (below_size (bw HB)) : w.heap.size ≤ gb117)); have GE117 := am ((by rw [hg]; exact (below_size (bw HB)) : w.heap.size ≤ gb117)); replace HB := am (below_step (bw HB) hb); clear hb hbox hg) | ((with_reducible refine gate_dst (N := 3) rfl ?_); refine box_event ?hg (N := 3) ?hd (cs := #[.slice A1_0 l1_0.length c1_0, .slice A1_1 l1_1.length c1_1, .slice A1_2 l1_2.length c1_2, .int .i64 a1_3, .bool a1_4, .int .i64 a1_5, .int .i64 a1_6]) (t := 67) ?hr ?_; (case hd => rfl); (case hg => rfl); (case hr => exact gs); intro gb118 hg w5 hbox hb; have BK118 := am (hbox); have GW118 := am ((by rw [hg]; exact (below_size (bw HB)) : w.heap.size ≤ gb118)); have GE118 := am ((by rw [hg]; exact (below_size (bw HB)) : w.heap.size ≤ gb118)); replace HB := am (below_step (bw HB) hb); have NB117_118 := am ((by rw [hg]; exact Nat.ne_of_lt (blk_lt (g := gb117) (o := .cells #[.slice A0_0 l0_0.length c0_0, .slice A0_1 l0_1.length c0_1, .slice A0_2 l0_2.length c0_2, .int .i64 a0_3, .bool a0_4, .int .i64 a0_5, .int .i64 a0_6] 67 (0, 0)) (bp BK117)) : gb117 ≠ gb118)); have NB118_117 := am ((by rw [hg]; exact Nat.ne_of_gt (blk_lt (g := gb117) (o := .cells #[.slice A0_0 l0_0.length c0_0, .slice A0_1 l0_1.length c0_1, .slice A0_2 l0_2.length c0_2, .int .i64 a0_3, .bool a0_4, .int .i64 a0_5, .int .i64 a0_6] 67 (0, 0)) (bp BK117)) : gb118 ≠ gb117)); replace BK117 := am (blk_below (g := gb117) (o := .cells #[.slice A0_0 l0_0.length c0_0, .slice A0_1 l0_1.length c0_1, .slice A0_2 l0_2.length c0_2, .int .i64 a0_3, .bool a0_4, .int .i64 a0_5, .int .i64 a0_6] 67 (0, 0)) (bp BK117) hb); clear hb hbox hg))
 (try simp only [Act.put, sa, sz, ss])
 go_cut [58] (fun v58 wc => ∃ (kq : Nat) (x58_2 : Bool), v58 = .bool x58_2 ∧ Aside0 (spec_StateSame.j0 kq x58_2 l0_0 l0_1 l0_2 a0_3 a0_4 a0_5 a0_6 l1_0 l1_1 l1_2 a1_3 a1_4 a1_5 a1_6 = some r) ∧ Aside0 (kq ≤ k) ∧ Aside0 (wc.heap[gb117]? = some (.cells #[(.slice A0_0 l0_0.length c0_0), (.slice A0_1 l0_1.length c0_1), (.slice A0_2 l0_2.length c0_2), .int .i64 a0_3, .bool a0_4, .int .i64 a0_5, .int .i64 a0_6] 67 (0, 0))) ∧ Aside0 (wc.heap[gb118]? = some (.cells #[(.slice A1_0 l1_0.length c1_0), (.slice A1_1 l1_1.length c1_1), (.slice A1_2 l1_2.length c1_2), .int .i64 a1_3, .bool a1_4, .int .i64 a1_5, .int .i64 a1_6] 67 (0, 0))) ∧ Aside0 (Below w.heap.size w wc))
 case first =>
  have H := HC3.out
  clear HC3
  by_cases c6 : (l0_0.length : Int) = (l1_0.length : Int)
  ·rw [if_pos c6] at H
   have c6b0 : ((l0_0.length : Int) == (l1_0.length : Int)) = true := beq_iff_eq.mpr c6
   have c6b1 : ((l0_0.length : Int) != (l1_0.length : Int)) = false := bne_eq_false_iff_eq.mpr c6
   have c6b2 : (l0_0.length == l1_0.length) = true := by first | simpa using c6 | (simp at c6 ⊢; omega)
   clear c6
   (first | rw [c6b0] | (simp only [i64_w, i32_w]; rw [c6b0]) | skip)
   by_cases c7 : a0_3 = a1_3
   ·rw [if_pos c7] at H
    have c7b0 : (a0_3 == a1_3) = true := beq_iff_eq.mpr c7
    have c7b1 : (a0_3 != a1_3) = false := bne_eq_false_iff_eq.mpr c7
    clear c7
    by_cases c8 : (a0_4 != a1_4) = true
    ·rw [if_pos c8] at H
     have c8b0 : (a0_4 != a1_4) = true := c8
     (try (have c8b1 : decide (a0_4 = a1_4) = false := by simpa using c8))
     (try (have c8b2 : (a0_4 == a1_4) = false := by simpa using c8))
     (try (have c8b3 : ¬ (a0_4 = a1_4) := by simpa using c8))
     clear c8
     have H' := am H
     clear H
     have hnb9 := NB117_118.out
     have hnc9 := NB118_117.out
     have hcz10_0 : w5.cell? ⟨gb117, 0, none⟩ = some (.slice A0_0 l0_0.length c0_0) := bc BK117 0
     have hcz10_1 : w5.cell? ⟨gb117, 1, none⟩ = some (.slice A0_1 l0_1.length c0_1) := bc BK117 1
     have hcz10_2 : w5.cell? ⟨gb117, 2, none⟩ = some (.slice A0_2 l0_2.length c0_2) := bc BK117 2
     have hcz10_3 : w5.cell? ⟨gb117, 3, none⟩ = some (.int .i64 a0_3) := bc BK117 3
     have hcz10_4 : w5.cell? ⟨gb117, 4, none⟩ = some (.bool a0_4) := bc BK117 4
     have hcz10_5 : w5.cell? ⟨gb117, 5, none⟩ = some (.int .i64 a0_5) := bc BK117 5
     have hcz10_6 : w5.cell? ⟨gb117, 6, none⟩ = some (.int .i64 a0_6) := bc BK117 6
     have hfz10_0 := bf BK117 0
     have hfz10_1 := bf BK117 1
     have hfz10_2 := bf BK117 2
     have hfz10_3 := bf BK117 3
     have hfz10_4 := bf BK117 4
     have hfz10_5 := bf BK117 5
     have hfz10_6 := bf BK117 6
     have hcz11_0 : w5.cell? ⟨gb118, 0, none⟩ = some (.slice A1_0 l1_0.length c1_0) := bc BK118 0
     have hcz11_1 : w5.cell? ⟨gb118, 1, none⟩ = some (.slice A1_1 l1_1.length c1_1) := bc BK118 1
     have hcz11_2 : w5.cell? ⟨gb118, 2, none⟩ = some (.slice A1_2 l1_2.length c1_2) := bc BK118 2
     have hcz11_3 : w5.cell? ⟨gb118, 3, none⟩ = some (.int .i64 a1_3) := bc BK118 3
     have hcz11_4 : w5.cell? ⟨gb118, 4, none⟩ = some (.bool a1_4) := bc BK118 4
     have hcz11_5 : w5.cell? ⟨gb118, 5, none⟩ = some (.int .i64 a1_5) := bc BK118 5
     have hcz11_6 : w5.cell? ⟨gb118, 6, none⟩ = some (.int .i64 a1_6) := bc BK118 6
     have hfz11_0 := bf BK118 0
     have hfz11_1 := bf BK118 1
     have hfz11_2 := bf BK118 2
     have hfz11_3 := bf BK118 3
     have hfz11_4 := bf BK118 4
     have hfz11_5 := bf BK118 5
     have hfz11_6 := bf BK118 6
     go_wp2
     go_meet
     case rel => exact ⟨_, (true), dr, H', ⟨by first | omega | exact Nat.le_refl _⟩, ⟨bp BK117⟩, ⟨bp BK118⟩, ⟨bw HB⟩⟩
    ·rw [if_neg c8] at H
     have c8b0 : (a0_4 != a1_4) = false := by simpa using c8
     (try (have c8b1 : decide (a0_4 = a1_4) = true := by simpa using c8))
     (try (have c8b2 : (a0_4 == a1_4) = true := by simpa using c8))
     clear c8
     by_cases c12 : a0_5 = a1_5
     ·rw [if_pos c12] at H
      have c12b0 : (a0_5 == a1_5) = true := beq_iff_eq.mpr c12
      have c12b1 : (a0_5 != a1_5) = false := bne_eq_false_iff_eq.mpr c12
      clear c12
      by_cases c13 : a0_6 = a1_6
      ·rw [if_pos c13] at H
       have c13b0 : (a0_6 == a1_6) = true := beq_iff_eq.mpr c13
       have c13b1 : (a0_6 != a1_6) = false := bne_eq_false_iff_eq.mpr c13
       clear c13
       replace H := Option.bind_eq_some_iff.mp H
       obtain ⟨t119, A140, H⟩ := H
       replace H : (if t119 = true then ((spec_l06SameNums.f k l0_2 l1_2).bind fun t120 => (spec_StateSame.j0 k (!t120) l0_0 l0_1 l0_2 a0_3 a0_4 a0_5 a0_6 l1_0 l1_1 l1_2 a1_3 a1_4 a1_5 a1_6)) else (spec_StateSame.j0 k true l0_0 l0_1 l0_2 a0_3 a0_4 a0_5 a0_6 l1_0 l1_1 l1_2 a1_3 a1_4 a1_5 a1_6)) = some r := H
       have A14 := am A140
       clear A140
       by_cases c15 : t119 = true
       ·subst c15
        have H1 : ((spec_l06SameNums.f k l0_2 l1_2).bind fun t120 => (spec_StateSame.j0 k (!t120) l0_0 l0_1 l0_2 a0_3 a0_4 a0_5 a0_6 l1_0 l1_1 l1_2 a1_3 a1_4 a1_5 a1_6)) = some r := by rw [if_pos rfl] at H; exact H
        clear H
        have H := H1
        clear H1
        replace H := Option.bind_eq_some_iff.mp H
        obtain ⟨t120, A160, H⟩ := H
        replace H : (spec_StateSame.j0 k (!t120) l0_0 l0_1 l0_2 a0_3 a0_4 a0_5 a0_6 l1_0 l1_1 l1_2 a1_3 a1_4 a1_5 a1_6) = some r := H
        have A16 := am A160
        clear A160
        have H' := am H
        clear H
        have hnb17 := NB117_118.out
        have hnc17 := NB118_117.out
        have hcz18_0 : w5.cell? ⟨gb117, 0, none⟩ = some (.slice A0_0 l0_0.length c0_0) := bc BK117 0
        have hcz18_1 : w5.cell? ⟨gb117, 1, none⟩ = some (.slice A0_1 l0_1.length c0_1) := bc BK117 1
        have hcz18_2 : w5.cell? ⟨gb117, 2, none⟩ = some (.slice A0_2 l0_2.length c0_2) := bc BK117 2
        have hcz18_3 : w5.cell? ⟨gb117, 3, none⟩ = some (.int .i64 a0_3) := bc BK117 3
        have hcz18_4 : w5.cell? ⟨gb117, 4, none⟩ = some (.bool a0_4) := bc BK117 4
        have hcz18_5 : w5.cell? ⟨gb117, 5, none⟩ = some (.int .i64 a0_5) := bc BK117 5
        have hcz18_6 : w5.cell? ⟨gb117, 6, none⟩ = some (.int .i64 a0_6) := bc BK117 6
        have hfz18_0 := bf BK117 0
        have hfz18_1 := bf BK117 1
        have hfz18_2 := bf BK117 2
        have hfz18_3 := bf BK117 3
        have hfz18_4 := bf BK117 4
        have hfz18_5 := bf BK117 5
        have hfz18_6 := bf BK117 6
        have hcz19_0 : w5.cell? ⟨gb118, 0, none⟩ = some (.slice A1_0 l1_0.length c1_0) := bc BK118 0
        have hcz19_1 : w5.cell? ⟨gb118, 1, none⟩ = some (.slice A1_1 l1_1.length c1_1) := bc BK118 1
        have hcz19_2 : w5.cell? ⟨gb118, 2, none⟩ = some (.slice A1_2 l1_2.length c1_2) := bc BK118 2
        have hcz19_3 : w5.cell? ⟨gb118, 3, none⟩ = some (.int .i64 a1_3) := bc BK118 3
        have hcz19_4 : w5.cell? ⟨gb118, 4, none⟩ = some (.bool a1_4) := bc BK118 4
        have hcz19_5 : w5.cell? ⟨gb118, 5, none⟩ = some (.int .i64 a1_5) := bc BK118 5
        have hcz19_6 : w5.cell? ⟨gb118, 6, none⟩ = some (.int .i64 a1_6) := bc BK118 6
        have hfz19_0 := bf BK118 0
        have hfz19_1 := bf BK118 1
        have hfz19_2 := bf BK118 2
        have hfz19_3 := bf BK118 3
        have hfz19_4 := bf BK118 4
        have hfz19_5 := bf BK118 5
        have hfz19_6 := bf BK118 6
        go_wp2_with (first | (go_at_call 76; (with_reducible refine (spec_l06SameHeap.calls k _ _ l0_1 _ _ l1_1 true _ ?side1 ?side2 ?side3 ?side4 A14.out).mono ?_); (case side1 => exact cc (Kd.C_below HR0_1.out HB.out)); (case side2 => exact HC0_1.out); (case side3 => exact cc (Kd.C_below HR1_1.out HB.out)); (case side4 => exact HC1_1.out); rintro e w' ⟨rfl, ⟨nd, rfl⟩⟩) | (go_at_call 77; (with_reducible refine (spec_l06SameNums.calls k _ _ l0_2 _ _ l1_2 t120 _ ?side1 ?side2 ?side3 ?side4 A16.out).mono ?_); (case side1 => exact cc (Kd.C_below HR0_2.out (bw HB))); (case side2 => exact HC0_2.out); (case side3 => exact cc (Kd.C_below HR1_2.out (bw HB))); (case side4 => exact HC1_2.out); rintro e w' ⟨rfl, ⟨nd, rfl⟩⟩))
        go_meet
        case rel => exact ⟨_, (!t120), dr, H', ⟨by first | omega | exact Nat.le_refl _⟩, ⟨bp BK117⟩, ⟨bp BK118⟩, ⟨bw HB⟩⟩
       ·replace c15 := Bool.eq_false_iff.mpr c15
        subst c15
        have H1 : (spec_StateSame.j0 k true l0_0 l0_1 l0_2 a0_3 a0_4 a0_5 a0_6 l1_0 l1_1 l1_2 a1_3 a1_4 a1_5 a1_6) = some r := by rw [if_neg (show ¬ (false = true) by decide)] at H; exact H
        clear H
        have H := H1
        clear H1
        have H' := am H
        clear H
        have hnb20 := NB117_118.out
        have hnc20 := NB118_117.out
        have hcz21_0 : w5.cell? ⟨gb117, 0, none⟩ = some (.slice A0_0 l0_0.length c0_0) := bc BK117 0
        have hcz21_1 : w5.cell? ⟨gb117, 1, none⟩ = some (.slice A0_1 l0_1.length c0_1) := bc BK117 1
        have hcz21_2 : w5.cell? ⟨gb117, 2, none⟩ = some (.slice A0_2 l0_2.length c0_2) := bc BK117 2
        have hcz21_3 : w5.cell? ⟨gb117, 3, none⟩ = some (.int .i64 a0_3) := bc BK117 3
        have hcz21_4 : w5.cell? ⟨gb117, 4, none⟩ = some (.bool a0_4) := bc BK117 4
        have hcz21_5 : w5.cell? ⟨gb117, 5, none⟩ = some (.int .i64 a0_5) := bc BK117 5
        have hcz21_6 : w5.cell? ⟨gb117, 6, none⟩ = some (.int .i64 a0_6) := bc BK117 6
        have hfz21_0 := bf BK117 0
        have hfz21_1 := bf BK117 1
        have hfz21_2 := bf BK117 2
        have hfz21_3 := bf BK117 3
        have hfz21_4 := bf BK117 4
        have hfz21_5 := bf BK117 5
        have hfz21_6 := bf BK117 6
        have hcz22_0 : w5.cell? ⟨gb118, 0, none⟩ = some (.slice A1_0 l1_0.length c1_0) := bc BK118 0
        have hcz22_1 : w5.cell? ⟨gb118, 1, none⟩ = some (.slice A1_1 l1_1.length c1_1) := bc BK118 1
        have hcz22_2 : w5.cell? ⟨gb118, 2, none⟩ = some (.slice A1_2 l1_2.length c1_2) := bc BK118 2
        have hcz22_3 : w5.cell? ⟨gb118, 3, none⟩ = some (.int .i64 a1_3) := bc BK118 3
        have hcz22_4 : w5.cell? ⟨gb118, 4, none⟩ = some (.bool a1_4) := bc BK118 4
        have hcz22_5 : w5.cell? ⟨gb118, 5, none⟩ = some (.int .i64 a1_5) := bc BK118 5
        have hcz22_6 : w5.cell? ⟨gb118, 6, none⟩ = some (.int .i64 a1_6) := bc BK118 6
        have hfz22_0 := bf BK118 0
        have hfz22_1 := bf BK118 1
        have hfz22_2 := bf BK118 2
        have hfz22_3 := bf BK118 3
        have hfz22_4 := bf BK118 4
        have hfz22_5 := bf BK118 5
        have hfz22_6 := bf BK118 6
        go_wp2_with (first | (go_at_call 76; (with_reducible refine (spec_l06SameHeap.calls k _ _ l0_1 _ _ l1_1 false _ ?side1 ?side2 ?side3 ?side4 A14.out).mono ?_); (case side1 => exact cc (Kd.C_below HR0_1.out HB.out)); (case side2 => exact HC0_1.out); (case side3 => exact cc (Kd.C_below HR1_1.out HB.out)); (case side4 => exact HC1_1.out); rintro e w' ⟨rfl, ⟨nd, rfl⟩⟩))
        go_meet
        case rel => exact ⟨_, (true), dr, H', ⟨by first | omega | exact Nat.le_refl _⟩, ⟨bp BK117⟩, ⟨bp BK118⟩, ⟨bw HB⟩⟩
      ·rw [if_neg c13] at H
       have c13b0 : (a0_6 == a1_6) = false := beq_eq_false_iff_ne.mpr c13
       have c13b1 : (a0_6 != a1_6) = true := bne_iff_ne.mpr c13
       have H' := am H
       clear H
       have hnb23 := NB117_118.out
       have hnc23 := NB118_117.out
       have hcz24_0 : w5.cell? ⟨gb117, 0, none⟩ = some (.slice A0_0 l0_0.length c0_0) := bc BK117 0
       have hcz24_1 : w5.cell? ⟨gb117, 1, none⟩ = some (.slice A0_1 l0_1.length c0_1) := bc BK117 1
       have hcz24_2 : w5.cell? ⟨gb117, 2, none⟩ = some (.slice A0_2 l0_2.length c0_2) := bc BK117 2
       have hcz24_3 : w5.cell? ⟨gb117, 3, none⟩ = some (.int .i64 a0_3) := bc BK117 3
       have hcz24_4 : w5.cell? ⟨gb117, 4, none⟩ = some (.bool a0_4) := bc BK117 4
       have hcz24_5 : w5.cell? ⟨gb117, 5, none⟩ = some (.int .i64 a0_5) := bc BK117 5
       have hcz24_6 : w5.cell? ⟨gb117, 6, none⟩ = some (.int .i64 a0_6) := bc BK117 6
       have hfz24_0 := bf BK117 0
       have hfz24_1 := bf BK117 1
       have hfz24_2 := bf BK117 2
       have hfz24_3 := bf BK117 3
       have hfz24_4 := bf BK117 4
       have hfz24_5 := bf BK117 5
       have hfz24_6 := bf BK117 6
       have hcz25_0 : w5.cell? ⟨gb118, 0, none⟩ = some (.slice A1_0 l1_0.length c1_0) := bc BK118 0
       have hcz25_1 : w5.cell? ⟨gb118, 1, none⟩ = some (.slice A1_1 l1_1.length c1_1) := bc BK118 1
       have hcz25_2 : w5.cell? ⟨gb118, 2, none⟩ = some (.slice A1_2 l1_2.length c1_2) := bc BK118 2
       have hcz25_3 : w5.cell? ⟨gb118, 3, none⟩ = some (.int .i64 a1_3) := bc BK118 3
       have hcz25_4 : w5.cell? ⟨gb118, 4, none⟩ = some (.bool a1_4) := bc BK118 4
       have hcz25_5 : w5.cell? ⟨gb118, 5, none⟩ = some (.int .i64 a1_5) := bc BK118 5
       have hcz25_6 : w5.cell? ⟨gb118, 6, none⟩ = some (.int .i64 a1_6) := bc BK118 6
       have hfz25_0 := bf BK118 0
       have hfz25_1 := bf BK118 1
       have hfz25_2 := bf BK118 2
       have hfz25_3 := bf BK118 3
       have hfz25_4 := bf BK118 4
       have hfz25_5 := bf BK118 5
       have hfz25_6 := bf BK118 6
       go_wp2
       go_meet
       case rel => exact ⟨_, (true), dr, H', ⟨by first | omega | exact Nat.le_refl _⟩, ⟨bp BK117⟩, ⟨bp BK118⟩, ⟨bw HB⟩⟩
     ·rw [if_neg c12] at H
      have c12b0 : (a0_5 == a1_5) = false := beq_eq_false_iff_ne.mpr c12
      have c12b1 : (a0_5 != a1_5) = true := bne_iff_ne.mpr c12
      have H' := am H
      clear H
      have hnb26 := NB117_118.out
      have hnc26 := NB118_117.out
      have hcz27_0 : w5.cell? ⟨gb117, 0, none⟩ = some (.slice A0_0 l0_0.length c0_0) := bc BK117 0
      have hcz27_1 : w5.cell? ⟨gb117, 1, none⟩ = some (.slice A0_1 l0_1.length c0_1) := bc BK117 1
      have hcz27_2 : w5.cell? ⟨gb117, 2, none⟩ = some (.slice A0_2 l0_2.length c0_2) := bc BK117 2
      have hcz27_3 : w5.cell? ⟨gb117, 3, none⟩ = some (.int .i64 a0_3) := bc BK117 3
      have hcz27_4 : w5.cell? ⟨gb117, 4, none⟩ = some (.bool a0_4) := bc BK117 4
      have hcz27_5 : w5.cell? ⟨gb117, 5, none⟩ = some (.int .i64 a0_5) := bc BK117 5
      have hcz27_6 : w5.cell? ⟨gb117, 6, none⟩ = some (.int .i64 a0_6) := bc BK117 6
      have hfz27_0 := bf BK117 0
      have hfz27_1 := bf BK117 1
      have hfz27_2 := bf BK117 2
      have hfz27_3 := bf BK117 3
      have hfz27_4 := bf BK117 4
      have hfz27_5 := bf BK117 5
      have hfz27_6 := bf BK117 6
      have hcz28_0 : w5.cell? ⟨gb118, 0, none⟩ = some (.slice A1_0 l1_0.length c1_0) := bc BK118 0
      have hcz28_1 : w5.cell? ⟨gb118, 1, none⟩ = some (.slice A1_1 l1_1.length c1_1) := bc BK118 1
      have hcz28_2 : w5.cell? ⟨gb118, 2, none⟩ = some (.slice A1_2 l1_2.length c1_2) := bc BK118 2
      have hcz28_3 : w5.cell? ⟨gb118, 3, none⟩ = some (.int .i64 a1_3) := bc BK118 3
      have hcz28_4 : w5.cell? ⟨gb118, 4, none⟩ = some (.bool a1_4) := bc BK118 4
      have hcz28_5 : w5.cell? ⟨gb118, 5, none⟩ = some (.int .i64 a1_5) := bc BK118 5
      have hcz28_6 : w5.cell? ⟨gb118, 6, none⟩ = some (.int .i64 a1_6) := bc BK118 6
      have hfz28_0 := bf BK118 0
      have hfz28_1 := bf BK118 1
      have hfz28_2 := bf BK118 2
      have hfz28_3 := bf BK118 3
      have hfz28_4 := bf BK118 4
      have hfz28_5 := bf BK118 5
      have hfz28_6 := bf BK118 6
      go_wp2
      go_meet
      case rel => exact ⟨_, (true), dr, H', ⟨by first | omega | exact Nat.le_refl _⟩, ⟨bp BK117⟩, ⟨bp BK118⟩, ⟨bw HB⟩⟩
   ·rw [if_neg c7] at H
    have c7b0 : (a0_3 == a1_3) = false := beq_eq_false_iff_ne.mpr c7
    have c7b1 : (a0_3 != a1_3) = true := bne_iff_ne.mpr c7
    have H' := am H
    clear H
    have hnb29 := NB117_118.out
    have hnc29 := NB118_117.out
    have hcz30_0 : w5.cell? ⟨gb117, 0, none⟩ = some (.slice A0_0 l0_0.length c0_0) := bc BK117 0
    have hcz30_1 : w5.cell? ⟨gb117, 1, none⟩ = some (.slice A0_1 l0_1.length c0_1) := bc BK117 1
    have hcz30_2 : w5.cell? ⟨gb117, 2, none⟩ = some (.slice A0_2 l0_2.length c0_2) := bc BK117 2
    have hcz30_3 : w5.cell? ⟨gb117, 3, none⟩ = some (.int .i64 a0_3) := bc BK117 3
    have hcz30_4 : w5.cell? ⟨gb117, 4, none⟩ = some (.bool a0_4) := bc BK117 4
    have hcz30_5 : w5.cell? ⟨gb117, 5, none⟩ = some (.int .i64 a0_5) := bc BK117 5
    have hcz30_6 : w5.cell? ⟨gb117, 6, none⟩ = some (.int .i64 a0_6) := bc BK117 6
    have hfz30_0 := bf BK117 0
    have hfz30_1 := bf BK117 1
    have hfz30_2 := bf BK117 2
    have hfz30_3 := bf BK117 3
    have hfz30_4 := bf BK117 4
    have hfz30_5 := bf BK117 5
    have hfz30_6 := bf BK117 6
    have hcz31_0 : w5.cell? ⟨gb118, 0, none⟩ = some (.slice A1_0 l1_0.length c1_0) := bc BK118 0
    have hcz31_1 : w5.cell? ⟨gb118, 1, none⟩ = some (.slice A1_1 l1_1.length c1_1) := bc BK118 1
    have hcz31_2 : w5.cell? ⟨gb118, 2, none⟩ = some (.slice A1_2 l1_2.length c1_2) := bc BK118 2
    have hcz31_3 : w5.cell? ⟨gb118, 3, none⟩ = some (.int .i64 a1_3) := bc BK118 3
    have hcz31_4 : w5.cell? ⟨gb118, 4, none⟩ = some (.bool a1_4) := bc BK118 4
    have hcz31_5 : w5.cell? ⟨gb118, 5, none⟩ = some (.int .i64 a1_5) := bc BK118 5
    have hcz31_6 : w5.cell? ⟨gb118, 6, none⟩ = some (.int .i64 a1_6) := bc BK118 6
    have hfz31_0 := bf BK118 0
    have hfz31_1 := bf BK118 1
    have hfz31_2 := bf BK118 2
    have hfz31_3 := bf BK118 3
    have hfz31_4 := bf BK118 4
    have hfz31_5 := bf BK118 5
    have hfz31_6 := bf BK118 6
    go_wp2
    go_meet
    case rel => exact ⟨_, (true), dr, H', ⟨by first | omega | exact Nat.le_refl _⟩, ⟨bp BK117⟩, ⟨bp BK118⟩, ⟨bw HB⟩⟩
  ·rw [if_neg c6] at H
   have c6b0 : ((l0_0.length : Int) == (l1_0.length : Int)) = false := beq_eq_false_iff_ne.mpr c6
   have c6b1 : ((l0_0.length : Int) != (l1_0.length : Int)) = true := bne_iff_ne.mpr c6
   have c6b2 : (l0_0.length == l1_0.length) = false := by first | simpa using c6 | (simp at c6 ⊢; omega)
   (first | rw [c6b0] | (simp only [i64_w, i32_w]; rw [c6b0]) | skip)
   have H' := am H
   clear H
   have hnb32 := NB117_118.out
   have hnc32 := NB118_117.out
   have hcz33_0 : w5.cell? ⟨gb117, 0, none⟩ = some (.slice A0_0 l0_0.length c0_0) := bc BK117 0
   have hcz33_1 : w5.cell? ⟨gb117, 1, none⟩ = some (.slice A0_1 l0_1.length c0_1) := bc BK117 1
   have hcz33_2 : w5.cell? ⟨gb117, 2, none⟩ = some (.slice A0_2 l0_2.length c0_2) := bc BK117 2
   have hcz33_3 : w5.cell? ⟨gb117, 3, none⟩ = some (.int .i64 a0_3) := bc BK117 3
   have hcz33_4 : w5.cell? ⟨gb117, 4, none⟩ = some (.bool a0_4) := bc BK117 4
   have hcz33_5 : w5.cell? ⟨gb117, 5, none⟩ = some (.int .i64 a0_5) := bc BK117 5
   have hcz33_6 : w5.cell? ⟨gb117, 6, none⟩ = some (.int .i64 a0_6) := bc BK117 6
   have hfz33_0 := bf BK117 0
   have hfz33_1 := bf BK117 1
   have hfz33_2 := bf BK117 2
   have hfz33_3 := bf BK117 3
   have hfz33_4 := bf BK117 4
   have hfz33_5 := bf BK117 5
   have hfz33_6 := bf BK117 6
   have hcz34_0 : w5.cell? ⟨gb118, 0, none⟩ = some (.slice A1_0 l1_0.length c1_0) := bc BK118 0
   have hcz34_1 : w5.cell? ⟨gb118, 1, none⟩ = some (.slice A1_1 l1_1.length c1_1) := bc BK118 1
   have hcz34_2 : w5.cell? ⟨gb118, 2, none⟩ = some (.slice A1_2 l1_2.length c1_2) := bc BK118 2
   have hcz34_3 : w5.cell? ⟨gb118, 3, none⟩ = some (.int .i64 a1_3) := bc BK118 3
   have hcz34_4 : w5.cell? ⟨gb118, 4, none⟩ = some (.bool a1_4) := bc BK118 4
   have hcz34_5 : w5.cell? ⟨gb118, 5, none⟩ = some (.int .i64 a1_5) := bc BK118 5
   have hcz34_6 : w5.cell? ⟨gb118, 6, none⟩ = some (.int .i64 a1_6) := bc BK118 6
   have hfz34_0 := bf BK118 0
   have hfz34_1 := bf BK118 1
   have hfz34_2 := bf BK118 2
   have hfz34_3 := bf BK118 3
   have hfz34_4 := bf BK118 4
   have hfz34_5 := bf BK118 5
   have hfz34_6 := bf BK118 6
   go_wp2
   go_meet
   case rel => exact ⟨_, (true), dr, H', ⟨by first | omega | exact Nat.le_refl _⟩, ⟨bp BK117⟩, ⟨bp BK118⟩, ⟨bw HB⟩⟩
 case rest =>
  clear HC3
  (try clear c1); (try clear c2); (try clear p2); (try clear c3); (try clear c4); (try clear c6); (try clear c6b0); (try clear c6b1); (try clear c6b2); (try clear c7); (try clear c7b0); (try clear c7b1); (try clear c8); (try clear c8b0); (try clear c8b1); (try clear c8b2); (try clear c9); (try clear c12); (try clear c12b0); (try clear c12b1); (try clear c13); (try clear c13b0); (try clear c13b1); (try clear c15); (try clear c17); (try clear c20); (try clear c23); (try clear c26); (try clear c29); (try clear c32); (try clear hcz10_0); (try clear hcz10_1); (try clear hcz10_2); (try clear hcz10_3); (try clear hcz10_4); (try clear hcz10_5); (try clear hcz10_6); (try clear hcz11_0); (try clear hcz11_1); (try clear hcz11_2); (try clear hcz11_3); (try clear hcz11_4); (try clear hcz11_5); (try clear hcz11_6); (try clear hcz18_0); (try clear hcz18_1); (try clear hcz18_2); (try clear hcz18_3); (try clear hcz18_4); (try clear hcz18_5); (try clear hcz18_6); (try clear hcz19_0); (try clear hcz19_1); (try clear hcz19_2); (try clear hcz19_3); (try clear hcz19_4); (try clear hcz19_5); (try clear hcz19_6); (try clear hcz21_0); (try clear hcz21_1); (try clear hcz21_2); (try clear hcz21_3); (try clear hcz21_4); (try clear hcz21_5); (try clear hcz21_6); (try clear hcz22_0); (try clear hcz22_1); (try clear hcz22_2); (try clear hcz22_3); (try clear hcz22_4); (try clear hcz22_5); (try clear hcz22_6); (try clear hcz24_0); (try clear hcz24_1); (try clear hcz24_2); (try clear hcz24_3); (try clear hcz24_4); (try clear hcz24_5); (try clear hcz24_6); (try clear hcz25_0); (try clear hcz25_1); (try clear hcz25_2); (try clear hcz25_3); (try clear hcz25_4); (try clear hcz25_5); (try clear hcz25_6); (try clear hcz27_0); (try clear hcz27_1); (try clear hcz27_2); (try clear hcz27_3); (try clear hcz27_4); (try clear hcz27_5); (try clear hcz27_6); (try clear hcz28_0); (try clear hcz28_1); (try clear hcz28_2); (try clear hcz28_3); (try clear hcz28_4); (try clear hcz28_5); (try clear hcz28_6); (try clear hcz30_0); (try clear hcz30_1); (try clear hcz30_2); (try clear hcz30_3); (try clear hcz30_4); (try clear hcz30_5); (try clear hcz30_6); (try clear hcz31_0); (try clear hcz31_1); (try clear hcz31_2); (try clear hcz31_3); (try clear hcz31_4); (try clear hcz31_5); (try clear hcz31_6); (try clear hcz33_0); (try clear hcz33_1); (try clear hcz33_2); (try clear hcz33_3); (try clear hcz33_4); (try clear hcz33_5); (try clear hcz33_6); (try clear hcz34_0); (try clear hcz34_1); (try clear hcz34_2); (try clear hcz34_3); (try clear hcz34_4); (try clear hcz34_5); (try clear hcz34_6); (try clear hfz10_0); (try clear hfz10_1); (try clear hfz10_2); (try clear hfz10_3); (try clear hfz10_4); (try clear hfz10_5); (try clear hfz10_6); (try clear hfz11_0); (try clear hfz11_1); (try clear hfz11_2); (try clear hfz11_3); (try clear hfz11_4); (try clear hfz11_5); (try clear hfz11_6); (try clear hfz18_0); (try clear hfz18_1); (try clear hfz18_2); (try clear hfz18_3); (try clear hfz18_4); (try clear hfz18_5); (try clear hfz18_6); (try clear hfz19_0); (try clear hfz19_1); (try clear hfz19_2); (try clear hfz19_3); (try clear hfz19_4); (try clear hfz19_5); (try clear hfz19_6); (try clear hfz21_0); (try clear hfz21_1); (try clear hfz21_2); (try clear hfz21_3); (try clear hfz21_4); (try clear hfz21_5); (try clear hfz21_6); (try clear hfz22_0); (try clear hfz22_1); (try clear hfz22_2); (try clear hfz22_3); (try clear hfz22_4); (try clear hfz22_5); (try clear hfz22_6); (try clear hfz24_0); (try clear hfz24_1); (try clear hfz24_2); (try clear hfz24_3); (try clear hfz24_4); (try clear hfz24_5); (try clear hfz24_6); (try clear hfz25_0); (try clear hfz25_1); (try clear hfz25_2); (try clear hfz25_3); (try clear hfz25_4); (try clear hfz25_5); (try clear hfz25_6); (try clear hfz27_0); (try clear hfz27_1); (try clear hfz27_2); (try clear hfz27_3); (try clear hfz27_4); (try clear hfz27_5); (try clear hfz27_6); (try clear hfz28_0); (try clear hfz28_1); (try clear hfz28_2); (try clear hfz28_3); (try clear hfz28_4); (try clear hfz28_5); (try clear hfz28_6); (try clear hfz30_0); (try clear hfz30_1); (try clear hfz30_2); (try clear hfz30_3); (try clear hfz30_4); (try clear hfz30_5); (try clear hfz30_6); (try clear hfz31_0); (try clear hfz31_1); (try clear hfz31_2); (try clear hfz31_3); (try clear hfz31_4); (try clear hfz31_5); (try clear hfz31_6); (try clear hfz33_0); (try clear hfz33_1); (try clear hfz33_2); (try clear hfz33_3); (try clear hfz33_4); (try clear hfz33_5); (try clear hfz33_6); (try clear hfz34_0); (try clear hfz34_1); (try clear hfz34_2); (try clear hfz34_3); (try clear hfz34_4); (try clear hfz34_5); (try clear hfz34_6)
  obtain ⟨kq, x58_2, rfl, HA, HJ2, BK117, BK118, HB⟩ := hcut
  cases kq with
  | zero => exact absurd HA.out (by simp [spec_StateSame.j0])
  | succ kj2 =>
   have H := HA.out
   clear HA
   simp only [spec_StateSame.j0] at H
   by_cases c35 : x58_2 = true
   ·subst c35
    have H1 : (some false) = some r := by rw [if_pos rfl] at H; exact H
    clear H
    have H := H1
    clear H1
    obtain rfl := Option.some.inj H
    go_wp2
    go_ret
    exact ⟨er, bw HB⟩
   ·replace c35 := Bool.eq_false_iff.mpr c35
    subst c35
    have H1 : (spec_StateSame.l0 kj2 0 l0_0 l0_1 l0_2 a0_3 a0_4 a0_5 a0_6 l1_0 l1_1 l1_2 a1_3 a1_4 a1_5 a1_6) = some r := by rw [if_neg (show ¬ (false = true) by decide)] at H; exact H
    clear H
    have H := H1
    clear H1
    have H' := am H
    clear H
    go_wp2
    go_loopg [5] kj2 (fun kq v5 w' => ∃ (x5_2 : Int), v5 = .int .i64 x5_2 ∧ Aside0 (spec_StateSame.l0 kq x5_2 l0_0 l0_1 l0_2 a0_3 a0_4 a0_5 a0_6 l1_0 l1_1 l1_2 a1_3 a1_4 a1_5 a1_6 = some r) ∧ Aside0 (kq ≤ kj2) ∧ Aside0 (w'.heap[gb117]? = some (.cells #[(.slice A0_0 l0_0.length c0_0), (.slice A0_1 l0_1.length c0_1), (.slice A0_2 l0_2.length c0_2), .int .i64 a0_3, .bool a0_4, .int .i64 a0_5, .int .i64 a0_6] 67 (0, 0))) ∧ Aside0 (w'.heap[gb118]? = some (.cells #[(.slice A1_0 l1_0.length c1_0), (.slice A1_1 l1_1.length c1_1), (.slice A1_2 l1_2.length c1_2), .int .i64 a1_3, .bool a1_4, .int .i64 a1_5, .int .i64 a1_6] 67 (0, 0))) ∧ Aside0 (Below w.heap.size w w'))
    case atStart => exact ⟨(0), dr, H', ⟨Nat.le_refl _⟩, ⟨bp BK117⟩, ⟨bp BK118⟩, ⟨bw HB⟩⟩
    case round =>
     clear H'
     (try clear c1); (try clear c2); (try clear p2); (try clear c3); (try clear c4); (try clear c6); (try clear c6b0); (try clear c6b1); (try clear c6b2); (try clear c7); (try clear c7b0); (try clear c7b1); (try clear c8); (try clear c8b0); (try clear c8b1); (try clear c8b2); (try clear c9); (try clear c12); (try clear c12b0); (try clear c12b1); (try clear c13); (try clear c13b0); (try clear c13b1); (try clear c15); (try clear c17); (try clear c20); (try clear c23); (try clear c26); (try clear c29); (try clear c32); (try clear c35); (try clear hcz10_0); (try clear hcz10_1); (try clear hcz10_2); (try clear hcz10_3); (try clear hcz10_4); (try clear hcz10_5); (try clear hcz10_6); (try clear hcz11_0); (try clear hcz11_1); (try clear hcz11_2); (try clear hcz11_3); (try clear hcz11_4); (try clear hcz11_5); (try clear hcz11_6); (try clear hcz18_0); (try clear hcz18_1); (try clear hcz18_2); (try clear hcz18_3); (try clear hcz18_4); (try clear hcz18_5); (try clear hcz18_6); (try clear hcz19_0); (try clear hcz19_1); (try clear hcz19_2); (try clear hcz19_3); (try clear hcz19_4); (try clear hcz19_5); (try clear hcz19_6); (try clear hcz21_0); (try clear hcz21_1); (try clear hcz21_2); (try clear hcz21_3); (try clear hcz21_4); (try clear hcz21_5); (try clear hcz21_6); (try clear hcz22_0); (try clear hcz22_1); (try clear hcz22_2); (try clear hcz22_3); (try clear hcz22_4); (try clear hcz22_5); (try clear hcz22_6); (try clear hcz24_0); (try clear hcz24_1); (try clear hcz24_2); (try clear hcz24_3); (try clear hcz24_4); (try clear hcz24_5); (try clear hcz24_6); (try clear hcz25_0); (try clear hcz25_1); (try clear hcz25_2); (try clear hcz25_3); (try clear hcz25_4); (try clear hcz25_5); (try clear hcz25_6); (try clear hcz27_0); (try clear hcz27_1); (try clear hcz27_2); (try clear hcz27_3); (try clear hcz27_4); (try clear hcz27_5); (try clear hcz27_6); (try clear hcz28_0); (try clear hcz28_1); (try clear hcz28_2); (try clear hcz28_3); (try clear hcz28_4); (try clear hcz28_5); (try clear hcz28_6); (try clear hcz30_0); (try clear hcz30_1); (try clear hcz30_2); (try clear hcz30_3); (try clear hcz30_4); (try clear hcz30_5); (try clear hcz30_6); (try clear hcz31_0); (try clear hcz31_1); (try clear hcz31_2); (try clear hcz31_3); (try clear hcz31_4); (try clear hcz31_5); (try clear hcz31_6); (try clear hcz33_0); (try clear hcz33_1); (try clear hcz33_2); (try clear hcz33_3); (try clear hcz33_4); (try clear hcz33_5); (try clear hcz33_6); (try clear hcz34_0); (try clear hcz34_1); (try clear hcz34_2); (try clear hcz34_3); (try clear hcz34_4); (try clear hcz34_5); (try clear hcz34_6); (try clear hfz10_0); (try clear hfz10_1); (try clear hfz10_2); (try clear hfz10_3); (try clear hfz10_4); (try clear hfz10_5); (try clear hfz10_6); (try clear hfz11_0); (try clear hfz11_1); (try clear hfz11_2); (try clear hfz11_3); (try clear hfz11_4); (try clear hfz11_5); (try clear hfz11_6); (try clear hfz18_0); (try clear hfz18_1); (try clear hfz18_2); (try clear hfz18_3); (try clear hfz18_4); (try clear hfz18_5); (try clear hfz18_6); (try clear hfz19_0); (try clear hfz19_1); (try clear hfz19_2); (try clear hfz19_3); (try clear hfz19_4); (try clear hfz19_5); (try clear hfz19_6); (try clear hfz21_0); (try clear hfz21_1); (try clear hfz21_2); (try clear hfz21_3); (try clear hfz21_4); (try clear hfz21_5); (try clear hfz21_6); (try clear hfz22_0); (try clear hfz22_1); (try clear hfz22_2); (try clear hfz22_3); (try clear hfz22_4); (try clear hfz22_5); (try clear hfz22_6); (try clear hfz24_0); (try clear hfz24_1); (try clear hfz24_2); (try clear hfz24_3); (try clear hfz24_4); (try clear hfz24_5); (try clear hfz24_6); (try clear hfz25_0); (try clear hfz25_1); (try clear hfz25_2); (try clear hfz25_3); (try clear hfz25_4); (try clear hfz25_5); (try clear hfz25_6); (try clear hfz27_0); (try clear hfz27_1); (try clear hfz27_2); (try clear hfz27_3); (try clear hfz27_4); (try clear hfz27_5); (try clear hfz27_6); (try clear hfz28_0); (try clear hfz28_1); (try clear hfz28_2); (try clear hfz28_3); (try clear hfz28_4); (try clear hfz28_5); (try clear hfz28_6); (try clear hfz30_0); (try clear hfz30_1); (try clear hfz30_2); (try clear hfz30_3); (try clear hfz30_4); (try clear hfz30_5); (try clear hfz30_6); (try clear hfz31_0); (try clear hfz31_1); (try clear hfz31_2); (try clear hfz31_3); (try clear hfz31_4); (try clear hfz31_5); (try clear hfz31_6); (try clear hfz33_0); (try clear hfz33_1); (try clear hfz33_2); (try clear hfz33_3); (try clear hfz33_4); (try clear hfz33_5); (try clear hfz33_6); (try clear hfz34_0); (try clear hfz34_1); (try clear hfz34_2); (try clear hfz34_3); (try clear hfz34_4); (try clear hfz34_5); (try clear hfz34_6); (try clear p2)
     obtain ⟨x5_2, rfl, HA, HK2, BK117, BK118, HB⟩ := hrel
     cases gk with
     | zero => exact absurd HA.out (by simp [spec_StateSame.l0])
     | succ k2 =>
      have H := HA.out
      clear HA
      simp only [spec_StateSame.l0] at H
      by_cases c36 : x5_2 < (l0_0.length : Int)
      ·rw [if_pos c36] at H
       have c36b0 := decide_eq_true c36
       clear c36
       by_cases c37 : 0 ≤ x5_2
       ·rw [if_pos c37] at H
        have c37b0 := decide_eq_true c37
        clear c37
        by_cases c38 : x5_2 < (l1_0.length : Int)
        ·rw [if_pos c38] at H
         have c38b0 := decide_eq_true c38
         clear c38
         by_cases c39 : ((rd_T111 l0_0 x5_2).f0) = ((rd_T111 l1_0 x5_2).f0)
         ·rw [if_pos c39] at H
          have c39b0 : (((rd_T111 l0_0 x5_2).f0) == ((rd_T111 l1_0 x5_2).f0)) = true := beq_iff_eq.mpr c39
          have c39b1 : (((rd_T111 l0_0 x5_2).f0) != ((rd_T111 l1_0 x5_2).f0)) = false := bne_eq_false_iff_eq.mpr c39
          clear c39
          by_cases c40 : ((rd_T111 l0_0 x5_2).f1) = ((rd_T111 l1_0 x5_2).f1)
          ·rw [if_pos c40] at H
           have c40b0 : (((rd_T111 l0_0 x5_2).f1) == ((rd_T111 l1_0 x5_2).f1)) = true := beq_iff_eq.mpr c40
           have c40b1 : (((rd_T111 l0_0 x5_2).f1) != ((rd_T111 l1_0 x5_2).f1)) = false := bne_eq_false_iff_eq.mpr c40
           clear c40
           replace H := Option.bind_eq_some_iff.mp H
           obtain ⟨t125, A410, H⟩ := H
           replace H : (if t125 = true then ((spec_l06SameNums.f k2 ((rd_T111 l0_0 x5_2).f3) ((rd_T111 l1_0 x5_2).f3)).bind fun t126 => (if t126 = true then (spec_StateSame.l0 k2 (wrap64 (x5_2 + 1)) l0_0 l0_1 l0_2 a0_3 a0_4 a0_5 a0_6 l1_0 l1_1 l1_2 a1_3 a1_4 a1_5 a1_6) else (some false))) else (some false)) = some r := H
           have A41 := am A410
           clear A410
           by_cases c42 : t125 = true
           ·subst c42
            have H1 : ((spec_l06SameNums.f k2 ((rd_T111 l0_0 x5_2).f3) ((rd_T111 l1_0 x5_2).f3)).bind fun t126 => (if t126 = true then (spec_StateSame.l0 k2 (wrap64 (x5_2 + 1)) l0_0 l0_1 l0_2 a0_3 a0_4 a0_5 a0_6 l1_0 l1_1 l1_2 a1_3 a1_4 a1_5 a1_6) else (some false))) = some r := by rw [if_pos rfl] at H; exact H
            clear H
            have H := H1
            clear H1
            replace H := Option.bind_eq_some_iff.mp H
            obtain ⟨t126, A430, H⟩ := H
            replace H : (if t126 = true then (spec_StateSame.l0 k2 (wrap64 (x5_2 + 1)) l0_0 l0_1 l0_2 a0_3 a0_4 a0_5 a0_6 l1_0 l1_1 l1_2 a1_3 a1_4 a1_5 a1_6) else (some false)) = some r := H
            have A43 := am A430
            clear A430
            by_cases c44 : t126 = true
            ·subst c44
             have H1 : (spec_StateSame.l0 k2 (wrap64 (x5_2 + 1)) l0_0 l0_1 l0_2 a0_3 a0_4 a0_5 a0_6 l1_0 l1_1 l1_2 a1_3 a1_4 a1_5 a1_6) = some r := by rw [if_pos rfl] at H; exact H
             clear H
             have H := H1
             clear H1
             have H' := am H
             clear H
             have hnb45 := NB117_118.out
             have hnc45 := NB118_117.out
             have hcz46_0 : wr.cell? ⟨gb117, 0, none⟩ = some (.slice A0_0 l0_0.length c0_0) := bc BK117 0
             have hcz46_1 : wr.cell? ⟨gb117, 1, none⟩ = some (.slice A0_1 l0_1.length c0_1) := bc BK117 1
             have hcz46_2 : wr.cell? ⟨gb117, 2, none⟩ = some (.slice A0_2 l0_2.length c0_2) := bc BK117 2
             have hcz46_3 : wr.cell? ⟨gb117, 3, none⟩ = some (.int .i64 a0_3) := bc BK117 3
             have hcz46_4 : wr.cell? ⟨gb117, 4, none⟩ = some (.bool a0_4) := bc BK117 4
             have hcz46_5 : wr.cell? ⟨gb117, 5, none⟩ = some (.int .i64 a0_5) := bc BK117 5
             have hcz46_6 : wr.cell? ⟨gb117, 6, none⟩ = some (.int .i64 a0_6) := bc BK117 6
             have hfz46_0 := bf BK117 0
             have hfz46_1 := bf BK117 1
             have hfz46_2 := bf BK117 2
             have hfz46_3 := bf BK117 3
             have hfz46_4 := bf BK117 4
             have hfz46_5 := bf BK117 5
             have hfz46_6 := bf BK117 6
             have p121 : 0 ≤ (x5_2 : Int) := of_decide_eq_true as1
             have q121 : x5_2 < (l0_0.length : Int) := of_decide_eq_true as1
             obtain ⟨ad121, A121_2, c121_2, A121_3, c121_3, e121, hx121_0, hx121_1, hx121_2, hx121_3, hl121_2, hi121_2, hl121_3, hi121_3⟩ := at_T111 HR0_0.out x5_2 p121 q121
             cases e121
             replace hx121_0 := (HB.out.cell (World.block_lt_of_cell? w _ hx121_0)).trans hx121_0
             replace hx121_1 := (HB.out.cell (World.block_lt_of_cell? w _ hx121_1)).trans hx121_1
             replace hx121_2 := (HB.out.cell (World.block_lt_of_cell? w _ hx121_2)).trans hx121_2
             replace hx121_3 := (HB.out.cell (World.block_lt_of_cell? w _ hx121_3)).trans hx121_3
             have HR121_2 := am hi121_2
             have HC121_2 := am hl121_2
             clear hi121_2 hl121_2
             have HR121_3 := am hi121_3
             have HC121_3 := am hl121_3
             clear hi121_3 hl121_3
             replace p121 := eq_true p121
             replace q121 := eq_true q121
             go_wp2_with (first | ((with_reducible refine gate_dst (N := 6) rfl ?_); refine box_event ?hg (N := 6) ?hd (cs := #[.int .i64 0, .int .i64 0, .slice none 0 0, .slice none 0 0]) (t := 111) ?hr ?_; (case hd => rfl); (case hg => rfl); (case hr => exact gs); intro gb122 hg w47 hbox hb; have BK122 := am (hbox); have GW122 := am ((by rw [hg]; exact (below_size (bw HB)) : w.heap.size ≤ gb122)); have GE122 := am ((by rw [hg]; exact (below_size (bw HB)) : w.heap.size ≤ gb122)); replace HB := am (below_step (bw HB) hb); have NB117_122 := am ((by rw [hg]; exact Nat.ne_of_lt (blk_lt (g := gb117) (o := .cells #[.slice (some ad121) l0_0.length c0_0, .slice A0_1 l0_1.length c0_1, .slice A0_2 l0_2.length c0_2, .int .i64 a0_3, .bool a0_4, .int .i64 a0_5, .int .i64 a0_6] 67 (0, 0)) (bp BK117)) : gb117 ≠ gb122)); have NB122_117 := am ((by rw [hg]; exact Nat.ne_of_gt (blk_lt (g := gb117) (o := .cells #[.slice (some ad121) l0_0.length c0_0, .slice A0_1 l0_1.length c0_1, .slice A0_2 l0_2.length c0_2, .int .i64 a0_3, .bool a0_4, .int .i64 a0_5, .int .i64 a0_6] 67 (0, 0)) (bp BK117)) : gb122 ≠ gb117)); replace BK117 := am (blk_below (g := gb117) (o := .cells #[.slice (some ad121) l0_0.length c0_0, .slice A0_1 l0_1.length c0_1, .slice A0_2 l0_2.length c0_2, .int .i64 a0_3, .bool a0_4, .int .i64 a0_5, .int .i64 a0_6] 67 (0, 0)) (bp BK117) hb); have NB118_122 := am ((by rw [hg]; exact Nat.ne_of_lt (blk_lt (g := gb118) (o := .cells #[.slice A1_0 l1_0.length c1_0, .slice A1_1 l1_1.length c1_1, .slice A1_2 l1_2.length c1_2, .int .i64 a1_3, .bool a1_4, .int .i64 a1_5, .int .i64 a1_6] 67 (0, 0)) (bp BK118)) : gb118 ≠ gb122)); have NB122_118 := am ((by rw [hg]; exact Nat.ne_of_gt (blk_lt (g := gb118) (o := .cells #[.slice A1_0 l1_0.length c1_0, .slice A1_1 l1_1.length c1_1, .slice A1_2 l1_2.length c1_2, .int .i64 a1_3, .bool a1_4, .int .i64 a1_5, .int .i64 a1_6] 67 (0, 0)) (bp BK118)) : gb122 ≠ gb118)); replace BK118 := am (blk_below (g := gb118) (o := .cells #[.slice A1_0 l1_0.length c1_0, .slice A1_1 l1_1.length c1_1, .slice A1_2 l1_2.length c1_2, .int .i64 a1_3, .bool a1_4, .int .i64 a1_5, .int .i64 a1_6] 67 (0, 0)) (bp BK118) hb); clear hb hbox hg; have hnb48 := NB122_117.out; have hnc48 := NB117_122.out; have hnb49 := NB122_118.out; have hnc49 := NB118_122.out; have hcz50_0 : w47.cell? ⟨gb122, 0, none⟩ = some (.int .i64 0) := bc BK122 0; have hcz50_1 : w47.cell? ⟨gb122, 1, none⟩ = some (.int .i64 0) := bc BK122 1; have hcz50_2 : w47.cell? ⟨gb122, 2, none⟩ = some (.slice none 0 0) := bc BK122 2; have hcz50_3 : w47.cell? ⟨gb122, 3, none⟩ = some (.slice none 0 0) := bc BK122 3; have hfz50_0 := bf BK122 0; have hfz50_1 := bf BK122 1; have hfz50_2 := bf BK122 2; have hfz50_3 := bf BK122 3; have hcz51_0 : w47.cell? ⟨gb118, 0, none⟩ = some (.slice A1_0 l1_0.length c1_0) := bc BK118 0; have hcz51_1 : w47.cell? ⟨gb118, 1, none⟩ = some (.slice A1_1 l1_1.length c1_1) := bc BK118 1; have hcz51_2 : w47.cell? ⟨gb118, 2, none⟩ = some (.slice A1_2 l1_2.length c1_2) := bc BK118 2; have hcz51_3 : w47.cell? ⟨gb118, 3, none⟩ = some (.int .i64 a1_3) := bc BK118 3; have hcz51_4 : w47.cell? ⟨gb118, 4, none⟩ = some (.bool a1_4) := bc BK118 4; have hcz51_5 : w47.cell? ⟨gb118, 5, none⟩ = some (.int .i64 a1_5) := bc BK118 5; have hcz51_6 : w47.cell? ⟨gb118, 6, none⟩ = some (.int .i64 a1_6) := bc BK118 6; have hfz51_0 := bf BK118 0; have hfz51_1 := bf BK118 1; have hfz51_2 := bf BK118 2; have hfz51_3 := bf BK118 3; have hfz51_4 := bf BK118 4; have hfz51_5 := bf BK118 5; have hfz51_6 := bf BK118 6; have p123 : 0 ≤ (x5_2 : Int) := of_decide_eq_true as1; have q123 : x5_2 < (l1_0.length : Int) := of_decide_eq_true as1; obtain ⟨ad123, A123_2, c123_2, A123_3, c123_3, e123, hx123_0, hx123_1, hx123_2, hx123_3, hl123_2, hi123_2, hl123_3, hi123_3⟩ := at_T111 HR1_0.out x5_2 p123 q123; cases e123; have hn123_0 : ad123.block ≠ gb122 := Nat.ne_of_lt (Nat.lt_of_lt_of_le (by have := World.block_lt_of_cell? _ _ hx123_0; first | rwa [add_block] at this | exact this) GW122.out); have hn123_1 : ad123.block ≠ gb122 := Nat.ne_of_lt (Nat.lt_of_lt_of_le (by have := World.block_lt_of_cell? _ _ hx123_0; first | rwa [add_block] at this | exact this) GW122.out); have hn123_2 : ad123.block ≠ gb122 := Nat.ne_of_lt (Nat.lt_of_lt_of_le (by have := World.block_lt_of_cell? _ _ hx123_0; first | rwa [add_block] at this | exact this) GW122.out); have hn123_3 : ad123.block ≠ gb122 := Nat.ne_of_lt (Nat.lt_of_lt_of_le (by have := World.block_lt_of_cell? _ _ hx123_0; first | rwa [add_block] at this | exact this) GW122.out); replace hx123_0 := (HB.out.cell (World.block_lt_of_cell? w _ hx123_0)).trans hx123_0; replace hx123_1 := (HB.out.cell (World.block_lt_of_cell? w _ hx123_1)).trans hx123_1; replace hx123_2 := (HB.out.cell (World.block_lt_of_cell? w _ hx123_2)).trans hx123_2; replace hx123_3 := (HB.out.cell (World.block_lt_of_cell? w _ hx123_3)).trans hx123_3; have HR123_2 := am hi123_2; have HC123_2 := am hl123_2; clear hi123_2 hl123_2; have HR123_3 := am hi123_3; have HC123_3 := am hl123_3; clear hi123_3 hl123_3; replace hx123_0 := (cell_far (p := ⟨gb122, 0, none⟩) (by first | (rw [add_block]; exact hn123_0) | (show (Addr.add _ _).block ≠ _; rw [add_block]; exact hn123_0) | exact hn123_0) (.int .i64 ((rd_T111 l0_0 x5_2).f0))).trans hx123_0; replace hx123_1 := (cell_far (p := ⟨gb122, 0, none⟩) (by first | (rw [add_block]; exact hn123_0) | (show (Addr.add _ _).block ≠ _; rw [add_block]; exact hn123_0) | exact hn123_0) (.int .i64 ((rd_T111 l0_0 x5_2).f0))).trans hx123_1; replace hx123_2 := (cell_far (p := ⟨gb122, 0, none⟩) (by first | (rw [add_block]; exact hn123_0) | (show (Addr.add _ _).block ≠ _; rw [add_block]; exact hn123_0) | exact hn123_0) (.int .i64 ((rd_T111 l0_0 x5_2).f0))).trans hx123_2; replace hx123_3 := (cell_far (p := ⟨gb122, 0, none⟩) (by first | (rw [add_block]; exact hn123_0) | (show (Addr.add _ _).block ≠ _; rw [add_block]; exact hn123_0) | exact hn123_0) (.int .i64 ((rd_T111 l0_0 x5_2).f0))).trans hx123_3; replace hx123_0 := (cell_far (p := ⟨gb122, 1, none⟩) (by first | (rw [add_block]; exact hn123_1) | (show (Addr.add _ _).block ≠ _; rw [add_block]; exact hn123_1) | exact hn123_1) (.int .i64 ((rd_T111 l0_0 x5_2).f1))).trans hx123_0; replace hx123_1 := (cell_far (p := ⟨gb122, 1, none⟩) (by first | (rw [add_block]; exact hn123_1) | (show (Addr.add _ _).block ≠ _; rw [add_block]; exact hn123_1) | exact hn123_1) (.int .i64 ((rd_T111 l0_0 x5_2).f1))).trans hx123_1; replace hx123_2 := (cell_far (p := ⟨gb122, 1, none⟩) (by first | (rw [add_block]; exact hn123_1) | (show (Addr.add _ _).block ≠ _; rw [add_block]; exact hn123_1) | exact hn123_1) (.int .i64 ((rd_T111 l0_0 x5_2).f1))).trans hx123_2; replace hx123_3 := (cell_far (p := ⟨gb122, 1, none⟩) (by first | (rw [add_block]; exact hn123_1) | (show (Addr.add _ _).block ≠ _; rw [add_block]; exact hn123_1) | exact hn123_1) (.int .i64 ((rd_T111 l0_0 x5_2).f1))).trans hx123_3; replace hx123_0 := (cell_far (p := ⟨gb122, 2, none⟩) (by first | (rw [add_block]; exact hn123_2) | (show (Addr.add _ _).block ≠ _; rw [add_block]; exact hn123_2) | exact hn123_2) (.slice A121_2 ((rd_T111 l0_0 x5_2).f2).length c121_2)).trans hx123_0; replace hx123_1 := (cell_far (p := ⟨gb122, 2, none⟩) (by first | (rw [add_block]; exact hn123_2) | (show (Addr.add _ _).block ≠ _; rw [add_block]; exact hn123_2) | exact hn123_2) (.slice A121_2 ((rd_T111 l0_0 x5_2).f2).length c121_2)).trans hx123_1; replace hx123_2 := (cell_far (p := ⟨gb122, 2, none⟩) (by first | (rw [add_block]; exact hn123_2) | (show (Addr.add _ _).block ≠ _; rw [add_block]; exact hn123_2) | exact hn123_2) (.slice A121_2 ((rd_T111 l0_0 x5_2).f2).length c121_2)).trans hx123_2; replace hx123_3 := (cell_far (p := ⟨gb122, 2, none⟩) (by first | (rw [add_block]; exact hn123_2) | (show (Addr.add _ _).block ≠ _; rw [add_block]; exact hn123_2) | exact hn123_2) (.slice A121_2 ((rd_T111 l0_0 x5_2).f2).length c121_2)).trans hx123_3; replace hx123_0 := (cell_far (p := ⟨gb122, 3, none⟩) (by first | (rw [add_block]; exact hn123_3) | (show (Addr.add _ _).block ≠ _; rw [add_block]; exact hn123_3) | exact hn123_3) (.slice A121_3 ((rd_T111 l0_0 x5_2).f3).length c121_3)).trans hx123_0; replace hx123_1 := (cell_far (p := ⟨gb122, 3, none⟩) (by first | (rw [add_block]; exact hn123_3) | (show (Addr.add _ _).block ≠ _; rw [add_block]; exact hn123_3) | exact hn123_3) (.slice A121_3 ((rd_T111 l0_0 x5_2).f3).length c121_3)).trans hx123_1; replace hx123_2 := (cell_far (p := ⟨gb122, 3, none⟩) (by first | (rw [add_block]; exact hn123_3) | (show (Addr.add _ _).block ≠ _; rw [add_block]; exact hn123_3) | exact hn123_3) (.slice A121_3 ((rd_T111 l0_0 x5_2).f3).length c121_3)).trans hx123_2; replace hx123_3 := (cell_far (p := ⟨gb122, 3, none⟩) (by first | (rw [add_block]; exact hn123_3) | (show (Addr.add _ _).block ≠ _; rw [add_block]; exact hn123_3) | exact hn123_3) (.slice A121_3 ((rd_T111 l0_0 x5_2).f3).length c121_3)).trans hx123_3; clear hn123_0; clear hn123_1; clear hn123_2; clear hn123_3; replace p123 := eq_true p123; replace q123 := eq_true q123) | ((with_reducible refine gate_dst (N := 7) rfl ?_); refine box_event ?hg (N := 7) ?hd (cs := #[.int .i64 0, .int .i64 0, .slice none 0 0, .slice none 0 0]) (t := 111) ?hr ?_; (case hd => rfl); (case hg => rfl); (case hr => exact gs); intro gb124 hg w52 hbox hb; have BK124 := am (hbox); have GW124 := am ((by rw [hg]; exact (below_size (bw HB)) : w.heap.size ≤ gb124)); have GE124 := am ((by rw [hg]; exact (below_size (bw HB)) : w.heap.size ≤ gb124)); replace HB := am (below_step (bw HB) hb); have NB117_124 := am ((by rw [hg]; exact Nat.ne_of_lt (blk_lt (g := gb117) (o := .cells #[.slice (some ad121) l0_0.length c0_0, .slice A0_1 l0_1.length c0_1, .slice A0_2 l0_2.length c0_2, .int .i64 a0_3, .bool a0_4, .int .i64 a0_5, .int .i64 a0_6] 67 (0, 0)) (by (with_reducible repeat (first | apply dN | apply dW | apply dA)); refine blk_far ?_ NB117_122.out _; (with_reducible repeat (first | apply dN | apply dW | apply dA)); refine blk_far ?_ NB117_122.out _; (with_reducible repeat (first | apply dN | apply dW | apply dA)); refine blk_far ?_ NB117_122.out _; (with_reducible repeat (first | apply dN | apply dW | apply dA)); refine blk_far ?_ NB117_122.out _; exact bp BK117)) : gb117 ≠ gb124)); have NB124_117 := am ((by rw [hg]; exact Nat.ne_of_gt (blk_lt (g := gb117) (o := .cells #[.slice (some ad121) l0_0.length c0_0, .slice A0_1 l0_1.length c0_1, .slice A0_2 l0_2.length c0_2, .int .i64 a0_3, .bool a0_4, .int .i64 a0_5, .int .i64 a0_6] 67 (0, 0)) (by (with_reducible repeat (first | apply dN | apply dW | apply dA)); refine blk_far ?_ NB117_122.out _; (with_reducible repeat (first | apply dN | apply dW | apply dA)); refine blk_far ?_ NB117_122.out _; (with_reducible repeat (first | apply dN | apply dW | apply dA)); refine blk_far ?_ NB117_122.out _; (with_reducible repeat (first | apply dN | apply dW | apply dA)); refine blk_far ?_ NB117_122.out _; exact bp BK117)) : gb124 ≠ gb117)); replace BK117 := am (blk_below (g := gb117) (o := .cells #[.slice (some ad121) l0_0.length c0_0, .slice A0_1 l0_1.length c0_1, .slice A0_2 l0_2.length c0_2, .int .i64 a0_3, .bool a0_4, .int .i64 a0_5, .int .i64 a0_6] 67 (0, 0)) (by (with_reducible repeat (first | apply dN | apply dW | apply dA)); refine blk_far ?_ NB117_122.out _; (with_reducible repeat (first | apply dN | apply dW | apply dA)); refine blk_far ?_ NB117_122.out _; (with_reducible repeat (first | apply dN | apply dW | apply dA)); refine blk_far ?_ NB117_122.out _; (with_reducible repeat (first | apply dN | apply dW | apply dA)); refine blk_far ?_ NB117_122.out _; exact bp BK117) hb); have NB118_124 := am ((by rw [hg]; exact Nat.ne_of_lt (blk_lt (g := gb118) (o := .cells #[.slice (some ad123) l1_0.length c1_0, .slice A1_1 l1_1.length c1_1, .slice A1_2 l1_2.length c1_2, .int .i64 a1_3, .bool a1_4, .int .i64 a1_5, .int .i64 a1_6] 67 (0, 0)) (by (with_reducible repeat (first | apply dN | apply dW | apply dA)); refine blk_far ?_ NB118_122.out _; (with_reducible repeat (first | apply dN | apply dW | apply dA)); refine blk_far ?_ NB118_122.out _; (with_reducible repeat (first | apply dN | apply dW | apply dA)); refine blk_far ?_ NB118_122.out _; (with_reducible repeat (first | apply dN | apply dW | apply dA)); refine blk_far ?_ NB118_122.out _; exact bp BK118)) : gb118 ≠ gb124)); have NB124_118 := am ((by rw [hg]; exact Nat.ne_of_gt (blk_lt (g := gb118) (o := .cells #[.slice (some ad123) l1_0.length c1_0, .slice A1_1 l1_1.length c1_1, .slice A1_2 l1_2.length c1_2, .int .i64 a1_3, .bool a1_4, .int .i64 a1_5, .int .i64 a1_6] 67 (0, 0)) (by (with_reducible repeat (first | apply dN | apply dW | apply dA)); refine blk_far ?_ NB118_122.out _; (with_reducible repeat (first | apply dN | apply dW | apply dA)); refine blk_far ?_ NB118_122.out _; (with_reducible repeat (first | apply dN | apply dW | apply dA)); refine blk_far ?_ NB118_122.out _; (with_reducible repeat (first | apply dN | apply dW | apply dA)); refine blk_far ?_ NB118_122.out _; exact bp BK118)) : gb124 ≠ gb118)); replace BK118 := am (blk_below (g := gb118) (o := .cells #[.slice (some ad123) l1_0.length c1_0, .slice A1_1 l1_1.length c1_1, .slice A1_2 l1_2.length c1_2, .int .i64 a1_3, .bool a1_4, .int .i64 a1_5, .int .i64 a1_6] 67 (0, 0)) (by (with_reducible repeat (first | apply dN | apply dW | apply dA)); refine blk_far ?_ NB118_122.out _; (with_reducible repeat (first | apply dN | apply dW | apply dA)); refine blk_far ?_ NB118_122.out _; (with_reducible repeat (first | apply dN | apply dW | apply dA)); refine blk_far ?_ NB118_122.out _; (with_reducible repeat (first | apply dN | apply dW | apply dA)); refine blk_far ?_ NB118_122.out _; exact bp BK118) hb); have NB122_124 := am ((by rw [hg]; exact Nat.ne_of_lt (blk_lt (g := gb122) (o := .cells #[.int .i64 ((rd_T111 l0_0 x5_2).f0), .int .i64 ((rd_T111 l0_0 x5_2).f1), .slice A121_2 ((rd_T111 l0_0 x5_2).f2).length c121_2, .slice A121_3 ((rd_T111 l0_0 x5_2).f3).length c121_3] 111 (0, 0)) (by (with_reducible repeat (first | apply dN | apply dW | apply dA)); refine blk_put (cs := #[.int .i64 ((rd_T111 l0_0 x5_2).f0), .int .i64 ((rd_T111 l0_0 x5_2).f1), .slice A121_2 ((rd_T111 l0_0 x5_2).f2).length c121_2, .slice none 0 0]) ?_ 3 _ rfl; (with_reducible repeat (first | apply dN | apply dW | apply dA)); refine blk_put (cs := #[.int .i64 ((rd_T111 l0_0 x5_2).f0), .int .i64 ((rd_T111 l0_0 x5_2).f1), .slice none 0 0, .slice none 0 0]) ?_ 2 _ rfl; (with_reducible repeat (first | apply dN | apply dW | apply dA)); refine blk_put (cs := #[.int .i64 ((rd_T111 l0_0 x5_2).f0), .int .i64 0, .slice none 0 0, .slice none 0 0]) ?_ 1 _ rfl; (with_reducible repeat (first | apply dN | apply dW | apply dA)); refine blk_put (cs := #[.int .i64 0, .int .i64 0, .slice none 0 0, .slice none 0 0]) ?_ 0 _ rfl; exact bp BK122)) : gb122 ≠ gb124)); have NB124_122 := am ((by rw [hg]; exact Nat.ne_of_gt (blk_lt (g := gb122) (o := .cells #[.int .i64 ((rd_T111 l0_0 x5_2).f0), .int .i64 ((rd_T111 l0_0 x5_2).f1), .slice A121_2 ((rd_T111 l0_0 x5_2).f2).length c121_2, .slice A121_3 ((rd_T111 l0_0 x5_2).f3).length c121_3] 111 (0, 0)) (by (with_reducible repeat (first | apply dN | apply dW | apply dA)); refine blk_put (cs := #[.int .i64 ((rd_T111 l0_0 x5_2).f0), .int .i64 ((rd_T111 l0_0 x5_2).f1), .slice A121_2 ((rd_T111 l0_0 x5_2).f2).length c121_2, .slice none 0 0]) ?_ 3 _ rfl; (with_reducible repeat (first | apply dN | apply dW | apply dA)); refine blk_put (cs := #[.int .i64 ((rd_T111 l0_0 x5_2).f0), .int .i64 ((rd_T111 l0_0 x5_2).f1), .slice none 0 0, .slice none 0 0]) ?_ 2 _ rfl; (with_reducible repeat (first | apply dN | apply dW | apply dA)); refine blk_put (cs := #[.int .i64 ((rd_T111 l0_0 x5_2).f0), .int .i64 0, .slice none 0 0, .slice none 0 0]) ?_ 1 _ rfl; (with_reducible repeat (first | apply dN | apply dW | apply dA)); refine blk_put (cs := #[.int .i64 0, .int .i64 0, .slice none 0 0, .slice none 0 0]) ?_ 0 _ rfl; exact bp BK122)) : gb124 ≠ gb122)); replace BK122 := am (blk_below (g := gb122) (o := .cells #[.int .i64 ((rd_T111 l0_0 x5_2).f0), .int .i64 ((rd_T111 l0_0 x5_2).f1), .slice A121_2 ((rd_T111 l0_0 x5_2).f2).length c121_2, .slice A121_3 ((rd_T111 l0_0 x5_2).f3).length c121_3] 111 (0, 0)) (by (with_reducible repeat (first | apply dN | apply dW | apply dA)); refine blk_put (cs := #[.int .i64 ((rd_T111 l0_0 x5_2).f0), .int .i64 ((rd_T111 l0_0 x5_2).f1), .slice A121_2 ((rd_T111 l0_0 x5_2).f2).length c121_2, .slice none 0 0]) ?_ 3 _ rfl; (with_reducible repeat (first | apply dN | apply dW | apply dA)); refine blk_put (cs := #[.int .i64 ((rd_T111 l0_0 x5_2).f0), .int .i64 ((rd_T111 l0_0 x5_2).f1), .slice none 0 0, .slice none 0 0]) ?_ 2 _ rfl; (with_reducible repeat (first | apply dN | apply dW | apply dA)); refine blk_put (cs := #[.int .i64 ((rd_T111 l0_0 x5_2).f0), .int .i64 0, .slice none 0 0, .slice none 0 0]) ?_ 1 _ rfl; (with_reducible repeat (first | apply dN | apply dW | apply dA)); refine blk_put (cs := #[.int .i64 0, .int .i64 0, .slice none 0 0, .slice none 0 0]) ?_ 0 _ rfl; exact bp BK122) hb); clear hb hbox hg; have hnb53 := NB124_117.out; have hnc53 := NB117_124.out; have hnb54 := NB124_118.out; have hnc54 := NB118_124.out; have hnb55 := NB124_122.out; have hnc55 := NB122_124.out; have hcz56_0 : w52.cell? ⟨gb124, 0, none⟩ = some (.int .i64 0) := bc BK124 0; have hcz56_1 : w52.cell? ⟨gb124, 1, none⟩ = some (.int .i64 0) := bc BK124 1; have hcz56_2 : w52.cell? ⟨gb124, 2, none⟩ = some (.slice none 0 0) := bc BK124 2; have hcz56_3 : w52.cell? ⟨gb124, 3, none⟩ = some (.slice none 0 0) := bc BK124 3; have hfz56_0 := bf BK124 0; have hfz56_1 := bf BK124 1; have hfz56_2 := bf BK124 2; have hfz56_3 := bf BK124 3; have hcz57_0 : w52.cell? ⟨gb122, 0, none⟩ = some (.int .i64 ((rd_T111 l0_0 x5_2).f0)) := bc BK122 0; have hcz57_1 : w52.cell? ⟨gb122, 1, none⟩ = some (.int .i64 ((rd_T111 l0_0 x5_2).f1)) := bc BK122 1; have hcz57_2 : w52.cell? ⟨gb122, 2, none⟩ = some (.slice A121_2 ((rd_T111 l0_0 x5_2).f2).length c121_2) := bc BK122 2; have hcz57_3 : w52.cell? ⟨gb122, 3, none⟩ = some (.slice A121_3 ((rd_T111 l0_0 x5_2).f3).length c121_3) := bc BK122 3; have hfz57_0 := bf BK122 0; have hfz57_1 := bf BK122 1; have hfz57_2 := bf BK122 2; have hfz57_3 := bf BK122 3) | (go_at_call 77; (with_reducible refine (spec_l06SameNums.calls k2 _ _ ((rd_T111 l0_0 x5_2).f2) _ _ ((rd_T111 l1_0 x5_2).f2) true _ ?side1 ?side2 ?side3 ?side4 A41.out).mono ?_); (case side1 => exact Kd.C_below HR121_2.out (bw HB)); (case side2 => exact HC121_2.out); (case side3 => exact Kd.C_below HR123_2.out (bw HB)); (case side4 => exact HC123_2.out); rintro e w' ⟨rfl, ⟨nd, rfl⟩⟩) | (go_at_call 77; (with_reducible refine (spec_l06SameNums.calls k2 _ _ ((rd_T111 l0_0 x5_2).f3) _ _ ((rd_T111 l1_0 x5_2).f3) true _ ?side1 ?side2 ?side3 ?side4 A43.out).mono ?_); (case side1 => exact Kd.C_below HR121_3.out (bw HB)); (case side2 => exact HC121_3.out); (case side3 => exact Kd.C_below HR123_3.out (bw HB)); (case side4 => exact HC123_3.out); rintro e w' ⟨rfl, ⟨nd, rfl⟩⟩))
             go_roundg k2
             case measure => have := HJ2.out; have := HK2.out; omega
             case rel => exact ⟨(wrap64 (x5_2 + 1)), dr, H', ⟨by have := HJ2.out; have := HK2.out; omega⟩, ⟨by (with_reducible repeat (first | apply dN | apply dW | apply dA)); refine blk_far ?_ NB117_124.out _; (with_reducible repeat (first | apply dN | apply dW | apply dA)); refine blk_far ?_ NB117_124.out _; (with_reducible repeat (first | apply dN | apply dW | apply dA)); refine blk_far ?_ NB117_124.out _; (with_reducible repeat (first | apply dN | apply dW | apply dA)); refine blk_far ?_ NB117_124.out _; exact bp BK117⟩, ⟨by (with_reducible repeat (first | apply dN | apply dW | apply dA)); refine blk_far ?_ NB118_124.out _; (with_reducible repeat (first | apply dN | apply dW | apply dA)); refine blk_far ?_ NB118_124.out _; (with_reducible repeat (first | apply dN | apply dW | apply dA)); refine blk_far ?_ NB118_124.out _; (with_reducible repeat (first | apply dN | apply dW | apply dA)); refine blk_far ?_ NB118_124.out _; exact bp BK118⟩, ⟨bw HB⟩⟩
            ·replace c44 := Bool.eq_false_iff.mpr c44
             subst c44
             have H1 : (some false) = some r := by rw [if_neg (show ¬ (false = true) by decide)] at H; exact H
             clear H
             have H := H1
             clear H1
             obtain rfl := Option.some.inj H
             have hnb58 := NB117_118.out
             have hnc58 := NB118_117.out
             have hcz59_0 : wr.cell? ⟨gb117, 0, none⟩ = some (.slice A0_0 l0_0.length c0_0) := bc BK117 0
             have hcz59_1 : wr.cell? ⟨gb117, 1, none⟩ = some (.slice A0_1 l0_1.length c0_1) := bc BK117 1
             have hcz59_2 : wr.cell? ⟨gb117, 2, none⟩ = some (.slice A0_2 l0_2.length c0_2) := bc BK117 2
             have hcz59_3 : wr.cell? ⟨gb117, 3, none⟩ = some (.int .i64 a0_3) := bc BK117 3
             have hcz59_4 : wr.cell? ⟨gb117, 4, none⟩ = some (.bool a0_4) := bc BK117 4
             have hcz59_5 : wr.cell? ⟨gb117, 5, none⟩ = some (.int .i64 a0_5) := bc BK117 5
             have hcz59_6 : wr.cell? ⟨gb117, 6, none⟩ = some (.int .i64 a0_6) := bc BK117 6
             have hfz59_0 := bf BK117 0
             have hfz59_1 := bf BK117 1
             have hfz59_2 := bf BK117 2
             have hfz59_3 := bf BK117 3
             have hfz59_4 := bf BK117 4
             have hfz59_5 := bf BK117 5
             have hfz59_6 := bf BK117 6
             have p121 : 0 ≤ (x5_2 : Int) := of_decide_eq_true as1
             have q121 : x5_2 < (l0_0.length : Int) := of_decide_eq_true as1
             obtain ⟨ad121, A121_2, c121_2, A121_3, c121_3, e121, hx121_0, hx121_1, hx121_2, hx121_3, hl121_2, hi121_2, hl121_3, hi121_3⟩ := at_T111 HR0_0.out x5_2 p121 q121
             cases e121
             replace hx121_0 := (HB.out.cell (World.block_lt_of_cell? w _ hx121_0)).trans hx121_0
             replace hx121_1 := (HB.out.cell (World.block_lt_of_cell? w _ hx121_1)).trans hx121_1
             replace hx121_2 := (HB.out.cell (World.block_lt_of_cell? w _ hx121_2)).trans hx121_2
             replace hx121_3 := (HB.out.cell (World.block_lt_of_cell? w _ hx121_3)).trans hx121_3
             have HR121_2 := am hi121_2
             have HC121_2 := am hl121_2
             clear hi121_2 hl121_2
             have HR121_3 := am hi121_3
             have HC121_3 := am hl121_3
             clear hi121_3 hl121_3
             replace p121 := eq_true p121
             replace q121 := eq_true q121
             go_wp2_with (first | ((with_reducible refine gate_dst (N := 6) rfl ?_); refine box_event ?hg (N := 6) ?hd (cs := #[.int .i64 0, .int .i64 0, .slice none 0 0, .slice none 0 0]) (t := 111) ?hr ?_; (case hd => rfl); (case hg => rfl); (case hr => exact gs); intro gb122 hg w60 hbox hb; have BK122 := am (hbox); have GW122 := am ((by rw [hg]; exact (below_size (bw HB)) : w.heap.size ≤ gb122)); have GE122 := am ((by rw [hg]; exact (below_size (bw HB)) : w.heap.size ≤ gb122)); replace HB := am (below_step (bw HB) hb); have NB117_122 := am ((by rw [hg]; exact Nat.ne_of_lt (blk_lt (g := gb117) (o := .cells #[.slice (some ad121) l0_0.length c0_0, .slice A0_1 l0_1.length c0_1, .slice A0_2 l0_2.length c0_2, .int .i64 a0_3, .bool a0_4, .int .i64 a0_5, .int .i64 a0_6] 67 (0, 0)) (bp BK117)) : gb117 ≠ gb122)); have NB122_117 := am ((by rw [hg]; exact Nat.ne_of_gt (blk_lt (g := gb117) (o := .cells #[.slice (some ad121) l0_0.length c0_0, .slice A0_1 l0_1.length c0_1, .slice A0_2 l0_2.length c0_2, .int .i64 a0_3, .bool a0_4, .int .i64 a0_5, .int .i64 a0_6] 67 (0, 0)) (bp BK117)) : gb122 ≠ gb117)); replace BK117 := am (blk_below (g := gb117) (o := .cells #[.slice (some ad121) l0_0.length c0_0, .slice A0_1 l0_1.length c0_1, .slice A0_2 l0_2.length c0_2, .int .i64 a0_3, .bool a0_4, .int .i64 a0_5, .int .i64 a0_6] 67 (0, 0)) (bp BK117) hb); have NB118_122 := am ((by rw [hg]; exact Nat.ne_of_lt (blk_lt (g := gb118) (o := .cells #[.slice A1_0 l1_0.length c1_0, .slice A1_1 l1_1.length c1_1, .slice A1_2 l1_2.length c1_2, .int .i64 a1_3, .bool a1_4, .int .i64 a1_5, .int .i64 a1_6] 67 (0, 0)) (bp BK118)) : gb118 ≠ gb122)); have NB122_118 := am ((by rw [hg]; exact Nat.ne_of_gt (blk_lt (g := gb118) (o := .cells #[.slice A1_0 l1_0.length c1_0, .slice A1_1 l1_1.length c1_1, .slice A1_2 l1_2.length c1_2, .int .i64 a1_3, .bool a1_4, .int .i64 a1_5, .int .i64 a1_6] 67 (0, 0)) (bp BK118)) : gb122 ≠ gb118)); replace BK118 := am (blk_below (g := gb118) (o := .cells #[.slice A1_0 l1_0.length c1_0, .slice A1_1 l1_1.length c1_1, .slice A1_2 l1_2.length c1_2, .int .i64 a1_3, .bool a1_4, .int .i64 a1_5, .int .i64 a1_6] 67 (0, 0)) (bp BK118) hb); clear hb hbox hg; have hnb61 := NB122_117.out; have hnc61 := NB117_122.out; have hnb62 := NB122_118.out; have hnc62 := NB118_122.out; have hcz63_0 : w60.cell? ⟨gb122, 0, none⟩ = some (.int .i64 0) := bc BK122 0; have hcz63_1 : w60.cell? ⟨gb122, 1, none⟩ = some (.int .i64 0) := bc BK122 1; have hcz63_2 : w60.cell? ⟨gb122, 2, none⟩ = some (.slice none 0 0) := bc BK122 2; have hcz63_3 : w60.cell? ⟨gb122, 3, none⟩ = some (.slice none 0 0) := bc BK122 3; have hfz63_0 := bf BK122 0; have hfz63_1 := bf BK122 1; have hfz63_2 := bf BK122 2; have hfz63_3 := bf BK122 3; have hcz64_0 : w60.cell? ⟨gb118, 0, none⟩ = some (.slice A1_0 l1_0.length c1_0) := bc BK118 0; have hcz64_1 : w60.cell? ⟨gb118, 1, none⟩ = some (.slice A1_1 l1_1.length c1_1) := bc BK118 1; have hcz64_2 : w60.cell? ⟨gb118, 2, none⟩ = some (.slice A1_2 l1_2.length c1_2) := bc BK118 2; have hcz64_3 : w60.cell? ⟨gb118, 3, none⟩ = some (.int .i64 a1_3) := bc BK118 3; have hcz64_4 : w60.cell? ⟨gb118, 4, none⟩ = some (.bool a1_4) := bc BK118 4; have hcz64_5 : w60.cell? ⟨gb118, 5, none⟩ = some (.int .i64 a1_5) := bc BK118 5; have hcz64_6 : w60.cell? ⟨gb118, 6, none⟩ = some (.int .i64 a1_6) := bc BK118 6; have hfz64_0 := bf BK118 0; have hfz64_1 := bf BK118 1; have hfz64_2 := bf BK118 2; have hfz64_3 := bf BK118 3; have hfz64_4 := bf BK118 4; have hfz64_5 := bf BK118 5; have hfz64_6 := bf BK118 6; have p123 : 0 ≤ (x5_2 : Int) := of_decide_eq_true as1; have q123 : x5_2 < (l1_0.length : Int) := of_decide_eq_true as1; obtain ⟨ad123, A123_2, c123_2, A123_3, c123_3, e123, hx123_0, hx123_1, hx123_2, hx123_3, hl123_2, hi123_2, hl123_3, hi123_3⟩ := at_T111 HR1_0.out x5_2 p123 q123; cases e123; have hn123_0 : ad123.block ≠ gb122 := Nat.ne_of_lt (Nat.lt_of_lt_of_le (by have := World.block_lt_of_cell? _ _ hx123_0; first | rwa [add_block] at this | exact this) GW122.out); have hn123_1 : ad123.block ≠ gb122 := Nat.ne_of_lt (Nat.lt_of_lt_of_le (by have := World.block_lt_of_cell? _ _ hx123_0; first | rwa [add_block] at this | exact this) GW122.out); have hn123_2 : ad123.block ≠ gb122 := Nat.ne_of_lt (Nat.lt_of_lt_of_le (by have := World.block_lt_of_cell? _ _ hx123_0; first | rwa [add_block] at this | exact this) GW122.out); have hn123_3 : ad123.block ≠ gb122 := Nat.ne_of_lt (Nat.lt_of_lt_of_le (by have := World.block_lt_of_cell? _ _ hx123_0; first | rwa [add_block] at this | exact this) GW122.out); replace hx123_0 := (HB.out.cell (World.block_lt_of_cell? w _ hx123_0)).trans hx123_0; replace hx123_1 := (HB.out.cell (World.block_lt_of_cell? w _ hx123_1)).trans hx123_1; replace hx123_2 := (HB.out.cell (World.block_lt_of_cell? w _ hx123_2)).trans hx123_2; replace hx123_3 := (HB.out.cell (World.block_lt_of_cell? w _ hx123_3)).trans hx123_3; have HR123_2 := am hi123_2; have HC123_2 := am hl123_2; clear hi123_2 hl123_2; have HR123_3 := am hi123_3; have HC123_3 := am hl123_3; clear hi123_3 hl123_3; replace hx123_0 := (cell_far (p := ⟨gb122, 0, none⟩) (by first | (rw [add_block]; exact hn123_0) | (show (Addr.add _ _).block ≠ _; rw [add_block]; exact hn123_0) | exact hn123_0) (.int .i64 ((rd_T111 l0_0 x5_2).f0))).trans hx123_0; replace hx123_1 := (cell_far (p := ⟨gb122, 0, none⟩) (by first | (rw [add_block]; exact hn123_0) | (show (Addr.add _ _).block ≠ _; rw [add_block]; exact hn123_0) | exact hn123_0) (.int .i64 ((rd_T111 l0_0 x5_2).f0))).trans hx123_1; replace hx123_2 := (cell_far (p := ⟨gb122, 0, none⟩) (by first | (rw [add_block]; exact hn123_0) | (show (Addr.add _ _).block ≠ _; rw [add_block]; exact hn123_0) | exact hn123_0) (.int .i64 ((rd_T111 l0_0 x5_2).f0))).trans hx123_2; replace hx123_3 := (cell_far (p := ⟨gb122, 0, none⟩) (by first | (rw [add_block]; exact hn123_0) | (show (Addr.add _ _).block ≠ _; rw [add_block]; exact hn123_0) | exact hn123_0) (.int .i64 ((rd_T111 l0_0 x5_2).f0))).trans hx123_3; replace hx123_0 := (cell_far (p := ⟨gb122, 1, none⟩) (by first | (rw [add_block]; exact hn123_1) | (show (Addr.add _ _).block ≠ _; rw [add_block]; exact hn123_1) | exact hn123_1) (.int .i64 ((rd_T111 l0_0 x5_2).f1))).trans hx123_0; replace hx123_1 := (cell_far (p := ⟨gb122, 1, none⟩) (by first | (rw [add_block]; exact hn123_1) | (show (Addr.add _ _).block ≠ _; rw [add_block]; exact hn123_1) | exact hn123_1) (.int .i64 ((rd_T111 l0_0 x5_2).f1))).trans hx123_1; replace hx123_2 := (cell_far (p := ⟨gb122, 1, none⟩) (by first | (rw [add_block]; exact hn123_1) | (show (Addr.add _ _).block ≠ _; rw [add_block]; exact hn123_1) | exact hn123_1) (.int .i64 ((rd_T111 l0_0 x5_2).f1))).trans hx123_2; replace hx123_3 := (cell_far (p := ⟨gb122, 1, none⟩) (by first | (rw [add_block]; exact hn123_1) | (show (Addr.add _ _).block ≠ _; rw [add_block]; exact hn123_1) | exact hn123_1) (.int .i64 ((rd_T111 l0_0 x5_2).f1))).trans hx123_3; replace hx123_0 := (cell_far (p := ⟨gb122, 2, none⟩) (by first | (rw [add_block]; exact hn123_2) | (show (Addr.add _ _).block ≠ _; rw [add_block]; exact hn123_2) | exact hn123_2) (.slice A121_2 ((rd_T111 l0_0 x5_2).f2).length c121_2)).trans hx123_0; replace hx123_1 := (cell_far (p := ⟨gb122, 2, none⟩) (by first | (rw [add_block]; exact hn123_2) | (show (Addr.add _ _).block ≠ _; rw [add_block]; exact hn123_2) | exact hn123_2) (.slice A121_2 ((rd_T111 l0_0 x5_2).f2).length c121_2)).trans hx123_1; replace hx123_2 := (cell_far (p := ⟨gb122, 2, none⟩) (by first | (rw [add_block]; exact hn123_2) | (show (Addr.add _ _).block ≠ _; rw [add_block]; exact hn123_2) | exact hn123_2) (.slice A121_2 ((rd_T111 l0_0 x5_2).f2).length c121_2)).trans hx123_2; replace hx123_3 := (cell_far (p := ⟨gb122, 2, none⟩) (by first | (rw [add_block]; exact hn123_2) | (show (Addr.add _ _).block ≠ _; rw [add_block]; exact hn123_2) | exact hn123_2) (.slice A121_2 ((rd_T111 l0_0 x5_2).f2).length c121_2)).trans hx123_3; replace hx123_0 := (cell_far (p := ⟨gb122, 3, none⟩) (by first | (rw [add_block]; exact hn123_3) | (show (Addr.add _ _).block ≠ _; rw [add_block]; exact hn123_3) | exact hn123_3) (.slice A121_3 ((rd_T111 l0_0 x5_2).f3).length c121_3)).trans hx123_0; replace hx123_1 := (cell_far (p := ⟨gb122, 3, none⟩) (by first | (rw [add_block]; exact hn123_3) | (show (Addr.add _ _).block ≠ _; rw [add_block]; exact hn123_3) | exact hn123_3) (.slice A121_3 ((rd_T111 l0_0 x5_2).f3).length c121_3)).trans hx123_1; replace hx123_2 := (cell_far (p := ⟨gb122, 3, none⟩) (by first | (rw [add_block]; exact hn123_3) | (show (Addr.add _ _).block ≠ _; rw [add_block]; exact hn123_3) | exact hn123_3) (.slice A121_3 ((rd_T111 l0_0 x5_2).f3).length c121_3)).trans hx123_2; replace hx123_3 := (cell_far (p := ⟨gb122, 3, none⟩) (by first | (rw [add_block]; exact hn123_3) | (show (Addr.add _ _).block ≠ _; rw [add_block]; exact hn123_3) | exact hn123_3) (.slice A121_3 ((rd_T111 l0_0 x5_2).f3).length c121_3)).trans hx123_3; clear hn123_0; clear hn123_1; clear hn123_2; clear hn123_3; replace p123 := eq_true p123; replace q123 := eq_true q123) | ((with_reducible refine gate_dst (N := 7) rfl ?_); refine box_event ?hg (N := 7) ?hd (cs := #[.int .i64 0, .int .i64 0, .slice none 0 0, .slice none 0 0]) (t := 111) ?hr ?_; (case hd => rfl); (case hg => rfl); (case hr => exact gs); intro gb124 hg w65 hbox hb; have BK124 := am (hbox); have GW124 := am ((by rw [hg]; exact (below_size (bw HB)) : w.heap.size ≤ gb124)); have GE124 := am ((by rw [hg]; exact (below_size (bw HB)) : w.heap.size ≤ gb124)); replace HB := am (below_step (bw HB) hb); have NB117_124 := am ((by rw [hg]; exact Nat.ne_of_lt (blk_lt (g := gb117) (o := .cells #[.slice (some ad121) l0_0.length c0_0, .slice A0_1 l0_1.length c0_1, .slice A0_2 l0_2.length c0_2, .int .i64 a0_3, .bool a0_4, .int .i64 a0_5, .int .i64 a0_6] 67 (0, 0)) (by (with_reducible repeat (first | apply dN | apply dW | apply dA)); refine blk_far ?_ NB117_122.out _; (with_reducible repeat (first | apply dN | apply dW | apply dA)); refine blk_far ?_ NB117_122.out _; (with_reducible repeat (first | apply dN | apply dW | apply dA)); refine blk_far ?_ NB117_122.out _; (with_reducible repeat (first | apply dN | apply dW | apply dA)); refine blk_far ?_ NB117_122.out _; exact bp BK117)) : gb117 ≠ gb124)); have NB124_117 := am ((by rw [hg]; exact Nat.ne_of_gt (blk_lt (g := gb117) (o := .cells #[.slice (some ad121) l0_0.length c0_0, .slice A0_1 l0_1.length c0_1, .slice A0_2 l0_2.length c0_2, .int .i64 a0_3, .bool a0_4, .int .i64 a0_5, .int .i64 a0_6] 67 (0, 0)) (by (with_reducible repeat (first | apply dN | apply dW | apply dA)); refine blk_far ?_ NB117_122.out _; (with_reducible repeat (first | apply dN | apply dW | apply dA)); refine blk_far ?_ NB117_122.out _; (with_reducible repeat (first | apply dN | apply dW | apply dA)); refine blk_far ?_ NB117_122.out _; (with_reducible repeat (first | apply dN | apply dW | apply dA)); refine blk_far ?_ NB117_122.out _; exact bp BK117)) : gb124 ≠ gb117)); replace BK117 := am (blk_below (g := gb117) (o := .cells #[.slice (some ad121) l0_0.length c0_0, .slice A0_1 l0_1.length c0_1, .slice A0_2 l0_2.length c0_2, .int .i64 a0_3, .bool a0_4, .int .i64 a0_5, .int .i64 a0_6] 67 (0, 0)) (by (with_reducible repeat (first | apply dN | apply dW | apply dA)); refine blk_far ?_ NB117_122.out _; (with_reducible repeat (first | apply dN | apply dW | apply dA)); refine blk_far ?_ NB117_122.out _; (with_reducible repeat (first | apply dN | apply dW | apply dA)); refine blk_far ?_ NB117_122.out _; (with_reducible repeat (first | apply dN | apply dW | apply dA)); refine blk_far ?_ NB117_122.out _; exact bp BK117) hb); have NB118_124 := am ((by rw [hg]; exact Nat.ne_of_lt (blk_lt (g := gb118) (o := .cells #[.slice (some ad123) l1_0.length c1_0, .slice A1_1 l1_1.length c1_1, .slice A1_2 l1_2.length c1_2, .int .i64 a1_3, .bool a1_4, .int .i64 a1_5, .int .i64 a1_6] 67 (0, 0)) (by (with_reducible repeat (first | apply dN | apply dW | apply dA)); refine blk_far ?_ NB118_122.out _; (with_reducible repeat (first | apply dN | apply dW | apply dA)); refine blk_far ?_ NB118_122.out _; (with_reducible repeat (first | apply dN | apply dW | apply dA)); refine blk_far ?_ NB118_122.out _; (with_reducible repeat (first | apply dN | apply dW | apply dA)); refine blk_far ?_ NB118_122.out _; exact bp BK118)) : gb118 ≠ gb124)); have NB124_118 := am ((by rw [hg]; exact Nat.ne_of_gt (blk_lt (g := gb118) (o := .cells #[.slice (some ad123) l1_0.length c1_0, .slice A1_1 l1_1.length c1_1, .slice A1_2 l1_2.length c1_2, .int .i64 a1_3, .bool a1_4, .int .i64 a1_5, .int .i64 a1_6] 67 (0, 0)) (by (with_reducible repeat (first | apply dN | apply dW | apply dA)); refine blk_far ?_ NB118_122.out _; (with_reducible repeat (first | apply dN | apply dW | apply dA)); refine blk_far ?_ NB118_122.out _; (with_reducible repeat (first | apply dN | apply dW | apply dA)); refine blk_far ?_ NB118_122.out _; (with_reducible repeat (first | apply dN | apply dW | apply dA)); refine blk_far ?_ NB118_122.out _; exact bp BK118)) : gb124 ≠ gb118)); replace BK118 := am (blk_below (g := gb118) (o := .cells #[.slice (some ad123) l1_0.length c1_0, .slice A1_1 l1_1.length c1_1, .slice A1_2 l1_2.length c1_2, .int .i64 a1_3, .bool a1_4, .int .i64 a1_5, .int .i64 a1_6] 67 (0, 0)) (by (with_reducible repeat (first | apply dN | apply dW | apply dA)); refine blk_far ?_ NB118_122.out _; (with_reducible repeat (first | apply dN | apply dW | apply dA)); refine blk_far ?_ NB118_122.out _; (with_reducible repeat (first | apply dN | apply dW | apply dA)); refine blk_far ?_ NB118_122.out _; (with_reducible repeat (first | apply dN | apply dW | apply dA)); refine blk_far ?_ NB118_122.out _; exact bp BK118) hb); have NB122_124 := am ((by rw [hg]; exact Nat.ne_of_lt (blk_lt (g := gb122) (o := .cells #[.int .i64 ((rd_T111 l0_0 x5_2).f0), .int .i64 ((rd_T111 l0_0 x5_2).f1), .slice A121_2 ((rd_T111 l0_0 x5_2).f2).length c121_2, .slice A121_3 ((rd_T111 l0_0 x5_2).f3).length c121_3] 111 (0, 0)) (by (with_reducible repeat (first | apply dN | apply dW | apply dA)); refine blk_put (cs := #[.int .i64 ((rd_T111 l0_0 x5_2).f0), .int .i64 ((rd_T111 l0_0 x5_2).f1), .slice A121_2 ((rd_T111 l0_0 x5_2).f2).length c121_2, .slice none 0 0]) ?_ 3 _ rfl; (with_reducible repeat (first | apply dN | apply dW | apply dA)); refine blk_put (cs := #[.int .i64 ((rd_T111 l0_0 x5_2).f0), .int .i64 ((rd_T111 l0_0 x5_2).f1), .slice none 0 0, .slice none 0 0]) ?_ 2 _ rfl; (with_reducible repeat (first | apply dN | apply dW | apply dA)); refine blk_put (cs := #[.int .i64 ((rd_T111 l0_0 x5_2).f0), .int .i64 0, .slice none 0 0, .slice none 0 0]) ?_ 1 _ rfl; (with_reducible repeat (first | apply dN | apply dW | apply dA)); refine blk_put (cs := #[.int .i64 0, .int .i64 0, .slice none 0 0, .slice none 0 0]) ?_ 0 _ rfl; exact bp BK122)) : gb122 ≠ gb124)); have NB124_122 := am ((by rw [hg]; exact Nat.ne_of_gt (blk_lt (g := gb122) (o := .cells #[.int .i64 ((rd_T111 l0_0 x5_2).f0), .int .i64 ((rd_T111 l0_0 x5_2).f1), .slice A121_2 ((rd_T111 l0_0 x5_2).f2).length c121_2, .slice A121_3 ((rd_T111 l0_0 x5_2).f3).length c121_3] 111 (0, 0)) (by (with_reducible repeat (first | apply dN | apply dW | apply dA)); refine blk_put (cs := #[.int .i64 ((rd_T111 l0_0 x5_2).f0), .int .i64 ((rd_T111 l0_0 x5_2).f1), .slice A121_2 ((rd_T111 l0_0 x5_2).f2).length c121_2, .slice none 0 0]) ?_ 3 _ rfl; (with_reducible repeat (first | apply dN | apply dW | apply dA)); refine blk_put (cs := #[.int .i64 ((rd_T111 l0_0 x5_2).f0), .int .i64 ((rd_T111 l0_0 x5_2).f1), .slice none 0 0, .slice none 0 0]) ?_ 2 _ rfl; (with_reducible repeat (first | apply dN | apply dW | apply dA)); refine blk_put (cs := #[.int .i64 ((rd_T111 l0_0 x5_2).f0), .int .i64 0, .slice none 0 0, .slice none 0 0]) ?_ 1 _ rfl; (with_reducible repeat (first | apply dN | apply dW | apply dA)); refine blk_put (cs := #[.int .i64 0, .int .i64 0, .slice none 0 0, .slice none 0 0]) ?_ 0 _ rfl; exact bp BK122)) : gb124 ≠ gb122)); replace BK122 := am (blk_below (g := gb122) (o := .cells #[.int .i64 ((rd_T111 l0_0 x5_2).f0), .int .i64 ((rd_T111 l0_0 x5_2).f1), .slice A121_2 ((rd_T111 l0_0 x5_2).f2).length c121_2, .slice A121_3 ((rd_T111 l0_0 x5_2).f3).length c121_3] 111 (0, 0)) (by (with_reducible repeat (first | apply dN | apply dW | apply dA)); refine blk_put (cs := #[.int .i64 ((rd_T111 l0_0 x5_2).f0), .int .i64 ((rd_T111 l0_0 x5_2).f1), .slice A121_2 ((rd_T111 l0_0 x5_2).f2).length c121_2, .slice none 0 0]) ?_ 3 _ rfl; (with_reducible repeat (first | apply dN | apply dW | apply dA)); refine blk_put (cs := #[.int .i64 ((rd_T111 l0_0 x5_2).f0), .int .i64 ((rd_T111 l0_0 x5_2).f1), .slice none 0 0, .slice none 0 0]) ?_ 2 _ rfl; (with_reducible repeat (first | apply dN | apply dW | apply dA)); refine blk_put (cs := #[.int .i64 ((rd_T111 l0_0 x5_2).f0), .int .i64 0, .slice none 0 0, .slice none 0 0]) ?_ 1 _ rfl; (with_reducible repeat (first | apply dN | apply dW | apply dA)); refine blk_put (cs := #[.int .i64 0, .int .i64 0, .slice none 0 0, .slice none 0 0]) ?_ 0 _ rfl; exact bp BK122) hb); clear hb hbox hg; have hnb66 := NB124_117.out; have hnc66 := NB117_124.out; have hnb67 := NB124_118.out; have hnc67 := NB118_124.out; have hnb68 := NB124_122.out; have hnc68 := NB122_124.out; have hcz69_0 : w65.cell? ⟨gb124, 0, none⟩ = some (.int .i64 0) := bc BK124 0; have hcz69_1 : w65.cell? ⟨gb124, 1, none⟩ = some (.int .i64 0) := bc BK124 1; have hcz69_2 : w65.cell? ⟨gb124, 2, none⟩ = some (.slice none 0 0) := bc BK124 2; have hcz69_3 : w65.cell? ⟨gb124, 3, none⟩ = some (.slice none 0 0) := bc BK124 3; have hfz69_0 := bf BK124 0; have hfz69_1 := bf BK124 1; have hfz69_2 := bf BK124 2; have hfz69_3 := bf BK124 3; have hcz70_0 : w65.cell? ⟨gb122, 0, none⟩ = some (.int .i64 ((rd_T111 l0_0 x5_2).f0)) := bc BK122 0; have hcz70_1 : w65.cell? ⟨gb122, 1, none⟩ = some (.int .i64 ((rd_T111 l0_0 x5_2).f1)) := bc BK122 1; have hcz70_2 : w65.cell? ⟨gb122, 2, none⟩ = some (.slice A121_2 ((rd_T111 l0_0 x5_2).f2).length c121_2) := bc BK122 2; have hcz70_3 : w65.cell? ⟨gb122, 3, none⟩ = some (.slice A121_3 ((rd_T111 l0_0 x5_2).f3).length c121_3) := bc BK122 3; have hfz70_0 := bf BK122 0; have hfz70_1 := bf BK122 1; have hfz70_2 := bf BK122 2; have hfz70_3 := bf BK122 3) | (go_at_call 77; (with_reducible refine (spec_l06SameNums.calls k2 _ _ ((rd_T111 l0_0 x5_2).f2) _ _ ((rd_T111 l1_0 x5_2).f2) true _ ?side1 ?side2 ?side3 ?side4 A41.out).mono ?_); (case side1 => exact Kd.C_below HR121_2.out (bw HB)); (case side2 => exact HC121_2.out); (case side3 => exact Kd.C_below HR123_2.out (bw HB)); (case side4 => exact HC123_2.out); rintro e w' ⟨rfl, ⟨nd, rfl⟩⟩) | (go_at_call 77; (with_reducible refine (spec_l06SameNums.calls k2 _ _ ((rd_T111 l0_0 x5_2).f3) _ _ ((rd_T111 l1_0 x5_2).f3) false _ ?side1 ?side2 ?side3 ?side4 A43.out).mono ?_); (case side1 => exact Kd.C_below HR121_3.out (bw HB)); (case side2 => exact HC121_3.out); (case side3 => exact Kd.C_below HR123_3.out (bw HB)); (case side4 => exact HC123_3.out); rintro e w' ⟨rfl, ⟨nd, rfl⟩⟩))
             go_ret
             exact ⟨er, bw HB⟩
           ·replace c42 := Bool.eq_false_iff.mpr c42
            subst c42
            have H1 : (some false) = some r := by rw [if_neg (show ¬ (false = true) by decide)] at H; exact H
            clear H
            have H := H1
            clear H1
            obtain rfl := Option.some.inj H
            have hnb71 := NB117_118.out
            have hnc71 := NB118_117.out
            have hcz72_0 : wr.cell? ⟨gb117, 0, none⟩ = some (.slice A0_0 l0_0.length c0_0) := bc BK117 0
            have hcz72_1 : wr.cell? ⟨gb117, 1, none⟩ = some (.slice A0_1 l0_1.length c0_1) := bc BK117 1
            have hcz72_2 : wr.cell? ⟨gb117, 2, none⟩ = some (.slice A0_2 l0_2.length c0_2) := bc BK117 2
            have hcz72_3 : wr.cell? ⟨gb117, 3, none⟩ = some (.int .i64 a0_3) := bc BK117 3
            have hcz72_4 : wr.cell? ⟨gb117, 4, none⟩ = some (.bool a0_4) := bc BK117 4
            have hcz72_5 : wr.cell? ⟨gb117, 5, none⟩ = some (.int .i64 a0_5) := bc BK117 5
            have hcz72_6 : wr.cell? ⟨gb117, 6, none⟩ = some (.int .i64 a0_6) := bc BK117 6
            have hfz72_0 := bf BK117 0
            have hfz72_1 := bf BK117 1
            have hfz72_2 := bf BK117 2
            have hfz72_3 := bf BK117 3
            have hfz72_4 := bf BK117 4
            have hfz72_5 := bf BK117 5
            have hfz72_6 := bf BK117 6
            have p121 : 0 ≤ (x5_2 : Int) := of_decide_eq_true as1
            have q121 : x5_2 < (l0_0.length : Int) := of_decide_eq_true as1
            obtain ⟨ad121, A121_2, c121_2, A121_3, c121_3, e121, hx121_0, hx121_1, hx121_2, hx121_3, hl121_2, hi121_2, hl121_3, hi121_3⟩ := at_T111 HR0_0.out x5_2 p121 q121
            cases e121
            replace hx121_0 := (HB.out.cell (World.block_lt_of_cell? w _ hx121_0)).trans hx121_0
            replace hx121_1 := (HB.out.cell (World.block_lt_of_cell? w _ hx121_1)).trans hx121_1
            replace hx121_2 := (HB.out.cell (World.block_lt_of_cell? w _ hx121_2)).trans hx121_2
            replace hx121_3 := (HB.out.cell (World.block_lt_of_cell? w _ hx121_3)).trans hx121_3
            have HR121_2 := am hi121_2
            have HC121_2 := am hl121_2
            clear hi121_2 hl121_2
            have HR121_3 := am hi121_3
            have HC121_3 := am hl121_3
            clear hi121_3 hl121_3
            replace p121 := eq_true p121
            replace q121 := eq_true q121
            go_wp2_with (first | ((with_reducible refine gate_dst (N := 6) rfl ?_); refine box_event ?hg (N := 6) ?hd (cs := #[.int .i64 0, .int .i64 0, .slice none 0 0, .slice none 0 0]) (t := 111) ?hr ?_; (case hd => rfl); (case hg => rfl); (case hr => exact gs); intro gb122 hg w73 hbox hb; have BK122 := am (hbox); have GW122 := am ((by rw [hg]; exact (below_size (bw HB)) : w.heap.size ≤ gb122)); have GE122 := am ((by rw [hg]; exact (below_size (bw HB)) : w.heap.size ≤ gb122)); replace HB := am (below_step (bw HB) hb); have NB117_122 := am ((by rw [hg]; exact Nat.ne_of_lt (blk_lt (g := gb117) (o := .cells #[.slice (some ad121) l0_0.length c0_0, .slice A0_1 l0_1.length c0_1, .slice A0_2 l0_2.length c0_2, .int .i64 a0_3, .bool a0_4, .int .i64 a0_5, .int .i64 a0_6] 67 (0, 0)) (bp BK117)) : gb117 ≠ gb122)); have NB122_117 := am ((by rw [hg]; exact Nat.ne_of_gt (blk_lt (g := gb117) (o := .cells #[.slice (some ad121) l0_0.length c0_0, .slice A0_1 l0_1.length c0_1, .slice A0_2 l0_2.length c0_2, .int .i64 a0_3, .bool a0_4, .int .i64 a0_5, .int .i64 a0_6] 67 (0, 0)) (bp BK117)) : gb122 ≠ gb117)); replace BK117 := am (blk_below (g := gb117) (o := .cells #[.slice (some ad121) l0_0.length c0_0, .slice A0_1 l0_1.length c0_1, .slice A0_2 l0_2.length c0_2, .int .i64 a0_3, .bool a0_4, .int .i64 a0_5, .int .i64 a0_6] 67 (0, 0)) (bp BK117) hb); have NB118_122 := am ((by rw [hg]; exact Nat.ne_of_lt (blk_lt (g := gb118) (o := .cells #[.slice A1_0 l1_0.length c1_0, .slice A1_1 l1_1.length c1_1, .slice A1_2 l1_2.length c1_2, .int .i64 a1_3, .bool a1_4, .int .i64 a1_5, .int .i64 a1_6] 67 (0, 0)) (bp BK118)) : gb118 ≠ gb122)); have NB122_118 := am ((by rw [hg]; exact Nat.ne_of_gt (blk_lt (g := gb118) (o := .cells #[.slice A1_0 l1_0.length c1_0, .slice A1_1 l1_1.length c1_1, .slice A1_2 l1_2.length c1_2, .int .i64 a1_3, .bool a1_4, .int .i64 a1_5, .int .i64 a1_6] 67 (0, 0)) (bp BK118)) : gb122 ≠ gb118)); replace BK118 := am (blk_below (g := gb118) (o := .cells #[.slice A1_0 l1_0.length c1_0, .slice A1_1 l1_1.length c1_1, .slice A1_2 l1_2.length c1_2, .int .i64 a1_3, .bool a1_4, .int .i64 a1_5, .int .i64 a1_6] 67 (0, 0)) (bp BK118) hb); clear hb hbox hg; have hnb74 := NB122_117.out; have hnc74 := NB117_122.out; have hnb75 := NB122_118.out; have hnc75 := NB118_122.out; have hcz76_0 : w73.cell? ⟨gb122, 0, none⟩ = some (.int .i64 0) := bc BK122 0; have hcz76_1 : w73.cell? ⟨gb122, 1, none⟩ = some (.int .i64 0) := bc BK122 1; have hcz76_2 : w73.cell? ⟨gb122, 2, none⟩ = some (.slice none 0 0) := bc BK122 2; have hcz76_3 : w73.cell? ⟨gb122, 3, none⟩ = some (.slice none 0 0) := bc BK122 3; have hfz76_0 := bf BK122 0; have hfz76_1 := bf BK122 1; have hfz76_2 := bf BK122 2; have hfz76_3 := bf BK122 3; have hcz77_0 : w73.cell? ⟨gb118, 0, none⟩ = some (.slice A1_0 l1_0.length c1_0) := bc BK118 0; have hcz77_1 : w73.cell? ⟨gb118, 1, none⟩ = some (.slice A1_1 l1_1.length c1_1) := bc BK118 1; have hcz77_2 : w73.cell? ⟨gb118, 2, none⟩ = some (.slice A1_2 l1_2.length c1_2) := bc BK118 2; have hcz77_3 : w73.cell? ⟨gb118, 3, none⟩ = some (.int .i64 a1_3) := bc BK118 3; have hcz77_4 : w73.cell? ⟨gb118, 4, none⟩ = some (.bool a1_4) := bc BK118 4; have hcz77_5 : w73.cell? ⟨gb118, 5, none⟩ = some (.int .i64 a1_5) := bc BK118 5; have hcz77_6 : w73.cell? ⟨gb118, 6, none⟩ = some (.int .i64 a1_6) := bc BK118 6; have hfz77_0 := bf BK118 0; have hfz77_1 := bf BK118 1; have hfz77_2 := bf BK118 2; have hfz77_3 := bf BK118 3; have hfz77_4 := bf BK118 4; have hfz77_5 := bf BK118 5; have hfz77_6 := bf BK118 6; have p123 : 0 ≤ (x5_2 : Int) := of_decide_eq_true as1; have q123 : x5_2 < (l1_0.length : Int) := of_decide_eq_true as1; obtain ⟨ad123, A123_2, c123_2, A123_3, c123_3, e123, hx123_0, hx123_1, hx123_2, hx123_3, hl123_2, hi123_2, hl123_3, hi123_3⟩ := at_T111 HR1_0.out x5_2 p123 q123; cases e123; have hn123_0 : ad123.block ≠ gb122 := Nat.ne_of_lt (Nat.lt_of_lt_of_le (by have := World.block_lt_of_cell? _ _ hx123_0; first | rwa [add_block] at this | exact this) GW122.out); have hn123_1 : ad123.block ≠ gb122 := Nat.ne_of_lt (Nat.lt_of_lt_of_le (by have := World.block_lt_of_cell? _ _ hx123_0; first | rwa [add_block] at this | exact this) GW122.out); have hn123_2 : ad123.block ≠ gb122 := Nat.ne_of_lt (Nat.lt_of_lt_of_le (by have := World.block_lt_of_cell? _ _ hx123_0; first | rwa [add_block] at this | exact this) GW122.out); have hn123_3 : ad123.block ≠ gb122 := Nat.ne_of_lt (Nat.lt_of_lt_of_le (by have := World.block_lt_of_cell? _ _ hx123_0; first | rwa [add_block] at this | exact this) GW122.out); replace hx123_0 := (HB.out.cell (World.block_lt_of_cell? w _ hx123_0)).trans hx123_0; replace hx123_1 := (HB.out.cell (World.block_lt_of_cell? w _ hx123_1)).trans hx123_1; replace hx123_2 := (HB.out.cell (World.block_lt_of_cell? w _ hx123_2)).trans hx123_2; replace hx123_3 := (HB.out.cell (World.block_lt_of_cell? w _ hx123_3)).trans hx123_3; have HR123_2 := am hi123_2; have HC123_2 := am hl123_2; clear hi123_2 hl123_2; have HR123_3 := am hi123_3; have HC123_3 := am hl123_3; clear hi123_3 hl123_3; replace hx123_0 := (cell_far (p := ⟨gb122, 0, none⟩) (by first | (rw [add_block]; exact hn123_0) | (show (Addr.add _ _).block ≠ _; rw [add_block]; exact hn123_0) | exact hn123_0) (.int .i64 ((rd_T111 l0_0 x5_2).f0))).trans hx123_0; replace hx123_1 := (cell_far (p := ⟨gb122, 0, none⟩) (by first | (rw [add_block]; exact hn123_0) | (show (Addr.add _ _).block ≠ _; rw [add_block]; exact hn123_0) | exact hn123_0) (.int .i64 ((rd_T111 l0_0 x5_2).f0))).trans hx123_1; replace hx123_2 := (cell_far (p := ⟨gb122, 0, none⟩) (by first | (rw [add_block]; exact hn123_0) | (show (Addr.add _ _).block ≠ _; rw [add_block]; exact hn123_0) | exact hn123_0) (.int .i64 ((rd_T111 l0_0 x5_2).f0))).trans hx123_2; replace hx123_3 := (cell_far (p := ⟨gb122, 0, none⟩) (by first | (rw [add_block]; exact hn123_0) | (show (Addr.add _ _).block ≠ _; rw [add_block]; exact hn123_0) | exact hn123_0) (.int .i64 ((rd_T111 l0_0 x5_2).f0))).trans hx123_3; replace hx123_0 := (cell_far (p := ⟨gb122, 1, none⟩) (by first | (rw [add_block]; exact hn123_1) | (show (Addr.add _ _).block ≠ _; rw [add_block]; exact hn123_1) | exact hn123_1) (.int .i64 ((rd_T111 l0_0 x5_2).f1))).trans hx123_0; replace hx123_1 := (cell_far (p := ⟨gb122, 1, none⟩) (by first | (rw [add_block]; exact hn123_1) | (show (Addr.add _ _).block ≠ _; rw [add_block]; exact hn123_1) | exact hn123_1) (.int .i64 ((rd_T111 l0_0 x5_2).f1))).trans hx123_1; replace hx123_2 := (cell_far (p := ⟨gb122, 1, none⟩) (by first | (rw [add_block]; exact hn123_1) | (show (Addr.add _ _).block ≠ _; rw [add_block]; exact hn123_1) | exact hn123_1) (.int .i64 ((rd_T111 l0_0 x5_2).f1))).trans hx123_2; replace hx123_3 := (cell_far (p := ⟨gb122, 1, none⟩) (by first | (rw [add_block]; exact hn123_1) | (show (Addr.add _ _).block ≠ _; rw [add_block]; exact hn123_1) | exact hn123_1) (.int .i64 ((rd_T111 l0_0 x5_2).f1))).trans hx123_3; replace hx123_0 := (cell_far (p := ⟨gb122, 2, none⟩) (by first | (rw [add_block]; exact hn123_2) | (show (Addr.add _ _).block ≠ _; rw [add_block]; exact hn123_2) | exact hn123_2) (.slice A121_2 ((rd_T111 l0_0 x5_2).f2).length c121_2)).trans hx123_0; replace hx123_1 := (cell_far (p := ⟨gb122, 2, none⟩) (by first | (rw [add_block]; exact hn123_2) | (show (Addr.add _ _).block ≠ _; rw [add_block]; exact hn123_2) | exact hn123_2) (.slice A121_2 ((rd_T111 l0_0 x5_2).f2).length c121_2)).trans hx123_1; replace hx123_2 := (cell_far (p := ⟨gb122, 2, none⟩) (by first | (rw [add_block]; exact hn123_2) | (show (Addr.add _ _).block ≠ _; rw [add_block]; exact hn123_2) | exact hn123_2) (.slice A121_2 ((rd_T111 l0_0 x5_2).f2).length c121_2)).trans hx123_2; replace hx123_3 := (cell_far (p := ⟨gb122, 2, none⟩) (by first | (rw [add_block]; exact hn123_2) | (show (Addr.add _ _).block ≠ _; rw [add_block]; exact hn123_2) | exact hn123_2) (.slice A121_2 ((rd_T111 l0_0 x5_2).f2).length c121_2)).trans hx123_3; replace hx123_0 := (cell_far (p := ⟨gb122, 3, none⟩) (by first | (rw [add_block]; exact hn123_3) | (show (Addr.add _ _).block ≠ _; rw [add_block]; exact hn123_3) | exact hn123_3) (.slice A121_3 ((rd_T111 l0_0 x5_2).f3).length c121_3)).trans hx123_0; replace hx123_1 := (cell_far (p := ⟨gb122, 3, none⟩) (by first | (rw [add_block]; exact hn123_3) | (show (Addr.add _ _).block ≠ _; rw [add_block]; exact hn123_3) | exact hn123_3) (.slice A121_3 ((rd_T111 l0_0 x5_2).f3).length c121_3)).trans hx123_1; replace hx123_2 := (cell_far (p := ⟨gb122, 3, none⟩) (by first | (rw [add_block]; exact hn123_3) | (show (Addr.add _ _).block ≠ _; rw [add_block]; exact hn123_3) | exact hn123_3) (.slice A121_3 ((rd_T111 l0_0 x5_2).f3).length c121_3)).trans hx123_2; replace hx123_3 := (cell_far (p := ⟨gb122, 3, none⟩) (by first | (rw [add_block]; exact hn123_3) | (show (Addr.add _ _).block ≠ _; rw [add_block]; exact hn123_3) | exact hn123_3) (.slice A121_3 ((rd_T111 l0_0 x5_2).f3).length c121_3)).trans hx123_3; clear hn123_0; clear hn123_1; clear hn123_2; clear hn123_3; replace p123 := eq_true p123; replace q123 := eq_true q123) | ((with_reducible refine gate_dst (N := 7) rfl ?_); refine box_event ?hg (N := 7) ?hd (cs := #[.int .i64 0, .int .i64 0, .slice none 0 0, .slice none 0 0]) (t := 111) ?hr ?_; (case hd => rfl); (case hg => rfl); (case hr => exact gs); intro gb124 hg w78 hbox hb; have BK124 := am (hbox); have GW124 := am ((by rw [hg]; exact (below_size (bw HB)) : w.heap.size ≤ gb124)); have GE124 := am ((by rw [hg]; exact (below_size (bw HB)) : w.heap.size ≤ gb124)); replace HB := am (below_step (bw HB) hb); have NB117_124 := am ((by rw [hg]; exact Nat.ne_of_lt (blk_lt (g := gb117) (o := .cells #[.slice (some ad121) l0_0.length c0_0, .slice A0_1 l0_1.length c0_1, .slice A0_2 l0_2.length c0_2, .int .i64 a0_3, .bool a0_4, .int .i64 a0_5, .int .i64 a0_6] 67 (0, 0)) (by (with_reducible repeat (first | apply dN | apply dW | apply dA)); refine blk_far ?_ NB117_122.out _; (with_reducible repeat (first | apply dN | apply dW | apply dA)); refine blk_far ?_ NB117_122.out _; (with_reducible repeat (first | apply dN | apply dW | apply dA)); refine blk_far ?_ NB117_122.out _; (with_reducible repeat (first | apply dN | apply dW | apply dA)); refine blk_far ?_ NB117_122.out _; exact bp BK117)) : gb117 ≠ gb124)); have NB124_117 := am ((by rw [hg]; exact Nat.ne_of_gt (blk_lt (g := gb117) (o := .cells #[.slice (some ad121) l0_0.length c0_0, .slice A0_1 l0_1.length c0_1, .slice A0_2 l0_2.length c0_2, .int .i64 a0_3, .bool a0_4, .int .i64 a0_5, .int .i64 a0_6] 67 (0, 0)) (by (with_reducible repeat (first | apply dN | apply dW | apply dA)); refine blk_far ?_ NB117_122.out _; (with_reducible repeat (first | apply dN | apply dW | apply dA)); refine blk_far ?_ NB117_122.out _; (with_reducible repeat (first | apply dN | apply dW | apply dA)); refine blk_far ?_ NB117_122.out _; (with_reducible repeat (first | apply dN | apply dW | apply dA)); refine blk_far ?_ NB117_122.out _; exact bp BK117)) : gb124 ≠ gb117)); replace BK117 := am (blk_below (g := gb117) (o := .cells #[.slice (some ad121) l0_0.length c0_0, .slice A0_1 l0_1.length c0_1, .slice A0_2 l0_2.length c0_2, .int .i64 a0_3, .bool a0_4, .int .i64 a0_5, .int .i64 a0_6] 67 (0, 0)) (by (with_reducible repeat (first | apply dN | apply dW | apply dA)); refine blk_far ?_ NB117_122.out _; (with_reducible repeat (first | apply dN | apply dW | apply dA)); refine blk_far ?_ NB117_122.out _; (with_reducible repeat (first | apply dN | apply dW | apply dA)); refine blk_far ?_ NB117_122.out _; (with_reducible repeat (first | apply dN | apply dW | apply dA)); refine blk_far ?_ NB117_122.out _; exact bp BK117) hb); have NB118_124 := am ((by rw [hg]; exact Nat.ne_of_lt (blk_lt (g := gb118) (o := .cells #[.slice (some ad123) l1_0.length c1_0, .slice A1_1 l1_1.length c1_1, .slice A1_2 l1_2.length c1_2, .int .i64 a1_3, .bool a1_4, .int .i64 a1_5, .int .i64 a1_6] 67 (0, 0)) (by (with_reducible repeat (first | apply dN | apply dW | apply dA)); refine blk_far ?_ NB118_122.out _; (with_reducible repeat (first | apply dN | apply dW | apply dA)); refine blk_far ?_ NB118_122.out _; (with_reducible repeat (first | apply dN | apply dW | apply dA)); refine blk_far ?_ NB118_122.out _; (with_reducible repeat (first | apply dN | apply dW | apply dA)); refine blk_far ?_ NB118_122.out _; exact bp BK118)) : gb118 ≠ gb124)); have NB124_118 := am ((by rw [hg]; exact Nat.ne_of_gt (blk_lt (g := gb118) (o := .cells #[.slice (some ad123) l1_0.length c1_0, .slice A1_1 l1_1.length c1_1, .slice A1_2 l1_2.length c1_2, .int .i64 a1_3, .bool a1_4, .int .i64 a1_5, .int .i64 a1_6] 67 (0, 0)) (by (with_reducible repeat (first | apply dN | apply dW | apply dA)); refine blk_far ?_ NB118_122.out _; (with_reducible repeat (first | apply dN | apply dW | apply dA)); refine blk_far ?_ NB118_122.out _; (with_reducible repeat (first | apply dN | apply dW | apply dA)); refine blk_far ?_ NB118_122.out _; (with_reducible repeat (first | apply dN | apply dW | apply dA)); refine blk_far ?_ NB118_122.out _; exact bp BK118)) : gb124 ≠ gb118)); replace BK118 := am (blk_below (g := gb118) (o := .cells #[.slice (some ad123) l1_0.length c1_0, .slice A1_1 l1_1.length c1_1, .slice A1_2 l1_2.length c1_2, .int .i64 a1_3, .bool a1_4, .int .i64 a1_5, .int .i64 a1_6] 67 (0, 0)) (by (with_reducible repeat (first | apply dN | apply dW | apply dA)); refine blk_far ?_ NB118_122.out _; (with_reducible repeat (first | apply dN | apply dW | apply dA)); refine blk_far ?_ NB118_122.out _; (with_reducible repeat (first | apply dN | apply dW | apply dA)); refine blk_far ?_ NB118_122.out _; (with_reducible repeat (first | apply dN | apply dW | apply dA)); refine blk_far ?_ NB118_122.out _; exact bp BK118) hb); have NB122_124 := am ((by rw [hg]; exact Nat.ne_of_lt (blk_lt (g := gb122) (o := .cells #[.int .i64 ((rd_T111 l0_0 x5_2).f0), .int .i64 ((rd_T111 l0_0 x5_2).f1), .slice A121_2 ((rd_T111 l0_0 x5_2).f2).length c121_2, .slice A121_3 ((rd_T111 l0_0 x5_2).f3).length c121_3] 111 (0, 0)) (by (with_reducible repeat (first | apply dN | apply dW | apply dA)); refine blk_put (cs := #[.int .i64 ((rd_T111 l0_0 x5_2).f0), .int .i64 ((rd_T111 l0_0 x5_2).f1), .slice A121_2 ((rd_T111 l0_0 x5_2).f2).length c121_2, .slice none 0 0]) ?_ 3 _ rfl; (with_reducible repeat (first | apply dN | apply dW | apply dA)); refine blk_put (cs := #[.int .i64 ((rd_T111 l0_0 x5_2).f0), .int .i64 ((rd_T111 l0_0 x5_2).f1), .slice none 0 0, .slice none 0 0]) ?_ 2 _ rfl; (with_reducible repeat (first | apply dN | apply dW | apply dA)); refine blk_put (cs := #[.int .i64 ((rd_T111 l0_0 x5_2).f0), .int .i64 0, .slice none 0 0, .slice none 0 0]) ?_ 1 _ rfl; (with_reducible repeat (first | apply dN | apply dW | apply dA)); refine blk_put (cs := #[.int .i64 0, .int .i64 0, .slice none 0 0, .slice none 0 0]) ?_ 0 _ rfl; exact bp BK122)) : gb122 ≠ gb124)); have NB124_122 := am ((by rw [hg]; exact Nat.ne_of_gt (blk_lt (g := gb122) (o := .cells #[.int .i64 ((rd_T111 l0_0 x5_2).f0), .int .i64 ((rd_T111 l0_0 x5_2).f1), .slice A121_2 ((rd_T111 l0_0 x5_2).f2).length c121_2, .slice A121_3 ((rd_T111 l0_0 x5_2).f3).length c121_3] 111 (0, 0)) (by (with_reducible repeat (first | apply dN | apply dW | apply dA)); refine blk_put (cs := #[.int .i64 ((rd_T111 l0_0 x5_2).f0), .int .i64 ((rd_T111 l0_0 x5_2).f1), .slice A121_2 ((rd_T111 l0_0 x5_2).f2).length c121_2, .slice none 0 0]) ?_ 3 _ rfl; (with_reducible repeat (first | apply dN | apply dW | apply dA)); refine blk_put (cs := #[.int .i64 ((rd_T111 l0_0 x5_2).f0), .int .i64 ((rd_T111 l0_0 x5_2).f1), .slice none 0 0, .slice none 0 0]) ?_ 2 _ rfl; (with_reducible repeat (first | apply dN | apply dW | apply dA)); refine blk_put (cs := #[.int .i64 ((rd_T111 l0_0 x5_2).f0), .int .i64 0, .slice none 0 0, .slice none 0 0]) ?_ 1 _ rfl; (with_reducible repeat (first | apply dN | apply dW | apply dA)); refine blk_put (cs := #[.int .i64 0, .int .i64 0, .slice none 0 0, .slice none 0 0]) ?_ 0 _ rfl; exact bp BK122)) : gb124 ≠ gb122)); replace BK122 := am (blk_below (g := gb122) (o := .cells #[.int .i64 ((rd_T111 l0_0 x5_2).f0), .int .i64 ((rd_T111 l0_0 x5_2).f1), .slice A121_2 ((rd_T111 l0_0 x5_2).f2).length c121_2, .slice A121_3 ((rd_T111 l0_0 x5_2).f3).length c121_3] 111 (0, 0)) (by (with_reducible repeat (first | apply dN | apply dW | apply dA)); refine blk_put (cs := #[.int .i64 ((rd_T111 l0_0 x5_2).f0), .int .i64 ((rd_T111 l0_0 x5_2).f1), .slice A121_2 ((rd_T111 l0_0 x5_2).f2).length c121_2, .slice none 0 0]) ?_ 3 _ rfl; (with_reducible repeat (first | apply dN | apply dW | apply dA)); refine blk_put (cs := #[.int .i64 ((rd_T111 l0_0 x5_2).f0), .int .i64 ((rd_T111 l0_0 x5_2).f1), .slice none 0 0, .slice none 0 0]) ?_ 2 _ rfl; (with_reducible repeat (first | apply dN | apply dW | apply dA)); refine blk_put (cs := #[.int .i64 ((rd_T111 l0_0 x5_2).f0), .int .i64 0, .slice none 0 0, .slice none 0 0]) ?_ 1 _ rfl; (with_reducible repeat (first | apply dN | apply dW | apply dA)); refine blk_put (cs := #[.int .i64 0, .int .i64 0, .slice none 0 0, .slice none 0 0]) ?_ 0 _ rfl; exact bp BK122) hb); clear hb hbox hg; have hnb79 := NB124_117.out; have hnc79 := NB117_124.out; have hnb80 := NB124_118.out; have hnc80 := NB118_124.out; have hnb81 := NB124_122.out; have hnc81 := NB122_124.out; have hcz82_0 : w78.cell? ⟨gb124, 0, none⟩ = some (.int .i64 0) := bc BK124 0; have hcz82_1 : w78.cell? ⟨gb124, 1, none⟩ = some (.int .i64 0) := bc BK124 1; have hcz82_2 : w78.cell? ⟨gb124, 2, none⟩ = some (.slice none 0 0) := bc BK124 2; have hcz82_3 : w78.cell? ⟨gb124, 3, none⟩ = some (.slice none 0 0) := bc BK124 3; have hfz82_0 := bf BK124 0; have hfz82_1 := bf BK124 1; have hfz82_2 := bf BK124 2; have hfz82_3 := bf BK124 3; have hcz83_0 : w78.cell? ⟨gb122, 0, none⟩ = some (.int .i64 ((rd_T111 l0_0 x5_2).f0)) := bc BK122 0; have hcz83_1 : w78.cell? ⟨gb122, 1, none⟩ = some (.int .i64 ((rd_T111 l0_0 x5_2).f1)) := bc BK122 1; have hcz83_2 : w78.cell? ⟨gb122, 2, none⟩ = some (.slice A121_2 ((rd_T111 l0_0 x5_2).f2).length c121_2) := bc BK122 2; have hcz83_3 : w78.cell? ⟨gb122, 3, none⟩ = some (.slice A121_3 ((rd_T111 l0_0 x5_2).f3).length c121_3) := bc BK122 3; have hfz83_0 := bf BK122 0; have hfz83_1 := bf BK122 1; have hfz83_2 := bf BK122 2; have hfz83_3 := bf BK122 3) | (go_at_call 77; (with_reducible refine (spec_l06SameNums.calls k2 _ _ ((rd_T111 l0_0 x5_2).f2) _ _ ((rd_T111 l1_0 x5_2).f2) false _ ?side1 ?side2 ?side3 ?side4 A41.out).mono ?_); (case side1 => exact Kd.C_below HR121_2.out (bw HB)); (case side2 => exact HC121_2.out); (case side3 => exact Kd.C_below HR123_2.out (bw HB)); (case side4 => exact HC123_2.out); rintro e w' ⟨rfl, ⟨nd, rfl⟩⟩))
            go_ret
            exact ⟨er, bw HB⟩
          ·rw [if_neg c40] at H
           have c40b0 : (((rd_T111 l0_0 x5_2).f1) == ((rd_T111 l1_0 x5_2).f1)) = false := beq_eq_false_iff_ne.mpr c40
           have c40b1 : (((rd_T111 l0_0 x5_2).f1) != ((rd_T111 l1_0 x5_2).f1)) = true := bne_iff_ne.mpr c40
           obtain rfl := Option.some.inj H
           have hnb84 := NB117_118.out
           have hnc84 := NB118_117.out
           have hcz85_0 : wr.cell? ⟨gb117, 0, none⟩ = some (.slice A0_0 l0_0.length c0_0) := bc BK117 0
           have hcz85_1 : wr.cell? ⟨gb117, 1, none⟩ = some (.slice A0_1 l0_1.length c0_1) := bc BK117 1
           have hcz85_2 : wr.cell? ⟨gb117, 2, none⟩ = some (.slice A0_2 l0_2.length c0_2) := bc BK117 2
           have hcz85_3 : wr.cell? ⟨gb117, 3, none⟩ = some (.int .i64 a0_3) := bc BK117 3
           have hcz85_4 : wr.cell? ⟨gb117, 4, none⟩ = some (.bool a0_4) := bc BK117 4
           have hcz85_5 : wr.cell? ⟨gb117, 5, none⟩ = some (.int .i64 a0_5) := bc BK117 5
           have hcz85_6 : wr.cell? ⟨gb117, 6, none⟩ = some (.int .i64 a0_6) := bc BK117 6
           have hfz85_0 := bf BK117 0
           have hfz85_1 := bf BK117 1
           have hfz85_2 := bf BK117 2
           have hfz85_3 := bf BK117 3
           have hfz85_4 := bf BK117 4
           have hfz85_5 := bf BK117 5
           have hfz85_6 := bf BK117 6
           have p121 : 0 ≤ (x5_2 : Int) := of_decide_eq_true as1
           have q121 : x5_2 < (l0_0.length : Int) := of_decide_eq_true as1
           obtain ⟨ad121, A121_2, c121_2, A121_3, c121_3, e121, hx121_0, hx121_1, hx121_2, hx121_3, hl121_2, hi121_2, hl121_3, hi121_3⟩ := at_T111 HR0_0.out x5_2 p121 q121
           cases e121
           replace hx121_0 := (HB.out.cell (World.block_lt_of_cell? w _ hx121_0)).trans hx121_0
           replace hx121_1 := (HB.out.cell (World.block_lt_of_cell? w _ hx121_1)).trans hx121_1
           replace hx121_2 := (HB.out.cell (World.block_lt_of_cell? w _ hx121_2)).trans hx121_2
           replace hx121_3 := (HB.out.cell (World.block_lt_of_cell? w _ hx121_3)).trans hx121_3
           have HR121_2 := am hi121_2
           have HC121_2 := am hl121_2
           clear hi121_2 hl121_2
           have HR121_3 := am hi121_3
           have HC121_3 := am hl121_3
           clear hi121_3 hl121_3
           replace p121 := eq_true p121
           replace q121 := eq_true q121
           go_wp2_with (first | ((with_reducible refine gate_dst (N := 6) rfl ?_); refine box_event ?hg (N := 6) ?hd (cs := #[.int .i64 0, .int .i64 0, .slice none 0 0, .slice none 0 0]) (t := 111) ?hr ?_; (case hd => rfl); (case hg => rfl); (case hr => exact gs); intro gb122 hg w86 hbox hb; have BK122 := am (hbox); have GW122 := am ((by rw [hg]; exact (below_size (bw HB)) : w.heap.size ≤ gb122)); have GE122 := am ((by rw [hg]; exact (below_size (bw HB)) : w.heap.size ≤ gb122)); replace HB := am (below_step (bw HB) hb); have NB117_122 := am ((by rw [hg]; exact Nat.ne_of_lt (blk_lt (g := gb117) (o := .cells #[.slice (some ad121) l0_0.length c0_0, .slice A0_1 l0_1.length c0_1, .slice A0_2 l0_2.length c0_2, .int .i64 a0_3, .bool a0_4, .int .i64 a0_5, .int .i64 a0_6] 67 (0, 0)) (bp BK117)) : gb117 ≠ gb122)); have NB122_117 := am ((by rw [hg]; exact Nat.ne_of_gt (blk_lt (g := gb117) (o := .cells #[.slice (some ad121) l0_0.length c0_0, .slice A0_1 l0_1.length c0_1, .slice A0_2 l0_2.length c0_2, .int .i64 a0_3, .bool a0_4, .int .i64 a0_5, .int .i64 a0_6] 67 (0, 0)) (bp BK117)) : gb122 ≠ gb117)); replace BK117 := am (blk_below (g := gb117) (o := .cells #[.slice (some ad121) l0_0.length c0_0, .slice A0_1 l0_1.length c0_1, .slice A0_2 l0_2.length c0_2, .int .i64 a0_3, .bool a0_4, .int .i64 a0_5, .int .i64 a0_6] 67 (0, 0)) (bp BK117) hb); have NB118_122 := am ((by rw [hg]; exact Nat.ne_of_lt (blk_lt (g := gb118) (o := .cells #[.slice A1_0 l1_0.length c1_0, .slice A1_1 l1_1.length c1_1, .slice A1_2 l1_2.length c1_2, .int .i64 a1_3, .bool a1_4, .int .i64 a1_5, .int .i64 a1_6] 67 (0, 0)) (bp BK118)) : gb118 ≠ gb122)); have NB122_118 := am ((by rw [hg]; exact Nat.ne_of_gt (blk_lt (g := gb118) (o := .cells #[.slice A1_0 l1_0.length c1_0, .slice A1_1 l1_1.length c1_1, .slice A1_2 l1_2.length c1_2, .int .i64 a1_3, .bool a1_4, .int .i64 a1_5, .int .i64 a1_6] 67 (0, 0)) (bp BK118)) : gb122 ≠ gb118)); replace BK118 := am (blk_below (g := gb118) (o := .cells #[.slice A1_0 l1_0.length c1_0, .slice A1_1 l1_1.length c1_1, .slice A1_2 l1_2.length c1_2, .int .i64 a1_3, .bool a1_4, .int .i64 a1_5, .int .i64 a1_6] 67 (0, 0)) (bp BK118) hb); clear hb hbox hg; have hnb87 := NB122_117.out; have hnc87 := NB117_122.out; have hnb88 := NB122_118.out; have hnc88 := NB118_122.out; have hcz89_0 : w86.cell? ⟨gb122, 0, none⟩ = some (.int .i64 0) := bc BK122 0; have hcz89_1 : w86.cell? ⟨gb122, 1, none⟩ = some (.int .i64 0) := bc BK122 1; have hcz89_2 : w86.cell? ⟨gb122, 2, none⟩ = some (.slice none 0 0) := bc BK122 2; have hcz89_3 : w86.cell? ⟨gb122, 3, none⟩ = some (.slice none 0 0) := bc BK122 3; have hfz89_0 := bf BK122 0; have hfz89_1 := bf BK122 1; have hfz89_2 := bf BK122 2; have hfz89_3 := bf BK122 3; have hcz90_0 : w86.cell? ⟨gb118, 0, none⟩ = some (.slice A1_0 l1_0.length c1_0) := bc BK118 0; have hcz90_1 : w86.cell? ⟨gb118, 1, none⟩ = some (.slice A1_1 l1_1.length c1_1) := bc BK118 1; have hcz90_2 : w86.cell? ⟨gb118, 2, none⟩ = some (.slice A1_2 l1_2.length c1_2) := bc BK118 2; have hcz90_3 : w86.cell? ⟨gb118, 3, none⟩ = some (.int .i64 a1_3) := bc BK118 3; have hcz90_4 : w86.cell? ⟨gb118, 4, none⟩ = some (.bool a1_4) := bc BK118 4; have hcz90_5 : w86.cell? ⟨gb118, 5, none⟩ = some (.int .i64 a1_5) := bc BK118 5; have hcz90_6 : w86.cell? ⟨gb118, 6, none⟩ = some (.int .i64 a1_6) := bc BK118 6; have hfz90_0 := bf BK118 0; have hfz90_1 := bf BK118 1; have hfz90_2 := bf BK118 2; have hfz90_3 := bf BK118 3; have hfz90_4 := bf BK118 4; have hfz90_5 := bf BK118 5; have hfz90_6 := bf BK118 6; have p123 : 0 ≤ (x5_2 : Int) := of_decide_eq_true as1; have q123 : x5_2 < (l1_0.length : Int) := of_decide_eq_true as1; obtain ⟨ad123, A123_2, c123_2, A123_3, c123_3, e123, hx123_0, hx123_1, hx123_2, hx123_3, hl123_2, hi123_2, hl123_3, hi123_3⟩ := at_T111 HR1_0.out x5_2 p123 q123; cases e123; have hn123_0 : ad123.block ≠ gb122 := Nat.ne_of_lt (Nat.lt_of_lt_of_le (by have := World.block_lt_of_cell? _ _ hx123_0; first | rwa [add_block] at this | exact this) GW122.out); have hn123_1 : ad123.block ≠ gb122 := Nat.ne_of_lt (Nat.lt_of_lt_of_le (by have := World.block_lt_of_cell? _ _ hx123_0; first | rwa [add_block] at this | exact this) GW122.out); have hn123_2 : ad123.block ≠ gb122 := Nat.ne_of_lt (Nat.lt_of_lt_of_le (by have := World.block_lt_of_cell? _ _ hx123_0; first | rwa [add_block] at this | exact this) GW122.out); have hn123_3 : ad123.block ≠ gb122 := Nat.ne_of_lt (Nat.lt_of_lt_of_le (by have := World.block_lt_of_cell? _ _ hx123_0; first | rwa [add_block] at this | exact this) GW122.out); replace hx123_0 := (HB.out.cell (World.block_lt_of_cell? w _ hx123_0)).trans hx123_0; replace hx123_1 := (HB.out.cell (World.block_lt_of_cell? w _ hx123_1)).trans hx123_1; replace hx123_2 := (HB.out.cell (World.block_lt_of_cell? w _ hx123_2)).trans hx123_2; replace hx123_3 := (HB.out.cell (World.block_lt_of_cell? w _ hx123_3)).trans hx123_3; have HR123_2 := am hi123_2; have HC123_2 := am hl123_2; clear hi123_2 hl123_2; have HR123_3 := am hi123_3; have HC123_3 := am hl123_3; clear hi123_3 hl123_3; replace hx123_0 := (cell_far (p := ⟨gb122, 0, none⟩) (by first | (rw [add_block]; exact hn123_0) | (show (Addr.add _ _).block ≠ _; rw [add_block]; exact hn123_0) | exact hn123_0) (.int .i64 ((rd_T111 l0_0 x5_2).f0))).trans hx123_0; replace hx123_1 := (cell_far (p := ⟨gb122, 0, none⟩) (by first | (rw [add_block]; exact hn123_0) | (show (Addr.add _ _).block ≠ _; rw [add_block]; exact hn123_0) | exact hn123_0) (.int .i64 ((rd_T111 l0_0 x5_2).f0))).trans hx123_1; replace hx123_2 := (cell_far (p := ⟨gb122, 0, none⟩) (by first | (rw [add_block]; exact hn123_0) | (show (Addr.add _ _).block ≠ _; rw [add_block]; exact hn123_0) | exact hn123_0) (.int .i64 ((rd_T111 l0_0 x5_2).f0))).trans hx123_2; replace hx123_3 := (cell_far (p := ⟨gb122, 0, none⟩) (by first | (rw [add_block]; exact hn123_0) | (show (Addr.add _ _).block ≠ _; rw [add_block]; exact hn123_0) | exact hn123_0) (.int .i64 ((rd_T111 l0_0 x5_2).f0))).trans hx123_3; replace hx123_0 := (cell_far (p := ⟨gb122, 1, none⟩) (by first | (rw [add_block]; exact hn123_1) | (show (Addr.add _ _).block ≠ _; rw [add_block]; exact hn123_1) | exact hn123_1) (.int .i64 ((rd_T111 l0_0 x5_2).f1))).trans hx123_0; replace hx123_1 := (cell_far (p := ⟨gb122, 1, none⟩) (by first | (rw [add_block]; exact hn123_1) | (show (Addr.add _ _).block ≠ _; rw [add_block]; exact hn123_1) | exact hn123_1) (.int .i64 ((rd_T111 l0_0 x5_2).f1))).trans hx123_1; replace hx123_2 := (cell_far (p := ⟨gb122, 1, none⟩) (by first | (rw [add_block]; exact hn123_1) | (show (Addr.add _ _).block ≠ _; rw [add_block]; exact hn123_1) | exact hn123_1) (.int .i64 ((rd_T111 l0_0 x5_2).f1))).trans hx123_2; replace hx123_3 := (cell_far (p := ⟨gb122, 1, none⟩) (by first | (rw [add_block]; exact hn123_1) | (show (Addr.add _ _).block ≠ _; rw [add_block]; exact hn123_1) | exact hn123_1) (.int .i64 ((rd_T111 l0_0 x5_2).f1))).trans hx123_3; replace hx123_0 := (cell_far (p := ⟨gb122, 2, none⟩) (by first | (rw [add_block]; exact hn123_2) | (show (Addr.add _ _).block ≠ _; rw [add_block]; exact hn123_2) | exact hn123_2) (.slice A121_2 ((rd_T111 l0_0 x5_2).f2).length c121_2)).trans hx123_0; replace hx123_1 := (cell_far (p := ⟨gb122, 2, none⟩) (by first | (rw [add_block]; exact hn123_2) | (show (Addr.add _ _).block ≠ _; rw [add_block]; exact hn123_2) | exact hn123_2) (.slice A121_2 ((rd_T111 l0_0 x5_2).f2).length c121_2)).trans hx123_1; replace hx123_2 := (cell_far (p := ⟨gb122, 2, none⟩) (by first | (rw [add_block]; exact hn123_2) | (show (Addr.add _ _).block ≠ _; rw [add_block]; exact hn123_2) | exact hn123_2) (.slice A121_2 ((rd_T111 l0_0 x5_2).f2).length c121_2)).trans hx123_2; replace hx123_3 := (cell_far (p := ⟨gb122, 2, none⟩) (by first | (rw [add_block]; exact hn123_2) | (show (Addr.add _ _).block ≠ _; rw [add_block]; exact hn123_2) | exact hn123_2) (.slice A121_2 ((rd_T111 l0_0 x5_2).f2).length c121_2)).trans hx123_3; replace hx123_0 := (cell_far (p := ⟨gb122, 3, none⟩) (by first | (rw [add_block]; exact hn123_3) | (show (Addr.add _ _).block ≠ _; rw [add_block]; exact hn123_3) | exact hn123_3) (.slice A121_3 ((rd_T111 l0_0 x5_2).f3).length c121_3)).trans hx123_0; replace hx123_1 := (cell_far (p := ⟨gb122, 3, none⟩) (by first | (rw [add_block]; exact hn123_3) | (show (Addr.add _ _).block ≠ _; rw [add_block]; exact hn123_3) | exact hn123_3) (.slice A121_3 ((rd_T111 l0_0 x5_2).f3).length c121_3)).trans hx123_1; replace hx123_2 := (cell_far (p := ⟨gb122, 3, none⟩) (by first | (rw [add_block]; exact hn123_3) | (show (Addr.add _ _).block ≠ _; rw [add_block]; exact hn123_3) | exact hn123_3) (.slice A121_3 ((rd_T111 l0_0 x5_2).f3).length c121_3)).trans hx123_2; replace hx123_3 := (cell_far (p := ⟨gb122, 3, none⟩) (by first | (rw [add_block]; exact hn123_3) | (show (Addr.add _ _).block ≠ _; rw [add_block]; exact hn123_3) | exact hn123_3) (.slice A121_3 ((rd_T111 l0_0 x5_2).f3).length c121_3)).trans hx123_3; clear hn123_0; clear hn123_1; clear hn123_2; clear hn123_3; replace p123 := eq_true p123; replace q123 := eq_true q123) | ((with_reducible refine gate_dst (N := 7) rfl ?_); refine box_event ?hg (N := 7) ?hd (cs := #[.int .i64 0, .int .i64 0, .slice none 0 0, .slice none 0 0]) (t := 111) ?hr ?_; (case hd => rfl); (case hg => rfl); (case hr => exact gs); intro gb124 hg w91 hbox hb; have BK124 := am (hbox); have GW124 := am ((by rw [hg]; exact (below_size (bw HB)) : w.heap.size ≤ gb124)); have GE124 := am ((by rw [hg]; exact (below_size (bw HB)) : w.heap.size ≤ gb124)); replace HB := am (below_step (bw HB) hb); have NB117_124 := am ((by rw [hg]; exact Nat.ne_of_lt (blk_lt (g := gb117) (o := .cells #[.slice (some ad121) l0_0.length c0_0, .slice A0_1 l0_1.length c0_1, .slice A0_2 l0_2.length c0_2, .int .i64 a0_3, .bool a0_4, .int .i64 a0_5, .int .i64 a0_6] 67 (0, 0)) (by (with_reducible repeat (first | apply dN | apply dW | apply dA)); refine blk_far ?_ NB117_122.out _; (with_reducible repeat (first | apply dN | apply dW | apply dA)); refine blk_far ?_ NB117_122.out _; (with_reducible repeat (first | apply dN | apply dW | apply dA)); refine blk_far ?_ NB117_122.out _; (with_reducible repeat (first | apply dN | apply dW | apply dA)); refine blk_far ?_ NB117_122.out _; exact bp BK117)) : gb117 ≠ gb124)); have NB124_117 := am ((by rw [hg]; exact Nat.ne_of_gt (blk_lt (g := gb117) (o := .cells #[.slice (some ad121) l0_0.length c0_0, .slice A0_1 l0_1.length c0_1, .slice A0_2 l0_2.length c0_2, .int .i64 a0_3, .bool a0_4, .int .i64 a0_5, .int .i64 a0_6] 67 (0, 0)) (by (with_reducible repeat (first | apply dN | apply dW | apply dA)); refine blk_far ?_ NB117_122.out _; (with_reducible repeat (first | apply dN | apply dW | apply dA)); refine blk_far ?_ NB117_122.out _; (with_reducible repeat (first | apply dN | apply dW | apply dA)); refine blk_far ?_ NB117_122.out _; (with_reducible repeat (first | apply dN | apply dW | apply dA)); refine blk_far ?_ NB117_122.out _; exact bp BK117)) : gb124 ≠ gb117)); replace BK117 := am (blk_below (g := gb117) (o := .cells #[.slice (some ad121) l0_0.length c0_0, .slice A0_1 l0_1.length c0_1, .slice A0_2 l0_2.length c0_2, .int .i64 a0_3, .bool a0_4, .int .i64 a0_5, .int .i64 a0_6] 67 (0, 0)) (by (with_reducible repeat (first | apply dN | apply dW | apply dA)); refine blk_far ?_ NB117_122.out _; (with_reducible repeat (first | apply dN | apply dW | apply dA)); refine blk_far ?_ NB117_122.out _; (with_reducible repeat (first | apply dN | apply dW | apply dA)); refine blk_far ?_ NB117_122.out _; (with_reducible repeat (first | apply dN | apply dW | apply dA)); refine blk_far ?_ NB117_122.out _; exact bp BK117) hb); have NB118_124 := am ((by rw [hg]; exact Nat.ne_of_lt (blk_lt (g := gb118) (o := .cells #[.slice (some ad123) l1_0.length c1_0, .slice A1_1 l1_1.length c1_1, .slice A1_2 l1_2.length c1_2, .int .i64 a1_3, .bool a1_4, .int .i64 a1_5, .int .i64 a1_6] 67 (0, 0)) (by (with_reducible repeat (first | apply dN | apply dW | apply dA)); refine blk_far ?_ NB118_122.out _; (with_reducible repeat (first | apply dN | apply dW | apply dA)); refine blk_far ?_ NB118_122.out _; (with_reducible repeat (first | apply dN | apply dW | apply dA)); refine blk_far ?_ NB118_122.out _; (with_reducible repeat (first | apply dN | apply dW | apply dA)); refine blk_far ?_ NB118_122.out _; exact bp BK118)) : gb118 ≠ gb124)); have NB124_118 := am ((by rw [hg]; exact Nat.ne_of_gt (blk_lt (g := gb118) (o := .cells #[.slice (some ad123) l1_0.length c1_0, .slice A1_1 l1_1.length c1_1, .slice A1_2 l1_2.length c1_2, .int .i64 a1_3, .bool a1_4, .int .i64 a1_5, .int .i64 a1_6] 67 (0, 0)) (by (with_reducible repeat (first | apply dN | apply dW | apply dA)); refine blk_far ?_ NB118_122.out _; (with_reducible repeat (first | apply dN | apply dW | apply dA)); refine blk_far ?_ NB118_122.out _; (with_reducible repeat (first | apply dN | apply dW | apply dA)); refine blk_far ?_ NB118_122.out _; (with_reducible repeat (first | apply dN | apply dW | apply dA)); refine blk_far ?_ NB118_122.out _; exact bp BK118)) : gb124 ≠ gb118)); replace BK118 := am (blk_below (g := gb118) (o := .cells #[.slice (some ad123) l1_0.length c1_0, .slice A1_1 l1_1.length c1_1, .slice A1_2 l1_2.length c1_2, .int .i64 a1_3, .bool a1_4, .int .i64 a1_5, .int .i64 a1_6] 67 (0, 0)) (by (with_reducible repeat (first | apply dN | apply dW | apply dA)); refine blk_far ?_ NB118_122.out _; (with_reducible repeat (first | apply dN | apply dW | apply dA)); refine blk_far ?_ NB118_122.out _; (with_reducible repeat (first | apply dN | apply dW | apply dA)); refine blk_far ?_ NB118_122.out _; (with_reducible repeat (first | apply dN | apply dW | apply dA)); refine blk_far ?_ NB118_122.out _; exact bp BK118) hb); have NB122_124 := am ((by rw [hg]; exact Nat.ne_of_lt (blk_lt (g := gb122) (o := .cells #[.int .i64 ((rd_T111 l0_0 x5_2).f0), .int .i64 ((rd_T111 l0_0 x5_2).f1), .slice A121_2 ((rd_T111 l0_0 x5_2).f2).length c121_2, .slice A121_3 ((rd_T111 l0_0 x5_2).f3).length c121_3] 111 (0, 0)) (by (with_reducible repeat (first | apply dN | apply dW | apply dA)); refine blk_put (cs := #[.int .i64 ((rd_T111 l0_0 x5_2).f0), .int .i64 ((rd_T111 l0_0 x5_2).f1), .slice A121_2 ((rd_T111 l0_0 x5_2).f2).length c121_2, .slice none 0 0]) ?_ 3 _ rfl; (with_reducible repeat (first | apply dN | apply dW | apply dA)); refine blk_put (cs := #[.int .i64 ((rd_T111 l0_0 x5_2).f0), .int .i64 ((rd_T111 l0_0 x5_2).f1), .slice none 0 0, .slice none 0 0]) ?_ 2 _ rfl; (with_reducible repeat (first | apply dN | apply dW | apply dA)); refine blk_put (cs := #[.int .i64 ((rd_T111 l0_0 x5_2).f0), .int .i64 0, .slice none 0 0, .slice none 0 0]) ?_ 1 _ rfl; (with_reducible repeat (first | apply dN | apply dW | apply dA)); refine blk_put (cs := #[.int .i64 0, .int .i64 0, .slice none 0 0, .slice none 0 0]) ?_ 0 _ rfl; exact bp BK122)) : gb122 ≠ gb124)); have NB124_122 := am ((by rw [hg]; exact Nat.ne_of_gt (blk_lt (g := gb122) (o := .cells #[.int .i64 ((rd_T111 l0_0 x5_2).f0), .int .i64 ((rd_T111 l0_0 x5_2).f1), .slice A121_2 ((rd_T111 l0_0 x5_2).f2).length c121_2, .slice A121_3 ((rd_T111 l0_0 x5_2).f3).length c121_3] 111 (0, 0)) (by (with_reducible repeat (first | apply dN | apply dW | apply dA)); refine blk_put (cs := #[.int .i64 ((rd_T111 l0_0 x5_2).f0), .int .i64 ((rd_T111 l0_0 x5_2).f1), .slice A121_2 ((rd_T111 l0_0 x5_2).f2).length c121_2, .slice none 0 0]) ?_ 3 _ rfl; (with_reducible repeat (first | apply dN | apply dW | apply dA)); refine blk_put (cs := #[.int .i64 ((rd_T111 l0_0 x5_2).f0), .int .i64 ((rd_T111 l0_0 x5_2).f1), .slice none 0 0, .slice none 0 0]) ?_ 2 _ rfl; (with_reducible repeat (first | apply dN | apply dW | apply dA)); refine blk_put (cs := #[.int .i64 ((rd_T111 l0_0 x5_2).f0), .int .i64 0, .slice none 0 0, .slice none 0 0]) ?_ 1 _ rfl; (with_reducible repeat (first | apply dN | apply dW | apply dA)); refine blk_put (cs := #[.int .i64 0, .int .i64 0, .slice none 0 0, .slice none 0 0]) ?_ 0 _ rfl; exact bp BK122)) : gb124 ≠ gb122)); replace BK122 := am (blk_below (g := gb122) (o := .cells #[.int .i64 ((rd_T111 l0_0 x5_2).f0), .int .i64 ((rd_T111 l0_0 x5_2).f1), .slice A121_2 ((rd_T111 l0_0 x5_2).f2).length c121_2, .slice A121_3 ((rd_T111 l0_0 x5_2).f3).length c121_3] 111 (0, 0)) (by (with_reducible repeat (first | apply dN | apply dW | apply dA)); refine blk_put (cs := #[.int .i64 ((rd_T111 l0_0 x5_2).f0), .int .i64 ((rd_T111 l0_0 x5_2).f1), .slice A121_2 ((rd_T111 l0_0 x5_2).f2).length c121_2, .slice none 0 0]) ?_ 3 _ rfl; (with_reducible repeat (first | apply dN | apply dW | apply dA)); refine blk_put (cs := #[.int .i64 ((rd_T111 l0_0 x5_2).f0), .int .i64 ((rd_T111 l0_0 x5_2).f1), .slice none 0 0, .slice none 0 0]) ?_ 2 _ rfl; (with_reducible repeat (first | apply dN | apply dW | apply dA)); refine blk_put (cs := #[.int .i64 ((rd_T111 l0_0 x5_2).f0), .int .i64 0, .slice none 0 0, .slice none 0 0]) ?_ 1 _ rfl; (with_reducible repeat (first | apply dN | apply dW | apply dA)); refine blk_put (cs := #[.int .i64 0, .int .i64 0, .slice none 0 0, .slice none 0 0]) ?_ 0 _ rfl; exact bp BK122) hb); clear hb hbox hg; have hnb92 := NB124_117.out; have hnc92 := NB117_124.out; have hnb93 := NB124_118.out; have hnc93 := NB118_124.out; have hnb94 := NB124_122.out; have hnc94 := NB122_124.out; have hcz95_0 : w91.cell? ⟨gb124, 0, none⟩ = some (.int .i64 0) := bc BK124 0; have hcz95_1 : w91.cell? ⟨gb124, 1, none⟩ = some (.int .i64 0) := bc BK124 1; have hcz95_2 : w91.cell? ⟨gb124, 2, none⟩ = some (.slice none 0 0) := bc BK124 2; have hcz95_3 : w91.cell? ⟨gb124, 3, none⟩ = some (.slice none 0 0) := bc BK124 3; have hfz95_0 := bf BK124 0; have hfz95_1 := bf BK124 1; have hfz95_2 := bf BK124 2; have hfz95_3 := bf BK124 3; have hcz96_0 : w91.cell? ⟨gb122, 0, none⟩ = some (.int .i64 ((rd_T111 l0_0 x5_2).f0)) := bc BK122 0; have hcz96_1 : w91.cell? ⟨gb122, 1, none⟩ = some (.int .i64 ((rd_T111 l0_0 x5_2).f1)) := bc BK122 1; have hcz96_2 : w91.cell? ⟨gb122, 2, none⟩ = some (.slice A121_2 ((rd_T111 l0_0 x5_2).f2).length c121_2) := bc BK122 2; have hcz96_3 : w91.cell? ⟨gb122, 3, none⟩ = some (.slice A121_3 ((rd_T111 l0_0 x5_2).f3).length c121_3) := bc BK122 3; have hfz96_0 := bf BK122 0; have hfz96_1 := bf BK122 1; have hfz96_2 := bf BK122 2; have hfz96_3 := bf BK122 3))
           go_ret
           exact ⟨er, bw HB⟩
         ·rw [if_neg c39] at H
          have c39b0 : (((rd_T111 l0_0 x5_2).f0) == ((rd_T111 l1_0 x5_2).f0)) = false := beq_eq_false_iff_ne.mpr c39
          have c39b1 : (((rd_T111 l0_0 x5_2).f0) != ((rd_T111 l1_0 x5_2).f0)) = true := bne_iff_ne.mpr c39
          obtain rfl := Option.some.inj H
          have hnb97 := NB117_118.out
          have hnc97 := NB118_117.out
          have hcz98_0 : wr.cell? ⟨gb117, 0, none⟩ = some (.slice A0_0 l0_0.length c0_0) := bc BK117 0
          have hcz98_1 : wr.cell? ⟨gb117, 1, none⟩ = some (.slice A0_1 l0_1.length c0_1) := bc BK117 1
          have hcz98_2 : wr.cell? ⟨gb117, 2, none⟩ = some (.slice A0_2 l0_2.length c0_2) := bc BK117 2
          have hcz98_3 : wr.cell? ⟨gb117, 3, none⟩ = some (.int .i64 a0_3) := bc BK117 3
          have hcz98_4 : wr.cell? ⟨gb117, 4, none⟩ = some (.bool a0_4) := bc BK117 4
          have hcz98_5 : wr.cell? ⟨gb117, 5, none⟩ = some (.int .i64 a0_5) := bc BK117 5
          have hcz98_6 : wr.cell? ⟨gb117, 6, none⟩ = some (.int .i64 a0_6) := bc BK117 6
          have hfz98_0 := bf BK117 0
          have hfz98_1 := bf BK117 1
          have hfz98_2 := bf BK117 2
          have hfz98_3 := bf BK117 3
          have hfz98_4 := bf BK117 4
          have hfz98_5 := bf BK117 5
          have hfz98_6 := bf BK117 6
          have p121 : 0 ≤ (x5_2 : Int) := of_decide_eq_true as1
          have q121 : x5_2 < (l0_0.length : Int) := of_decide_eq_true as1
          obtain ⟨ad121, A121_2, c121_2, A121_3, c121_3, e121, hx121_0, hx121_1, hx121_2, hx121_3, hl121_2, hi121_2, hl121_3, hi121_3⟩ := at_T111 HR0_0.out x5_2 p121 q121
          cases e121
          replace hx121_0 := (HB.out.cell (World.block_lt_of_cell? w _ hx121_0)).trans hx121_0
          replace hx121_1 := (HB.out.cell (World.block_lt_of_cell? w _ hx121_1)).trans hx121_1
          replace hx121_2 := (HB.out.cell (World.block_lt_of_cell? w _ hx121_2)).trans hx121_2
          replace hx121_3 := (HB.out.cell (World.block_lt_of_cell? w _ hx121_3)).trans hx121_3
          have HR121_2 := am hi121_2
          have HC121_2 := am hl121_2
          clear hi121_2 hl121_2
          have HR121_3 := am hi121_3
          have HC121_3 := am hl121_3
          clear hi121_3 hl121_3
          replace p121 := eq_true p121
          replace q121 := eq_true q121
          go_wp2_with (first | ((with_reducible refine gate_dst (N := 6) rfl ?_); refine box_event ?hg (N := 6) ?hd (cs := #[.int .i64 0, .int .i64 0, .slice none 0 0, .slice none 0 0]) (t := 111) ?hr ?_; (case hd => rfl); (case hg => rfl); (case hr => exact gs); intro gb122 hg w99 hbox hb; have BK122 := am (hbox); have GW122 := am ((by rw [hg]; exact (below_size (bw HB)) : w.heap.size ≤ gb122)); have GE122 := am ((by rw [hg]; exact (below_size (bw HB)) : w.heap.size ≤ gb122)); replace HB := am (below_step (bw HB) hb); have NB117_122 := am ((by rw [hg]; exact Nat.ne_of_lt (blk_lt (g := gb117) (o := .cells #[.slice (some ad121) l0_0.length c0_0, .slice A0_1 l0_1.length c0_1, .slice A0_2 l0_2.length c0_2, .int .i64 a0_3, .bool a0_4, .int .i64 a0_5, .int .i64 a0_6] 67 (0, 0)) (bp BK117)) : gb117 ≠ gb122)); have NB122_117 := am ((by rw [hg]; exact Nat.ne_of_gt (blk_lt (g := gb117) (o := .cells #[.slice (some ad121) l0_0.length c0_0, .slice A0_1 l0_1.length c0_1, .slice A0_2 l0_2.length c0_2, .int .i64 a0_3, .bool a0_4, .int .i64 a0_5, .int .i64 a0_6] 67 (0, 0)) (bp BK117)) : gb122 ≠ gb117)); replace BK117 := am (blk_below (g := gb117) (o := .cells #[.slice (some ad121) l0_0.length c0_0, .slice A0_1 l0_1.length c0_1, .slice A0_2 l0_2.length c0_2, .int .i64 a0_3, .bool a0_4, .int .i64 a0_5, .int .i64 a0_6] 67 (0, 0)) (bp BK117) hb); have NB118_122 := am ((by rw [hg]; exact Nat.ne_of_lt (blk_lt (g := gb118) (o := .cells #[.slice A1_0 l1_0.length c1_0, .slice A1_1 l1_1.length c1_1, .slice A1_2 l1_2.length c1_2, .int .i64 a1_3, .bool a1_4, .int .i64 a1_5, .int .i64 a1_6] 67 (0, 0)) (bp BK118)) : gb118 ≠ gb122)); have NB122_118 := am ((by rw [hg]; exact Nat.ne_of_gt (blk_lt (g := gb118) (o := .cells #[.slice A1_0 l1_0.length c1_0, .slice A1_1 l1_1.length c1_1, .slice A1_2 l1_2.length c1_2, .int .i64 a1_3, .bool a1_4, .int .i64 a1_5, .int .i64 a1_6] 67 (0, 0)) (bp BK118)) : gb122 ≠ gb118)); replace BK118 := am (blk_below (g := gb118) (o := .cells #[.slice A1_0 l1_0.length c1_0, .slice A1_1 l1_1.length c1_1, .slice A1_2 l1_2.length c1_2, .int .i64 a1_3, .bool a1_4, .int .i64 a1_5, .int .i64 a1_6] 67 (0, 0)) (bp BK118) hb); clear hb hbox hg; have hnb100 := NB122_117.out; have hnc100 := NB117_122.out; have hnb101 := NB122_118.out; have hnc101 := NB118_122.out; have hcz102_0 : w99.cell? ⟨gb122, 0, none⟩ = some (.int .i64 0) := bc BK122 0; have hcz102_1 : w99.cell? ⟨gb122, 1, none⟩ = some (.int .i64 0) := bc BK122 1; have hcz102_2 : w99.cell? ⟨gb122, 2, none⟩ = some (.slice none 0 0) := bc BK122 2; have hcz102_3 : w99.cell? ⟨gb122, 3, none⟩ = some (.slice none 0 0) := bc BK122 3; have hfz102_0 := bf BK122 0; have hfz102_1 := bf BK122 1; have hfz102_2 := bf BK122 2; have hfz102_3 := bf BK122 3; have hcz103_0 : w99.cell? ⟨gb118, 0, none⟩ = some (.slice A1_0 l1_0.length c1_0) := bc BK118 0; have hcz103_1 : w99.cell? ⟨gb118, 1, none⟩ = some (.slice A1_1 l1_1.length c1_1) := bc BK118 1; have hcz103_2 : w99.cell? ⟨gb118, 2, none⟩ = some (.slice A1_2 l1_2.length c1_2) := bc BK118 2; have hcz103_3 : w99.cell? ⟨gb118, 3, none⟩ = some (.int .i64 a1_3) := bc BK118 3; have hcz103_4 : w99.cell? ⟨gb118, 4, none⟩ = some (.bool a1_4) := bc BK118 4; have hcz103_5 : w99.cell? ⟨gb118, 5, none⟩ = some (.int .i64 a1_5) := bc BK118 5; have hcz103_6 : w99.cell? ⟨gb118, 6, none⟩ = some (.int .i64 a1_6) := bc BK118 6; have hfz103_0 := bf BK118 0; have hfz103_1 := bf BK118 1; have hfz103_2 := bf BK118 2; have hfz103_3 := bf BK118 3; have hfz103_4 := bf BK118 4; have hfz103_5 := bf BK118 5; have hfz103_6 := bf BK118 6; have p123 : 0 ≤ (x5_2 : Int) := of_decide_eq_true as1; have q123 : x5_2 < (l1_0.length : Int) := of_decide_eq_true as1; obtain ⟨ad123, A123_2, c123_2, A123_3, c123_3, e123, hx123_0, hx123_1, hx123_2, hx123_3, hl123_2, hi123_2, hl123_3, hi123_3⟩ := at_T111 HR1_0.out x5_2 p123 q123; cases e123; have hn123_0 : ad123.block ≠ gb122 := Nat.ne_of_lt (Nat.lt_of_lt_of_le (by have := World.block_lt_of_cell? _ _ hx123_0; first | rwa [add_block] at this | exact this) GW122.out); have hn123_1 : ad123.block ≠ gb122 := Nat.ne_of_lt (Nat.lt_of_lt_of_le (by have := World.block_lt_of_cell? _ _ hx123_0; first | rwa [add_block] at this | exact this) GW122.out); have hn123_2 : ad123.block ≠ gb122 := Nat.ne_of_lt (Nat.lt_of_lt_of_le (by have := World.block_lt_of_cell? _ _ hx123_0; first | rwa [add_block] at this | exact this) GW122.out); have hn123_3 : ad123.block ≠ gb122 := Nat.ne_of_lt (Nat.lt_of_lt_of_le (by have := World.block_lt_of_cell? _ _ hx123_0; first | rwa [add_block] at this | exact this) GW122.out); replace hx123_0 := (HB.out.cell (World.block_lt_of_cell? w _ hx123_0)).trans hx123_0; replace hx123_1 := (HB.out.cell (World.block_lt_of_cell? w _ hx123_1)).trans hx123_1; replace hx123_2 := (HB.out.cell (World.block_lt_of_cell? w _ hx123_2)).trans hx123_2; replace hx123_3 := (HB.out.cell (World.block_lt_of_cell? w _ hx123_3)).trans hx123_3; have HR123_2 := am hi123_2; have HC123_2 := am hl123_2; clear hi123_2 hl123_2; have HR123_3 := am hi123_3; have HC123_3 := am hl123_3; clear hi123_3 hl123_3; replace hx123_0 := (cell_far (p := ⟨gb122, 0, none⟩) (by first | (rw [add_block]; exact hn123_0) | (show (Addr.add _ _).block ≠ _; rw [add_block]; exact hn123_0) | exact hn123_0) (.int .i64 ((rd_T111 l0_0 x5_2).f0))).trans hx123_0; replace hx123_1 := (cell_far (p := ⟨gb122, 0, none⟩) (by first | (rw [add_block]; exact hn123_0) | (show (Addr.add _ _).block ≠ _; rw [add_block]; exact hn123_0) | exact hn123_0) (.int .i64 ((rd_T111 l0_0 x5_2).f0))).trans hx123_1; replace hx123_2 := (cell_far (p := ⟨gb122, 0, none⟩) (by first | (rw [add_block]; exact hn123_0) | (show (Addr.add _ _).block ≠ _; rw [add_block]; exact hn123_0) | exact hn123_0) (.int .i64 ((rd_T111 l0_0 x5_2).f0))).trans hx123_2; replace hx123_3 := (cell_far (p := ⟨gb122, 0, none⟩) (by first | (rw [add_block]; exact hn123_0) | (show (Addr.add _ _).block ≠ _; rw [add_block]; exact hn123_0) | exact hn123_0) (.int .i64 ((rd_T111 l0_0 x5_2).f0))).trans hx123_3; replace hx123_0 := (cell_far (p := ⟨gb122, 1, none⟩) (by first | (rw [add_block]; exact hn123_1) | (show (Addr.add _ _).block ≠ _; rw [add_block]; exact hn123_1) | exact hn123_1) (.int .i64 ((rd_T111 l0_0 x5_2).f1))).trans hx123_0; replace hx123_1 := (cell_far (p := ⟨gb122, 1, none⟩) (by first | (rw [add_block]; exact hn123_1) | (show (Addr.add _ _).block ≠ _; rw [add_block]; exact hn123_1) | exact hn123_1) (.int .i64 ((rd_T111 l0_0 x5_2).f1))).trans hx123_1; replace hx123_2 := (cell_far (p := ⟨gb122, 1, none⟩) (by first | (rw [add_block]; exact hn123_1) | (show (Addr.add _ _).block ≠ _; rw [add_block]; exact hn123_1) | exact hn123_1) (.int .i64 ((rd_T111 l0_0 x5_2).f1))).trans hx123_2; replace hx123_3 := (cell_far (p := ⟨gb122, 1, none⟩) (by first | (rw [add_block]; exact hn123_1) | (show (Addr.add _ _).block ≠ _; rw [add_block]; exact hn123_1) | exact hn123_1) (.int .i64 ((rd_T111 l0_0 x5_2).f1))).trans hx123_3; replace hx123_0 := (cell_far (p := ⟨gb122, 2, none⟩) (by first | (rw [add_block]; exact hn123_2) | (show (Addr.add _ _).block ≠ _; rw [add_block]; exact hn123_2) | exact hn123_2) (.slice A121_2 ((rd_T111 l0_0 x5_2).f2).length c121_2)).trans hx123_0; replace hx123_1 := (cell_far (p := ⟨gb122, 2, none⟩) (by first | (rw [add_block]; exact hn123_2) | (show (Addr.add _ _).block ≠ _; rw [add_block]; exact hn123_2) | exact hn123_2) (.slice A121_2 ((rd_T111 l0_0 x5_2).f2).length c121_2)).trans hx123_1; replace hx123_2 := (cell_far (p := ⟨gb122, 2, none⟩) (by first | (rw [add_block]; exact hn123_2) | (show (Addr.add _ _).block ≠ _; rw [add_block]; exact hn123_2) | exact hn123_2) (.slice A121_2 ((rd_T111 l0_0 x5_2).f2).length c121_2)).trans hx123_2; replace hx123_3 := (cell_far (p := ⟨gb122, 2, none⟩) (by first | (rw [add_block]; exact hn123_2) | (show (Addr.add _ _).block ≠ _; rw [add_block]; exact hn123_2) | exact hn123_2) (.slice A121_2 ((rd_T111 l0_0 x5_2).f2).length c121_2)).trans hx123_3; replace hx123_0 := (cell_far (p := ⟨gb122, 3, none⟩) (by first | (rw [add_block]; exact hn123_3) | (show (Addr.add _ _).block ≠ _; rw [add_block]; exact hn123_3) | exact hn123_3) (.slice A121_3 ((rd_T111 l0_0 x5_2).f3).length c121_3)).trans hx123_0; replace hx123_1 := (cell_far (p := ⟨gb122, 3, none⟩) (by first | (rw [add_block]; exact hn123_3) | (show (Addr.add _ _).block ≠ _; rw [add_block]; exact hn123_3) | exact hn123_3) (.slice A121_3 ((rd_T111 l0_0 x5_2).f3).length c121_3)).trans hx123_1; replace hx123_2 := (cell_far (p := ⟨gb122, 3, none⟩) (by first | (rw [add_block]; exact hn123_3) | (show (Addr.add _ _).block ≠ _; rw [add_block]; exact hn123_3) | exact hn123_3) (.slice A121_3 ((rd_T111 l0_0 x5_2).f3).length c121_3)).trans hx123_2; replace hx123_3 := (cell_far (p := ⟨gb122, 3, none⟩) (by first | (rw [add_block]; exact hn123_3) | (show (Addr.add _ _).block ≠ _; rw [add_block]; exact hn123_3) | exact hn123_3) (.slice A121_3 ((rd_T111 l0_0 x5_2).f3).length c121_3)).trans hx123_3; clear hn123_0; clear hn123_1; clear hn123_2; clear hn123_3; replace p123 := eq_true p123; replace q123 := eq_true q123) | ((with_reducible refine gate_dst (N := 7) rfl ?_); refine box_event ?hg (N := 7) ?hd (cs := #[.int .i64 0, .int .i64 0, .slice none 0 0, .slice none 0 0]) (t := 111) ?hr ?_; (case hd => rfl); (case hg => rfl); (case hr => exact gs); intro gb124 hg w104 hbox hb; have BK124 := am (hbox); have GW124 := am ((by rw [hg]; exact (below_size (bw HB)) : w.heap.size ≤ gb124)); have GE124 := am ((by rw [hg]; exact (below_size (bw HB)) : w.heap.size ≤ gb124)); replace HB := am (below_step (bw HB) hb); have NB117_124 := am ((by rw [hg]; exact Nat.ne_of_lt (blk_lt (g := gb117) (o := .cells #[.slice (some ad121) l0_0.length c0_0, .slice A0_1 l0_1.length c0_1, .slice A0_2 l0_2.length c0_2, .int .i64 a0_3, .bool a0_4, .int .i64 a0_5, .int .i64 a0_6] 67 (0, 0)) (by (with_reducible repeat (first | apply dN | apply dW | apply dA)); refine blk_far ?_ NB117_122.out _; (with_reducible repeat (first | apply dN | apply dW | apply dA)); refine blk_far ?_ NB117_122.out _; (with_reducible repeat (first | apply dN | apply dW | apply dA)); refine blk_far ?_ NB117_122.out _; (with_reducible repeat (first | apply dN | apply dW | apply dA)); refine blk_far ?_ NB117_122.out _; exact bp BK117)) : gb117 ≠ gb124)); have NB124_117 := am ((by rw [hg]; exact Nat.ne_of_gt (blk_lt (g := gb117) (o := .cells #[.slice (some ad121) l0_0.length c0_0, .slice A0_1 l0_1.length c0_1, .slice A0_2 l0_2.length c0_2, .int .i64 a0_3, .bool a0_4, .int .i64 a0_5, .int .i64 a0_6] 67 (0, 0)) (by (with_reducible repeat (first | apply dN | apply dW | apply dA)); refine blk_far ?_ NB117_122.out _; (with_reducible repeat (first | apply dN | apply dW | apply dA)); refine blk_far ?_ NB117_122.out _; (with_reducible repeat (first | apply dN | apply dW | apply dA)); refine blk_far ?_ NB117_122.out _; (with_reducible repeat (first | apply dN | apply dW | apply dA)); refine blk_far ?_ NB117_122.out _; exact bp BK117)) : gb124 ≠ gb117)); replace BK117 := am (blk_below (g := gb117) (o := .cells #[.slice (some ad121) l0_0.length c0_0, .slice A0_1 l0_1.length c0_1, .slice A0_2 l0_2.length c0_2, .int .i64 a0_3, .bool a0_4, .int .i64 a0_5, .int .i64 a0_6] 67 (0, 0)) (by (with_reducible repeat (first | apply dN | apply dW | apply dA)); refine blk_far ?_ NB117_122.out _; (with_reducible repeat (first | apply dN | apply dW | apply dA)); refine blk_far ?_ NB117_122.out _; (with_reducible repeat (first | apply dN | apply dW | apply dA)); refine blk_far ?_ NB117_122.out _; (with_reducible repeat (first | apply dN | apply dW | apply dA)); refine blk_far ?_ NB117_122.out _; exact bp BK117) hb); have NB118_124 := am ((by rw [hg]; exact Nat.ne_of_lt (blk_lt (g := gb118) (o := .cells #[.slice (some ad123) l1_0.length c1_0, .slice A1_1 l1_1.length c1_1, .slice A1_2 l1_2.length c1_2, .int .i64 a1_3, .bool a1_4, .int .i64 a1_5, .int .i64 a1_6] 67 (0, 0)) (by (with_reducible repeat (first | apply dN | apply dW | apply dA)); refine blk_far ?_ NB118_122.out _; (with_reducible repeat (first | apply dN | apply dW | apply dA)); refine blk_far ?_ NB118_122.out _; (with_reducible repeat (first | apply dN | apply dW | apply dA)); refine blk_far ?_ NB118_122.out _; (with_reducible repeat (first | apply dN | apply dW | apply dA)); refine blk_far ?_ NB118_122.out _; exact bp BK118)) : gb118 ≠ gb124)); have NB124_118 := am ((by rw [hg]; exact Nat.ne_of_gt (blk_lt (g := gb118) (o := .cells #[.slice (some ad123) l1_0.length c1_0, .slice A1_1 l1_1.length c1_1, .slice A1_2 l1_2.length c1_2, .int .i64 a1_3, .bool a1_4, .int .i64 a1_5, .int .i64 a1_6] 67 (0, 0)) (by (with_reducible repeat (first | apply dN | apply dW | apply dA)); refine blk_far ?_ NB118_122.out _; (with_reducible repeat (first | apply dN | apply dW | apply dA)); refine blk_far ?_ NB118_122.out _; (with_reducible repeat (first | apply dN | apply dW | apply dA)); refine blk_far ?_ NB118_122.out _; (with_reducible repeat (first | apply dN | apply dW | apply dA)); refine blk_far ?_ NB118_122.out _; exact bp BK118)) : gb124 ≠ gb118)); replace BK118 := am (blk_below (g := gb118) (o := .cells #[.slice (some ad123) l1_0.length c1_0, .slice A1_1 l1_1.length c1_1, .slice A1_2 l1_2.length c1_2, .int .i64 a1_3, .bool a1_4, .int .i64 a1_5, .int .i64 a1_6] 67 (0, 0)) (by (with_reducible repeat (first | apply dN | apply dW | apply dA)); refine blk_far ?_ NB118_122.out _; (with_reducible repeat (first | apply dN | apply dW | apply dA)); refine blk_far ?_ NB118_122.out _; (with_reducible repeat (first | apply dN | apply dW | apply dA)); refine blk_far ?_ NB118_122.out _; (with_reducible repeat (first | apply dN | apply dW | apply dA)); refine blk_far ?_ NB118_122.out _; exact bp BK118) hb); have NB122_124 := am ((by rw [hg]; exact Nat.ne_of_lt (blk_lt (g := gb122) (o := .cells #[.int .i64 ((rd_T111 l0_0 x5_2).f0), .int .i64 ((rd_T111 l0_0 x5_2).f1), .slice A121_2 ((rd_T111 l0_0 x5_2).f2).length c121_2, .slice A121_3 ((rd_T111 l0_0 x5_2).f3).length c121_3] 111 (0, 0)) (by (with_reducible repeat (first | apply dN | apply dW | apply dA)); refine blk_put (cs := #[.int .i64 ((rd_T111 l0_0 x5_2).f0), .int .i64 ((rd_T111 l0_0 x5_2).f1), .slice A121_2 ((rd_T111 l0_0 x5_2).f2).length c121_2, .slice none 0 0]) ?_ 3 _ rfl; (with_reducible repeat (first | apply dN | apply dW | apply dA)); refine blk_put (cs := #[.int .i64 ((rd_T111 l0_0 x5_2).f0), .int .i64 ((rd_T111 l0_0 x5_2).f1), .slice none 0 0, .slice none 0 0]) ?_ 2 _ rfl; (with_reducible repeat (first | apply dN | apply dW | apply dA)); refine blk_put (cs := #[.int .i64 ((rd_T111 l0_0 x5_2).f0), .int .i64 0, .slice none 0 0, .slice none 0 0]) ?_ 1 _ rfl; (with_reducible repeat (first | apply dN | apply dW | apply dA)); refine blk_put (cs := #[.int .i64 0, .int .i64 0, .slice none 0 0, .slice none 0 0]) ?_ 0 _ rfl; exact bp BK122)) : gb122 ≠ gb124)); have NB124_122 := am ((by rw [hg]; exact Nat.ne_of_gt (blk_lt (g := gb122) (o := .cells #[.int .i64 ((rd_T111 l0_0 x5_2).f0), .int .i64 ((rd_T111 l0_0 x5_2).f1), .slice A121_2 ((rd_T111 l0_0 x5_2).f2).length c121_2, .slice A121_3 ((rd_T111 l0_0 x5_2).f3).length c121_3] 111 (0, 0)) (by (with_reducible repeat (first | apply dN | apply dW | apply dA)); refine blk_put (cs := #[.int .i64 ((rd_T111 l0_0 x5_2).f0), .int .i64 ((rd_T111 l0_0 x5_2).f1), .slice A121_2 ((rd_T111 l0_0 x5_2).f2).length c121_2, .slice none 0 0]) ?_ 3 _ rfl; (with_reducible repeat (first | apply dN | apply dW | apply dA)); refine blk_put (cs := #[.int .i64 ((rd_T111 l0_0 x5_2).f0), .int .i64 ((rd_T111 l0_0 x5_2).f1), .slice none 0 0, .slice none 0 0]) ?_ 2 _ rfl; (with_reducible repeat (first | apply dN | apply dW | apply dA)); refine blk_put (cs := #[.int .i64 ((rd_T111 l0_0 x5_2).f0), .int .i64 0, .slice none 0 0, .slice none 0 0]) ?_ 1 _ rfl; (with_reducible repeat (first | apply dN | apply dW | apply dA)); refine blk_put (cs := #[.int .i64 0, .int .i64 0, .slice none 0 0, .slice none 0 0]) ?_ 0 _ rfl; exact bp BK122)) : gb124 ≠ gb122)); replace BK122 := am (blk_below (g := gb122) (o := .cells #[.int .i64 ((rd_T111 l0_0 x5_2).f0), .int .i64 ((rd_T111 l0_0 x5_2).f1), .slice A121_2 ((rd_T111 l0_0 x5_2).f2).length c121_2, .slice A121_3 ((rd_T111 l0_0 x5_2).f3).length c121_3] 111 (0, 0)) (by (with_reducible repeat (first | apply dN | apply dW | apply dA)); refine blk_put (cs := #[.int .i64 ((rd_T111 l0_0 x5_2).f0), .int .i64 ((rd_T111 l0_0 x5_2).f1), .slice A121_2 ((rd_T111 l0_0 x5_2).f2).length c121_2, .slice none 0 0]) ?_ 3 _ rfl; (with_reducible repeat (first | apply dN | apply dW | apply dA)); refine blk_put (cs := #[.int .i64 ((rd_T111 l0_0 x5_2).f0), .int .i64 ((rd_T111 l0_0 x5_2).f1), .slice none 0 0, .slice none 0 0]) ?_ 2 _ rfl; (with_reducible repeat (first | apply dN | apply dW | apply dA)); refine blk_put (cs := #[.int .i64 ((rd_T111 l0_0 x5_2).f0), .int .i64 0, .slice none 0 0, .slice none 0 0]) ?_ 1 _ rfl; (with_reducible repeat (first | apply dN | apply dW | apply dA)); refine blk_put (cs := #[.int .i64 0, .int .i64 0, .slice none 0 0, .slice none 0 0]) ?_ 0 _ rfl; exact bp BK122) hb); clear hb hbox hg; have hnb105 := NB124_117.out; have hnc105 := NB117_124.out; have hnb106 := NB124_118.out; have hnc106 := NB118_124.out; have hnb107 := NB124_122.out; have hnc107 := NB122_124.out; have hcz108_0 : w104.cell? ⟨gb124, 0, none⟩ = some (.int .i64 0) := bc BK124 0; have hcz108_1 : w104.cell? ⟨gb124, 1, none⟩ = some (.int .i64 0) := bc BK124 1; have hcz108_2 : w104.cell? ⟨gb124, 2, none⟩ = some (.slice none 0 0) := bc BK124 2; have hcz108_3 : w104.cell? ⟨gb124, 3, none⟩ = some (.slice none 0 0) := bc BK124 3; have hfz108_0 := bf BK124 0; have hfz108_1 := bf BK124 1; have hfz108_2 := bf BK124 2; have hfz108_3 := bf BK124 3; have hcz109_0 : w104.cell? ⟨gb122, 0, none⟩ = some (.int .i64 ((rd_T111 l0_0 x5_2).f0)) := bc BK122 0; have hcz109_1 : w104.cell? ⟨gb122, 1, none⟩ = some (.int .i64 ((rd_T111 l0_0 x5_2).f1)) := bc BK122 1; have hcz109_2 : w104.cell? ⟨gb122, 2, none⟩ = some (.slice A121_2 ((rd_T111 l0_0 x5_2).f2).length c121_2) := bc BK122 2; have hcz109_3 : w104.cell? ⟨gb122, 3, none⟩ = some (.slice A121_3 ((rd_T111 l0_0 x5_2).f3).length c121_3) := bc BK122 3; have hfz109_0 := bf BK122 0; have hfz109_1 := bf BK122 1; have hfz109_2 := bf BK122 2; have hfz109_3 := bf BK122 3))
          go_ret
          exact ⟨er, bw HB⟩
        ·rw [if_neg c38] at H
         exact absurd H (by simp)
       ·rw [if_neg c37] at H
        exact absurd H (by simp)
      ·rw [if_neg c36] at H
       have c36b0 := decide_eq_false c36
       clear c36
       obtain rfl := Option.some.inj H
       have hnb110 := NB117_118.out
       have hnc110 := NB118_117.out
       have hcz111_0 : wr.cell? ⟨gb117, 0, none⟩ = some (.slice A0_0 l0_0.length c0_0) := bc BK117 0
       have hcz111_1 : wr.cell? ⟨gb117, 1, none⟩ = some (.slice A0_1 l0_1.length c0_1) := bc BK117 1
       have hcz111_2 : wr.cell? ⟨gb117, 2, none⟩ = some (.slice A0_2 l0_2.length c0_2) := bc BK117 2
       have hcz111_3 : wr.cell? ⟨gb117, 3, none⟩ = some (.int .i64 a0_3) := bc BK117 3
       have hcz111_4 : wr.cell? ⟨gb117, 4, none⟩ = some (.bool a0_4) := bc BK117 4
       have hcz111_5 : wr.cell? ⟨gb117, 5, none⟩ = some (.int .i64 a0_5) := bc BK117 5
       have hcz111_6 : wr.cell? ⟨gb117, 6, none⟩ = some (.int .i64 a0_6) := bc BK117 6
       have hfz111_0 := bf BK117 0
       have hfz111_1 := bf BK117 1
       have hfz111_2 := bf BK117 2
       have hfz111_3 := bf BK117 3
       have hfz111_4 := bf BK117 4
       have hfz111_5 := bf BK117 5
       have hfz111_6 := bf BK117 6
       go_wp2
       go_ret
       exact ⟨er, bw HB⟩

def laws_toInt64S.l0 : Nat → List Int → List Int → Int → Option (List Int)
 | 0, _, _, _ => none
 | k + 1, x0, x3, x4 => if x4 < (x0.length : Int) then (if 0 ≤ x4 then (if x4 < (x3.length : Int) then (laws_toInt64S.l0 k x0 (x3.set (x4 : Int).toNat (rd x0 x4)) (wrap64 (x4 + 1))) else (none)) else (none)) else (some x3)
def laws_toInt64S.f (k : Nat) (l0 : List Int) : Option (List Int) := if 0 ≤ (l0.length : Int) then (if ((l0.length : Int) : Int).toNat ≤ 35184372088832 then (laws_toInt64S.l0 k l0 (List.replicate ((l0.length : Int) : Int).toNat 0) 0) else (none)) else (none)
theorem laws_toInt64S.mono_l : ∀ k, (∀ y0 y1 y2, LeO (laws_toInt64S.l0 k y0 y1 y2) (laws_toInt64S.l0 (k + 1) y0 y1 y2))
 | 0 => fun _ _ _ r h => by simp [laws_toInt64S.l0] at h
 | k + 1 => by
  have ih0 := laws_toInt64S.mono_l k
  ·intro y0 y1 y2
   unfold laws_toInt64S.l0
   repeat' first
   | (with_reducible exact ih0 _ _ _)
   | (with_reducible exact LeO.refl _)
   | (with_reducible exact LeO.none _)
   | (with_reducible refine LeO.ite ?_ ?_)
   | (with_reducible refine LeO.bind ?_ (fun _ => ?_))
theorem laws_toInt64S.mono : ∀ a0 k, LeO (laws_toInt64S.f k a0) (laws_toInt64S.f (k + 1) a0) := by
 intro a0 k
 have ih0 := laws_toInt64S.mono_l k
 unfold laws_toInt64S.f
 repeat' first
   | (with_reducible exact ih0 _ _ _)
   | (with_reducible exact LeO.refl _)
   | (with_reducible exact LeO.none _)
   | (with_reducible refine LeO.ite ?_ ?_)
   | (with_reducible refine LeO.bind ?_ (fun _ => ?_))
theorem laws_toInt64S.calls (k : Nat) (A0 : Option Addr) (c0 : Nat) (l0 : List Int) (r : List Int) (w : World) (hr0 : Kd.C (Kd.int .i64) w A0 l0.length l0) (hc0 : l0.length ≤ c0) (h : laws_toInt64S.f k l0 = some r) :
  Calls Try.prog 19 #[.slice A0 l0.length c0] w fun e w' => ∃ v0_ : Value, e = .returned (v0_) ∧ Kd.R (Kd.int .i64) 2 w' w.heap.size (fun _ => True) v0_ r ∧ Below w.heap.size w w' := by
 have HR0 := am hr0
 have HC0 := am hc0
 clear hr0 hc0
 have HB := am (Below.refl w.heap.size w)
 have H : (if 0 ≤ (l0.length : Int) then (if ((l0.length : Int) : Int).toNat ≤ 35184372088832 then (laws_toInt64S.l0 k l0 (List.replicate ((l0.length : Int) : Int).toNat 0) 0) else (none)) else (none)) = some r := h
 clear h
 by_cases c2 : 0 ≤ (l0.length : Int)
 ·rw [if_pos c2] at H
  have c2b0 := eq_true c2
  have c2b1 := decide_eq_true c2
  clear c2
  by_cases c3 : ((l0.length : Int) : Int).toNat ≤ 35184372088832
  ·rw [if_pos c3] at H
   have c3b0 := eq_true c3
   have c3b1 := decide_eq_true c3
   clear c3
   obtain ⟨y127, hy127⟩ : ∃ y_ : List Int, y_ = (List.replicate ((l0.length : Int) : Int).toNat 0) := ⟨_, rfl⟩
   replace H : (laws_toInt64S.l0 k l0 y127 0) = some r := by first | (rw [hy127]; with_reducible exact H) | (have H2_ := (Option.bind_some _ _).symm.trans H; rw [hy127]; with_reducible exact H2_) | (have H2_ := (Option.bind_some _ _).symm.trans H; with_reducible exact H2_) | with_reducible exact H | (rw [hy127]; exact H) | exact H
   have Ny127 := am hy127
   clear hy127
   have H' := am H
   clear H
   go_enter Try.func19, Try.ntmps19
   go_wp2_with (first | ((with_reducible refine gate_dst (N := 7) rfl ?_); refine Kd.R_make (Kd.int .i64) _ 2 rfl (N := 7) rfl 27 _ _ rfl (l0.length : Int) rfl rfl Try.underlying27 (.int .i64 0) 8 info2 rfl (by decide) (by omega) 0 (ok := fun _ => True) (okp := fun _ => True) rfl (fun _ hk => hk) trivial (of_decide_eq_true as1) (Nat.le_trans (Nat.mul_le_mul_right _ (of_decide_eq_true as1 : (l0.length : Int).toNat ≤ 35184372088832)) (by omega)) (Below.refl _ _) (Nat.le_refl _) ?_; intro v128 w4 ho5 hb hg_ hnew_; clear hg_ hnew_; (first | rw [← Ny127.out] at ho5 | (simp only [Int.reduceToNat] at ho5; rw [← Ny127.out] at ho5)); have HO129 := am (Kd.R_lower ho5 (below_size (bw HB))); replace HB := am (below_step (bw HB) hb); clear hb ho5))
   go_loopg [4] k (fun kq v4 w' => ∃ (x3_1 : List Int) (x4_1 : Int), v4 = .int .i64 x4_1 ∧ Aside0 (laws_toInt64S.l0 kq l0 x3_1 x4_1 = some r) ∧ Aside0 (kq ≤ k) ∧ Aside0 (Kd.R (Kd.int .i64) 2 w' w.heap.size (fun _ => True) v128 x3_1) ∧ Aside0 (Below w.heap.size w w'))
   case atStart => exact ⟨(y127), (0), dr, H', ⟨Nat.le_refl _⟩, ⟨kR HO129⟩, ⟨bw HB⟩⟩
   case round =>
    clear H'
    (try clear c1); (try clear c2); (try clear c2b0); (try clear c2b1); (try clear p2); (try clear c3); (try clear c3b0); (try clear c3b1)
    obtain ⟨x3_1, x4_1, rfl, HA, HK1, HO_3, HB⟩ := hrel
    cases gk with
    | zero => exact absurd HA.out (by simp [laws_toInt64S.l0])
    | succ k1 =>
     have H := HA.out
     clear HA
     simp only [laws_toInt64S.l0] at H
     by_cases c6 : x4_1 < (l0.length : Int)
     ·rw [if_pos c6] at H
      have c6b0 := decide_eq_true c6
      clear c6
      by_cases c7 : 0 ≤ x4_1
      ·rw [if_pos c7] at H
       have c7b0 := decide_eq_true c7
       clear c7
       by_cases c8 : x4_1 < (x3_1.length : Int)
       ·rw [if_pos c8] at H
        have c8b0 := decide_eq_true c8
        clear c8
        obtain ⟨y131, hy131⟩ : ∃ y_ : List Int, y_ = (x3_1.set (x4_1 : Int).toNat (rd l0 x4_1)) := ⟨_, rfl⟩
        replace H : (laws_toInt64S.l0 k1 l0 y131 (wrap64 (x4_1 + 1))) = some r := by first | (rw [hy131]; with_reducible exact H) | (have H2_ := (Option.bind_some _ _).symm.trans H; rw [hy131]; with_reducible exact H2_) | (have H2_ := (Option.bind_some _ _).symm.trans H; with_reducible exact H2_) | with_reducible exact H | (rw [hy131]; exact H) | exact H
        have Ny131 := am hy131
        clear hy131
        have H' := am H
        clear H
        have p130 : 0 ≤ (x4_1 : Int) := of_decide_eq_true as1
        have q130 : x4_1 < (l0.length : Int) := of_decide_eq_true as1
        obtain ⟨ad130, e130, hx130_0⟩ := Kd.at_int HR0.out x4_1 p130 q130
        cases e130
        replace hx130_0 := (HB.out.cell (World.block_lt_of_cell? w _ hx130_0)).trans hx130_0
        replace p130 := eq_true p130
        replace q130 := eq_true q130
        have p9 : 0 ≤ (x4_1 : Int) := of_decide_eq_true as1
        have q9 : (x4_1 : Int) < ((x3_1.length : Int) : Int) := of_decide_eq_true as1
        obtain ⟨go9, co9, eo9, gb9, gl9, cl9, HG9⟩ := Kd.R_form HO_3.out (by omega)
        (first | cases eo9 | (injection eo9 with ea_ en_ ec_; (first | subst ea_ | (injection ea_ with ea_; subst ea_)); subst ec_; clear en_))
        have GB9 := am gb9
        have GG9 := am HG9
        clear gb9 gl9 HG9
        obtain ⟨hx9_0, hf9_0⟩ := Kd.R_celln 0 HO_3.out (x4_1 : Int) p9 q9
        replace p9 := eq_true p9
        replace q9 := eq_true q9
        have HP10 := Kd.R_putg HO_3.out (x4_1 : Int) (rd l0 x4_1)
        go_wp2_with (first | ((with_reducible refine gate_store (t := 2) (p := 20) rfl ?_); refine store_event (t := 2) (p := 20) (v := ?vo_w11) (w1 := (wr.setCell ⟨go9, (x4_1 : Int).toNat, none⟩ (.int .i64 (rd l0 x4_1)))) ?hg ?ho ?hn ?hr ?_; (case ho => rfl); (case hg => rfl); (case hn => rfl); (case hr => exact gs); intro w11 hw; have hg : wr.grownBy w11 (some go9) := (by rw [hw]; exact HP10.2); have hp_ : Kd.R (Kd.int .i64) 2 w11 w.heap.size (fun _ => True) (.slice (some ⟨go9, 0, none⟩) x3_1.length co9) y131 := (by rw [hw, Ny131.out]; exact HP10.1); clear HP10; replace HO_3 := am (hp_); replace HB := am ((by rw [hw]; exact below_set (HB.out) GB9.out : Below w.heap.size w w11)); clear hg hw hp_))
        go_roundg k1
        case measure => have := HK1.out; omega
        case rel => exact ⟨(y131), (wrap64 (x4_1 + 1)), dr, H', ⟨by have := HK1.out; omega⟩, ⟨kR HO_3⟩, ⟨bw HB⟩⟩
       ·rw [if_neg c8] at H
        exact absurd H (by simp)
      ·rw [if_neg c7] at H
       exact absurd H (by simp)
     ·rw [if_neg c6] at H
      have c6b0 := decide_eq_false c6
      clear c6
      obtain rfl := Option.some.inj H
      go_wp2
      go_ret
      exact ⟨_, er, kR HO_3, bw HB⟩
  ·rw [if_neg c3] at H
   exact absurd H (by simp)
 ·rw [if_neg c2] at H
  exact absurd H (by simp)

end Go.Proofs.Ytkmohnlkldkhdaa.QFnExactStateSame
