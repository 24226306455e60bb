import Derived.Test.YtkmohnlkldkhdaaCFnExactAsmSamex0
import Derived.Test.YtkmohnlkldkhdaaCFnExactAsmSamex3
import Derived.Test.YtkmohnlkldkhdaaCFnExactAsmSamex4
namespace Go.Proofs.Ytkmohnlkldkhdaa.QFnExactAsmSame
open Go.RowKit Go.Proofs.YtkmohnlkldkhdaaW
open PrintWords PrintLast PrintMore PrintShort PrintIsh
attribute [local go_sem] max2_int min2_int max_two min_two max_three min_three max_four min_four   -- for this text's walks alone
set_option linter.unusedVariables false
set_option maxHeartbeats 8000000
set_option maxRecDepth 100000
set_option linter.unusedSimpArgs false

mutual
def spec_AsmSame.j0 : Nat → Bool → Int → List (S123) → List (List (S130)) → Int → List (S123) → List (List (S130)) → Option (Bool)
 | 0, _, _, _, _, _, _, _ => none
 | k + 1, x29, x119000, x119001, x119002, x120000, x120001, x120002 => if x29 = true then (some false) else (spec_AsmSame.l0 k 0 x119000 x119001 x119002 x120000 x120001 x120002)
def spec_AsmSame.l0 : Nat → Int → Int → List (S123) → List (List (S130)) → Int → List (S123) → List (List (S130)) → Option (Bool)
 | 0, _, _, _, _, _, _, _ => none
 | k + 1, x5, x119000, x119001, x119002, x120000, x120001, x120002 => if x5 < (x119001.length : Int) then (if 0 ≤ x5 then (if x5 < (x120001.length : Int) then ((spec_l10SameIns.f k ((rd_T123 x119001 x5).f0) ((rd_T123 x119001 x5).f1) ((rd_T123 x119001 x5).f2) ((rd_T123 x119001 x5).f3) ((rd_T123 x119001 x5).f4) ((rd_T123 x120001 x5).f0) ((rd_T123 x120001 x5).f1) ((rd_T123 x120001 x5).f2) ((rd_T123 x120001 x5).f3) ((rd_T123 x120001 x5).f4)).bind fun t122 => (if t122 = true then (spec_AsmSame.l0 k (wrap64 (x5 + 1)) x119000 x119001 x119002 x120000 x120001 x120002) else (some false))) else (none)) else (none)) else (spec_AsmSame.l1 k 0 x119000 x119001 x119002 x120000 x120001 x120002)
def spec_AsmSame.l1 : Nat → Int → Int → List (S123) → List (List (S130)) → Int → List (S123) → List (List (S130)) → Option (Bool)
 | 0, _, _, _, _, _, _, _ => none
 | k + 1, x6, x119000, x119001, x119002, x120000, x120001, x120002 => if x6 < (x119002.length : Int) then (if 0 ≤ x6 then (if x6 < (x120002.length : Int) then ((spec_l10SameVals.f k (rd_L9 x119002 x6) (rd_L9 x120002 x6)).bind fun t125 => (if t125 = true then (spec_AsmSame.l1 k (wrap64 (x6 + 1)) x119000 x119001 x119002 x120000 x120001 x120002) else (some false))) else (none)) else (none)) else (some true)
end
def spec_AsmSame.f (k : Nat) (a0_0 : Int) (l0_1 : List (S123)) (l0_2 : List (List (S130))) (a1_0 : Int) (l1_1 : List (S123)) (l1_2 : List (List (S130))) : Option (Bool) := if a0_0 = a1_0 then (if (l0_1.length : Int) = (l1_1.length : Int) then (spec_AsmSame.j0 k ((l0_2.length : Int) != (l1_2.length : Int)) a0_0 l0_1 l0_2 a1_0 l1_1 l1_2) else (spec_AsmSame.j0 k true a0_0 l0_1 l0_2 a1_0 l1_1 l1_2)) else (spec_AsmSame.j0 k true a0_0 l0_1 l0_2 a1_0 l1_1 l1_2)
theorem spec_AsmSame.mono_l : ∀ k, (∀ y0 y1 y2 y3 y4 y5 y6, LeO (spec_AsmSame.j0 k y0 y1 y2 y3 y4 y5 y6) (spec_AsmSame.j0 (k + 1) y0 y1 y2 y3 y4 y5 y6)) ∧ (∀ y0 y1 y2 y3 y4 y5 y6, LeO (spec_AsmSame.l0 k y0 y1 y2 y3 y4 y5 y6) (spec_AsmSame.l0 (k + 1) y0 y1 y2 y3 y4 y5 y6)) ∧ (∀ y0 y1 y2 y3 y4 y5 y6, LeO (spec_AsmSame.l1 k y0 y1 y2 y3 y4 y5 y6) (spec_AsmSame.l1 (k + 1) y0 y1 y2 y3 y4 y5 y6))
 | 0 => ⟨fun _ _ _ _ _ _ _ r h => by simp [spec_AsmSame.j0] at h, fun _ _ _ _ _ _ _ r h => by simp [spec_AsmSame.l0] at h, fun _ _ _ _ _ _ _ r h => by simp [spec_AsmSame.l1] at h⟩
 | k + 1 => by
  obtain ⟨ih0, ih1, ih2⟩ := spec_AsmSame.mono_l k
  refine ⟨?_, ?_, ?_⟩
  ·intro y0 y1 y2 y3 y4 y5 y6
   unfold spec_AsmSame.j0
   repeat' first
   | (with_reducible exact ih0 _ _ _ _ _ _ _)
   | (with_reducible exact ih1 _ _ _ _ _ _ _)
   | (with_reducible exact ih2 _ _ _ _ _ _ _)
   | (with_reducible exact spec_l10SameIns.mono _ _ _ _ _ _ _ _ _ _ _)
   | (with_reducible exact spec_l10SameVals.mono _ _ _)
   | (with_reducible exact LeO.refl _)
   | (with_reducible exact LeO.none _)
   | (with_reducible refine LeO.ite ?_ ?_)
   | (with_reducible refine LeO.bind ?_ (fun _ => ?_))
  ·intro y0 y1 y2 y3 y4 y5 y6
   unfold spec_AsmSame.l0
   repeat' first
   | (with_reducible exact ih0 _ _ _ _ _ _ _)
   | (with_reducible exact ih1 _ _ _ _ _ _ _)
   | (with_reducible exact ih2 _ _ _ _ _ _ _)
   | (with_reducible exact spec_l10SameIns.mono _ _ _ _ _ _ _ _ _ _ _)
   | (with_reducible exact spec_l10SameVals.mono _ _ _)
   | (with_reducible exact LeO.refl _)
   | (with_reducible exact LeO.none _)
   | (with_reducible refine LeO.ite ?_ ?_)
   | (with_reducible refine LeO.bind ?_ (fun _ => ?_))
  ·intro y0 y1 y2 y3 y4 y5 y6
   unfold spec_AsmSame.l1
   repeat' first
   | (with_reducible exact ih0 _ _ _ _ _ _ _)
   | (with_reducible exact ih1 _ _ _ _ _ _ _)
   | (with_reducible exact ih2 _ _ _ _ _ _ _)
   | (with_reducible exact spec_l10SameIns.mono _ _ _ _ _ _ _ _ _ _ _)
   | (with_reducible exact spec_l10SameVals.mono _ _ _)
   | (with_reducible exact LeO.refl _)
   | (with_reducible exact LeO.none _)
   | (with_reducible refine LeO.ite ?_ ?_)
   | (with_reducible refine LeO.bind ?_ (fun _ => ?_))
theorem spec_AsmSame.mono : ∀ a0 a1 a2 a3 a4 a5 k, LeO (spec_AsmSame.f k a0 a1 a2 a3 a4 a5) (spec_AsmSame.f (k + 1) a0 a1 a2 a3 a4 a5) := by
 intro a0 a1 a2 a3 a4 a5 k
 obtain ⟨ih0, ih1, ih2⟩ := spec_AsmSame.mono_l k
 unfold spec_AsmSame.f
 repeat' first
   | (with_reducible exact ih0 _ _ _ _ _ _ _)
   | (with_reducible exact ih1 _ _ _ _ _ _ _)
   | (with_reducible exact ih2 _ _ _ _ _ _ _)
   | (with_reducible exact spec_l10SameIns.mono _ _ _ _ _ _ _ _ _ _ _)
   | (with_reducible exact spec_l10SameVals.mono _ _ _)
   | (with_reducible exact LeO.refl _)
   | (with_reducible exact LeO.none _)
   | (with_reducible refine LeO.ite ?_ ?_)
   | (with_reducible refine LeO.bind ?_ (fun _ => ?_))
def spec_AsmSame.T6 : Bool × List (List Nat × List Nat) := (true, [([], []), ([0], [0]), ([], []), ([1, 2], [1, 2]), ([3], [3]), ([], []), ([5], [5]), ([], []), ([6, 7], [6, 7]), ([8], [8]), ([4, 9], [4, 9]), ([10], [10])])
def spec_AsmSame.B6 : List Nat := [0, 1, 0, 7, 15, 0, 32, 0, 224, 480, 1023, 2047]
theorem spec_AsmSame.tab6 : rtab .any (opsOf Try.f48 6) = spec_AsmSame.T6 := by kernel_rfl
theorem spec_AsmSame.bits6 : waitsOk spec_AsmSame.T6.2 spec_AsmSame.B6 = true := by kernel_rfl
def spec_AsmSame.T11 : Bool × List (List Nat × List Nat) := (true, [([], []), ([0], [0]), ([], []), ([1, 2], [1, 2]), ([3], [3]), ([], []), ([5], [5]), ([], []), ([6, 7], [6, 7]), ([8], [8]), ([4, 9], [4, 9]), ([10], [10])])
def spec_AsmSame.B11 : List Nat := [0, 1, 0, 7, 15, 0, 32, 0, 224, 480, 1023, 2047]
theorem spec_AsmSame.tab11 : rtab .any (opsOf Try.f48 11) = spec_AsmSame.T11 := by kernel_rfl
theorem spec_AsmSame.bits11 : waitsOk spec_AsmSame.T11.2 spec_AsmSame.B11 = true := by kernel_rfl
theorem spec_AsmSame.calls (k : Nat) (a0_0 : Int) (A0_1 : Option Addr) (c0_1 : Nat) (l0_1 : List (S123)) (A0_2 : Option Addr) (c0_2 : Nat) (l0_2 : List (List (S130))) (a1_0 : Int) (A1_1 : Option Addr) (c1_1 : Nat) (l1_1 : List (S123)) (A1_2 : Option Addr) (c1_2 : Nat) (l1_2 : List (List (S130))) (r : Bool) (w : World) (hr0_1 : Kd.C k123 w A0_1 l0_1.length l0_1) (hc0_1 : l0_1.length ≤ c0_1) (hr0_2 : Kd.C (Kd.slice 130 k130) w A0_2 l0_2.length l0_2) (hc0_2 : l0_2.length ≤ c0_2) (hr1_1 : Kd.C k123 w A1_1 l1_1.length l1_1) (hc1_1 : l1_1.length ≤ c1_1) (hr1_2 : Kd.C (Kd.slice 130 k130) w A1_2 l1_2.length l1_2) (hc1_2 : l1_2.length ≤ c1_2) (h : spec_AsmSame.f k a0_0 l0_1 l0_2 a1_0 l1_1 l1_2 = some r) :
  Calls Try.prog 48 #[.agg #[.int .i64 a0_0, .slice A0_1 l0_1.length c0_1, .slice A0_2 l0_2.length c0_2], .agg #[.int .i64 a1_0, .slice A1_1 l1_1.length c1_1, .slice A1_2 l1_2.length c1_2]] w fun e w' => e = .returned (.bool r) ∧ Below w.heap.size w w' := by
 have hu79 := Try.underlying79
 have hu123 := Try.underlying123
 have HR0_1 := am hr0_1
 have HC0_1 := am hc0_1
 clear hr0_1 hc0_1
 have HR0_2 := am hr0_2
 have HC0_2 := am hc0_2
 clear hr0_2 hc0_2
 have HR1_1 := am hr1_1
 have HC1_1 := am hc1_1
 clear hr1_1 hc1_1
 have HR1_2 := am hr1_2
 have HC1_2 := am hc1_2
 clear hr1_2 hc1_2
 have HB := am (Below.refl w.heap.size w)
 have H : (if a0_0 = a1_0 then (if (l0_1.length : Int) = (l1_1.length : Int) then (spec_AsmSame.j0 k ((l0_2.length : Int) != (l1_2.length : Int)) a0_0 l0_1 l0_2 a1_0 l1_1 l1_2) else (spec_AsmSame.j0 k true a0_0 l0_1 l0_2 a1_0 l1_1 l1_2)) else (spec_AsmSame.j0 k true a0_0 l0_1 l0_2 a1_0 l1_1 l1_2)) = some r := h
 clear h
 have HC3 := am H
 clear H
 go_enter Try.func48, Try.ntmps48
 go_upto_region 1 with (first | ((with_reducible refine gate_dst (N := 2) rfl ?_); (try (refine gate_guard (by rfl) ?_; dsimp only)); refine box_event ?hg (N := 2) ?hd (cs := #[.int .i64 a0_0, .slice A0_1 l0_1.length c0_1, .slice A0_2 l0_2.length c0_2]) (t := 79) ?hr ?_; (case hd => rfl); (case hg => rfl); (case hr => exact gs); intro gb118 hg w4 hbox hb; have BK118 := am (hbox); have GW118 := am ((by rw [hg]; exact (below_size (bw HB)) : w.heap.size ≤ gb118)); have GE118 := am ((by rw [hg]; exact (below_size (bw HB)) : w.heap.size ≤ gb118)); replace HB := am (below_step (bw HB) hb); clear hb hbox hg) | ((with_reducible refine gate_dst (N := 3) rfl ?_); (try (refine gate_guard (by rfl) ?_; dsimp only)); refine box_event ?hg (N := 3) ?hd (cs := #[.int .i64 a1_0, .slice A1_1 l1_1.length c1_1, .slice A1_2 l1_2.length c1_2]) (t := 79) ?hr ?_; (case hd => rfl); (case hg => rfl); (case hr => exact gs); intro gb119 hg w5 hbox hb; have BK119 := am (hbox); have GW119 := am ((by rw [hg]; exact (below_size (bw HB)) : w.heap.size ≤ gb119)); have GE119 := am ((by rw [hg]; exact (below_size (bw HB)) : w.heap.size ≤ gb119)); replace HB := am (below_step (bw HB) hb); have NB118_119 := am ((by rw [hg]; exact Nat.ne_of_lt (blk_lt (g := gb118) (o := .cells #[.int .i64 a0_0, .slice A0_1 l0_1.length c0_1, .slice A0_2 l0_2.length c0_2] 79 (0, 0)) (bp BK118)) : gb118 ≠ gb119)); have NB119_118 := am ((by rw [hg]; exact Nat.ne_of_gt (blk_lt (g := gb118) (o := .cells #[.int .i64 a0_0, .slice A0_1 l0_1.length c0_1, .slice A0_2 l0_2.length c0_2] 79 (0, 0)) (bp BK118)) : gb119 ≠ gb118)); replace BK118 := am (blk_below (g := gb118) (o := .cells #[.int .i64 a0_0, .slice A0_1 l0_1.length c0_1, .slice A0_2 l0_2.length c0_2] 79 (0, 0)) (bp BK118) hb); clear hb hbox hg))
 (try simp only [Act.put, sa, sz, ss])
 go_cut [29] (fun v29 wc => ∃ (kq : Nat) (x29_2 : Bool), v29 = .bool x29_2 ∧ Aside0 (spec_AsmSame.j0 kq x29_2 a0_0 l0_1 l0_2 a1_0 l1_1 l1_2 = some r) ∧ Aside0 (kq ≤ k) ∧ Aside0 (wc.heap[gb118]? = some (.cells #[.int .i64 a0_0, (.slice A0_1 l0_1.length c0_1), (.slice A0_2 l0_2.length c0_2)] 79 (0, 0))) ∧ Aside0 (wc.heap[gb119]? = some (.cells #[.int .i64 a1_0, (.slice A1_1 l1_1.length c1_1), (.slice A1_2 l1_2.length c1_2)] 79 (0, 0))) ∧ Aside0 (Below w.heap.size w wc))
 case first =>
  have H := HC3.out
  clear HC3
  by_cases c6 : a0_0 = a1_0
  ·rw [if_pos c6] at H
   have c6b0 : (a0_0 == a1_0) = true := beq_iff_eq.mpr c6
   have c6b1 : (a0_0 != a1_0) = false := bne_eq_false_iff_eq.mpr c6
   clear c6
   (first | rw [c6b0] | (simp only [i64_w, i32_w]; rw [c6b0]) | skip)
   by_cases c7 : (l0_1.length : Int) = (l1_1.length : Int)
   ·rw [if_pos c7] at H
    have c7b0 : ((l0_1.length : Int) == (l1_1.length : Int)) = true := beq_iff_eq.mpr c7
    have c7b1 : ((l0_1.length : Int) != (l1_1.length : Int)) = false := bne_eq_false_iff_eq.mpr c7
    have c7b2 : (l0_1.length == l1_1.length) = true := by first | simpa using c7 | (simp at c7 ⊢; omega)
    clear c7
    have H' := am H
    clear H
    have hnb8 := NB118_119.out
    have hnc8 := NB119_118.out
    have hcz9_0 : w5.cell? ⟨gb118, 0, none⟩ = some (.int .i64 a0_0) := bc BK118 0
    have hcz9_1 : w5.cell? ⟨gb118, 1, none⟩ = some (.slice A0_1 l0_1.length c0_1) := bc BK118 1
    have hcz9_2 : w5.cell? ⟨gb118, 2, none⟩ = some (.slice A0_2 l0_2.length c0_2) := bc BK118 2
    have hfz9_0 := bf BK118 0
    have hfz9_1 := bf BK118 1
    have hfz9_2 := bf BK118 2
    have hcz10_0 : w5.cell? ⟨gb119, 0, none⟩ = some (.int .i64 a1_0) := bc BK119 0
    have hcz10_1 : w5.cell? ⟨gb119, 1, none⟩ = some (.slice A1_1 l1_1.length c1_1) := bc BK119 1
    have hcz10_2 : w5.cell? ⟨gb119, 2, none⟩ = some (.slice A1_2 l1_2.length c1_2) := bc BK119 2
    have hfz10_0 := bf BK119 0
    have hfz10_1 := bf BK119 1
    have hfz10_2 := bf BK119 2
    go_wp2
    go_meet
    case rel => exact ⟨_, (((l0_2.length : Int) != (l1_2.length : Int))), dr, H', ⟨by first | omega | exact Nat.le_refl _⟩, ⟨bp BK118⟩, ⟨bp BK119⟩, ⟨bw HB⟩⟩
   ·rw [if_neg c7] at H
    have c7b0 : ((l0_1.length : Int) == (l1_1.length : Int)) = false := beq_eq_false_iff_ne.mpr c7
    have c7b1 : ((l0_1.length : Int) != (l1_1.length : Int)) = true := bne_iff_ne.mpr c7
    have c7b2 : (l0_1.length == l1_1.length) = false := by first | simpa using c7 | (simp at c7 ⊢; omega)
    have H' := am H
    clear H
    have hnb11 := NB118_119.out
    have hnc11 := NB119_118.out
    have hcz12_0 : w5.cell? ⟨gb118, 0, none⟩ = some (.int .i64 a0_0) := bc BK118 0
    have hcz12_1 : w5.cell? ⟨gb118, 1, none⟩ = some (.slice A0_1 l0_1.length c0_1) := bc BK118 1
    have hcz12_2 : w5.cell? ⟨gb118, 2, none⟩ = some (.slice A0_2 l0_2.length c0_2) := bc BK118 2
    have hfz12_0 := bf BK118 0
    have hfz12_1 := bf BK118 1
    have hfz12_2 := bf BK118 2
    have hcz13_0 : w5.cell? ⟨gb119, 0, none⟩ = some (.int .i64 a1_0) := bc BK119 0
    have hcz13_1 : w5.cell? ⟨gb119, 1, none⟩ = some (.slice A1_1 l1_1.length c1_1) := bc BK119 1
    have hcz13_2 : w5.cell? ⟨gb119, 2, none⟩ = some (.slice A1_2 l1_2.length c1_2) := bc BK119 2
    have hfz13_0 := bf BK119 0
    have hfz13_1 := bf BK119 1
    have hfz13_2 := bf BK119 2
    go_wp2
    go_meet
    case rel => exact ⟨_, (true), dr, H', ⟨by first | omega | exact Nat.le_refl _⟩, ⟨bp BK118⟩, ⟨bp BK119⟩, ⟨bw HB⟩⟩
  ·rw [if_neg c6] at H
   have c6b0 : (a0_0 == a1_0) = false := beq_eq_false_iff_ne.mpr c6
   have c6b1 : (a0_0 != a1_0) = true := bne_iff_ne.mpr c6
   (first | rw [c6b0] | (simp only [i64_w, i32_w]; rw [c6b0]) | skip)
   have H' := am H
   clear H
   have hnb14 := NB118_119.out
   have hnc14 := NB119_118.out
   have hcz15_0 : w5.cell? ⟨gb118, 0, none⟩ = some (.int .i64 a0_0) := bc BK118 0
   have hcz15_1 : w5.cell? ⟨gb118, 1, none⟩ = some (.slice A0_1 l0_1.length c0_1) := bc BK118 1
   have hcz15_2 : w5.cell? ⟨gb118, 2, none⟩ = some (.slice A0_2 l0_2.length c0_2) := bc BK118 2
   have hfz15_0 := bf BK118 0
   have hfz15_1 := bf BK118 1
   have hfz15_2 := bf BK118 2
   have hcz16_0 : w5.cell? ⟨gb119, 0, none⟩ = some (.int .i64 a1_0) := bc BK119 0
   have hcz16_1 : w5.cell? ⟨gb119, 1, none⟩ = some (.slice A1_1 l1_1.length c1_1) := bc BK119 1
   have hcz16_2 : w5.cell? ⟨gb119, 2, none⟩ = some (.slice A1_2 l1_2.length c1_2) := bc BK119 2
   have hfz16_0 := bf BK119 0
   have hfz16_1 := bf BK119 1
   have hfz16_2 := bf BK119 2
   go_wp2
   go_meet
   case rel => exact ⟨_, (true), dr, H', ⟨by first | omega | exact Nat.le_refl _⟩, ⟨bp BK118⟩, ⟨bp BK119⟩, ⟨bw HB⟩⟩
 case rest =>
  clear HC3
  (try clear c1); (try clear p2); (try clear c4); (try clear c6); (try clear c6b0); (try clear c6b1); (try clear c7); (try clear c7b0); (try clear c7b1); (try clear c7b2); (try clear c8); (try clear c11); (try clear c14); (try clear hcz10_0); (try clear hcz10_1); (try clear hcz10_2); (try clear hcz12_0); (try clear hcz12_1); (try clear hcz12_2); (try clear hcz13_0); (try clear hcz13_1); (try clear hcz13_2); (try clear hcz15_0); (try clear hcz15_1); (try clear hcz15_2); (try clear hcz16_0); (try clear hcz16_1); (try clear hcz16_2); (try clear hcz9_0); (try clear hcz9_1); (try clear hcz9_2); (try clear hfz10_0); (try clear hfz10_1); (try clear hfz10_2); (try clear hfz12_0); (try clear hfz12_1); (try clear hfz12_2); (try clear hfz13_0); (try clear hfz13_1); (try clear hfz13_2); (try clear hfz15_0); (try clear hfz15_1); (try clear hfz15_2); (try clear hfz16_0); (try clear hfz16_1); (try clear hfz16_2); (try clear hfz9_0); (try clear hfz9_1); (try clear hfz9_2)
  obtain ⟨kq, x29_2, rfl, HA, HJ2, BK118, BK119, HB⟩ := hcut
  cases kq with
  | zero => exact absurd HA.out (by simp [spec_AsmSame.j0])
  | succ kj2 =>
   have H := HA.out
   clear HA
   simp only [spec_AsmSame.j0] at H
   by_cases c17 : x29_2 = true
   ·subst c17
    have H1 : (some false) = some r := by rw [if_pos rfl] at H; exact H
    clear H
    have H := H1
    clear H1
    obtain rfl := Option.some.inj H
    go_wp2
    go_ret
    exact ⟨er, bw HB⟩
   ·replace c17 := Bool.eq_false_iff.mpr c17
    subst c17
    have H1 : (spec_AsmSame.l0 kj2 0 a0_0 l0_1 l0_2 a1_0 l1_1 l1_2) = some r := by rw [if_neg (show ¬ (false = true) by decide)] at H; exact H
    clear H
    have H := H1
    clear H1
    have H' := am H
    clear H
    go_wp2
    go_loopg [5] kj2 (fun kq v5 w' => ∃ (x5_2 : Int), v5 = .int .i64 x5_2 ∧ Aside0 (spec_AsmSame.l0 kq x5_2 a0_0 l0_1 l0_2 a1_0 l1_1 l1_2 = some r) ∧ Aside0 (kq ≤ kj2) ∧ Aside0 (w'.heap[gb118]? = some (.cells #[.int .i64 a0_0, (.slice A0_1 l0_1.length c0_1), (.slice A0_2 l0_2.length c0_2)] 79 (0, 0))) ∧ Aside0 (w'.heap[gb119]? = some (.cells #[.int .i64 a1_0, (.slice A1_1 l1_1.length c1_1), (.slice A1_2 l1_2.length c1_2)] 79 (0, 0))) ∧ Aside0 (Below w.heap.size w w'))
    case atStart => exact ⟨(0), dr, H', ⟨Nat.le_refl _⟩, ⟨bp BK118⟩, ⟨bp BK119⟩, ⟨bw HB⟩⟩
    case round =>
     clear H'
     (try clear c1); (try clear p2); (try clear c4); (try clear c6); (try clear c6b0); (try clear c6b1); (try clear c7); (try clear c7b0); (try clear c7b1); (try clear c7b2); (try clear c8); (try clear c11); (try clear c14); (try clear c17); (try clear hcz10_0); (try clear hcz10_1); (try clear hcz10_2); (try clear hcz12_0); (try clear hcz12_1); (try clear hcz12_2); (try clear hcz13_0); (try clear hcz13_1); (try clear hcz13_2); (try clear hcz15_0); (try clear hcz15_1); (try clear hcz15_2); (try clear hcz16_0); (try clear hcz16_1); (try clear hcz16_2); (try clear hcz9_0); (try clear hcz9_1); (try clear hcz9_2); (try clear hfz10_0); (try clear hfz10_1); (try clear hfz10_2); (try clear hfz12_0); (try clear hfz12_1); (try clear hfz12_2); (try clear hfz13_0); (try clear hfz13_1); (try clear hfz13_2); (try clear hfz15_0); (try clear hfz15_1); (try clear hfz15_2); (try clear hfz16_0); (try clear hfz16_1); (try clear hfz16_2); (try clear hfz9_0); (try clear hfz9_1); (try clear hfz9_2); (try clear p2)
     obtain ⟨x5_2, rfl, HA, HK2, BK118, BK119, HB⟩ := hrel
     cases gk with
     | zero => exact absurd HA.out (by simp [spec_AsmSame.l0])
     | succ k2 =>
      have H := HA.out
      clear HA
      simp only [spec_AsmSame.l0] at H
      by_cases c18 : x5_2 < (l0_1.length : Int)
      ·rw [if_pos c18] at H
       have c18b0 := decide_eq_true c18
       clear c18
       by_cases c19 : 0 ≤ x5_2
       ·rw [if_pos c19] at H
        have c19b0 := decide_eq_true c19
        clear c19
        by_cases c20 : x5_2 < (l1_1.length : Int)
        ·rw [if_pos c20] at H
         have c20b0 := decide_eq_true c20
         clear c20
         replace H := Option.bind_eq_some_iff.mp H
         obtain ⟨t122, A210, H⟩ := H
         replace H : (if t122 = true then (spec_AsmSame.l0 k2 (wrap64 (x5_2 + 1)) a0_0 l0_1 l0_2 a1_0 l1_1 l1_2) else (some false)) = some r := H
         have A21 := am A210
         clear A210
         by_cases c22 : t122 = true
         ·subst c22
          have H1 : (spec_AsmSame.l0 k2 (wrap64 (x5_2 + 1)) a0_0 l0_1 l0_2 a1_0 l1_1 l1_2) = some r := by rw [if_pos rfl] at H; exact H
          clear H
          have H := H1
          clear H1
          have H' := am H
          clear H
          have hnb23 := NB118_119.out
          have hnc23 := NB119_118.out
          have hcz24_0 : wr.cell? ⟨gb118, 0, none⟩ = some (.int .i64 a0_0) := bc BK118 0
          have hcz24_1 : wr.cell? ⟨gb118, 1, none⟩ = some (.slice A0_1 l0_1.length c0_1) := bc BK118 1
          have hcz24_2 : wr.cell? ⟨gb118, 2, none⟩ = some (.slice A0_2 l0_2.length c0_2) := bc BK118 2
          have hfz24_0 := bf BK118 0
          have hfz24_1 := bf BK118 1
          have hfz24_2 := bf BK118 2
          try go_wp2
          have n0_ := am (blk_drew BK118.out)
          have n1_ := am (blk_drew BK119.out)
          have n2_ := am (below_drew1 HB.out)
          clear BK118
          clear BK119
          clear HB
          have BK118 := n0_
          have BK119 := n1_
          have HB := n2_
          clear n0_ n1_ n2_
          have p120 : 0 ≤ (x5_2 : Int) := of_decide_eq_true as1
          have q120 : x5_2 < (l0_1.length : Int) := of_decide_eq_true as1
          obtain ⟨ad120, A120_0, c120_0, A120_3, c120_3, e120, hx120_0, hx120_1, hx120_2, hx120_3, hx120_4, hl120_0, hi120_0, hl120_3, hi120_3⟩ := at_T123 HR0_1.out x5_2 p120 q120
          have hw120_4 := hx120_4
          have hw120_3 := hx120_3
          have hw120_2 := hx120_2
          have hw120_1 := hx120_1
          have hw120_0 := hx120_0
          cases e120
          replace hx120_0 := (HB.out.cell (World.block_lt_of_cell? w _ hx120_0)).trans hx120_0
          replace hx120_1 := (HB.out.cell (World.block_lt_of_cell? w _ hx120_1)).trans hx120_1
          replace hx120_2 := (HB.out.cell (World.block_lt_of_cell? w _ hx120_2)).trans hx120_2
          replace hx120_3 := (HB.out.cell (World.block_lt_of_cell? w _ hx120_3)).trans hx120_3
          replace hx120_4 := (HB.out.cell (World.block_lt_of_cell? w _ hx120_4)).trans hx120_4
          have HR120_0 := am hi120_0
          have HC120_0 := am hl120_0
          clear hi120_0 hl120_0
          have HR120_3 := am hi120_3
          have HC120_3 := am hl120_3
          clear hi120_3 hl120_3
          replace p120 := eq_true p120
          replace q120 := eq_true q120
          have p121 : 0 ≤ (x5_2 : Int) := of_decide_eq_true as1
          have q121 : x5_2 < (l1_1.length : Int) := of_decide_eq_true as1
          obtain ⟨ad121, A121_0, c121_0, A121_3, c121_3, e121, hx121_0, hx121_1, hx121_2, hx121_3, hx121_4, hl121_0, hi121_0, hl121_3, hi121_3⟩ := at_T123 HR1_1.out x5_2 p121 q121
          have hw121_4 := hx121_4
          have hw121_3 := hx121_3
          have hw121_2 := hx121_2
          have hw121_1 := hx121_1
          have hw121_0 := hx121_0
          cases e121
          replace hx121_0 := (HB.out.cell (World.block_lt_of_cell? w _ hx121_0)).trans hx121_0
          replace hx121_1 := (HB.out.cell (World.block_lt_of_cell? w _ hx121_1)).trans hx121_1
          replace hx121_2 := (HB.out.cell (World.block_lt_of_cell? w _ hx121_2)).trans hx121_2
          replace hx121_3 := (HB.out.cell (World.block_lt_of_cell? w _ hx121_3)).trans hx121_3
          replace hx121_4 := (HB.out.cell (World.block_lt_of_cell? w _ hx121_4)).trans hx121_4
          have HR121_0 := am hi121_0
          have HC121_0 := am hl121_0
          clear hi121_0 hl121_0
          have HR121_3 := am hi121_3
          have HC121_3 := am hl121_3
          clear hi121_3 hl121_3
          replace p121 := eq_true p121
          replace q121 := eq_true q121
          refine start_ (n := 12) (S := fun w' => w'.cell? ⟨gb118, 0, none⟩ = some (.int .i64 a0_0) ∧ w'.cell? ⟨gb118, 1, none⟩ = some (.slice (some ad120) l0_1.length c0_1) ∧ w'.cell? ⟨gb118, 2, none⟩ = some (.slice A0_2 l0_2.length c0_2) ∧ w'.cell? ⟨gb119, 0, none⟩ = some (.int .i64 a1_0) ∧ w'.cell? ⟨gb119, 1, none⟩ = some (.slice (some ad121) l1_1.length c1_1) ∧ w'.cell? ⟨gb119, 2, none⟩ = some (.slice A1_2 l1_2.length c1_2) ∧ w'.cell? (ad120.add ((x5_2).toNat * 5)) = some (.slice A120_0 ((rd_T123 l0_1 x5_2).f0).length c120_0) ∧ w'.cell? ⟨(ad120.add ((x5_2).toNat * 5)).block, (ad120.add ((x5_2).toNat * 5)).off + 1, none⟩ = some (.int .i64 ((rd_T123 l0_1 x5_2).f1)) ∧ w'.cell? ⟨(ad120.add ((x5_2).toNat * 5)).block, (ad120.add ((x5_2).toNat * 5)).off + 2, none⟩ = some (.int .i64 ((rd_T123 l0_1 x5_2).f2)) ∧ w'.cell? ⟨(ad120.add ((x5_2).toNat * 5)).block, (ad120.add ((x5_2).toNat * 5)).off + 3, none⟩ = some (.slice A120_3 ((rd_T123 l0_1 x5_2).f3).length c120_3) ∧ w'.cell? ⟨(ad120.add ((x5_2).toNat * 5)).block, (ad120.add ((x5_2).toNat * 5)).off + 4, none⟩ = some (.int .i64 ((rd_T123 l0_1 x5_2).f4)) ∧ w'.cell? (ad121.add ((x5_2).toNat * 5)) = some (.slice A121_0 ((rd_T123 l1_1 x5_2).f0).length c121_0) ∧ w'.cell? ⟨(ad121.add ((x5_2).toNat * 5)).block, (ad121.add ((x5_2).toNat * 5)).off + 1, none⟩ = some (.int .i64 ((rd_T123 l1_1 x5_2).f1)) ∧ w'.cell? ⟨(ad121.add ((x5_2).toNat * 5)).block, (ad121.add ((x5_2).toNat * 5)).off + 2, none⟩ = some (.int .i64 ((rd_T123 l1_1 x5_2).f2)) ∧ w'.cell? ⟨(ad121.add ((x5_2).toNat * 5)).block, (ad121.add ((x5_2).toNat * 5)).off + 3, none⟩ = some (.slice A121_3 ((rd_T123 l1_1 x5_2).f3).length c121_3) ∧ w'.cell? ⟨(ad121.add ((x5_2).toNat * 5)).block, (ad121.add ((x5_2).toNat * 5)).off + 4, none⟩ = some (.int .i64 ((rd_T123 l1_1 x5_2).f4))) (ds := []) #[false, false, false, false, false, false, false, false, false, false, false, false] (by kernel_rfl) rfl rfl ⟨bc BK118 0, bc BK118 1, bc BK118 2, bc BK119 0, bc BK119 1, bc BK119 2, ((HB.out.cell (World.block_lt_of_cell? _ _ hw120_0)).trans hw120_0), ((HB.out.cell (World.block_lt_of_cell? _ _ hw120_1)).trans hw120_1), ((HB.out.cell (World.block_lt_of_cell? _ _ hw120_2)).trans hw120_2), ((HB.out.cell (World.block_lt_of_cell? _ _ hw120_3)).trans hw120_3), ((HB.out.cell (World.block_lt_of_cell? _ _ hw120_4)).trans hw120_4), ((HB.out.cell (World.block_lt_of_cell? _ _ hw121_0)).trans hw121_0), ((HB.out.cell (World.block_lt_of_cell? _ _ hw121_1)).trans hw121_1), ((HB.out.cell (World.block_lt_of_cell? _ _ hw121_2)).trans hw121_2), ((HB.out.cell (World.block_lt_of_cell? _ _ hw121_3)).trans hw121_3), ((HB.out.cell (World.block_lt_of_cell? _ _ hw121_4)).trans hw121_4)⟩ (fun hHeld => ?_); refine with_tabW spec_AsmSame.tab6 spec_AsmSame.bits6 (fun HT_ HW_ => ?_)
          generalize wr.drew = w25 at BK118 BK119 HB HR120_0 HR120_3 HR121_0 HR121_3 hx120_0 hx120_1 hx120_2 hx120_3 hx120_4 hx121_0 hx121_1 hx121_2 hx121_3 hx121_4 hHeld ⊢
          refine pure_ (i := 0) (N := some 37) (v := ?_) (a' := ?_) #[true, false, false, false, false, false, false, false, false, false, false, false] rfl rfl (any_of HT_.out (by kernel_rfl)) (fun _ _ _ h => h) (Or.inl ⟨by rfl, ?_⟩) ?_ ?_
          rotate_left
          ·intro w'
           go_simp
           with_reducible rfl
          rotate_left
          ·simp only [Act.put, sa, sz, ss, i64_w, i32_w]
           rfl
          refine pure_ (i := 2) (N := some 39) (v := ?_) (a' := ?_) #[true, false, true, false, false, false, false, false, false, false, false, false] rfl rfl (any_of HT_.out (by kernel_rfl)) (fun _ _ _ h => h) (Or.inl ⟨by rfl, ?_⟩) ?_ ?_
          rotate_left
          ·intro w'
           go_simp
           with_reducible rfl
          rotate_left
          ·simp only [Act.put, sa, sz, ss, i64_w, i32_w]
           rfl
          refine pure_ (i := 5) (N := some 42) (v := ?_) (a' := ?_) #[true, false, true, false, false, true, false, false, false, false, false, false] rfl rfl (any_of HT_.out (by kernel_rfl)) (fun _ _ _ h => h) (Or.inl ⟨by rfl, ?_⟩) ?_ ?_
          rotate_left
          ·intro w'
           go_simp
           with_reducible rfl
          rotate_left
          ·simp only [Act.put, sa, sz, ss, i64_w, i32_w]
           rfl
          refine pure_ (i := 7) (N := some 44) (v := ?_) (a' := ?_) #[true, false, true, false, false, true, false, true, false, false, false, false] rfl rfl (any_of HT_.out (by kernel_rfl)) (fun _ _ _ h => h) (Or.inl ⟨by rfl, ?_⟩) ?_ ?_
          rotate_left
          ·intro w'
           go_simp
           with_reducible rfl
          rotate_left
          ·simp only [Act.put, sa, sz, ss, i64_w, i32_w]
           rfl
          refine take_ (i := 1) (N := some 38) (v := ?_) (a' := ?_) #[true, true, true, false, false, true, false, true, false, false, false, false] rfl rfl (take_ofW HT_.out HW_.out (by kernel_rfl)) (fun _ _ _ h => h) (Or.inl ⟨by rfl, ?_⟩) hHeld ?_ ?_
          rotate_left
          ·rintro w' ⟨s0, s1, s2, s3, s4, s5, s6, s7, s8, s9, s10, s11, s12, s13, s14, s15⟩
           go_simp
           with_reducible rfl
          rotate_left
          ·simp only [Act.put, sa, sz, ss, i64_w, i32_w]
           rfl
          refine pure_ (i := 3) (N := some 40) (v := ?_) (a' := ?_) #[true, true, true, true, false, true, false, true, false, false, false, false] rfl rfl (any_of HT_.out (by kernel_rfl)) (fun _ _ _ h => h) (Or.inl ⟨by rfl, ?_⟩) ?_ ?_
          rotate_left
          ·intro w'
           go_simp
           with_reducible rfl
          rotate_left
          ·simp only [Act.put, sa, sz, ss, i64_w, i32_w]
           rfl
          refine take_ (i := 4) (N := some 41) (v := ?_) (a' := ?_) #[true, true, true, true, true, true, false, true, false, false, false, false] rfl rfl (take_ofW HT_.out HW_.out (by kernel_rfl)) (fun _ _ _ h => h) (Or.inl ⟨by rfl, ?_⟩) hHeld ?_ ?_
          rotate_left
          ·rintro w' ⟨s0, s1, s2, s3, s4, s5, s6, s7, s8, s9, s10, s11, s12, s13, s14, s15⟩
           go_simp
           with_reducible rfl
          rotate_left
          ·simp only [Act.put, sa, sz, ss, i64_w, i32_w]
           rfl
          refine take_ (i := 6) (N := some 43) (v := ?_) (a' := ?_) #[true, true, true, true, true, true, true, true, false, false, false, false] rfl rfl (take_ofW HT_.out HW_.out (by kernel_rfl)) (fun _ _ _ h => h) (Or.inl ⟨by rfl, ?_⟩) hHeld ?_ ?_
          rotate_left
          ·rintro w' ⟨s0, s1, s2, s3, s4, s5, s6, s7, s8, s9, s10, s11, s12, s13, s14, s15⟩
           go_simp
           with_reducible rfl
          rotate_left
          ·simp only [Act.put, sa, sz, ss, i64_w, i32_w]
           rfl
          refine pure_ (i := 8) (N := some 45) (v := ?_) (a' := ?_) #[true, true, true, true, true, true, true, true, true, false, false, false] rfl rfl (any_of HT_.out (by kernel_rfl)) (fun _ _ _ h => h) (Or.inl ⟨by rfl, ?_⟩) ?_ ?_
          rotate_left
          ·intro w'
           go_simp
           with_reducible rfl
          rotate_left
          ·simp only [Act.put, sa, sz, ss, i64_w, i32_w]
           rfl
          refine take_ (i := 9) (N := some 46) (v := ?_) (a' := ?_) #[true, true, true, true, true, true, true, true, true, true, false, false] rfl rfl (take_ofW HT_.out HW_.out (by kernel_rfl)) (fun _ _ _ h => h) (Or.inl ⟨by rfl, ?_⟩) hHeld ?_ ?_
          rotate_left
          ·rintro w' ⟨s0, s1, s2, s3, s4, s5, s6, s7, s8, s9, s10, s11, s12, s13, s14, s15⟩
           go_simp
           with_reducible rfl
          rotate_left
          ·simp only [Act.put, sa, sz, ss, i64_w, i32_w]
           rfl
          refine one_ (i := 10) (N := some 47) #[true, true, true, true, true, true, true, true, true, true, true, false] rfl rfl (one_of HT_.out (by kernel_rfl)) (by decide) (fun K hK => ?_)
          refine goes_ Try.func88 (by kernel_rfl) rfl #[.agg #[.slice A120_0 ((rd_T123 l0_1 x5_2).f0).length c120_0, .int .i64 ((rd_T123 l0_1 x5_2).f1), .int .i64 ((rd_T123 l0_1 x5_2).f2), .slice A120_3 ((rd_T123 l0_1 x5_2).f3).length c120_3, .int .i64 ((rd_T123 l0_1 x5_2).f4)], .agg #[.slice A121_0 ((rd_T123 l1_1 x5_2).f0).length c121_0, .int .i64 ((rd_T123 l1_1 x5_2).f1), .int .i64 ((rd_T123 l1_1 x5_2).f2), .slice A121_3 ((rd_T123 l1_1 x5_2).f3).length c121_3, .int .i64 ((rd_T123 l1_1 x5_2).f4)]] (by rfl) rfl rfl gl ?_
          with_reducible refine (spec_l10SameIns.calls k2 _ _ ((rd_T123 l0_1 x5_2).f0) ((rd_T123 l0_1 x5_2).f1) ((rd_T123 l0_1 x5_2).f2) _ _ ((rd_T123 l0_1 x5_2).f3) ((rd_T123 l0_1 x5_2).f4) _ _ ((rd_T123 l1_1 x5_2).f0) ((rd_T123 l1_1 x5_2).f1) ((rd_T123 l1_1 x5_2).f2) _ _ ((rd_T123 l1_1 x5_2).f3) ((rd_T123 l1_1 x5_2).f4) true _ ?side1 ?side2 ?side3 ?side4 ?side5 ?side6 ?side7 ?side8 A21.out).mono ?_
          (case side1 => exact cc (Kd.C_below HR120_0.out HB.out))
          (case side2 => exact HC120_0.out)
          (case side3 => exact cc (Kd.C_below HR120_3.out HB.out))
          (case side4 => exact HC120_3.out)
          (case side5 => exact cc (Kd.C_below HR121_0.out HB.out))
          (case side6 => exact HC121_0.out)
          (case side7 => exact cc (Kd.C_below HR121_3.out HB.out))
          (case side8 => exact HC121_3.out)
          rintro e w26 ⟨rfl, hb⟩
          refine ⟨_, rfl, ?_⟩
          have n0_ := am (blk_below (g := gb118) (o := .cells #[.int .i64 a0_0, .slice (some ad120) l0_1.length c0_1, .slice A0_2 l0_2.length c0_2] 79 (0, 0)) (bp BK118) hb)
          have n1_ := am (blk_below (g := gb119) (o := .cells #[.int .i64 a1_0, .slice (some ad121) l1_1.length c1_1, .slice A1_2 l1_2.length c1_2] 79 (0, 0)) (bp BK119) hb)
          have n2_ := am (below_step (bw HB) hb)
          clear BK118
          clear BK119
          clear HB
          have BK118 := n0_
          have BK119 := n1_
          have HB := n2_
          clear n0_ n1_ n2_
          (try clear hb)
          (try clear hb2)
          (try clear hk)
          (try clear hi)
          refine hK.out _ _ ⟨bc BK118 0, bc BK118 1, bc BK118 2, bc BK119 0, bc BK119 1, bc BK119 2, ((HB.out.cell (World.block_lt_of_cell? _ _ hw120_0)).trans hw120_0), ((HB.out.cell (World.block_lt_of_cell? _ _ hw120_1)).trans hw120_1), ((HB.out.cell (World.block_lt_of_cell? _ _ hw120_2)).trans hw120_2), ((HB.out.cell (World.block_lt_of_cell? _ _ hw120_3)).trans hw120_3), ((HB.out.cell (World.block_lt_of_cell? _ _ hw120_4)).trans hw120_4), ((HB.out.cell (World.block_lt_of_cell? _ _ hw121_0)).trans hw121_0), ((HB.out.cell (World.block_lt_of_cell? _ _ hw121_1)).trans hw121_1), ((HB.out.cell (World.block_lt_of_cell? _ _ hw121_2)).trans hw121_2), ((HB.out.cell (World.block_lt_of_cell? _ _ hw121_3)).trans hw121_3), ((HB.out.cell (World.block_lt_of_cell? _ _ hw121_4)).trans hw121_4)⟩ (fun hHeld => ?_)
          clear hK K
          refine norm_ (a' := ?_) ?_ ?_
          rotate_left
          ·show Act.put _ (some 47) _ = _
           simp only [Act.put, sa, sz, ss, i64_w, i32_w]
           rfl
          refine pure_ (i := 11) (N := some 48) (v := ?_) (a' := ?_) #[true, true, true, true, true, true, true, true, true, true, true, true] rfl rfl (any_of HT_.out (by kernel_rfl)) (fun _ _ _ h => h) (Or.inl ⟨by rfl, ?_⟩) ?_ ?_
          rotate_left
          ·intro w'
           go_simp
           with_reducible rfl
          rotate_left
          ·simp only [Act.put, sa, sz, ss, i64_w, i32_w]
           rfl
          refine done_ (done_of HT_.out (by kernel_rfl)) ?_
          try go_wp2
          go_roundg k2
          case measure => have := HJ2.out; have := HK2.out; omega
          case rel => exact ⟨(wrap64 (x5_2 + 1)), dr, H', ⟨by have := HJ2.out; have := HK2.out; omega⟩, ⟨bp BK118⟩, ⟨bp BK119⟩, ⟨bw HB⟩⟩
         ·replace c22 := Bool.eq_false_iff.mpr c22
          subst c22
          have H1 : (some false) = some r := by rw [if_neg (show ¬ (false = true) by decide)] at H; exact H
          clear H
          have H := H1
          clear H1
          obtain rfl := Option.some.inj H
          have hnb27 := NB118_119.out
          have hnc27 := NB119_118.out
          have hcz28_0 : wr.cell? ⟨gb118, 0, none⟩ = some (.int .i64 a0_0) := bc BK118 0
          have hcz28_1 : wr.cell? ⟨gb118, 1, none⟩ = some (.slice A0_1 l0_1.length c0_1) := bc BK118 1
          have hcz28_2 : wr.cell? ⟨gb118, 2, none⟩ = some (.slice A0_2 l0_2.length c0_2) := bc BK118 2
          have hfz28_0 := bf BK118 0
          have hfz28_1 := bf BK118 1
          have hfz28_2 := bf BK118 2
          try go_wp2
          have n0_ := am (blk_drew BK118.out)
          have n1_ := am (blk_drew BK119.out)
          have n2_ := am (below_drew1 HB.out)
          clear BK118
          clear BK119
          clear HB
          have BK118 := n0_
          have BK119 := n1_
          have HB := n2_
          clear n0_ n1_ n2_
          have p120 : 0 ≤ (x5_2 : Int) := of_decide_eq_true as1
          have q120 : x5_2 < (l0_1.length : Int) := of_decide_eq_true as1
          obtain ⟨ad120, A120_0, c120_0, A120_3, c120_3, e120, hx120_0, hx120_1, hx120_2, hx120_3, hx120_4, hl120_0, hi120_0, hl120_3, hi120_3⟩ := at_T123 HR0_1.out x5_2 p120 q120
          have hw120_4 := hx120_4
          have hw120_3 := hx120_3
          have hw120_2 := hx120_2
          have hw120_1 := hx120_1
          have hw120_0 := hx120_0
          cases e120
          replace hx120_0 := (HB.out.cell (World.block_lt_of_cell? w _ hx120_0)).trans hx120_0
          replace hx120_1 := (HB.out.cell (World.block_lt_of_cell? w _ hx120_1)).trans hx120_1
          replace hx120_2 := (HB.out.cell (World.block_lt_of_cell? w _ hx120_2)).trans hx120_2
          replace hx120_3 := (HB.out.cell (World.block_lt_of_cell? w _ hx120_3)).trans hx120_3
          replace hx120_4 := (HB.out.cell (World.block_lt_of_cell? w _ hx120_4)).trans hx120_4
          have HR120_0 := am hi120_0
          have HC120_0 := am hl120_0
          clear hi120_0 hl120_0
          have HR120_3 := am hi120_3
          have HC120_3 := am hl120_3
          clear hi120_3 hl120_3
          replace p120 := eq_true p120
          replace q120 := eq_true q120
          have p121 : 0 ≤ (x5_2 : Int) := of_decide_eq_true as1
          have q121 : x5_2 < (l1_1.length : Int) := of_decide_eq_true as1
          obtain ⟨ad121, A121_0, c121_0, A121_3, c121_3, e121, hx121_0, hx121_1, hx121_2, hx121_3, hx121_4, hl121_0, hi121_0, hl121_3, hi121_3⟩ := at_T123 HR1_1.out x5_2 p121 q121
          have hw121_4 := hx121_4
          have hw121_3 := hx121_3
          have hw121_2 := hx121_2
          have hw121_1 := hx121_1
          have hw121_0 := hx121_0
          cases e121
          replace hx121_0 := (HB.out.cell (World.block_lt_of_cell? w _ hx121_0)).trans hx121_0
          replace hx121_1 := (HB.out.cell (World.block_lt_of_cell? w _ hx121_1)).trans hx121_1
          replace hx121_2 := (HB.out.cell (World.block_lt_of_cell? w _ hx121_2)).trans hx121_2
          replace hx121_3 := (HB.out.cell (World.block_lt_of_cell? w _ hx121_3)).trans hx121_3
          replace hx121_4 := (HB.out.cell (World.block_lt_of_cell? w _ hx121_4)).trans hx121_4
          have HR121_0 := am hi121_0
          have HC121_0 := am hl121_0
          clear hi121_0 hl121_0
          have HR121_3 := am hi121_3
          have HC121_3 := am hl121_3
          clear hi121_3 hl121_3
          replace p121 := eq_true p121
          replace q121 := eq_true q121
          refine start_ (n := 12) (S := fun w' => w'.cell? ⟨gb118, 0, none⟩ = some (.int .i64 a0_0) ∧ w'.cell? ⟨gb118, 1, none⟩ = some (.slice (some ad120) l0_1.length c0_1) ∧ w'.cell? ⟨gb118, 2, none⟩ = some (.slice A0_2 l0_2.length c0_2) ∧ w'.cell? ⟨gb119, 0, none⟩ = some (.int .i64 a1_0) ∧ w'.cell? ⟨gb119, 1, none⟩ = some (.slice (some ad121) l1_1.length c1_1) ∧ w'.cell? ⟨gb119, 2, none⟩ = some (.slice A1_2 l1_2.length c1_2) ∧ w'.cell? (ad120.add ((x5_2).toNat * 5)) = some (.slice A120_0 ((rd_T123 l0_1 x5_2).f0).length c120_0) ∧ w'.cell? ⟨(ad120.add ((x5_2).toNat * 5)).block, (ad120.add ((x5_2).toNat * 5)).off + 1, none⟩ = some (.int .i64 ((rd_T123 l0_1 x5_2).f1)) ∧ w'.cell? ⟨(ad120.add ((x5_2).toNat * 5)).block, (ad120.add ((x5_2).toNat * 5)).off + 2, none⟩ = some (.int .i64 ((rd_T123 l0_1 x5_2).f2)) ∧ w'.cell? ⟨(ad120.add ((x5_2).toNat * 5)).block, (ad120.add ((x5_2).toNat * 5)).off + 3, none⟩ = some (.slice A120_3 ((rd_T123 l0_1 x5_2).f3).length c120_3) ∧ w'.cell? ⟨(ad120.add ((x5_2).toNat * 5)).block, (ad120.add ((x5_2).toNat * 5)).off + 4, none⟩ = some (.int .i64 ((rd_T123 l0_1 x5_2).f4)) ∧ w'.cell? (ad121.add ((x5_2).toNat * 5)) = some (.slice A121_0 ((rd_T123 l1_1 x5_2).f0).length c121_0) ∧ w'.cell? ⟨(ad121.add ((x5_2).toNat * 5)).block, (ad121.add ((x5_2).toNat * 5)).off + 1, none⟩ = some (.int .i64 ((rd_T123 l1_1 x5_2).f1)) ∧ w'.cell? ⟨(ad121.add ((x5_2).toNat * 5)).block, (ad121.add ((x5_2).toNat * 5)).off + 2, none⟩ = some (.int .i64 ((rd_T123 l1_1 x5_2).f2)) ∧ w'.cell? ⟨(ad121.add ((x5_2).toNat * 5)).block, (ad121.add ((x5_2).toNat * 5)).off + 3, none⟩ = some (.slice A121_3 ((rd_T123 l1_1 x5_2).f3).length c121_3) ∧ w'.cell? ⟨(ad121.add ((x5_2).toNat * 5)).block, (ad121.add ((x5_2).toNat * 5)).off + 4, none⟩ = some (.int .i64 ((rd_T123 l1_1 x5_2).f4))) (ds := []) #[false, false, false, false, false, false, false, false, false, false, false, false] (by kernel_rfl) rfl rfl ⟨bc BK118 0, bc BK118 1, bc BK118 2, bc BK119 0, bc BK119 1, bc BK119 2, ((HB.out.cell (World.block_lt_of_cell? _ _ hw120_0)).trans hw120_0), ((HB.out.cell (World.block_lt_of_cell? _ _ hw120_1)).trans hw120_1), ((HB.out.cell (World.block_lt_of_cell? _ _ hw120_2)).trans hw120_2), ((HB.out.cell (World.block_lt_of_cell? _ _ hw120_3)).trans hw120_3), ((HB.out.cell (World.block_lt_of_cell? _ _ hw120_4)).trans hw120_4), ((HB.out.cell (World.block_lt_of_cell? _ _ hw121_0)).trans hw121_0), ((HB.out.cell (World.block_lt_of_cell? _ _ hw121_1)).trans hw121_1), ((HB.out.cell (World.block_lt_of_cell? _ _ hw121_2)).trans hw121_2), ((HB.out.cell (World.block_lt_of_cell? _ _ hw121_3)).trans hw121_3), ((HB.out.cell (World.block_lt_of_cell? _ _ hw121_4)).trans hw121_4)⟩ (fun hHeld => ?_); refine with_tabW spec_AsmSame.tab6 spec_AsmSame.bits6 (fun HT_ HW_ => ?_)
          generalize wr.drew = w29 at BK118 BK119 HB HR120_0 HR120_3 HR121_0 HR121_3 hx120_0 hx120_1 hx120_2 hx120_3 hx120_4 hx121_0 hx121_1 hx121_2 hx121_3 hx121_4 hHeld ⊢
          refine pure_ (i := 0) (N := some 37) (v := ?_) (a' := ?_) #[true, false, false, false, false, false, false, false, false, false, false, false] rfl rfl (any_of HT_.out (by kernel_rfl)) (fun _ _ _ h => h) (Or.inl ⟨by rfl, ?_⟩) ?_ ?_
          rotate_left
          ·intro w'
           go_simp
           with_reducible rfl
          rotate_left
          ·simp only [Act.put, sa, sz, ss, i64_w, i32_w]
           rfl
          refine pure_ (i := 2) (N := some 39) (v := ?_) (a' := ?_) #[true, false, true, false, false, false, false, false, false, false, false, false] rfl rfl (any_of HT_.out (by kernel_rfl)) (fun _ _ _ h => h) (Or.inl ⟨by rfl, ?_⟩) ?_ ?_
          rotate_left
          ·intro w'
           go_simp
           with_reducible rfl
          rotate_left
          ·simp only [Act.put, sa, sz, ss, i64_w, i32_w]
           rfl
          refine pure_ (i := 5) (N := some 42) (v := ?_) (a' := ?_) #[true, false, true, false, false, true, false, false, false, false, false, false] rfl rfl (any_of HT_.out (by kernel_rfl)) (fun _ _ _ h => h) (Or.inl ⟨by rfl, ?_⟩) ?_ ?_
          rotate_left
          ·intro w'
           go_simp
           with_reducible rfl
          rotate_left
          ·simp only [Act.put, sa, sz, ss, i64_w, i32_w]
           rfl
          refine pure_ (i := 7) (N := some 44) (v := ?_) (a' := ?_) #[true, false, true, false, false, true, false, true, false, false, false, false] rfl rfl (any_of HT_.out (by kernel_rfl)) (fun _ _ _ h => h) (Or.inl ⟨by rfl, ?_⟩) ?_ ?_
          rotate_left
          ·intro w'
           go_simp
           with_reducible rfl
          rotate_left
          ·simp only [Act.put, sa, sz, ss, i64_w, i32_w]
           rfl
          refine take_ (i := 1) (N := some 38) (v := ?_) (a' := ?_) #[true, true, true, false, false, true, false, true, false, false, false, false] rfl rfl (take_ofW HT_.out HW_.out (by kernel_rfl)) (fun _ _ _ h => h) (Or.inl ⟨by rfl, ?_⟩) hHeld ?_ ?_
          rotate_left
          ·rintro w' ⟨s0, s1, s2, s3, s4, s5, s6, s7, s8, s9, s10, s11, s12, s13, s14, s15⟩
           go_simp
           with_reducible rfl
          rotate_left
          ·simp only [Act.put, sa, sz, ss, i64_w, i32_w]
           rfl
          refine pure_ (i := 3) (N := some 40) (v := ?_) (a' := ?_) #[true, true, true, true, false, true, false, true, false, false, false, false] rfl rfl (any_of HT_.out (by kernel_rfl)) (fun _ _ _ h => h) (Or.inl ⟨by rfl, ?_⟩) ?_ ?_
          rotate_left
          ·intro w'
           go_simp
           with_reducible rfl
          rotate_left
          ·simp only [Act.put, sa, sz, ss, i64_w, i32_w]
           rfl
          refine take_ (i := 4) (N := some 41) (v := ?_) (a' := ?_) #[true, true, true, true, true, true, false, true, false, false, false, false] rfl rfl (take_ofW HT_.out HW_.out (by kernel_rfl)) (fun _ _ _ h => h) (Or.inl ⟨by rfl, ?_⟩) hHeld ?_ ?_
          rotate_left
          ·rintro w' ⟨s0, s1, s2, s3, s4, s5, s6, s7, s8, s9, s10, s11, s12, s13, s14, s15⟩
           go_simp
           with_reducible rfl
          rotate_left
          ·simp only [Act.put, sa, sz, ss, i64_w, i32_w]
           rfl
          refine take_ (i := 6) (N := some 43) (v := ?_) (a' := ?_) #[true, true, true, true, true, true, true, true, false, false, false, false] rfl rfl (take_ofW HT_.out HW_.out (by kernel_rfl)) (fun _ _ _ h => h) (Or.inl ⟨by rfl, ?_⟩) hHeld ?_ ?_
          rotate_left
          ·rintro w' ⟨s0, s1, s2, s3, s4, s5, s6, s7, s8, s9, s10, s11, s12, s13, s14, s15⟩
           go_simp
           with_reducible rfl
          rotate_left
          ·simp only [Act.put, sa, sz, ss, i64_w, i32_w]
           rfl
          refine pure_ (i := 8) (N := some 45) (v := ?_) (a' := ?_) #[true, true, true, true, true, true, true, true, true, false, false, false] rfl rfl (any_of HT_.out (by kernel_rfl)) (fun _ _ _ h => h) (Or.inl ⟨by rfl, ?_⟩) ?_ ?_
          rotate_left
          ·intro w'
           go_simp
           with_reducible rfl
          rotate_left
          ·simp only [Act.put, sa, sz, ss, i64_w, i32_w]
           rfl
          refine take_ (i := 9) (N := some 46) (v := ?_) (a' := ?_) #[true, true, true, true, true, true, true, true, true, true, false, false] rfl rfl (take_ofW HT_.out HW_.out (by kernel_rfl)) (fun _ _ _ h => h) (Or.inl ⟨by rfl, ?_⟩) hHeld ?_ ?_
          rotate_left
          ·rintro w' ⟨s0, s1, s2, s3, s4, s5, s6, s7, s8, s9, s10, s11, s12, s13, s14, s15⟩
           go_simp
           with_reducible rfl
          rotate_left
          ·simp only [Act.put, sa, sz, ss, i64_w, i32_w]
           rfl
          refine one_ (i := 10) (N := some 47) #[true, true, true, true, true, true, true, true, true, true, true, false] rfl rfl (one_of HT_.out (by kernel_rfl)) (by decide) (fun K hK => ?_)
          refine goes_ Try.func88 (by kernel_rfl) rfl #[.agg #[.slice A120_0 ((rd_T123 l0_1 x5_2).f0).length c120_0, .int .i64 ((rd_T123 l0_1 x5_2).f1), .int .i64 ((rd_T123 l0_1 x5_2).f2), .slice A120_3 ((rd_T123 l0_1 x5_2).f3).length c120_3, .int .i64 ((rd_T123 l0_1 x5_2).f4)], .agg #[.slice A121_0 ((rd_T123 l1_1 x5_2).f0).length c121_0, .int .i64 ((rd_T123 l1_1 x5_2).f1), .int .i64 ((rd_T123 l1_1 x5_2).f2), .slice A121_3 ((rd_T123 l1_1 x5_2).f3).length c121_3, .int .i64 ((rd_T123 l1_1 x5_2).f4)]] (by rfl) rfl rfl gl ?_
          with_reducible refine (spec_l10SameIns.calls k2 _ _ ((rd_T123 l0_1 x5_2).f0) ((rd_T123 l0_1 x5_2).f1) ((rd_T123 l0_1 x5_2).f2) _ _ ((rd_T123 l0_1 x5_2).f3) ((rd_T123 l0_1 x5_2).f4) _ _ ((rd_T123 l1_1 x5_2).f0) ((rd_T123 l1_1 x5_2).f1) ((rd_T123 l1_1 x5_2).f2) _ _ ((rd_T123 l1_1 x5_2).f3) ((rd_T123 l1_1 x5_2).f4) false _ ?side1 ?side2 ?side3 ?side4 ?side5 ?side6 ?side7 ?side8 A21.out).mono ?_
          (case side1 => exact cc (Kd.C_below HR120_0.out HB.out))
          (case side2 => exact HC120_0.out)
          (case side3 => exact cc (Kd.C_below HR120_3.out HB.out))
          (case side4 => exact HC120_3.out)
          (case side5 => exact cc (Kd.C_below HR121_0.out HB.out))
          (case side6 => exact HC121_0.out)
          (case side7 => exact cc (Kd.C_below HR121_3.out HB.out))
          (case side8 => exact HC121_3.out)
          rintro e w30 ⟨rfl, hb⟩
          refine ⟨_, rfl, ?_⟩
          have n0_ := am (blk_below (g := gb118) (o := .cells #[.int .i64 a0_0, .slice (some ad120) l0_1.length c0_1, .slice A0_2 l0_2.length c0_2] 79 (0, 0)) (bp BK118) hb)
          have n1_ := am (blk_below (g := gb119) (o := .cells #[.int .i64 a1_0, .slice (some ad121) l1_1.length c1_1, .slice A1_2 l1_2.length c1_2] 79 (0, 0)) (bp BK119) hb)
          have n2_ := am (below_step (bw HB) hb)
          clear BK118
          clear BK119
          clear HB
          have BK118 := n0_
          have BK119 := n1_
          have HB := n2_
          clear n0_ n1_ n2_
          (try clear hb)
          (try clear hb2)
          (try clear hk)
          (try clear hi)
          refine hK.out _ _ ⟨bc BK118 0, bc BK118 1, bc BK118 2, bc BK119 0, bc BK119 1, bc BK119 2, ((HB.out.cell (World.block_lt_of_cell? _ _ hw120_0)).trans hw120_0), ((HB.out.cell (World.block_lt_of_cell? _ _ hw120_1)).trans hw120_1), ((HB.out.cell (World.block_lt_of_cell? _ _ hw120_2)).trans hw120_2), ((HB.out.cell (World.block_lt_of_cell? _ _ hw120_3)).trans hw120_3), ((HB.out.cell (World.block_lt_of_cell? _ _ hw120_4)).trans hw120_4), ((HB.out.cell (World.block_lt_of_cell? _ _ hw121_0)).trans hw121_0), ((HB.out.cell (World.block_lt_of_cell? _ _ hw121_1)).trans hw121_1), ((HB.out.cell (World.block_lt_of_cell? _ _ hw121_2)).trans hw121_2), ((HB.out.cell (World.block_lt_of_cell? _ _ hw121_3)).trans hw121_3), ((HB.out.cell (World.block_lt_of_cell? _ _ hw121_4)).trans hw121_4)⟩ (fun hHeld => ?_)
          clear hK K
          refine norm_ (a' := ?_) ?_ ?_
          rotate_left
          ·show Act.put _ (some 47) _ = _
           simp only [Act.put, sa, sz, ss, i64_w, i32_w]
           rfl
          refine pure_ (i := 11) (N := some 48) (v := ?_) (a' := ?_) #[true, true, true, true, true, true, true, true, true, true, true, true] rfl rfl (any_of HT_.out (by kernel_rfl)) (fun _ _ _ h => h) (Or.inl ⟨by rfl, ?_⟩) ?_ ?_
          rotate_left
          ·intro w'
           go_simp
           with_reducible rfl
          rotate_left
          ·simp only [Act.put, sa, sz, ss, i64_w, i32_w]
           rfl
          refine done_ (done_of HT_.out (by kernel_rfl)) ?_
          try go_wp2
          go_ret
          exact ⟨er, bw HB⟩
        ·rw [if_neg c20] at H
         exact absurd H (by simp)
       ·rw [if_neg c19] at H
        exact absurd H (by simp)
      ·rw [if_neg c18] at H
       have c18b0 := decide_eq_false c18
       clear c18
       have H' := am H
       clear H
       have hnb31 := NB118_119.out
       have hnc31 := NB119_118.out
       have hcz32_0 : wr.cell? ⟨gb118, 0, none⟩ = some (.int .i64 a0_0) := bc BK118 0
       have hcz32_1 : wr.cell? ⟨gb118, 1, none⟩ = some (.slice A0_1 l0_1.length c0_1) := bc BK118 1
       have hcz32_2 : wr.cell? ⟨gb118, 2, none⟩ = some (.slice A0_2 l0_2.length c0_2) := bc BK118 2
       have hfz32_0 := bf BK118 0
       have hfz32_1 := bf BK118 1
       have hfz32_2 := bf BK118 2
       go_wp2
       go_loopg [6] k2 (fun kq v6 w' => ∃ (x6_3 : Int), v6 = .int .i64 x6_3 ∧ Aside0 (spec_AsmSame.l1 kq x6_3 a0_0 l0_1 l0_2 a1_0 l1_1 l1_2 = some r) ∧ Aside0 (kq ≤ k2) ∧ Aside0 (w'.heap[gb118]? = some (.cells #[.int .i64 a0_0, (.slice A0_1 l0_1.length c0_1), (.slice A0_2 l0_2.length c0_2)] 79 (0, 0))) ∧ Aside0 (w'.heap[gb119]? = some (.cells #[.int .i64 a1_0, (.slice A1_1 l1_1.length c1_1), (.slice A1_2 l1_2.length c1_2)] 79 (0, 0))) ∧ Aside0 (Below w.heap.size w w'))
       case atStart => exact ⟨(0), dr, H', ⟨Nat.le_refl _⟩, ⟨bp BK118⟩, ⟨bp BK119⟩, ⟨bw HB⟩⟩
       case round =>
        clear H'
        (try clear c1); (try clear p1); (try clear q1); (try clear hx1); (try clear c2); (try clear p2); (try clear c3); (try clear c4); (try clear c6); (try clear c6b0); (try clear c6b1); (try clear p6); (try clear c7); (try clear c7b0); (try clear c7b1); (try clear c7b2); (try clear c8); (try clear c11); (try clear c12); (try clear p12); (try clear q12); (try clear hx12); (try clear c14); (try clear c17); (try clear c18); (try clear c18b0); (try clear c19); (try clear c19b0); (try clear c20); (try clear c20b0); (try clear c22); (try clear c23); (try clear c27); (try clear c31); (try clear hcz10_0); (try clear hcz10_1); (try clear hcz10_2); (try clear hcz12_0); (try clear hcz12_1); (try clear hcz12_2); (try clear hcz13_0); (try clear hcz13_1); (try clear hcz13_2); (try clear hcz15_0); (try clear hcz15_1); (try clear hcz15_2); (try clear hcz16_0); (try clear hcz16_1); (try clear hcz16_2); (try clear hcz24_0); (try clear hcz24_1); (try clear hcz24_2); (try clear hcz28_0); (try clear hcz28_1); (try clear hcz28_2); (try clear hcz32_0); (try clear hcz32_1); (try clear hcz32_2); (try clear hcz9_0); (try clear hcz9_1); (try clear hcz9_2); (try clear hfz10_0); (try clear hfz10_1); (try clear hfz10_2); (try clear hfz12_0); (try clear hfz12_1); (try clear hfz12_2); (try clear hfz13_0); (try clear hfz13_1); (try clear hfz13_2); (try clear hfz15_0); (try clear hfz15_1); (try clear hfz15_2); (try clear hfz16_0); (try clear hfz16_1); (try clear hfz16_2); (try clear hfz24_0); (try clear hfz24_1); (try clear hfz24_2); (try clear hfz28_0); (try clear hfz28_1); (try clear hfz28_2); (try clear hfz32_0); (try clear hfz32_1); (try clear hfz32_2); (try clear hfz9_0); (try clear hfz9_1); (try clear hfz9_2); (try clear hx120_0); (try clear hx120_1); (try clear hx120_2); (try clear hx120_3); (try clear hx120_4); (try clear hx121_0); (try clear hx121_1); (try clear hx121_2); (try clear hx121_3); (try clear hx121_4); (try clear p120); (try clear p121); (try clear p2); (try clear q120); (try clear q121)
        obtain ⟨x6_3, rfl, HA, HK3, BK118, BK119, HB⟩ := hrel
        cases gk with
        | zero => exact absurd HA.out (by simp [spec_AsmSame.l1])
        | succ k3 =>
         have H := HA.out
         clear HA
         simp only [spec_AsmSame.l1] at H
         by_cases c33 : x6_3 < (l0_2.length : Int)
         ·rw [if_pos c33] at H
          have c33b0 := decide_eq_true c33
          clear c33
          by_cases c34 : 0 ≤ x6_3
          ·rw [if_pos c34] at H
           have c34b0 := decide_eq_true c34
           clear c34
           by_cases c35 : x6_3 < (l1_2.length : Int)
           ·rw [if_pos c35] at H
            have c35b0 := decide_eq_true c35
            clear c35
            replace H := Option.bind_eq_some_iff.mp H
            obtain ⟨t125, A360, H⟩ := H
            replace H : (if t125 = true then (spec_AsmSame.l1 k3 (wrap64 (x6_3 + 1)) a0_0 l0_1 l0_2 a1_0 l1_1 l1_2) else (some false)) = some r := H
            have A36 := am A360
            clear A360
            by_cases c37 : t125 = true
            ·subst c37
             have H1 : (spec_AsmSame.l1 k3 (wrap64 (x6_3 + 1)) a0_0 l0_1 l0_2 a1_0 l1_1 l1_2) = some r := by rw [if_pos rfl] at H; exact H
             clear H
             have H := H1
             clear H1
             have H' := am H
             clear H
             have hnb38 := NB118_119.out
             have hnc38 := NB119_118.out
             have hcz39_0 : wr.cell? ⟨gb118, 0, none⟩ = some (.int .i64 a0_0) := bc BK118 0
             have hcz39_1 : wr.cell? ⟨gb118, 1, none⟩ = some (.slice A0_1 l0_1.length c0_1) := bc BK118 1
             have hcz39_2 : wr.cell? ⟨gb118, 2, none⟩ = some (.slice A0_2 l0_2.length c0_2) := bc BK118 2
             have hfz39_0 := bf BK118 0
             have hfz39_1 := bf BK118 1
             have hfz39_2 := bf BK118 2
             try go_wp2
             have n0_ := am (blk_drew BK118.out)
             have n1_ := am (blk_drew BK119.out)
             have n2_ := am (below_drew1 HB.out)
             clear BK118
             clear BK119
             clear HB
             have BK118 := n0_
             have BK119 := n1_
             have HB := n2_
             clear n0_ n1_ n2_
             have p123 : 0 ≤ (x6_3 : Int) := of_decide_eq_true as1
             have q123 : x6_3 < (l0_2.length : Int) := of_decide_eq_true as1
             obtain ⟨ad123, A123_0, c123_0, e123, hx123_0, hl123_0, hi123_0⟩ := at_L9 HR0_2.out x6_3 p123 q123
             have hw123_0 := hx123_0
             cases e123
             replace hx123_0 := (HB.out.cell (World.block_lt_of_cell? w _ hx123_0)).trans hx123_0
             have HR123_0 := am hi123_0
             have HC123_0 := am hl123_0
             clear hi123_0 hl123_0
             replace p123 := eq_true p123
             replace q123 := eq_true q123
             have p124 : 0 ≤ (x6_3 : Int) := of_decide_eq_true as1
             have q124 : x6_3 < (l1_2.length : Int) := of_decide_eq_true as1
             obtain ⟨ad124, A124_0, c124_0, e124, hx124_0, hl124_0, hi124_0⟩ := at_L9 HR1_2.out x6_3 p124 q124
             have hw124_0 := hx124_0
             cases e124
             replace hx124_0 := (HB.out.cell (World.block_lt_of_cell? w _ hx124_0)).trans hx124_0
             have HR124_0 := am hi124_0
             have HC124_0 := am hl124_0
             clear hi124_0 hl124_0
             replace p124 := eq_true p124
             replace q124 := eq_true q124
             refine start_ (n := 12) (S := fun w' => w'.cell? ⟨gb118, 0, none⟩ = some (.int .i64 a0_0) ∧ w'.cell? ⟨gb118, 1, none⟩ = some (.slice A0_1 l0_1.length c0_1) ∧ w'.cell? ⟨gb118, 2, none⟩ = some (.slice (some ad123) l0_2.length c0_2) ∧ w'.cell? ⟨gb119, 0, none⟩ = some (.int .i64 a1_0) ∧ w'.cell? ⟨gb119, 1, none⟩ = some (.slice A1_1 l1_1.length c1_1) ∧ w'.cell? ⟨gb119, 2, none⟩ = some (.slice (some ad124) l1_2.length c1_2) ∧ w'.cell? (ad123.add (x6_3).toNat) = some (.slice A123_0 (rd_L9 l0_2 x6_3).length c123_0) ∧ w'.cell? (ad124.add (x6_3).toNat) = some (.slice A124_0 (rd_L9 l1_2 x6_3).length c124_0)) (ds := []) #[false, false, false, false, false, false, false, false, false, false, false, false] (by kernel_rfl) rfl rfl ⟨bc BK118 0, bc BK118 1, bc BK118 2, bc BK119 0, bc BK119 1, bc BK119 2, ((HB.out.cell (World.block_lt_of_cell? _ _ hw123_0)).trans hw123_0), ((HB.out.cell (World.block_lt_of_cell? _ _ hw124_0)).trans hw124_0)⟩ (fun hHeld => ?_); refine with_tabW spec_AsmSame.tab11 spec_AsmSame.bits11 (fun HT_ HW_ => ?_)
             generalize wr.drew = w40 at BK118 BK119 HB HR123_0 HR124_0 hx123_0 hx124_0 hHeld ⊢
             refine pure_ (i := 0) (N := some 56) (v := ?_) (a' := ?_) #[true, false, false, false, false, false, false, false, false, false, false, false] rfl rfl (any_of HT_.out (by kernel_rfl)) (fun _ _ _ h => h) (Or.inl ⟨by rfl, ?_⟩) ?_ ?_
             rotate_left
             ·intro w'
              go_simp
              with_reducible rfl
             rotate_left
             ·simp only [Act.put, sa, sz, ss, i64_w, i32_w]
              rfl
             refine pure_ (i := 2) (N := some 58) (v := ?_) (a' := ?_) #[true, false, true, false, false, false, false, false, false, false, false, false] rfl rfl (any_of HT_.out (by kernel_rfl)) (fun _ _ _ h => h) (Or.inl ⟨by rfl, ?_⟩) ?_ ?_
             rotate_left
             ·intro w'
              go_simp
              with_reducible rfl
             rotate_left
             ·simp only [Act.put, sa, sz, ss, i64_w, i32_w]
              rfl
             refine pure_ (i := 5) (N := some 61) (v := ?_) (a' := ?_) #[true, false, true, false, false, true, false, false, false, false, false, false] rfl rfl (any_of HT_.out (by kernel_rfl)) (fun _ _ _ h => h) (Or.inl ⟨by rfl, ?_⟩) ?_ ?_
             rotate_left
             ·intro w'
              go_simp
              with_reducible rfl
             rotate_left
             ·simp only [Act.put, sa, sz, ss, i64_w, i32_w]
              rfl
             refine pure_ (i := 7) (N := some 63) (v := ?_) (a' := ?_) #[true, false, true, false, false, true, false, true, false, false, false, false] rfl rfl (any_of HT_.out (by kernel_rfl)) (fun _ _ _ h => h) (Or.inl ⟨by rfl, ?_⟩) ?_ ?_
             rotate_left
             ·intro w'
              go_simp
              with_reducible rfl
             rotate_left
             ·simp only [Act.put, sa, sz, ss, i64_w, i32_w]
              rfl
             refine take_ (i := 1) (N := some 57) (v := ?_) (a' := ?_) #[true, true, true, false, false, true, false, true, false, false, false, false] rfl rfl (take_ofW HT_.out HW_.out (by kernel_rfl)) (fun _ _ _ h => h) (Or.inl ⟨by rfl, ?_⟩) hHeld ?_ ?_
             rotate_left
             ·rintro w' ⟨s0, s1, s2, s3, s4, s5, s6, s7⟩
              go_simp
              with_reducible rfl
             rotate_left
             ·simp only [Act.put, sa, sz, ss, i64_w, i32_w]
              rfl
             refine pure_ (i := 3) (N := some 59) (v := ?_) (a' := ?_) #[true, true, true, true, false, true, false, true, false, false, false, false] rfl rfl (any_of HT_.out (by kernel_rfl)) (fun _ _ _ h => h) (Or.inl ⟨by rfl, ?_⟩) ?_ ?_
             rotate_left
             ·intro w'
              go_simp
              with_reducible rfl
             rotate_left
             ·simp only [Act.put, sa, sz, ss, i64_w, i32_w]
              rfl
             refine take_ (i := 4) (N := some 60) (v := ?_) (a' := ?_) #[true, true, true, true, true, true, false, true, false, false, false, false] rfl rfl (take_ofW HT_.out HW_.out (by kernel_rfl)) (fun _ _ _ h => h) (Or.inl ⟨by rfl, ?_⟩) hHeld ?_ ?_
             rotate_left
             ·rintro w' ⟨s0, s1, s2, s3, s4, s5, s6, s7⟩
              go_simp
              with_reducible rfl
             rotate_left
             ·simp only [Act.put, sa, sz, ss, i64_w, i32_w]
              rfl
             refine take_ (i := 6) (N := some 62) (v := ?_) (a' := ?_) #[true, true, true, true, true, true, true, true, false, false, false, false] rfl rfl (take_ofW HT_.out HW_.out (by kernel_rfl)) (fun _ _ _ h => h) (Or.inl ⟨by rfl, ?_⟩) hHeld ?_ ?_
             rotate_left
             ·rintro w' ⟨s0, s1, s2, s3, s4, s5, s6, s7⟩
              go_simp
              with_reducible rfl
             rotate_left
             ·simp only [Act.put, sa, sz, ss, i64_w, i32_w]
              rfl
             refine pure_ (i := 8) (N := some 64) (v := ?_) (a' := ?_) #[true, true, true, true, true, true, true, true, true, false, false, false] rfl rfl (any_of HT_.out (by kernel_rfl)) (fun _ _ _ h => h) (Or.inl ⟨by rfl, ?_⟩) ?_ ?_
             rotate_left
             ·intro w'
              go_simp
              with_reducible rfl
             rotate_left
             ·simp only [Act.put, sa, sz, ss, i64_w, i32_w]
              rfl
             refine take_ (i := 9) (N := some 65) (v := ?_) (a' := ?_) #[true, true, true, true, true, true, true, true, true, true, false, false] rfl rfl (take_ofW HT_.out HW_.out (by kernel_rfl)) (fun _ _ _ h => h) (Or.inl ⟨by rfl, ?_⟩) hHeld ?_ ?_
             rotate_left
             ·rintro w' ⟨s0, s1, s2, s3, s4, s5, s6, s7⟩
              go_simp
              with_reducible rfl
             rotate_left
             ·simp only [Act.put, sa, sz, ss, i64_w, i32_w]
              rfl
             refine one_ (i := 10) (N := some 66) #[true, true, true, true, true, true, true, true, true, true, true, false] rfl rfl (one_of HT_.out (by kernel_rfl)) (by decide) (fun K hK => ?_)
             refine goes_ Try.func89 (by kernel_rfl) rfl #[.slice A123_0 (rd_L9 l0_2 x6_3).length c123_0, .slice A124_0 (rd_L9 l1_2 x6_3).length c124_0] (by rfl) rfl rfl gl ?_
             with_reducible refine (spec_l10SameVals.calls k3 _ _ (rd_L9 l0_2 x6_3) _ _ (rd_L9 l1_2 x6_3) true _ ?side1 ?side2 ?side3 ?side4 A36.out).mono ?_
             (case side1 => exact cc (Kd.C_below HR123_0.out HB.out))
             (case side2 => exact HC123_0.out)
             (case side3 => exact cc (Kd.C_below HR124_0.out HB.out))
             (case side4 => exact HC124_0.out)
             rintro e w' ⟨rfl, ⟨nd, rfl⟩⟩
             refine ⟨_, rfl, ?_⟩
             refine hK.out _ _ ⟨bc BK118 0, bc BK118 1, bc BK118 2, bc BK119 0, bc BK119 1, bc BK119 2, ((HB.out.cell (World.block_lt_of_cell? _ _ hw123_0)).trans hw123_0), ((HB.out.cell (World.block_lt_of_cell? _ _ hw124_0)).trans hw124_0)⟩ (fun hHeld => ?_)
             clear hK K
             refine norm_ (a' := ?_) ?_ ?_
             rotate_left
             ·show Act.put _ (some 66) _ = _
              simp only [Act.put, sa, sz, ss, i64_w, i32_w]
              rfl
             refine pure_ (i := 11) (N := some 67) (v := ?_) (a' := ?_) #[true, true, true, true, true, true, true, true, true, true, true, true] rfl rfl (any_of HT_.out (by kernel_rfl)) (fun _ _ _ h => h) (Or.inl ⟨by rfl, ?_⟩) ?_ ?_
             rotate_left
             ·intro w'
              go_simp
              with_reducible rfl
             rotate_left
             ·simp only [Act.put, sa, sz, ss, i64_w, i32_w]
              rfl
             refine done_ (done_of HT_.out (by kernel_rfl)) ?_
             try go_wp2
             go_roundg k3
             case measure => have := HJ2.out; have := HK2.out; have := HK3.out; omega
             case rel => exact ⟨(wrap64 (x6_3 + 1)), dr, H', ⟨by have := HJ2.out; have := HK2.out; have := HK3.out; omega⟩, ⟨bp BK118⟩, ⟨bp BK119⟩, ⟨bw HB⟩⟩
            ·replace c37 := Bool.eq_false_iff.mpr c37
             subst c37
             have H1 : (some false) = some r := by rw [if_neg (show ¬ (false = true) by decide)] at H; exact H
             clear H
             have H := H1
             clear H1
             obtain rfl := Option.some.inj H
             have hnb41 := NB118_119.out
             have hnc41 := NB119_118.out
             have hcz42_0 : wr.cell? ⟨gb118, 0, none⟩ = some (.int .i64 a0_0) := bc BK118 0
             have hcz42_1 : wr.cell? ⟨gb118, 1, none⟩ = some (.slice A0_1 l0_1.length c0_1) := bc BK118 1
             have hcz42_2 : wr.cell? ⟨gb118, 2, none⟩ = some (.slice A0_2 l0_2.length c0_2) := bc BK118 2
             have hfz42_0 := bf BK118 0
             have hfz42_1 := bf BK118 1
             have hfz42_2 := bf BK118 2
             try go_wp2
             have n0_ := am (blk_drew BK118.out)
             have n1_ := am (blk_drew BK119.out)
             have n2_ := am (below_drew1 HB.out)
             clear BK118
             clear BK119
             clear HB
             have BK118 := n0_
             have BK119 := n1_
             have HB := n2_
             clear n0_ n1_ n2_
             have p123 : 0 ≤ (x6_3 : Int) := of_decide_eq_true as1
             have q123 : x6_3 < (l0_2.length : Int) := of_decide_eq_true as1
             obtain ⟨ad123, A123_0, c123_0, e123, hx123_0, hl123_0, hi123_0⟩ := at_L9 HR0_2.out x6_3 p123 q123
             have hw123_0 := hx123_0
             cases e123
             replace hx123_0 := (HB.out.cell (World.block_lt_of_cell? w _ hx123_0)).trans hx123_0
             have HR123_0 := am hi123_0
             have HC123_0 := am hl123_0
             clear hi123_0 hl123_0
             replace p123 := eq_true p123
             replace q123 := eq_true q123
             have p124 : 0 ≤ (x6_3 : Int) := of_decide_eq_true as1
             have q124 : x6_3 < (l1_2.length : Int) := of_decide_eq_true as1
             obtain ⟨ad124, A124_0, c124_0, e124, hx124_0, hl124_0, hi124_0⟩ := at_L9 HR1_2.out x6_3 p124 q124
             have hw124_0 := hx124_0
             cases e124
             replace hx124_0 := (HB.out.cell (World.block_lt_of_cell? w _ hx124_0)).trans hx124_0
             have HR124_0 := am hi124_0
             have HC124_0 := am hl124_0
             clear hi124_0 hl124_0
             replace p124 := eq_true p124
             replace q124 := eq_true q124
             refine start_ (n := 12) (S := fun w' => w'.cell? ⟨gb118, 0, none⟩ = some (.int .i64 a0_0) ∧ w'.cell? ⟨gb118, 1, none⟩ = some (.slice A0_1 l0_1.length c0_1) ∧ w'.cell? ⟨gb118, 2, none⟩ = some (.slice (some ad123) l0_2.length c0_2) ∧ w'.cell? ⟨gb119, 0, none⟩ = some (.int .i64 a1_0) ∧ w'.cell? ⟨gb119, 1, none⟩ = some (.slice A1_1 l1_1.length c1_1) ∧ w'.cell? ⟨gb119, 2, none⟩ = some (.slice (some ad124) l1_2.length c1_2) ∧ w'.cell? (ad123.add (x6_3).toNat) = some (.slice A123_0 (rd_L9 l0_2 x6_3).length c123_0) ∧ w'.cell? (ad124.add (x6_3).toNat) = some (.slice A124_0 (rd_L9 l1_2 x6_3).length c124_0)) (ds := []) #[false, false, false, false, false, false, false, false, false, false, false, false] (by kernel_rfl) rfl rfl ⟨bc BK118 0, bc BK118 1, bc BK118 2, bc BK119 0, bc BK119 1, bc BK119 2, ((HB.out.cell (World.block_lt_of_cell? _ _ hw123_0)).trans hw123_0), ((HB.out.cell (World.block_lt_of_cell? _ _ hw124_0)).trans hw124_0)⟩ (fun hHeld => ?_); refine with_tabW spec_AsmSame.tab11 spec_AsmSame.bits11 (fun HT_ HW_ => ?_)
             generalize wr.drew = w43 at BK118 BK119 HB HR123_0 HR124_0 hx123_0 hx124_0 hHeld ⊢
             refine pure_ (i := 0) (N := some 56) (v := ?_) (a' := ?_) #[true, false, false, false, false, false, false, false, false, false, false, false] rfl rfl (any_of HT_.out (by kernel_rfl)) (fun _ _ _ h => h) (Or.inl ⟨by rfl, ?_⟩) ?_ ?_
             rotate_left
             ·intro w'
              go_simp
              with_reducible rfl
             rotate_left
             ·simp only [Act.put, sa, sz, ss, i64_w, i32_w]
              rfl
             refine pure_ (i := 2) (N := some 58) (v := ?_) (a' := ?_) #[true, false, true, false, false, false, false, false, false, false, false, false] rfl rfl (any_of HT_.out (by kernel_rfl)) (fun _ _ _ h => h) (Or.inl ⟨by rfl, ?_⟩) ?_ ?_
             rotate_left
             ·intro w'
              go_simp
              with_reducible rfl
             rotate_left
             ·simp only [Act.put, sa, sz, ss, i64_w, i32_w]
              rfl
             refine pure_ (i := 5) (N := some 61) (v := ?_) (a' := ?_) #[true, false, true, false, false, true, false, false, false, false, false, false] rfl rfl (any_of HT_.out (by kernel_rfl)) (fun _ _ _ h => h) (Or.inl ⟨by rfl, ?_⟩) ?_ ?_
             rotate_left
             ·intro w'
              go_simp
              with_reducible rfl
             rotate_left
             ·simp only [Act.put, sa, sz, ss, i64_w, i32_w]
              rfl
             refine pure_ (i := 7) (N := some 63) (v := ?_) (a' := ?_) #[true, false, true, false, false, true, false, true, false, false, false, false] rfl rfl (any_of HT_.out (by kernel_rfl)) (fun _ _ _ h => h) (Or.inl ⟨by rfl, ?_⟩) ?_ ?_
             rotate_left
             ·intro w'
              go_simp
              with_reducible rfl
             rotate_left
             ·simp only [Act.put, sa, sz, ss, i64_w, i32_w]
              rfl
             refine take_ (i := 1) (N := some 57) (v := ?_) (a' := ?_) #[true, true, true, false, false, true, false, true, false, false, false, false] rfl rfl (take_ofW HT_.out HW_.out (by kernel_rfl)) (fun _ _ _ h => h) (Or.inl ⟨by rfl, ?_⟩) hHeld ?_ ?_
             rotate_left
             ·rintro w' ⟨s0, s1, s2, s3, s4, s5, s6, s7⟩
              go_simp
              with_reducible rfl
             rotate_left
             ·simp only [Act.put, sa, sz, ss, i64_w, i32_w]
              rfl
             refine pure_ (i := 3) (N := some 59) (v := ?_) (a' := ?_) #[true, true, true, true, false, true, false, true, false, false, false, false] rfl rfl (any_of HT_.out (by kernel_rfl)) (fun _ _ _ h => h) (Or.inl ⟨by rfl, ?_⟩) ?_ ?_
             rotate_left
             ·intro w'
              go_simp
              with_reducible rfl
             rotate_left
             ·simp only [Act.put, sa, sz, ss, i64_w, i32_w]
              rfl
             refine take_ (i := 4) (N := some 60) (v := ?_) (a' := ?_) #[true, true, true, true, true, true, false, true, false, false, false, false] rfl rfl (take_ofW HT_.out HW_.out (by kernel_rfl)) (fun _ _ _ h => h) (Or.inl ⟨by rfl, ?_⟩) hHeld ?_ ?_
             rotate_left
             ·rintro w' ⟨s0, s1, s2, s3, s4, s5, s6, s7⟩
              go_simp
              with_reducible rfl
             rotate_left
             ·simp only [Act.put, sa, sz, ss, i64_w, i32_w]
              rfl
             refine take_ (i := 6) (N := some 62) (v := ?_) (a' := ?_) #[true, true, true, true, true, true, true, true, false, false, false, false] rfl rfl (take_ofW HT_.out HW_.out (by kernel_rfl)) (fun _ _ _ h => h) (Or.inl ⟨by rfl, ?_⟩) hHeld ?_ ?_
             rotate_left
             ·rintro w' ⟨s0, s1, s2, s3, s4, s5, s6, s7⟩
              go_simp
              with_reducible rfl
             rotate_left
             ·simp only [Act.put, sa, sz, ss, i64_w, i32_w]
              rfl
             refine pure_ (i := 8) (N := some 64) (v := ?_) (a' := ?_) #[true, true, true, true, true, true, true, true, true, false, false, false] rfl rfl (any_of HT_.out (by kernel_rfl)) (fun _ _ _ h => h) (Or.inl ⟨by rfl, ?_⟩) ?_ ?_
             rotate_left
             ·intro w'
              go_simp
              with_reducible rfl
             rotate_left
             ·simp only [Act.put, sa, sz, ss, i64_w, i32_w]
              rfl
             refine take_ (i := 9) (N := some 65) (v := ?_) (a' := ?_) #[true, true, true, true, true, true, true, true, true, true, false, false] rfl rfl (take_ofW HT_.out HW_.out (by kernel_rfl)) (fun _ _ _ h => h) (Or.inl ⟨by rfl, ?_⟩) hHeld ?_ ?_
             rotate_left
             ·rintro w' ⟨s0, s1, s2, s3, s4, s5, s6, s7⟩
              go_simp
              with_reducible rfl
             rotate_left
             ·simp only [Act.put, sa, sz, ss, i64_w, i32_w]
              rfl
             refine one_ (i := 10) (N := some 66) #[true, true, true, true, true, true, true, true, true, true, true, false] rfl rfl (one_of HT_.out (by kernel_rfl)) (by decide) (fun K hK => ?_)
             refine goes_ Try.func89 (by kernel_rfl) rfl #[.slice A123_0 (rd_L9 l0_2 x6_3).length c123_0, .slice A124_0 (rd_L9 l1_2 x6_3).length c124_0] (by rfl) rfl rfl gl ?_
             with_reducible refine (spec_l10SameVals.calls k3 _ _ (rd_L9 l0_2 x6_3) _ _ (rd_L9 l1_2 x6_3) false _ ?side1 ?side2 ?side3 ?side4 A36.out).mono ?_
             (case side1 => exact cc (Kd.C_below HR123_0.out HB.out))
             (case side2 => exact HC123_0.out)
             (case side3 => exact cc (Kd.C_below HR124_0.out HB.out))
             (case side4 => exact HC124_0.out)
             rintro e w' ⟨rfl, ⟨nd, rfl⟩⟩
             refine ⟨_, rfl, ?_⟩
             refine hK.out _ _ ⟨bc BK118 0, bc BK118 1, bc BK118 2, bc BK119 0, bc BK119 1, bc BK119 2, ((HB.out.cell (World.block_lt_of_cell? _ _ hw123_0)).trans hw123_0), ((HB.out.cell (World.block_lt_of_cell? _ _ hw124_0)).trans hw124_0)⟩ (fun hHeld => ?_)
             clear hK K
             refine norm_ (a' := ?_) ?_ ?_
             rotate_left
             ·show Act.put _ (some 66) _ = _
              simp only [Act.put, sa, sz, ss, i64_w, i32_w]
              rfl
             refine pure_ (i := 11) (N := some 67) (v := ?_) (a' := ?_) #[true, true, true, true, true, true, true, true, true, true, true, true] rfl rfl (any_of HT_.out (by kernel_rfl)) (fun _ _ _ h => h) (Or.inl ⟨by rfl, ?_⟩) ?_ ?_
             rotate_left
             ·intro w'
              go_simp
              with_reducible rfl
             rotate_left
             ·simp only [Act.put, sa, sz, ss, i64_w, i32_w]
              rfl
             refine done_ (done_of HT_.out (by kernel_rfl)) ?_
             try go_wp2
             go_ret
             exact ⟨er, bw HB⟩
           ·rw [if_neg c35] at H
            exact absurd H (by simp)
          ·rw [if_neg c34] at H
           exact absurd H (by simp)
         ·rw [if_neg c33] at H
          have c33b0 := decide_eq_false c33
          clear c33
          obtain rfl := Option.some.inj H
          have hnb44 := NB118_119.out
          have hnc44 := NB119_118.out
          have hcz45_0 : wr.cell? ⟨gb118, 0, none⟩ = some (.int .i64 a0_0) := bc BK118 0
          have hcz45_1 : wr.cell? ⟨gb118, 1, none⟩ = some (.slice A0_1 l0_1.length c0_1) := bc BK118 1
          have hcz45_2 : wr.cell? ⟨gb118, 2, none⟩ = some (.slice A0_2 l0_2.length c0_2) := bc BK118 2
          have hfz45_0 := bf BK118 0
          have hfz45_1 := bf BK118 1
          have hfz45_2 := bf BK118 2
          go_wp2
          go_ret
          exact ⟨er, bw HB⟩

end Go.Proofs.Ytkmohnlkldkhdaa.QFnExactAsmSame
