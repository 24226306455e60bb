import Derived.Test.YtbmjmaahcaoajaaCFnExactFileBytesx0
import Derived.Test.YtbmjmaahcaoajaaCFnExactFileBytesx5
import Derived.Test.YtbmjmaahcaoajaaCFnExactFileBytesx6
namespace Go.Proofs.Ytbmjmaahcaoajaa.QFnExactFileBytes
open Go.RowKit Go.Proofs.YtbmjmaahcaoajaaW
open PrintWords PrintLast PrintMore PrintShort
attribute [local go_sem] max2_int min2_int max_two min_two max_three min_three max_four min_four   -- for this text's walks alone
set_option linter.unusedVariables false
set_option maxHeartbeats 8000000
set_option maxRecDepth 100000
set_option linter.unusedSimpArgs false

mutual
def spec_l04Func.j0 : Nat → Int → Bool → List (S100) → Int → Int → List (S102) → Option (Int × Int × Int)
 | 0, _, _, _, _, _, _ => none
 | k + 1, x1, x45, x217000, x220000, x220001, x220002 => if x45 = true then (some (x1, 0, 1)) else (spec_l04Func.l0 k x1 0 x217000 x220000 x220001 x220002)
def spec_l04Func.l0 : Nat → Int → Int → List (S100) → Int → Int → List (S102) → Option (Int × Int × Int)
 | 0, _, _, _, _, _, _ => none
 | k + 1, x1, x6, x217000, x220000, x220001, x220002 => if x6 < (x220002.length : Int) then (if 0 ≤ x6 then ((spec_InsRight.f k x217000 x1 ((rd_T102 x220002 x6).f0) ((rd_T102 x220002 x6).f1)).bind fun t221 => (if t221 = true then (spec_l04Func.l0 k x1 (wrap64 (x6 + 1)) x217000 x220000 x220001 x220002) else (some (x1, x6, 1)))) else (none)) else ((spec_l04Heights.f k x217000 x1).bind fun bt222 => (some (bt222.2.1, bt222.2.2.1, bt222.2.2.2)))
end
def spec_l04Func.f (k : Nat) (l0_0 : List (S100)) (a1 : Int) : Option (Int × Int × Int) := if 0 ≤ a1 then (if a1 < (l0_0.length : Int) then (if ((rd_T100 l0_0 a1).f0) < 0 then (spec_l04Func.j0 k a1 true l0_0 ((rd_T100 l0_0 a1).f0) ((rd_T100 l0_0 a1).f1) ((rd_T100 l0_0 a1).f2)) else (if ((rd_T100 l0_0 a1).f0) > 4 then (spec_l04Func.j0 k a1 true l0_0 ((rd_T100 l0_0 a1).f0) ((rd_T100 l0_0 a1).f1) ((rd_T100 l0_0 a1).f2)) else (if ((rd_T100 l0_0 a1).f1) < ((rd_T100 l0_0 a1).f0) then (spec_l04Func.j0 k a1 true l0_0 ((rd_T100 l0_0 a1).f0) ((rd_T100 l0_0 a1).f1) ((rd_T100 l0_0 a1).f2)) else (if ((rd_T100 l0_0 a1).f1) > 8 then (spec_l04Func.j0 k a1 true l0_0 ((rd_T100 l0_0 a1).f0) ((rd_T100 l0_0 a1).f1) ((rd_T100 l0_0 a1).f2)) else (if (((rd_T100 l0_0 a1).f2).length : Int) < 1 then (spec_l04Func.j0 k a1 true l0_0 ((rd_T100 l0_0 a1).f0) ((rd_T100 l0_0 a1).f1) ((rd_T100 l0_0 a1).f2)) else (spec_l04Func.j0 k a1 (decide ((((rd_T100 l0_0 a1).f2).length : Int) > 60)) l0_0 ((rd_T100 l0_0 a1).f0) ((rd_T100 l0_0 a1).f1) ((rd_T100 l0_0 a1).f2))))))) else (none)) else (none)
theorem spec_l04Func.mono_l : ∀ k, (∀ y0 y1 y2 y3 y4 y5, LeO (spec_l04Func.j0 k y0 y1 y2 y3 y4 y5) (spec_l04Func.j0 (k + 1) y0 y1 y2 y3 y4 y5)) ∧ (∀ y0 y1 y2 y3 y4 y5, LeO (spec_l04Func.l0 k y0 y1 y2 y3 y4 y5) (spec_l04Func.l0 (k + 1) y0 y1 y2 y3 y4 y5))
 | 0 => ⟨fun _ _ _ _ _ _ r h => by simp [spec_l04Func.j0] at h, fun _ _ _ _ _ _ r h => by simp [spec_l04Func.l0] at h⟩
 | k + 1 => by
  obtain ⟨ih0, ih1⟩ := spec_l04Func.mono_l k
  refine ⟨?_, ?_⟩
  ·intro y0 y1 y2 y3 y4 y5
   unfold spec_l04Func.j0
   repeat' first
   | (with_reducible exact ih0 _ _ _ _ _ _)
   | (with_reducible exact ih1 _ _ _ _ _ _)
   | (with_reducible exact spec_InsRight.mono _ _ _ _ _)
   | (with_reducible exact spec_l04Heights.mono _ _ _)
   | (with_reducible exact LeO.refl _)
   | (with_reducible exact LeO.none _)
   | (with_reducible refine LeO.ite ?_ ?_)
   | (with_reducible refine LeO.bind ?_ (fun _ => ?_))
  ·intro y0 y1 y2 y3 y4 y5
   unfold spec_l04Func.l0
   repeat' first
   | (with_reducible exact ih0 _ _ _ _ _ _)
   | (with_reducible exact ih1 _ _ _ _ _ _)
   | (with_reducible exact spec_InsRight.mono _ _ _ _ _)
   | (with_reducible exact spec_l04Heights.mono _ _ _)
   | (with_reducible exact LeO.refl _)
   | (with_reducible exact LeO.none _)
   | (with_reducible refine LeO.ite ?_ ?_)
   | (with_reducible refine LeO.bind ?_ (fun _ => ?_))
theorem spec_l04Func.mono : ∀ a0 a1 k, LeO (spec_l04Func.f k a0 a1) (spec_l04Func.f (k + 1) a0 a1) := by
 intro a0 a1 k
 obtain ⟨ih0, ih1⟩ := spec_l04Func.mono_l k
 unfold spec_l04Func.f
 repeat' first
   | (with_reducible exact ih0 _ _ _ _ _ _)
   | (with_reducible exact ih1 _ _ _ _ _ _)
   | (with_reducible exact spec_InsRight.mono _ _ _ _ _)
   | (with_reducible exact spec_l04Heights.mono _ _ _)
   | (with_reducible exact LeO.refl _)
   | (with_reducible exact LeO.none _)
   | (with_reducible refine LeO.ite ?_ ?_)
   | (with_reducible refine LeO.bind ?_ (fun _ => ?_))
def spec_l04Func.T7 : Bool × List (List Nat × List Nat) := (true, [([], []), ([], []), ([], []), ([2], [2]), ([], []), ([3, 4], [3, 4]), ([5], [5]), ([0, 1, 6], [0, 1, 6]), ([7], [7])])
def spec_l04Func.B7 : List Nat := [0, 0, 0, 4, 0, 28, 60, 127, 255]
theorem spec_l04Func.tab7 : rtab .any (opsOf Try.f172 7) = spec_l04Func.T7 := by kernel_rfl
theorem spec_l04Func.bits7 : waitsOk spec_l04Func.T7.2 spec_l04Func.B7 = true := by kernel_rfl
theorem spec_l04Func.calls (k : Nat) (A0_0 : Option Addr) (c0_0 : Nat) (l0_0 : List (S100)) (a1 : Int) (r1 : Int) (r2 : Int) (r3 : Int) (w : World) (hr0_0 : Kd.C k100 w A0_0 l0_0.length l0_0) (hc0_0 : l0_0.length ≤ c0_0) (h : spec_l04Func.f k l0_0 a1 = some (r1, r2, r3)) :
  Calls Try.prog 172 #[.agg #[.slice A0_0 l0_0.length c0_0], .int .i64 a1] w fun e w' => e = .returned (.agg #[.int .i64 r1, .int .i64 r2, .int .i64 r3]) ∧ Below w.heap.size w w' := by
 have hu30 := Try.underlying30
 have hu84 := Try.underlying84
 have hu100 := Try.underlying100
 have hu102 := Try.underlying102
 have HR0_0 := am hr0_0
 have HC0_0 := am hc0_0
 clear hr0_0 hc0_0
 have HB := am (Below.refl w.heap.size w)
 have H : (if 0 ≤ a1 then (if a1 < (l0_0.length : Int) then (if ((rd_T100 l0_0 a1).f0) < 0 then (spec_l04Func.j0 k a1 true l0_0 ((rd_T100 l0_0 a1).f0) ((rd_T100 l0_0 a1).f1) ((rd_T100 l0_0 a1).f2)) else (if ((rd_T100 l0_0 a1).f0) > 4 then (spec_l04Func.j0 k a1 true l0_0 ((rd_T100 l0_0 a1).f0) ((rd_T100 l0_0 a1).f1) ((rd_T100 l0_0 a1).f2)) else (if ((rd_T100 l0_0 a1).f1) < ((rd_T100 l0_0 a1).f0) then (spec_l04Func.j0 k a1 true l0_0 ((rd_T100 l0_0 a1).f0) ((rd_T100 l0_0 a1).f1) ((rd_T100 l0_0 a1).f2)) else (if ((rd_T100 l0_0 a1).f1) > 8 then (spec_l04Func.j0 k a1 true l0_0 ((rd_T100 l0_0 a1).f0) ((rd_T100 l0_0 a1).f1) ((rd_T100 l0_0 a1).f2)) else (if (((rd_T100 l0_0 a1).f2).length : Int) < 1 then (spec_l04Func.j0 k a1 true l0_0 ((rd_T100 l0_0 a1).f0) ((rd_T100 l0_0 a1).f1) ((rd_T100 l0_0 a1).f2)) else (spec_l04Func.j0 k a1 (decide ((((rd_T100 l0_0 a1).f2).length : Int) > 60)) l0_0 ((rd_T100 l0_0 a1).f0) ((rd_T100 l0_0 a1).f1) ((rd_T100 l0_0 a1).f2))))))) else (none)) else (none)) = some (r1, r2, r3) := h
 clear h
 by_cases c3 : 0 ≤ a1
 ·rw [if_pos c3] at H
  have c3b0 := decide_eq_true c3
  clear c3
  by_cases c4 : a1 < (l0_0.length : Int)
  ·rw [if_pos c4] at H
   have c4b0 := decide_eq_true c4
   clear c4
   have HC5 := am H
   clear H
   go_enter Try.func172, Try.ntmps172
   go_upto_region 2 with (first | ((with_reducible refine gate_dst (N := 2) rfl ?_); (try (refine gate_guard (by rfl) ?_; dsimp only)); refine box_event ?hg (N := 2) ?hd (cs := #[.slice A0_0 l0_0.length c0_0]) (t := 30) ?hr ?_; (case hd => rfl); (case hg => rfl); (case hr => exact gs); intro gb216 hg w6 hbox hb; have BK216 := am (hbox); have GW216 := am ((by rw [hg]; exact (below_size (bw HB)) : w.heap.size ≤ gb216)); have GE216 := am ((by rw [hg]; exact (below_size (bw HB)) : w.heap.size ≤ gb216)); replace HB := am (below_step (bw HB) hb); clear hb hbox hg) | ((with_reducible refine gate_dst (N := 4) rfl ?_); (try (refine gate_guard (by rfl) ?_; dsimp only)); refine box_event ?hg (N := 4) ?hd (cs := #[.int .i64 0, .int .i64 0, .int .i64 0]) (t := 84) ?hr ?_; (case hd => rfl); (case hg => rfl); (case hr => exact gs); intro gb217 hg w7 hbox hb; have BK217 := am (hbox); have GW217 := am ((by rw [hg]; exact (below_size (bw HB)) : w.heap.size ≤ gb217)); have GE217 := am ((by rw [hg]; exact (below_size (bw HB)) : w.heap.size ≤ gb217)); replace HB := am (below_step (bw HB) hb); have NB216_217 := am ((by rw [hg]; exact Nat.ne_of_lt (blk_lt (g := gb216) (o := .cells #[.slice A0_0 l0_0.length c0_0] 30 (0, 0)) (bp BK216)) : gb216 ≠ gb217)); have NB217_216 := am ((by rw [hg]; exact Nat.ne_of_gt (blk_lt (g := gb216) (o := .cells #[.slice A0_0 l0_0.length c0_0] 30 (0, 0)) (bp BK216)) : gb217 ≠ gb216)); replace BK216 := am (blk_below (g := gb216) (o := .cells #[.slice A0_0 l0_0.length c0_0] 30 (0, 0)) (bp BK216) hb); clear hb hbox hg; have hnb8 := NB216_217.out; have hnc8 := NB217_216.out; have hcz9_0 : w7.cell? ⟨gb216, 0, none⟩ = some (.slice A0_0 l0_0.length c0_0) := bc BK216 0; have hfz9_0 := bf BK216 0; have p218 : 0 ≤ (a1 : Int) := of_decide_eq_true as1; have q218 : a1 < (l0_0.length : Int) := of_decide_eq_true as1; obtain ⟨ad218, A218_2, c218_2, e218, hx218_0, hx218_1, hx218_2, hl218_2, hi218_2⟩ := at_T100 HR0_0.out a1 p218 q218; cases e218; replace hx218_0 := (HB.out.cell (World.block_lt_of_cell? w _ hx218_0)).trans hx218_0; replace hx218_1 := (HB.out.cell (World.block_lt_of_cell? w _ hx218_1)).trans hx218_1; replace hx218_2 := (HB.out.cell (World.block_lt_of_cell? w _ hx218_2)).trans hx218_2; have HR218_2 := am hi218_2; have HC218_2 := am hl218_2; clear hi218_2 hl218_2; replace p218 := eq_true p218; replace q218 := eq_true q218) | ((with_reducible refine gate_dst (N := 5) rfl ?_); (try (refine gate_guard (by rfl) ?_; dsimp only)); refine box_event ?hg (N := 5) ?hd (cs := #[.int .i64 0, .int .i64 0, .slice none 0 0]) (t := 100) ?hr ?_; (case hd => rfl); (case hg => rfl); (case hr => exact gs); intro gb219 hg w10 hbox hb; have BK219 := am (hbox); have GW219 := am ((by rw [hg]; exact (below_size (bw HB)) : w.heap.size ≤ gb219)); have GE219 := am ((by rw [hg]; exact (below_size (bw HB)) : w.heap.size ≤ gb219)); replace HB := am (below_step (bw HB) hb); have NB216_219 := am ((by rw [hg]; exact Nat.ne_of_lt (blk_lt (g := gb216) (o := .cells #[.slice (some ad218) l0_0.length c0_0] 30 (0, 0)) (bp BK216)) : gb216 ≠ gb219)); have NB219_216 := am ((by rw [hg]; exact Nat.ne_of_gt (blk_lt (g := gb216) (o := .cells #[.slice (some ad218) l0_0.length c0_0] 30 (0, 0)) (bp BK216)) : gb219 ≠ gb216)); replace BK216 := am (blk_below (g := gb216) (o := .cells #[.slice (some ad218) l0_0.length c0_0] 30 (0, 0)) (bp BK216) hb); have NB217_219 := am ((by rw [hg]; exact Nat.ne_of_lt (blk_lt (g := gb217) (o := .cells #[.int .i64 0, .int .i64 0, .int .i64 0] 84 (0, 0)) (bp BK217)) : gb217 ≠ gb219)); have NB219_217 := am ((by rw [hg]; exact Nat.ne_of_gt (blk_lt (g := gb217) (o := .cells #[.int .i64 0, .int .i64 0, .int .i64 0] 84 (0, 0)) (bp BK217)) : gb219 ≠ gb217)); replace BK217 := am (blk_below (g := gb217) (o := .cells #[.int .i64 0, .int .i64 0, .int .i64 0] 84 (0, 0)) (bp BK217) hb); clear hb hbox hg; have hnb11 := NB219_216.out; have hnc11 := NB216_219.out; have hnb12 := NB219_217.out; have hnc12 := NB217_219.out; have hcz13_0 : w10.cell? ⟨gb219, 0, none⟩ = some (.int .i64 0) := bc BK219 0; have hcz13_1 : w10.cell? ⟨gb219, 1, none⟩ = some (.int .i64 0) := bc BK219 1; have hcz13_2 : w10.cell? ⟨gb219, 2, none⟩ = some (.slice none 0 0) := bc BK219 2; have hfz13_0 := bf BK219 0; have hfz13_1 := bf BK219 1; have hfz13_2 := bf BK219 2))
   (try simp only [Act.put, sa, sz, ss])
   go_cut [45] (fun v45 wc => ∃ (kq : Nat) (x45_4 : Bool), v45 = .bool x45_4 ∧ Aside0 (spec_l04Func.j0 kq a1 x45_4 l0_0 ((rd_T100 l0_0 a1).f0) ((rd_T100 l0_0 a1).f1) ((rd_T100 l0_0 a1).f2) = some (r1, r2, r3)) ∧ Aside0 (kq ≤ k) ∧ Aside0 (wc.heap[gb216]? = some (.cells #[(.slice (some ad218) l0_0.length c0_0)] 30 (0, 0))) ∧ Aside0 (wc.heap[gb217]? = some (.cells #[.int .i64 0, .int .i64 0, .int .i64 0] 84 (0, 0))) ∧ Aside0 (wc.heap[gb219]? = some (.cells #[.int .i64 ((rd_T100 l0_0 a1).f0), .int .i64 ((rd_T100 l0_0 a1).f1), (.slice A218_2 ((rd_T100 l0_0 a1).f2).length c218_2)] 100 (0, 0))) ∧ Aside0 (Below w.heap.size w wc))
   case first =>
    have H := HC5.out
    clear HC5
    by_cases c14 : ((rd_T100 l0_0 a1).f0) < 0
    ·rw [if_pos c14] at H
     have c14b0 := decide_eq_true c14
     clear c14
     (first | rw [c14b0] | (simp only [i64_w, i32_w]; rw [c14b0]) | skip)
     have H' := am H
     clear H
     have hnb15 := NB219_216.out
     have hnc15 := NB216_219.out
     have hnb16 := NB219_217.out
     have hnc16 := NB217_219.out
     have hcz17_0 : w10.cell? ⟨gb219, 0, none⟩ = some (.int .i64 0) := bc BK219 0
     have hcz17_1 : w10.cell? ⟨gb219, 1, none⟩ = some (.int .i64 0) := bc BK219 1
     have hcz17_2 : w10.cell? ⟨gb219, 2, none⟩ = some (.slice none 0 0) := bc BK219 2
     have hfz17_0 := bf BK219 0
     have hfz17_1 := bf BK219 1
     have hfz17_2 := bf BK219 2
     go_wp2
     go_meet
     case rel => exact ⟨_, (true), dr, H', ⟨by first | omega | exact Nat.le_refl _⟩, ⟨by (with_reducible repeat (first | apply dN | apply dW | apply dA)); refine blk_far ?_ NB216_219.out _; (with_reducible repeat (first | apply dN | apply dW | apply dA)); refine blk_far ?_ NB216_219.out _; (with_reducible repeat (first | apply dN | apply dW | apply dA)); refine blk_far ?_ NB216_219.out _; exact bp BK216⟩, ⟨by (with_reducible repeat (first | apply dN | apply dW | apply dA)); refine blk_far ?_ NB217_219.out _; (with_reducible repeat (first | apply dN | apply dW | apply dA)); refine blk_far ?_ NB217_219.out _; (with_reducible repeat (first | apply dN | apply dW | apply dA)); refine blk_far ?_ NB217_219.out _; exact bp BK217⟩, ⟨by (with_reducible repeat (first | apply dN | apply dW | apply dA)); refine blk_put (cs := #[.int .i64 ((rd_T100 l0_0 a1).f0), .int .i64 ((rd_T100 l0_0 a1).f1), .slice none 0 0]) ?_ 2 _ rfl; (with_reducible repeat (first | apply dN | apply dW | apply dA)); refine blk_put (cs := #[.int .i64 ((rd_T100 l0_0 a1).f0), .int .i64 0, .slice none 0 0]) ?_ 1 _ rfl; (with_reducible repeat (first | apply dN | apply dW | apply dA)); refine blk_put (cs := #[.int .i64 0, .int .i64 0, .slice none 0 0]) ?_ 0 _ rfl; exact bp BK219⟩, ⟨bw HB⟩⟩
    ·rw [if_neg c14] at H
     have c14b0 := decide_eq_false c14
     clear c14
     (first | rw [c14b0] | (simp only [i64_w, i32_w]; rw [c14b0]) | skip)
     by_cases c18 : ((rd_T100 l0_0 a1).f0) > 4
     ·rw [if_pos c18] at H
      have c18b0 : decide (4 < ((rd_T100 l0_0 a1).f0)) = true := decide_eq_true c18
      clear c18
      have H' := am H
      clear H
      have hnb19 := NB219_216.out
      have hnc19 := NB216_219.out
      have hnb20 := NB219_217.out
      have hnc20 := NB217_219.out
      have hcz21_0 : w10.cell? ⟨gb219, 0, none⟩ = some (.int .i64 0) := bc BK219 0
      have hcz21_1 : w10.cell? ⟨gb219, 1, none⟩ = some (.int .i64 0) := bc BK219 1
      have hcz21_2 : w10.cell? ⟨gb219, 2, none⟩ = some (.slice none 0 0) := bc BK219 2
      have hfz21_0 := bf BK219 0
      have hfz21_1 := bf BK219 1
      have hfz21_2 := bf BK219 2
      go_wp2
      go_meet
      case rel => exact ⟨_, (true), dr, H', ⟨by first | omega | exact Nat.le_refl _⟩, ⟨by (with_reducible repeat (first | apply dN | apply dW | apply dA)); refine blk_far ?_ NB216_219.out _; (with_reducible repeat (first | apply dN | apply dW | apply dA)); refine blk_far ?_ NB216_219.out _; (with_reducible repeat (first | apply dN | apply dW | apply dA)); refine blk_far ?_ NB216_219.out _; exact bp BK216⟩, ⟨by (with_reducible repeat (first | apply dN | apply dW | apply dA)); refine blk_far ?_ NB217_219.out _; (with_reducible repeat (first | apply dN | apply dW | apply dA)); refine blk_far ?_ NB217_219.out _; (with_reducible repeat (first | apply dN | apply dW | apply dA)); refine blk_far ?_ NB217_219.out _; exact bp BK217⟩, ⟨by (with_reducible repeat (first | apply dN | apply dW | apply dA)); refine blk_put (cs := #[.int .i64 ((rd_T100 l0_0 a1).f0), .int .i64 ((rd_T100 l0_0 a1).f1), .slice none 0 0]) ?_ 2 _ rfl; (with_reducible repeat (first | apply dN | apply dW | apply dA)); refine blk_put (cs := #[.int .i64 ((rd_T100 l0_0 a1).f0), .int .i64 0, .slice none 0 0]) ?_ 1 _ rfl; (with_reducible repeat (first | apply dN | apply dW | apply dA)); refine blk_put (cs := #[.int .i64 0, .int .i64 0, .slice none 0 0]) ?_ 0 _ rfl; exact bp BK219⟩, ⟨bw HB⟩⟩
     ·rw [if_neg c18] at H
      have c18b0 : decide (4 < ((rd_T100 l0_0 a1).f0)) = false := decide_eq_false c18
      clear c18
      by_cases c22 : ((rd_T100 l0_0 a1).f1) < ((rd_T100 l0_0 a1).f0)
      ·rw [if_pos c22] at H
       have c22b0 := decide_eq_true c22
       clear c22
       have H' := am H
       clear H
       have hnb23 := NB219_216.out
       have hnc23 := NB216_219.out
       have hnb24 := NB219_217.out
       have hnc24 := NB217_219.out
       have hcz25_0 : w10.cell? ⟨gb219, 0, none⟩ = some (.int .i64 0) := bc BK219 0
       have hcz25_1 : w10.cell? ⟨gb219, 1, none⟩ = some (.int .i64 0) := bc BK219 1
       have hcz25_2 : w10.cell? ⟨gb219, 2, none⟩ = some (.slice none 0 0) := bc BK219 2
       have hfz25_0 := bf BK219 0
       have hfz25_1 := bf BK219 1
       have hfz25_2 := bf BK219 2
       go_wp2
       go_meet
       case rel => exact ⟨_, (true), dr, H', ⟨by first | omega | exact Nat.le_refl _⟩, ⟨by (with_reducible repeat (first | apply dN | apply dW | apply dA)); refine blk_far ?_ NB216_219.out _; (with_reducible repeat (first | apply dN | apply dW | apply dA)); refine blk_far ?_ NB216_219.out _; (with_reducible repeat (first | apply dN | apply dW | apply dA)); refine blk_far ?_ NB216_219.out _; exact bp BK216⟩, ⟨by (with_reducible repeat (first | apply dN | apply dW | apply dA)); refine blk_far ?_ NB217_219.out _; (with_reducible repeat (first | apply dN | apply dW | apply dA)); refine blk_far ?_ NB217_219.out _; (with_reducible repeat (first | apply dN | apply dW | apply dA)); refine blk_far ?_ NB217_219.out _; exact bp BK217⟩, ⟨by (with_reducible repeat (first | apply dN | apply dW | apply dA)); refine blk_put (cs := #[.int .i64 ((rd_T100 l0_0 a1).f0), .int .i64 ((rd_T100 l0_0 a1).f1), .slice none 0 0]) ?_ 2 _ rfl; (with_reducible repeat (first | apply dN | apply dW | apply dA)); refine blk_put (cs := #[.int .i64 ((rd_T100 l0_0 a1).f0), .int .i64 0, .slice none 0 0]) ?_ 1 _ rfl; (with_reducible repeat (first | apply dN | apply dW | apply dA)); refine blk_put (cs := #[.int .i64 0, .int .i64 0, .slice none 0 0]) ?_ 0 _ rfl; exact bp BK219⟩, ⟨bw HB⟩⟩
      ·rw [if_neg c22] at H
       have c22b0 := decide_eq_false c22
       clear c22
       by_cases c26 : ((rd_T100 l0_0 a1).f1) > 8
       ·rw [if_pos c26] at H
        have c26b0 : decide (8 < ((rd_T100 l0_0 a1).f1)) = true := decide_eq_true c26
        clear c26
        have H' := am H
        clear H
        have hnb27 := NB219_216.out
        have hnc27 := NB216_219.out
        have hnb28 := NB219_217.out
        have hnc28 := NB217_219.out
        have hcz29_0 : w10.cell? ⟨gb219, 0, none⟩ = some (.int .i64 0) := bc BK219 0
        have hcz29_1 : w10.cell? ⟨gb219, 1, none⟩ = some (.int .i64 0) := bc BK219 1
        have hcz29_2 : w10.cell? ⟨gb219, 2, none⟩ = some (.slice none 0 0) := bc BK219 2
        have hfz29_0 := bf BK219 0
        have hfz29_1 := bf BK219 1
        have hfz29_2 := bf BK219 2
        go_wp2
        go_meet
        case rel => exact ⟨_, (true), dr, H', ⟨by first | omega | exact Nat.le_refl _⟩, ⟨by (with_reducible repeat (first | apply dN | apply dW | apply dA)); refine blk_far ?_ NB216_219.out _; (with_reducible repeat (first | apply dN | apply dW | apply dA)); refine blk_far ?_ NB216_219.out _; (with_reducible repeat (first | apply dN | apply dW | apply dA)); refine blk_far ?_ NB216_219.out _; exact bp BK216⟩, ⟨by (with_reducible repeat (first | apply dN | apply dW | apply dA)); refine blk_far ?_ NB217_219.out _; (with_reducible repeat (first | apply dN | apply dW | apply dA)); refine blk_far ?_ NB217_219.out _; (with_reducible repeat (first | apply dN | apply dW | apply dA)); refine blk_far ?_ NB217_219.out _; exact bp BK217⟩, ⟨by (with_reducible repeat (first | apply dN | apply dW | apply dA)); refine blk_put (cs := #[.int .i64 ((rd_T100 l0_0 a1).f0), .int .i64 ((rd_T100 l0_0 a1).f1), .slice none 0 0]) ?_ 2 _ rfl; (with_reducible repeat (first | apply dN | apply dW | apply dA)); refine blk_put (cs := #[.int .i64 ((rd_T100 l0_0 a1).f0), .int .i64 0, .slice none 0 0]) ?_ 1 _ rfl; (with_reducible repeat (first | apply dN | apply dW | apply dA)); refine blk_put (cs := #[.int .i64 0, .int .i64 0, .slice none 0 0]) ?_ 0 _ rfl; exact bp BK219⟩, ⟨bw HB⟩⟩
       ·rw [if_neg c26] at H
        have c26b0 : decide (8 < ((rd_T100 l0_0 a1).f1)) = false := decide_eq_false c26
        clear c26
        by_cases c30 : (((rd_T100 l0_0 a1).f2).length : Int) < 1
        ·rw [if_pos c30] at H
         have c30b0 := decide_eq_true c30
         have c30b1 : decide (((rd_T100 l0_0 a1).f2).length < 1) = true := decide_eq_true (by omega)
         clear c30
         have H' := am H
         clear H
         have hnb31 := NB219_216.out
         have hnc31 := NB216_219.out
         have hnb32 := NB219_217.out
         have hnc32 := NB217_219.out
         have hcz33_0 : w10.cell? ⟨gb219, 0, none⟩ = some (.int .i64 0) := bc BK219 0
         have hcz33_1 : w10.cell? ⟨gb219, 1, none⟩ = some (.int .i64 0) := bc BK219 1
         have hcz33_2 : w10.cell? ⟨gb219, 2, none⟩ = some (.slice none 0 0) := bc BK219 2
         have hfz33_0 := bf BK219 0
         have hfz33_1 := bf BK219 1
         have hfz33_2 := bf BK219 2
         go_wp2
         go_meet
         case rel => exact ⟨_, (true), dr, H', ⟨by first | omega | exact Nat.le_refl _⟩, ⟨by (with_reducible repeat (first | apply dN | apply dW | apply dA)); refine blk_far ?_ NB216_219.out _; (with_reducible repeat (first | apply dN | apply dW | apply dA)); refine blk_far ?_ NB216_219.out _; (with_reducible repeat (first | apply dN | apply dW | apply dA)); refine blk_far ?_ NB216_219.out _; exact bp BK216⟩, ⟨by (with_reducible repeat (first | apply dN | apply dW | apply dA)); refine blk_far ?_ NB217_219.out _; (with_reducible repeat (first | apply dN | apply dW | apply dA)); refine blk_far ?_ NB217_219.out _; (with_reducible repeat (first | apply dN | apply dW | apply dA)); refine blk_far ?_ NB217_219.out _; exact bp BK217⟩, ⟨by (with_reducible repeat (first | apply dN | apply dW | apply dA)); refine blk_put (cs := #[.int .i64 ((rd_T100 l0_0 a1).f0), .int .i64 ((rd_T100 l0_0 a1).f1), .slice none 0 0]) ?_ 2 _ rfl; (with_reducible repeat (first | apply dN | apply dW | apply dA)); refine blk_put (cs := #[.int .i64 ((rd_T100 l0_0 a1).f0), .int .i64 0, .slice none 0 0]) ?_ 1 _ rfl; (with_reducible repeat (first | apply dN | apply dW | apply dA)); refine blk_put (cs := #[.int .i64 0, .int .i64 0, .slice none 0 0]) ?_ 0 _ rfl; exact bp BK219⟩, ⟨bw HB⟩⟩
        ·rw [if_neg c30] at H
         have c30b0 := decide_eq_false c30
         have c30b1 : decide (((rd_T100 l0_0 a1).f2).length < 1) = false := decide_eq_false (by omega)
         clear c30
         have H' := am H
         clear H
         have hnb34 := NB219_216.out
         have hnc34 := NB216_219.out
         have hnb35 := NB219_217.out
         have hnc35 := NB217_219.out
         have hcz36_0 : w10.cell? ⟨gb219, 0, none⟩ = some (.int .i64 0) := bc BK219 0
         have hcz36_1 : w10.cell? ⟨gb219, 1, none⟩ = some (.int .i64 0) := bc BK219 1
         have hcz36_2 : w10.cell? ⟨gb219, 2, none⟩ = some (.slice none 0 0) := bc BK219 2
         have hfz36_0 := bf BK219 0
         have hfz36_1 := bf BK219 1
         have hfz36_2 := bf BK219 2
         go_wp2
         go_meet
         case rel => exact ⟨_, (decide ((((rd_T100 l0_0 a1).f2).length : Int) > 60)), dr, H', ⟨by first | omega | exact Nat.le_refl _⟩, ⟨by (with_reducible repeat (first | apply dN | apply dW | apply dA)); refine blk_far ?_ NB216_219.out _; (with_reducible repeat (first | apply dN | apply dW | apply dA)); refine blk_far ?_ NB216_219.out _; (with_reducible repeat (first | apply dN | apply dW | apply dA)); refine blk_far ?_ NB216_219.out _; exact bp BK216⟩, ⟨by (with_reducible repeat (first | apply dN | apply dW | apply dA)); refine blk_far ?_ NB217_219.out _; (with_reducible repeat (first | apply dN | apply dW | apply dA)); refine blk_far ?_ NB217_219.out _; (with_reducible repeat (first | apply dN | apply dW | apply dA)); refine blk_far ?_ NB217_219.out _; exact bp BK217⟩, ⟨by (with_reducible repeat (first | apply dN | apply dW | apply dA)); refine blk_put (cs := #[.int .i64 ((rd_T100 l0_0 a1).f0), .int .i64 ((rd_T100 l0_0 a1).f1), .slice none 0 0]) ?_ 2 _ rfl; (with_reducible repeat (first | apply dN | apply dW | apply dA)); refine blk_put (cs := #[.int .i64 ((rd_T100 l0_0 a1).f0), .int .i64 0, .slice none 0 0]) ?_ 1 _ rfl; (with_reducible repeat (first | apply dN | apply dW | apply dA)); refine blk_put (cs := #[.int .i64 0, .int .i64 0, .slice none 0 0]) ?_ 0 _ rfl; exact bp BK219⟩, ⟨bw HB⟩⟩
   case rest =>
    clear HC5
    (try clear c1); (try clear c2); (try clear p2); (try clear q2); (try clear hx2); (try clear c3); (try clear c3b0); (try clear c4); (try clear c4b0); (try clear c8); (try clear c11); (try clear c12); (try clear c14); (try clear c14b0); (try clear c15); (try clear c16); (try clear c17); (try clear c18); (try clear c18b0); (try clear c19); (try clear c20); (try clear c21); (try clear p21); (try clear q21); (try clear hx21); (try clear c22); (try clear c22b0); (try clear c23); (try clear c24); (try clear c26); (try clear c26b0); (try clear c27); (try clear c28); (try clear c30); (try clear c30b0); (try clear c30b1); (try clear c31); (try clear c32); (try clear c34); (try clear c35); (try clear hcz13_0); (try clear hcz13_1); (try clear hcz13_2); (try clear hcz17_0); (try clear hcz17_1); (try clear hcz17_2); (try clear hcz21_0); (try clear hcz21_1); (try clear hcz21_2); (try clear hcz25_0); (try clear hcz25_1); (try clear hcz25_2); (try clear hcz29_0); (try clear hcz29_1); (try clear hcz29_2); (try clear hcz33_0); (try clear hcz33_1); (try clear hcz33_2); (try clear hcz36_0); (try clear hcz36_1); (try clear hcz36_2); (try clear hcz9_0); (try clear hfz13_0); (try clear hfz13_1); (try clear hfz13_2); (try clear hfz17_0); (try clear hfz17_1); (try clear hfz17_2); (try clear hfz21_0); (try clear hfz21_1); (try clear hfz21_2); (try clear hfz25_0); (try clear hfz25_1); (try clear hfz25_2); (try clear hfz29_0); (try clear hfz29_1); (try clear hfz29_2); (try clear hfz33_0); (try clear hfz33_1); (try clear hfz33_2); (try clear hfz36_0); (try clear hfz36_1); (try clear hfz36_2); (try clear hfz9_0); (try clear hx218_0); (try clear hx218_1); (try clear hx218_2); (try clear p218); (try clear q218)
    obtain ⟨kq, x45_4, rfl, HA, HJ4, BK216, BK217, BK219, HB⟩ := hcut
    cases kq with
    | zero => exact absurd HA.out (by simp [spec_l04Func.j0])
    | succ kj4 =>
     have H := HA.out
     clear HA
     simp only [spec_l04Func.j0] at H
     by_cases c37 : x45_4 = true
     ·subst c37
      have H1 : (some (a1, 0, 1)) = some (r1, r2, r3) := by rw [if_pos rfl] at H; exact H
      clear H
      have H := H1
      clear H1
      simp only [Option.some.injEq, Prod.mk.injEq] at H
      obtain ⟨rfl, rfl, rfl⟩ := H
      have hnb38 := NB217_216.out
      have hnc38 := NB216_217.out
      have hnb39 := NB217_219.out
      have hnc39 := NB219_217.out
      have hcz40_0 : wc.cell? ⟨gb217, 0, none⟩ = some (.int .i64 0) := bc BK217 0
      have hcz40_1 : wc.cell? ⟨gb217, 1, none⟩ = some (.int .i64 0) := bc BK217 1
      have hcz40_2 : wc.cell? ⟨gb217, 2, none⟩ = some (.int .i64 0) := bc BK217 2
      have hfz40_0 := bf BK217 0
      have hfz40_1 := bf BK217 1
      have hfz40_2 := bf BK217 2
      go_wp2
      refine bodyPost_ret (results_cell_row rfl _ _ gb217 84 #[.int .i64 a1, .int .i64 0, .int .i64 1] (0, 0) _ rfl (by (with_reducible repeat (first | apply dN | apply dW | apply dA)); refine blk_put (cs := #[.int .i64 a1, .int .i64 0, .int .i64 0]) ?_ 2 _ rfl; (with_reducible repeat (first | apply dN | apply dW | apply dA)); refine blk_put (cs := #[.int .i64 a1, .int .i64 0, .int .i64 0]) ?_ 1 _ rfl; (with_reducible repeat (first | apply dN | apply dW | apply dA)); refine blk_put (cs := #[.int .i64 0, .int .i64 0, .int .i64 0]) ?_ 0 _ rfl; exact bp BK217) Try.underlying84 rfl (by kernel_rfl)) rfl ?_
      exact ⟨er, bw HB⟩
     ·replace c37 := Bool.eq_false_iff.mpr c37
      subst c37
      have H1 : (spec_l04Func.l0 kj4 a1 0 l0_0 ((rd_T100 l0_0 a1).f0) ((rd_T100 l0_0 a1).f1) ((rd_T100 l0_0 a1).f2)) = some (r1, r2, r3) := by rw [if_neg (show ¬ (false = true) by decide)] at H; exact H
      clear H
      have H := H1
      clear H1
      have H' := am H
      clear H
      go_wp2
      go_loopg [6] kj4 (fun kq v6 w' => ∃ (x6_2 : Int) (x218000_2 : Int) (x218001_2 : Int) (x218002_2 : Int), v6 = .int .i64 x6_2 ∧ Aside0 (spec_l04Func.l0 kq a1 x6_2 l0_0 ((rd_T100 l0_0 a1).f0) ((rd_T100 l0_0 a1).f1) ((rd_T100 l0_0 a1).f2) = some (r1, r2, r3)) ∧ Aside0 (kq ≤ kj4) ∧ Aside0 (w'.heap[gb216]? = some (.cells #[(.slice (some ad218) l0_0.length c0_0)] 30 (0, 0))) ∧ Aside0 (w'.heap[gb217]? = some (.cells #[.int .i64 x218000_2, .int .i64 x218001_2, .int .i64 x218002_2] 84 (0, 0))) ∧ Aside0 (w'.heap[gb219]? = some (.cells #[.int .i64 ((rd_T100 l0_0 a1).f0), .int .i64 ((rd_T100 l0_0 a1).f1), (.slice A218_2 ((rd_T100 l0_0 a1).f2).length c218_2)] 100 (0, 0))) ∧ Aside0 (Below w.heap.size w w'))
      case atStart => exact ⟨(0), (0), (0), (0), dr, H', ⟨Nat.le_refl _⟩, ⟨bp BK216⟩, ⟨bp BK217⟩, ⟨bp BK219⟩, ⟨bw HB⟩⟩
      case round =>
       clear H'
       (try clear c1); (try clear c2); (try clear p2); (try clear q2); (try clear hx2); (try clear c3); (try clear c3b0); (try clear c4); (try clear c4b0); (try clear c8); (try clear c11); (try clear c12); (try clear c14); (try clear c14b0); (try clear c15); (try clear c16); (try clear c17); (try clear c18); (try clear c18b0); (try clear c19); (try clear c20); (try clear c21); (try clear p21); (try clear q21); (try clear hx21); (try clear c22); (try clear c22b0); (try clear c23); (try clear c24); (try clear c26); (try clear c26b0); (try clear c27); (try clear c28); (try clear c30); (try clear c30b0); (try clear c30b1); (try clear c31); (try clear c32); (try clear c34); (try clear c35); (try clear c37); (try clear c38); (try clear c39); (try clear hcz13_0); (try clear hcz13_1); (try clear hcz13_2); (try clear hcz17_0); (try clear hcz17_1); (try clear hcz17_2); (try clear hcz21_0); (try clear hcz21_1); (try clear hcz21_2); (try clear hcz25_0); (try clear hcz25_1); (try clear hcz25_2); (try clear hcz29_0); (try clear hcz29_1); (try clear hcz29_2); (try clear hcz33_0); (try clear hcz33_1); (try clear hcz33_2); (try clear hcz36_0); (try clear hcz36_1); (try clear hcz36_2); (try clear hcz40_0); (try clear hcz40_1); (try clear hcz40_2); (try clear hcz9_0); (try clear hfz13_0); (try clear hfz13_1); (try clear hfz13_2); (try clear hfz17_0); (try clear hfz17_1); (try clear hfz17_2); (try clear hfz21_0); (try clear hfz21_1); (try clear hfz21_2); (try clear hfz25_0); (try clear hfz25_1); (try clear hfz25_2); (try clear hfz29_0); (try clear hfz29_1); (try clear hfz29_2); (try clear hfz33_0); (try clear hfz33_1); (try clear hfz33_2); (try clear hfz36_0); (try clear hfz36_1); (try clear hfz36_2); (try clear hfz40_0); (try clear hfz40_1); (try clear hfz40_2); (try clear hfz9_0); (try clear hx218_0); (try clear hx218_1); (try clear hx218_2); (try clear p2); (try clear p21); (try clear p218); (try clear q2); (try clear q21); (try clear q218)
       obtain ⟨x6_2, x218000_2, x218001_2, x218002_2, rfl, HA, HK2, BK216, BK217, BK219, HB⟩ := hrel
       cases gk with
       | zero => exact absurd HA.out (by simp [spec_l04Func.l0])
       | succ k2 =>
        have H := HA.out
        clear HA
        simp only [spec_l04Func.l0] at H
        by_cases c41 : x6_2 < (((rd_T100 l0_0 a1).f2).length : Int)
        ·rw [if_pos c41] at H
         have c41b0 := decide_eq_true c41
         clear c41
         by_cases c42 : 0 ≤ x6_2
         ·rw [if_pos c42] at H
          have c42b0 := decide_eq_true c42
          clear c42
          replace H := Option.bind_eq_some_iff.mp H
          obtain ⟨t221, A430, H⟩ := H
          replace H : (if t221 = true then (spec_l04Func.l0 k2 a1 (wrap64 (x6_2 + 1)) l0_0 ((rd_T100 l0_0 a1).f0) ((rd_T100 l0_0 a1).f1) ((rd_T100 l0_0 a1).f2)) else (some (a1, x6_2, 1))) = some (r1, r2, r3) := H
          have A43 := am A430
          clear A430
          by_cases c44 : t221 = true
          ·subst c44
           have H1 : (spec_l04Func.l0 k2 a1 (wrap64 (x6_2 + 1)) l0_0 ((rd_T100 l0_0 a1).f0) ((rd_T100 l0_0 a1).f1) ((rd_T100 l0_0 a1).f2)) = some (r1, r2, r3) := by rw [if_pos rfl] at H; exact H
           clear H
           have H := H1
           clear H1
           have H' := am H
           clear H
           have hnb45 := NB219_216.out
           have hnc45 := NB216_219.out
           have hnb46 := NB219_217.out
           have hnc46 := NB217_219.out
           have hcz47_0 : wr.cell? ⟨gb219, 0, none⟩ = some (.int .i64 ((rd_T100 l0_0 a1).f0)) := bc BK219 0
           have hcz47_1 : wr.cell? ⟨gb219, 1, none⟩ = some (.int .i64 ((rd_T100 l0_0 a1).f1)) := bc BK219 1
           have hcz47_2 : wr.cell? ⟨gb219, 2, none⟩ = some (.slice A218_2 ((rd_T100 l0_0 a1).f2).length c218_2) := bc BK219 2
           have hfz47_0 := bf BK219 0
           have hfz47_1 := bf BK219 1
           have hfz47_2 := bf BK219 2
           try go_wp2
           have n0_ := am (blk_drew BK216.out)
           have n1_ := am (blk_drew BK217.out)
           have n2_ := am (blk_drew BK219.out)
           have n3_ := am (below_drew1 HB.out)
           clear BK216
           clear BK217
           clear BK219
           clear HB
           have BK216 := n0_
           have BK217 := n1_
           have BK219 := n2_
           have HB := n3_
           clear n0_ n1_ n2_ n3_
           have p220 : 0 ≤ (x6_2 : Int) := of_decide_eq_true as1
           have q220 : x6_2 < (((rd_T100 l0_0 a1).f2).length : Int) := of_decide_eq_true as1
           obtain ⟨ad220, e220, hx220_0, hx220_1⟩ := at_T102 HR218_2.out x6_2 p220 q220
           have hw220_1 := hx220_1
           have hw220_0 := hx220_0
           cases e220
           replace hx220_0 := (HB.out.cell (World.block_lt_of_cell? w _ hx220_0)).trans hx220_0
           replace hx220_1 := (HB.out.cell (World.block_lt_of_cell? w _ hx220_1)).trans hx220_1
           replace p220 := eq_true p220
           replace q220 := eq_true q220
           refine start_ (n := 9) (S := fun w' => w'.cell? ⟨gb216, 0, none⟩ = some (.slice (some ad218) l0_0.length c0_0) ∧ w'.cell? ⟨gb219, 0, none⟩ = some (.int .i64 ((rd_T100 l0_0 a1).f0)) ∧ w'.cell? ⟨gb219, 1, none⟩ = some (.int .i64 ((rd_T100 l0_0 a1).f1)) ∧ w'.cell? ⟨gb219, 2, none⟩ = some (.slice (some ad220) ((rd_T100 l0_0 a1).f2).length c218_2) ∧ w'.cell? (ad220.add ((x6_2).toNat * 2)) = some (.int .i64 ((rd_T102 ((rd_T100 l0_0 a1).f2) x6_2).f0)) ∧ w'.cell? ⟨(ad220.add ((x6_2).toNat * 2)).block, (ad220.add ((x6_2).toNat * 2)).off + 1, none⟩ = some (.int .i64 ((rd_T102 ((rd_T100 l0_0 a1).f2) x6_2).f1))) (ds := []) #[false, false, false, false, false, false, false, false, false] (by kernel_rfl) rfl rfl ⟨bc BK216 0, bc BK219 0, bc BK219 1, bc BK219 2, ((HB.out.cell (World.block_lt_of_cell? _ _ hw220_0)).trans hw220_0), ((HB.out.cell (World.block_lt_of_cell? _ _ hw220_1)).trans hw220_1)⟩ (fun hHeld => ?_); refine with_tabW spec_l04Func.tab7 spec_l04Func.bits7 (fun HT_ HW_ => ?_)
           generalize wr.drew = w48 at BK216 BK217 BK219 HB hx220_0 hx220_1 hHeld ⊢
           refine pure_ (i := 1) (N := some 56) (v := ?_) (a' := ?_) #[false, true, false, false, false, false, false, false, false] rfl rfl (any_of HT_.out (by kernel_rfl)) (fun _ _ _ h => h) (Or.inl ⟨by rfl, ?_⟩) ?_ ?_
           rotate_left
           ·intro w'
            go_simp
            with_reducible rfl
           rotate_left
           ·simp only [Act.put, sa, sz, ss, i64_w, i32_w]
            rfl
           refine pure_ (i := 2) (N := some 57) (v := ?_) (a' := ?_) #[false, true, true, false, false, false, false, false, false] rfl rfl (any_of HT_.out (by kernel_rfl)) (fun _ _ _ h => h) (Or.inl ⟨by rfl, ?_⟩) ?_ ?_
           rotate_left
           ·intro w'
            go_simp
            with_reducible rfl
           rotate_left
           ·simp only [Act.put, sa, sz, ss, i64_w, i32_w]
            rfl
           refine pure_ (i := 4) (N := some 59) (v := ?_) (a' := ?_) #[false, true, true, false, true, false, false, false, false] rfl rfl (any_of HT_.out (by kernel_rfl)) (fun _ _ _ h => h) (Or.inl ⟨by rfl, ?_⟩) ?_ ?_
           rotate_left
           ·intro w'
            go_simp
            with_reducible rfl
           rotate_left
           ·simp only [Act.put, sa, sz, ss, i64_w, i32_w]
            rfl
           refine take_ (i := 0) (N := some 55) (v := ?_) (a' := ?_) #[true, true, true, false, true, false, false, false, false] rfl rfl (take_ofW HT_.out HW_.out (by kernel_rfl)) (fun _ _ _ h => h) (Or.inl ⟨by rfl, ?_⟩) hHeld ?_ ?_
           rotate_left
           ·rintro w' ⟨s0, s1, s2, s3, s4, s5⟩
            go_simp
            with_reducible rfl
           rotate_left
           ·simp only [Act.put, sa, sz, ss, i64_w, i32_w]
            rfl
           refine take_ (i := 3) (N := some 58) (v := ?_) (a' := ?_) #[true, true, true, true, true, false, false, false, false] rfl rfl (take_ofW HT_.out HW_.out (by kernel_rfl)) (fun _ _ _ h => h) (Or.inl ⟨by rfl, ?_⟩) hHeld ?_ ?_
           rotate_left
           ·rintro w' ⟨s0, s1, s2, s3, s4, s5⟩
            go_simp
            with_reducible rfl
           rotate_left
           ·simp only [Act.put, sa, sz, ss, i64_w, i32_w]
            rfl
           refine pure_ (i := 5) (N := some 60) (v := ?_) (a' := ?_) #[true, true, true, true, true, true, false, false, false] rfl rfl (any_of HT_.out (by kernel_rfl)) (fun _ _ _ h => h) (Or.inl ⟨by rfl, ?_⟩) ?_ ?_
           rotate_left
           ·intro w'
            go_simp
            with_reducible rfl
           rotate_left
           ·simp only [Act.put, sa, sz, ss, i64_w, i32_w]
            rfl
           refine take_ (i := 6) (N := some 61) (v := ?_) (a' := ?_) #[true, true, true, true, true, true, true, false, false] rfl rfl (take_ofW HT_.out HW_.out (by kernel_rfl)) (fun _ _ _ h => h) (Or.inl ⟨by rfl, ?_⟩) hHeld ?_ ?_
           rotate_left
           ·rintro w' ⟨s0, s1, s2, s3, s4, s5⟩
            go_simp
            with_reducible rfl
           rotate_left
           ·simp only [Act.put, sa, sz, ss, i64_w, i32_w]
            rfl
           refine one_ (i := 7) (N := some 62) #[true, true, true, true, true, true, true, true, false] rfl rfl (one_of HT_.out (by kernel_rfl)) (by decide) (fun K hK => ?_)
           refine goes_ Try.func191 (by kernel_rfl) rfl #[.agg #[.slice (some ad218) l0_0.length c0_0], .int .i64 a1, .agg #[.int .i64 ((rd_T102 ((rd_T100 l0_0 a1).f2) x6_2).f0), .int .i64 ((rd_T102 ((rd_T100 l0_0 a1).f2) x6_2).f1)]] (by rfl) rfl rfl gl ?_
           with_reducible refine (spec_InsRight.calls k2 _ _ l0_0 a1 ((rd_T102 ((rd_T100 l0_0 a1).f2) x6_2).f0) ((rd_T102 ((rd_T100 l0_0 a1).f2) x6_2).f1) true _ ?side1 ?side2 A43.out).mono ?_
           (case side1 => exact cc (Kd.C_below HR0_0.out HB.out))
           (case side2 => exact HC0_0.out)
           rintro e w49 ⟨rfl, hb⟩
           refine ⟨_, rfl, ?_⟩
           have n0_ := am (blk_below (g := gb216) (o := .cells #[.slice (some ad218) l0_0.length c0_0] 30 (0, 0)) (bp BK216) hb)
           have n1_ := am (blk_below (g := gb217) (o := .cells #[.int .i64 x218000_2, .int .i64 x218001_2, .int .i64 x218002_2] 84 (0, 0)) (bp BK217) hb)
           have n2_ := am (blk_below (g := gb219) (o := .cells #[.int .i64 ((rd_T100 l0_0 a1).f0), .int .i64 ((rd_T100 l0_0 a1).f1), .slice (some ad220) ((rd_T100 l0_0 a1).f2).length c218_2] 100 (0, 0)) (bp BK219) hb)
           have n3_ := am (below_step (bw HB) hb)
           clear BK216
           clear BK217
           clear BK219
           clear HB
           have BK216 := n0_
           have BK217 := n1_
           have BK219 := n2_
           have HB := n3_
           clear n0_ n1_ n2_ n3_
           (try clear hb)
           (try clear hb2)
           (try clear hk)
           (try clear hi)
           refine hK.out _ _ ⟨bc BK216 0, bc BK219 0, bc BK219 1, bc BK219 2, ((HB.out.cell (World.block_lt_of_cell? _ _ hw220_0)).trans hw220_0), ((HB.out.cell (World.block_lt_of_cell? _ _ hw220_1)).trans hw220_1)⟩ (fun hHeld => ?_)
           clear hK K
           refine norm_ (a' := ?_) ?_ ?_
           rotate_left
           ·show Act.put _ (some 62) _ = _
            simp only [Act.put, sa, sz, ss, i64_w, i32_w]
            rfl
           refine pure_ (i := 8) (N := some 63) (v := ?_) (a' := ?_) #[true, true, true, true, true, true, true, true, true] rfl rfl (any_of HT_.out (by kernel_rfl)) (fun _ _ _ h => h) (Or.inl ⟨by rfl, ?_⟩) ?_ ?_
           rotate_left
           ·intro w'
            go_simp
            with_reducible rfl
           rotate_left
           ·simp only [Act.put, sa, sz, ss, i64_w, i32_w]
            rfl
           refine done_ (done_of HT_.out (by kernel_rfl)) ?_
           try go_wp2
           go_roundg k2
           case measure => have := HJ4.out; have := HK2.out; omega
           case rel => exact ⟨(wrap64 (x6_2 + 1)), (x218000_2), (x218001_2), (x218002_2), dr, H', ⟨by have := HJ4.out; have := HK2.out; omega⟩, ⟨bp BK216⟩, ⟨bp BK217⟩, ⟨bp BK219⟩, ⟨bw HB⟩⟩
          ·replace c44 := Bool.eq_false_iff.mpr c44
           subst c44
           have H1 : (some (a1, x6_2, 1)) = some (r1, r2, r3) := by rw [if_neg (show ¬ (false = true) by decide)] at H; exact H
           clear H
           have H := H1
           clear H1
           simp only [Option.some.injEq, Prod.mk.injEq] at H
           obtain ⟨rfl, rfl, rfl⟩ := H
           have hnb50 := NB219_216.out
           have hnc50 := NB216_219.out
           have hnb51 := NB219_217.out
           have hnc51 := NB217_219.out
           have hcz52_0 : wr.cell? ⟨gb219, 0, none⟩ = some (.int .i64 ((rd_T100 l0_0 a1).f0)) := bc BK219 0
           have hcz52_1 : wr.cell? ⟨gb219, 1, none⟩ = some (.int .i64 ((rd_T100 l0_0 a1).f1)) := bc BK219 1
           have hcz52_2 : wr.cell? ⟨gb219, 2, none⟩ = some (.slice A218_2 ((rd_T100 l0_0 a1).f2).length c218_2) := bc BK219 2
           have hfz52_0 := bf BK219 0
           have hfz52_1 := bf BK219 1
           have hfz52_2 := bf BK219 2
           try go_wp2
           have n0_ := am (blk_drew BK216.out)
           have n1_ := am (blk_drew BK217.out)
           have n2_ := am (blk_drew BK219.out)
           have n3_ := am (below_drew1 HB.out)
           clear BK216
           clear BK217
           clear BK219
           clear HB
           have BK216 := n0_
           have BK217 := n1_
           have BK219 := n2_
           have HB := n3_
           clear n0_ n1_ n2_ n3_
           have p220 : 0 ≤ (x6_2 : Int) := of_decide_eq_true as1
           have q220 : x6_2 < (((rd_T100 l0_0 a1).f2).length : Int) := of_decide_eq_true as1
           obtain ⟨ad220, e220, hx220_0, hx220_1⟩ := at_T102 HR218_2.out x6_2 p220 q220
           have hw220_1 := hx220_1
           have hw220_0 := hx220_0
           cases e220
           replace hx220_0 := (HB.out.cell (World.block_lt_of_cell? w _ hx220_0)).trans hx220_0
           replace hx220_1 := (HB.out.cell (World.block_lt_of_cell? w _ hx220_1)).trans hx220_1
           replace p220 := eq_true p220
           replace q220 := eq_true q220
           refine start_ (n := 9) (S := fun w' => w'.cell? ⟨gb216, 0, none⟩ = some (.slice (some ad218) l0_0.length c0_0) ∧ w'.cell? ⟨gb219, 0, none⟩ = some (.int .i64 ((rd_T100 l0_0 a1).f0)) ∧ w'.cell? ⟨gb219, 1, none⟩ = some (.int .i64 ((rd_T100 l0_0 a1).f1)) ∧ w'.cell? ⟨gb219, 2, none⟩ = some (.slice (some ad220) ((rd_T100 l0_0 a1).f2).length c218_2) ∧ w'.cell? (ad220.add ((x6_2).toNat * 2)) = some (.int .i64 ((rd_T102 ((rd_T100 l0_0 a1).f2) x6_2).f0)) ∧ w'.cell? ⟨(ad220.add ((x6_2).toNat * 2)).block, (ad220.add ((x6_2).toNat * 2)).off + 1, none⟩ = some (.int .i64 ((rd_T102 ((rd_T100 l0_0 a1).f2) x6_2).f1))) (ds := []) #[false, false, false, false, false, false, false, false, false] (by kernel_rfl) rfl rfl ⟨bc BK216 0, bc BK219 0, bc BK219 1, bc BK219 2, ((HB.out.cell (World.block_lt_of_cell? _ _ hw220_0)).trans hw220_0), ((HB.out.cell (World.block_lt_of_cell? _ _ hw220_1)).trans hw220_1)⟩ (fun hHeld => ?_); refine with_tabW spec_l04Func.tab7 spec_l04Func.bits7 (fun HT_ HW_ => ?_)
           generalize wr.drew = w53 at BK216 BK217 BK219 HB hx220_0 hx220_1 hHeld ⊢
           refine pure_ (i := 1) (N := some 56) (v := ?_) (a' := ?_) #[false, true, false, false, false, false, false, false, false] rfl rfl (any_of HT_.out (by kernel_rfl)) (fun _ _ _ h => h) (Or.inl ⟨by rfl, ?_⟩) ?_ ?_
           rotate_left
           ·intro w'
            go_simp
            with_reducible rfl
           rotate_left
           ·simp only [Act.put, sa, sz, ss, i64_w, i32_w]
            rfl
           refine pure_ (i := 2) (N := some 57) (v := ?_) (a' := ?_) #[false, true, true, false, false, false, false, false, false] rfl rfl (any_of HT_.out (by kernel_rfl)) (fun _ _ _ h => h) (Or.inl ⟨by rfl, ?_⟩) ?_ ?_
           rotate_left
           ·intro w'
            go_simp
            with_reducible rfl
           rotate_left
           ·simp only [Act.put, sa, sz, ss, i64_w, i32_w]
            rfl
           refine pure_ (i := 4) (N := some 59) (v := ?_) (a' := ?_) #[false, true, true, false, true, false, false, false, false] rfl rfl (any_of HT_.out (by kernel_rfl)) (fun _ _ _ h => h) (Or.inl ⟨by rfl, ?_⟩) ?_ ?_
           rotate_left
           ·intro w'
            go_simp
            with_reducible rfl
           rotate_left
           ·simp only [Act.put, sa, sz, ss, i64_w, i32_w]
            rfl
           refine take_ (i := 0) (N := some 55) (v := ?_) (a' := ?_) #[true, true, true, false, true, false, false, false, false] rfl rfl (take_ofW HT_.out HW_.out (by kernel_rfl)) (fun _ _ _ h => h) (Or.inl ⟨by rfl, ?_⟩) hHeld ?_ ?_
           rotate_left
           ·rintro w' ⟨s0, s1, s2, s3, s4, s5⟩
            go_simp
            with_reducible rfl
           rotate_left
           ·simp only [Act.put, sa, sz, ss, i64_w, i32_w]
            rfl
           refine take_ (i := 3) (N := some 58) (v := ?_) (a' := ?_) #[true, true, true, true, true, false, false, false, false] rfl rfl (take_ofW HT_.out HW_.out (by kernel_rfl)) (fun _ _ _ h => h) (Or.inl ⟨by rfl, ?_⟩) hHeld ?_ ?_
           rotate_left
           ·rintro w' ⟨s0, s1, s2, s3, s4, s5⟩
            go_simp
            with_reducible rfl
           rotate_left
           ·simp only [Act.put, sa, sz, ss, i64_w, i32_w]
            rfl
           refine pure_ (i := 5) (N := some 60) (v := ?_) (a' := ?_) #[true, true, true, true, true, true, false, false, false] rfl rfl (any_of HT_.out (by kernel_rfl)) (fun _ _ _ h => h) (Or.inl ⟨by rfl, ?_⟩) ?_ ?_
           rotate_left
           ·intro w'
            go_simp
            with_reducible rfl
           rotate_left
           ·simp only [Act.put, sa, sz, ss, i64_w, i32_w]
            rfl
           refine take_ (i := 6) (N := some 61) (v := ?_) (a' := ?_) #[true, true, true, true, true, true, true, false, false] rfl rfl (take_ofW HT_.out HW_.out (by kernel_rfl)) (fun _ _ _ h => h) (Or.inl ⟨by rfl, ?_⟩) hHeld ?_ ?_
           rotate_left
           ·rintro w' ⟨s0, s1, s2, s3, s4, s5⟩
            go_simp
            with_reducible rfl
           rotate_left
           ·simp only [Act.put, sa, sz, ss, i64_w, i32_w]
            rfl
           refine one_ (i := 7) (N := some 62) #[true, true, true, true, true, true, true, true, false] rfl rfl (one_of HT_.out (by kernel_rfl)) (by decide) (fun K hK => ?_)
           refine goes_ Try.func191 (by kernel_rfl) rfl #[.agg #[.slice (some ad218) l0_0.length c0_0], .int .i64 a1, .agg #[.int .i64 ((rd_T102 ((rd_T100 l0_0 a1).f2) x6_2).f0), .int .i64 ((rd_T102 ((rd_T100 l0_0 a1).f2) x6_2).f1)]] (by rfl) rfl rfl gl ?_
           with_reducible refine (spec_InsRight.calls k2 _ _ l0_0 a1 ((rd_T102 ((rd_T100 l0_0 a1).f2) x6_2).f0) ((rd_T102 ((rd_T100 l0_0 a1).f2) x6_2).f1) false _ ?side1 ?side2 A43.out).mono ?_
           (case side1 => exact cc (Kd.C_below HR0_0.out HB.out))
           (case side2 => exact HC0_0.out)
           rintro e w54 ⟨rfl, hb⟩
           refine ⟨_, rfl, ?_⟩
           have n0_ := am (blk_below (g := gb216) (o := .cells #[.slice (some ad218) l0_0.length c0_0] 30 (0, 0)) (bp BK216) hb)
           have n1_ := am (blk_below (g := gb217) (o := .cells #[.int .i64 x218000_2, .int .i64 x218001_2, .int .i64 x218002_2] 84 (0, 0)) (bp BK217) hb)
           have n2_ := am (blk_below (g := gb219) (o := .cells #[.int .i64 ((rd_T100 l0_0 a1).f0), .int .i64 ((rd_T100 l0_0 a1).f1), .slice (some ad220) ((rd_T100 l0_0 a1).f2).length c218_2] 100 (0, 0)) (bp BK219) hb)
           have n3_ := am (below_step (bw HB) hb)
           clear BK216
           clear BK217
           clear BK219
           clear HB
           have BK216 := n0_
           have BK217 := n1_
           have BK219 := n2_
           have HB := n3_
           clear n0_ n1_ n2_ n3_
           (try clear hb)
           (try clear hb2)
           (try clear hk)
           (try clear hi)
           refine hK.out _ _ ⟨bc BK216 0, bc BK219 0, bc BK219 1, bc BK219 2, ((HB.out.cell (World.block_lt_of_cell? _ _ hw220_0)).trans hw220_0), ((HB.out.cell (World.block_lt_of_cell? _ _ hw220_1)).trans hw220_1)⟩ (fun hHeld => ?_)
           clear hK K
           refine norm_ (a' := ?_) ?_ ?_
           rotate_left
           ·show Act.put _ (some 62) _ = _
            simp only [Act.put, sa, sz, ss, i64_w, i32_w]
            rfl
           refine pure_ (i := 8) (N := some 63) (v := ?_) (a' := ?_) #[true, true, true, true, true, true, true, true, true] rfl rfl (any_of HT_.out (by kernel_rfl)) (fun _ _ _ h => h) (Or.inl ⟨by rfl, ?_⟩) ?_ ?_
           rotate_left
           ·intro w'
            go_simp
            with_reducible rfl
           rotate_left
           ·simp only [Act.put, sa, sz, ss, i64_w, i32_w]
            rfl
           refine done_ (done_of HT_.out (by kernel_rfl)) ?_
           have hnb55 := NB217_216.out
           have hnc55 := NB216_217.out
           have hcz56_0 : w54.cell? ⟨gb217, 0, none⟩ = some (.int .i64 x218000_2) := bc BK217 0
           have hcz56_1 : w54.cell? ⟨gb217, 1, none⟩ = some (.int .i64 x218001_2) := bc BK217 1
           have hcz56_2 : w54.cell? ⟨gb217, 2, none⟩ = some (.int .i64 x218002_2) := bc BK217 2
           have hfz56_0 := bf BK217 0
           have hfz56_1 := bf BK217 1
           have hfz56_2 := bf BK217 2
           try go_wp2
           refine bodyPost_ret (results_cell_row rfl _ _ gb217 84 #[.int .i64 a1, .int .i64 x6_2, .int .i64 1] (0, 0) _ rfl (by (with_reducible repeat (first | apply dN | apply dW | apply dA)); refine blk_put (cs := #[.int .i64 a1, .int .i64 x6_2, .int .i64 x218002_2]) ?_ 2 _ rfl; (with_reducible repeat (first | apply dN | apply dW | apply dA)); refine blk_put (cs := #[.int .i64 a1, .int .i64 x218001_2, .int .i64 x218002_2]) ?_ 1 _ rfl; (with_reducible repeat (first | apply dN | apply dW | apply dA)); refine blk_put (cs := #[.int .i64 x218000_2, .int .i64 x218001_2, .int .i64 x218002_2]) ?_ 0 _ rfl; exact bp BK217) Try.underlying84 rfl (by kernel_rfl)) rfl ?_
           exact ⟨er, bw HB⟩
         ·rw [if_neg c42] at H
          exact absurd H (by simp)
        ·rw [if_neg c41] at H
         have c41b0 := decide_eq_false c41
         clear c41
         replace H := Option.bind_eq_some_iff.mp H
         obtain ⟨⟨t222, t225, t226, t227⟩, A570, H⟩ := H
         replace H : (some (t225, t226, t227)) = some (r1, r2, r3) := H
         have A57 := am A570
         clear A570
         simp only [Option.some.injEq, Prod.mk.injEq] at H
         obtain ⟨rfl, rfl, rfl⟩ := H
         have hnb58 := NB219_216.out
         have hnc58 := NB216_219.out
         have hnb59 := NB219_217.out
         have hnc59 := NB217_219.out
         have hcz60_0 : wr.cell? ⟨gb219, 0, none⟩ = some (.int .i64 ((rd_T100 l0_0 a1).f0)) := bc BK219 0
         have hcz60_1 : wr.cell? ⟨gb219, 1, none⟩ = some (.int .i64 ((rd_T100 l0_0 a1).f1)) := bc BK219 1
         have hcz60_2 : wr.cell? ⟨gb219, 2, none⟩ = some (.slice A218_2 ((rd_T100 l0_0 a1).f2).length c218_2) := bc BK219 2
         have hfz60_0 := bf BK219 0
         have hfz60_1 := bf BK219 1
         have hfz60_2 := bf BK219 2
         have hnb61 := NB216_217.out
         have hnc61 := NB217_216.out
         have hcz62_0 : wr.cell? ⟨gb216, 0, none⟩ = some (.slice (some ad218) l0_0.length c0_0) := bc BK216 0
         have hfz62_0 := bf BK216 0
         go_wp2_with (first | ((with_reducible refine gate_callee (f := 58) rfl ?_); refine goesL_ (some 70) rfl rfl Try.func58 (by kernel_rfl) rfl #[.agg #[.slice (some ad218) l0_0.length c0_0], .int .i64 a1] rfl gl ?_; (with_reducible refine (spec_l04Heights.calls k2 _ _ l0_0 a1 t222 t225 t226 t227 _ ?side1 ?side2 A57.out).mono ?_); (case side1 => exact cc (Kd.C_below HR0_0.out HB.out)); (case side2 => exact HC0_0.out); rintro e w63 ⟨v223, rfl, ho0, hb⟩; refine ⟨_, rfl, ?_⟩; have HO224 := am (Kd.R_lower ho0 (below_size (bw HB))); replace BK216 := am (blk_below (g := gb216) (o := .cells #[.slice (some ad218) l0_0.length c0_0] 30 (0, 0)) (bp BK216) hb); replace BK217 := am (blk_below (g := gb217) (o := .cells #[.int .i64 x218000_2, .int .i64 x218001_2, .int .i64 x218002_2] 84 (0, 0)) (bp BK217) hb); replace BK219 := am (blk_below (g := gb219) (o := .cells #[.int .i64 ((rd_T100 l0_0 a1).f0), .int .i64 ((rd_T100 l0_0 a1).f1), .slice A218_2 ((rd_T100 l0_0 a1).f2).length c218_2] 100 (0, 0)) (bp BK219) hb); replace HB := am (below_step (bw HB) hb); (try clear hb); (try clear hb2); (try clear hk); (try clear hi); (try clear ho0)) | ((with_reducible refine gate_dst (N := 8) rfl ?_); (try (refine gate_guard (by rfl) ?_; dsimp only)); refine box_event ?hg (N := 8) ?hd (cs := #[.int .i64 0, .int .i64 0, .int .i64 0]) (t := 84) ?hr ?_; (case hd => rfl); (case hg => rfl); (case hr => exact gs); intro gb228 hg w64 hbox hb; replace HO224 := am (Kd.R_below (kR HO224) hb); have BK228 := am (hbox); have GW228 := am ((by rw [hg]; exact (below_size (bw HB)) : w.heap.size ≤ gb228)); have GE228 := am ((by rw [hg]; exact (below_size (bw HB)) : w.heap.size ≤ gb228)); replace HB := am (below_step (bw HB) hb); have NB216_228 := am ((by rw [hg]; exact Nat.ne_of_lt (blk_lt (g := gb216) (o := .cells #[.slice (some ad218) l0_0.length c0_0] 30 (0, 0)) (bp BK216)) : gb216 ≠ gb228)); have NB228_216 := am ((by rw [hg]; exact Nat.ne_of_gt (blk_lt (g := gb216) (o := .cells #[.slice (some ad218) l0_0.length c0_0] 30 (0, 0)) (bp BK216)) : gb228 ≠ gb216)); replace BK216 := am (blk_below (g := gb216) (o := .cells #[.slice (some ad218) l0_0.length c0_0] 30 (0, 0)) (bp BK216) hb); have NB217_228 := am ((by rw [hg]; exact Nat.ne_of_lt (blk_lt (g := gb217) (o := .cells #[.int .i64 x218000_2, .int .i64 x218001_2, .int .i64 x218002_2] 84 (0, 0)) (bp BK217)) : gb217 ≠ gb228)); have NB228_217 := am ((by rw [hg]; exact Nat.ne_of_gt (blk_lt (g := gb217) (o := .cells #[.int .i64 x218000_2, .int .i64 x218001_2, .int .i64 x218002_2] 84 (0, 0)) (bp BK217)) : gb228 ≠ gb217)); replace BK217 := am (blk_below (g := gb217) (o := .cells #[.int .i64 x218000_2, .int .i64 x218001_2, .int .i64 x218002_2] 84 (0, 0)) (bp BK217) hb); have NB219_228 := am ((by rw [hg]; exact Nat.ne_of_lt (blk_lt (g := gb219) (o := .cells #[.int .i64 ((rd_T100 l0_0 a1).f0), .int .i64 ((rd_T100 l0_0 a1).f1), .slice A218_2 ((rd_T100 l0_0 a1).f2).length c218_2] 100 (0, 0)) (bp BK219)) : gb219 ≠ gb228)); have NB228_219 := am ((by rw [hg]; exact Nat.ne_of_gt (blk_lt (g := gb219) (o := .cells #[.int .i64 ((rd_T100 l0_0 a1).f0), .int .i64 ((rd_T100 l0_0 a1).f1), .slice A218_2 ((rd_T100 l0_0 a1).f2).length c218_2] 100 (0, 0)) (bp BK219)) : gb228 ≠ gb219)); replace BK219 := am (blk_below (g := gb219) (o := .cells #[.int .i64 ((rd_T100 l0_0 a1).f0), .int .i64 ((rd_T100 l0_0 a1).f1), .slice A218_2 ((rd_T100 l0_0 a1).f2).length c218_2] 100 (0, 0)) (bp BK219) hb); clear hb hbox hg; have hnb65 := NB228_216.out; have hnc65 := NB216_228.out; have hnb66 := NB228_217.out; have hnc66 := NB217_228.out; have hnb67 := NB228_219.out; have hnc67 := NB219_228.out; have hcz68_0 : w64.cell? ⟨gb228, 0, none⟩ = some (.int .i64 0) := bc BK228 0; have hcz68_1 : w64.cell? ⟨gb228, 1, none⟩ = some (.int .i64 0) := bc BK228 1; have hcz68_2 : w64.cell? ⟨gb228, 2, none⟩ = some (.int .i64 0) := bc BK228 2; have hfz68_0 := bf BK228 0; have hfz68_1 := bf BK228 1; have hfz68_2 := bf BK228 2; have hcz69_0 : w64.cell? ⟨gb217, 0, none⟩ = some (.int .i64 x218000_2) := bc BK217 0; have hcz69_1 : w64.cell? ⟨gb217, 1, none⟩ = some (.int .i64 x218001_2) := bc BK217 1; have hcz69_2 : w64.cell? ⟨gb217, 2, none⟩ = some (.int .i64 x218002_2) := bc BK217 2; have hfz69_0 := bf BK217 0; have hfz69_1 := bf BK217 1; have hfz69_2 := bf BK217 2))
         refine bodyPost_ret (results_cell_row rfl _ _ gb217 84 #[.int .i64 t225, .int .i64 t226, .int .i64 t227] (0, 0) _ rfl (by (with_reducible repeat (first | apply dN | apply dW | apply dA)); refine blk_put (cs := #[.int .i64 t225, .int .i64 t226, .int .i64 x218002_2]) ?_ 2 _ rfl; (with_reducible repeat (first | apply dN | apply dW | apply dA)); refine blk_put (cs := #[.int .i64 t225, .int .i64 x218001_2, .int .i64 x218002_2]) ?_ 1 _ rfl; (with_reducible repeat (first | apply dN | apply dW | apply dA)); refine blk_put (cs := #[.int .i64 x218000_2, .int .i64 x218001_2, .int .i64 x218002_2]) ?_ 0 _ rfl; (with_reducible repeat (first | apply dN | apply dW | apply dA)); refine blk_far ?_ NB217_228.out _; (with_reducible repeat (first | apply dN | apply dW | apply dA)); refine blk_far ?_ NB217_228.out _; (with_reducible repeat (first | apply dN | apply dW | apply dA)); refine blk_far ?_ NB217_228.out _; exact bp BK217) Try.underlying84 rfl (by kernel_rfl)) rfl ?_
         exact ⟨er, bw HB⟩
  ·rw [if_neg c4] at H
   exact absurd H (by simp)
 ·rw [if_neg c3] at H
  exact absurd H (by simp)

mutual
def spec_Verify.j0 : Nat → Bool → List (S100) → Option (Int × Int × Int)
 | 0, _, _ => none
 | k + 1, x14, x230000 => if x14 = true then (some (0, 0, 1)) else (spec_Verify.l0 k 0 x230000)
def spec_Verify.l0 : Nat → Int → List (S100) → Option (Int × Int × Int)
 | 0, _, _ => none
 | k + 1, x3, x230000 => if x3 < (x230000.length : Int) then ((spec_l04Func.f k x230000 x3).bind fun bt231 => (if bt231.2.2 = 0 then (spec_Verify.l0 k (wrap64 (x3 + 1)) x230000) else (some (bt231.1, bt231.2.1, bt231.2.2)))) else (some (0, 0, 0))
end
def spec_Verify.f (k : Nat) (l0_0 : List (S100)) : Option (Int × Int × Int) := if (l0_0.length : Int) < 1 then (spec_Verify.j0 k true l0_0) else (spec_Verify.j0 k (decide ((l0_0.length : Int) > 6)) l0_0)
theorem spec_Verify.mono_l : ∀ k, (∀ y0 y1, LeO (spec_Verify.j0 k y0 y1) (spec_Verify.j0 (k + 1) y0 y1)) ∧ (∀ y0 y1, LeO (spec_Verify.l0 k y0 y1) (spec_Verify.l0 (k + 1) y0 y1))
 | 0 => ⟨fun _ _ r h => by simp [spec_Verify.j0] at h, fun _ _ r h => by simp [spec_Verify.l0] at h⟩
 | k + 1 => by
  obtain ⟨ih0, ih1⟩ := spec_Verify.mono_l k
  refine ⟨?_, ?_⟩
  ·intro y0 y1
   unfold spec_Verify.j0
   repeat' first
   | (with_reducible exact ih0 _ _)
   | (with_reducible exact ih1 _ _)
   | (with_reducible exact spec_l04Func.mono _ _ _)
   | (with_reducible exact LeO.refl _)
   | (with_reducible exact LeO.none _)
   | (with_reducible refine LeO.ite ?_ ?_)
   | (with_reducible refine LeO.bind ?_ (fun _ => ?_))
  ·intro y0 y1
   unfold spec_Verify.l0
   repeat' first
   | (with_reducible exact ih0 _ _)
   | (with_reducible exact ih1 _ _)
   | (with_reducible exact spec_l04Func.mono _ _ _)
   | (with_reducible exact LeO.refl _)
   | (with_reducible exact LeO.none _)
   | (with_reducible refine LeO.ite ?_ ?_)
   | (with_reducible refine LeO.bind ?_ (fun _ => ?_))
theorem spec_Verify.mono : ∀ a0 k, LeO (spec_Verify.f k a0) (spec_Verify.f (k + 1) a0) := by
 intro a0 k
 obtain ⟨ih0, ih1⟩ := spec_Verify.mono_l k
 unfold spec_Verify.f
 repeat' first
   | (with_reducible exact ih0 _ _)
   | (with_reducible exact ih1 _ _)
   | (with_reducible exact spec_l04Func.mono _ _ _)
   | (with_reducible exact LeO.refl _)
   | (with_reducible exact LeO.none _)
   | (with_reducible refine LeO.ite ?_ ?_)
   | (with_reducible refine LeO.bind ?_ (fun _ => ?_))
theorem spec_Verify.calls (k : Nat) (A0_0 : Option Addr) (c0_0 : Nat) (l0_0 : List (S100)) (r1 : Int) (r2 : Int) (r3 : Int) (w : World) (hr0_0 : Kd.C k100 w A0_0 l0_0.length l0_0) (hc0_0 : l0_0.length ≤ c0_0) (h : spec_Verify.f k l0_0 = some (r1, r2, r3)) :
  Calls Try.prog 124 #[.agg #[.slice A0_0 l0_0.length c0_0]] w fun e w' => e = .returned (.agg #[.int .i64 r1, .int .i64 r2, .int .i64 r3]) ∧ Below w.heap.size w w' := by
 have hu30 := Try.underlying30
 have hu84 := Try.underlying84
 have HR0_0 := am hr0_0
 have HC0_0 := am hc0_0
 clear hr0_0 hc0_0
 have HB := am (Below.refl w.heap.size w)
 have H : (if (l0_0.length : Int) < 1 then (spec_Verify.j0 k true l0_0) else (spec_Verify.j0 k (decide ((l0_0.length : Int) > 6)) l0_0)) = some (r1, r2, r3) := h
 clear h
 have HC2 := am H
 clear H
 go_enter Try.func124, Try.ntmps124
 go_upto_region 1 with (first | ((with_reducible refine gate_dst (N := 1) rfl ?_); (try (refine gate_guard (by rfl) ?_; dsimp only)); refine box_event ?hg (N := 1) ?hd (cs := #[.slice A0_0 l0_0.length c0_0]) (t := 30) ?hr ?_; (case hd => rfl); (case hg => rfl); (case hr => exact gs); intro gb229 hg w3 hbox hb; have BK229 := am (hbox); have GW229 := am ((by rw [hg]; exact (below_size (bw HB)) : w.heap.size ≤ gb229)); have GE229 := am ((by rw [hg]; exact (below_size (bw HB)) : w.heap.size ≤ gb229)); replace HB := am (below_step (bw HB) hb); clear hb hbox hg) | ((with_reducible refine gate_dst (N := 2) rfl ?_); (try (refine gate_guard (by rfl) ?_; dsimp only)); refine box_event ?hg (N := 2) ?hd (cs := #[.int .i64 0, .int .i64 0, .int .i64 0]) (t := 84) ?hr ?_; (case hd => rfl); (case hg => rfl); (case hr => exact gs); intro gb230 hg w4 hbox hb; have BK230 := am (hbox); have GW230 := am ((by rw [hg]; exact (below_size (bw HB)) : w.heap.size ≤ gb230)); have GE230 := am ((by rw [hg]; exact (below_size (bw HB)) : w.heap.size ≤ gb230)); replace HB := am (below_step (bw HB) hb); have NB229_230 := am ((by rw [hg]; exact Nat.ne_of_lt (blk_lt (g := gb229) (o := .cells #[.slice A0_0 l0_0.length c0_0] 30 (0, 0)) (bp BK229)) : gb229 ≠ gb230)); have NB230_229 := am ((by rw [hg]; exact Nat.ne_of_gt (blk_lt (g := gb229) (o := .cells #[.slice A0_0 l0_0.length c0_0] 30 (0, 0)) (bp BK229)) : gb230 ≠ gb229)); replace BK229 := am (blk_below (g := gb229) (o := .cells #[.slice A0_0 l0_0.length c0_0] 30 (0, 0)) (bp BK229) hb); clear hb hbox hg))
 (try simp only [Act.put, sa, sz, ss])
 go_cut [14] (fun v14 wc => ∃ (kq : Nat) (x14_1 : Bool), v14 = .bool x14_1 ∧ Aside0 (spec_Verify.j0 kq x14_1 l0_0 = some (r1, r2, r3)) ∧ Aside0 (kq ≤ k) ∧ Aside0 (wc.heap[gb229]? = some (.cells #[(.slice A0_0 l0_0.length c0_0)] 30 (0, 0))) ∧ Aside0 (wc.heap[gb230]? = some (.cells #[.int .i64 0, .int .i64 0, .int .i64 0] 84 (0, 0))) ∧ Aside0 (Below w.heap.size w wc))
 case first =>
  have H := HC2.out
  clear HC2
  by_cases c5 : (l0_0.length : Int) < 1
  ·rw [if_pos c5] at H
   have c5b0 := decide_eq_true c5
   have c5b1 : decide (l0_0.length < 1) = true := decide_eq_true (by omega)
   clear c5
   (first | rw [c5b0] | (simp only [i64_w, i32_w]; rw [c5b0]) | skip)
   have H' := am H
   clear H
   have hnb6 := NB229_230.out
   have hnc6 := NB230_229.out
   have hcz7_0 : w4.cell? ⟨gb229, 0, none⟩ = some (.slice A0_0 l0_0.length c0_0) := bc BK229 0
   have hfz7_0 := bf BK229 0
   go_wp2
   go_meet
   case rel => exact ⟨_, (true), dr, H', ⟨by first | omega | exact Nat.le_refl _⟩, ⟨bp BK229⟩, ⟨bp BK230⟩, ⟨bw HB⟩⟩
  ·rw [if_neg c5] at H
   have c5b0 := decide_eq_false c5
   have c5b1 : decide (l0_0.length < 1) = false := decide_eq_false (by omega)
   clear c5
   (first | rw [c5b0] | (simp only [i64_w, i32_w]; rw [c5b0]) | skip)
   have H' := am H
   clear H
   have hnb8 := NB229_230.out
   have hnc8 := NB230_229.out
   have hcz9_0 : w4.cell? ⟨gb229, 0, none⟩ = some (.slice A0_0 l0_0.length c0_0) := bc BK229 0
   have hfz9_0 := bf BK229 0
   go_wp2
   go_meet
   case rel => exact ⟨_, (decide ((l0_0.length : Int) > 6)), dr, H', ⟨by first | omega | exact Nat.le_refl _⟩, ⟨bp BK229⟩, ⟨bp BK230⟩, ⟨bw HB⟩⟩
 case rest =>
  clear HC2
  (try clear c1); (try clear p2); (try clear c5); (try clear c5b0); (try clear c5b1); (try clear c6); (try clear c8); (try clear hcz7_0); (try clear hcz9_0); (try clear hfz7_0); (try clear hfz9_0)
  obtain ⟨kq, x14_1, rfl, HA, HJ1, BK229, BK230, HB⟩ := hcut
  cases kq with
  | zero => exact absurd HA.out (by simp [spec_Verify.j0])
  | succ kj1 =>
   have H := HA.out
   clear HA
   simp only [spec_Verify.j0] at H
   by_cases c10 : x14_1 = true
   ·subst c10
    have H1 : (some (0, 0, 1)) = some (r1, r2, r3) := by rw [if_pos rfl] at H; exact H
    clear H
    have H := H1
    clear H1
    simp only [Option.some.injEq, Prod.mk.injEq] at H
    obtain ⟨rfl, rfl, rfl⟩ := H
    have hnb11 := NB230_229.out
    have hnc11 := NB229_230.out
    have hcz12_0 : wc.cell? ⟨gb230, 0, none⟩ = some (.int .i64 0) := bc BK230 0
    have hcz12_1 : wc.cell? ⟨gb230, 1, none⟩ = some (.int .i64 0) := bc BK230 1
    have hcz12_2 : wc.cell? ⟨gb230, 2, none⟩ = some (.int .i64 0) := bc BK230 2
    have hfz12_0 := bf BK230 0
    have hfz12_1 := bf BK230 1
    have hfz12_2 := bf BK230 2
    go_wp2
    refine bodyPost_ret (results_cell_row rfl _ _ gb230 84 #[.int .i64 0, .int .i64 0, .int .i64 1] (0, 0) _ rfl (by (with_reducible repeat (first | apply dN | apply dW | apply dA)); refine blk_put (cs := #[.int .i64 0, .int .i64 0, .int .i64 0]) ?_ 2 _ rfl; (with_reducible repeat (first | apply dN | apply dW | apply dA)); refine blk_put (cs := #[.int .i64 0, .int .i64 0, .int .i64 0]) ?_ 1 _ rfl; (with_reducible repeat (first | apply dN | apply dW | apply dA)); refine blk_put (cs := #[.int .i64 0, .int .i64 0, .int .i64 0]) ?_ 0 _ rfl; exact bp BK230) Try.underlying84 rfl (by kernel_rfl)) rfl ?_
    exact ⟨er, bw HB⟩
   ·replace c10 := Bool.eq_false_iff.mpr c10
    subst c10
    have H1 : (spec_Verify.l0 kj1 0 l0_0) = some (r1, r2, r3) := by rw [if_neg (show ¬ (false = true) by decide)] at H; exact H
    clear H
    have H := H1
    clear H1
    have H' := am H
    clear H
    go_wp2
    go_loopg [3] kj1 (fun kq v3 w' => ∃ (x3_2 : Int) (x231000_2 : Int) (x231001_2 : Int) (x231002_2 : Int), v3 = .int .i64 x3_2 ∧ Aside0 (spec_Verify.l0 kq x3_2 l0_0 = some (r1, r2, r3)) ∧ Aside0 (kq ≤ kj1) ∧ Aside0 (w'.heap[gb229]? = some (.cells #[(.slice A0_0 l0_0.length c0_0)] 30 (0, 0))) ∧ Aside0 (w'.heap[gb230]? = some (.cells #[.int .i64 x231000_2, .int .i64 x231001_2, .int .i64 x231002_2] 84 (0, 0))) ∧ Aside0 (Below w.heap.size w w'))
    case atStart => exact ⟨(0), (0), (0), (0), dr, H', ⟨Nat.le_refl _⟩, ⟨bp BK229⟩, ⟨bp BK230⟩, ⟨bw HB⟩⟩
    case round =>
     clear H'
     (try clear c1); (try clear p2); (try clear c5); (try clear c5b0); (try clear c5b1); (try clear c6); (try clear c8); (try clear c10); (try clear c11); (try clear c12); (try clear hcz12_0); (try clear hcz12_1); (try clear hcz12_2); (try clear hcz7_0); (try clear hcz9_0); (try clear hfz12_0); (try clear hfz12_1); (try clear hfz12_2); (try clear hfz7_0); (try clear hfz9_0); (try clear p2)
     obtain ⟨x3_2, x231000_2, x231001_2, x231002_2, rfl, HA, HK2, BK229, BK230, HB⟩ := hrel
     cases gk with
     | zero => exact absurd HA.out (by simp [spec_Verify.l0])
     | succ k2 =>
      have H := HA.out
      clear HA
      simp only [spec_Verify.l0] at H
      by_cases c13 : x3_2 < (l0_0.length : Int)
      ·rw [if_pos c13] at H
       have c13b0 := decide_eq_true c13
       clear c13
       replace H := Option.bind_eq_some_iff.mp H
       obtain ⟨⟨t231, t232, t233⟩, A140, H⟩ := H
       replace H : (if t233 = 0 then (spec_Verify.l0 k2 (wrap64 (x3_2 + 1)) l0_0) else (some (t231, t232, t233))) = some (r1, r2, r3) := H
       have A14 := am A140
       clear A140
       by_cases c15 : t233 = 0
       ·rw [if_pos c15] at H
        have c15b0 : (t233 == 0) = true := beq_iff_eq.mpr c15
        have c15b1 : (t233 != 0) = false := bne_eq_false_iff_eq.mpr c15
        clear c15
        have H' := am H
        clear H
        have hnb16 := NB229_230.out
        have hnc16 := NB230_229.out
        have hcz17_0 : wr.cell? ⟨gb229, 0, none⟩ = some (.slice A0_0 l0_0.length c0_0) := bc BK229 0
        have hfz17_0 := bf BK229 0
        go_wp2_with (first | ((with_reducible refine gate_callee (f := 172) rfl ?_); refine goesL_ (some 25) rfl rfl Try.func172 (by kernel_rfl) rfl #[.agg #[.slice A0_0 l0_0.length c0_0], .int .i64 x3_2] rfl gl ?_; (with_reducible refine (spec_l04Func.calls k2 _ _ l0_0 x3_2 t231 t232 t233 _ ?side1 ?side2 A14.out).mono ?_); (case side1 => exact cc (Kd.C_below HR0_0.out HB.out)); (case side2 => exact HC0_0.out); rintro e w18 ⟨rfl, hb⟩; refine ⟨_, rfl, ?_⟩; replace BK229 := am (blk_below (g := gb229) (o := .cells #[.slice A0_0 l0_0.length c0_0] 30 (0, 0)) (bp BK229) hb); replace BK230 := am (blk_below (g := gb230) (o := .cells #[.int .i64 x231000_2, .int .i64 x231001_2, .int .i64 x231002_2] 84 (0, 0)) (bp BK230) hb); replace HB := am (below_step (bw HB) hb); (try clear hb); (try clear hb2); (try clear hk); (try clear hi)) | ((with_reducible refine gate_dst (N := 4) rfl ?_); (try (refine gate_guard (by rfl) ?_; dsimp only)); refine box_event ?hg (N := 4) ?hd (cs := #[.int .i64 0, .int .i64 0, .int .i64 0]) (t := 84) ?hr ?_; (case hd => rfl); (case hg => rfl); (case hr => exact gs); intro gb234 hg w19 hbox hb; have BK234 := am (hbox); have GW234 := am ((by rw [hg]; exact (below_size (bw HB)) : w.heap.size ≤ gb234)); have GE234 := am ((by rw [hg]; exact (below_size (bw HB)) : w.heap.size ≤ gb234)); replace HB := am (below_step (bw HB) hb); have NB229_234 := am ((by rw [hg]; exact Nat.ne_of_lt (blk_lt (g := gb229) (o := .cells #[.slice A0_0 l0_0.length c0_0] 30 (0, 0)) (bp BK229)) : gb229 ≠ gb234)); have NB234_229 := am ((by rw [hg]; exact Nat.ne_of_gt (blk_lt (g := gb229) (o := .cells #[.slice A0_0 l0_0.length c0_0] 30 (0, 0)) (bp BK229)) : gb234 ≠ gb229)); replace BK229 := am (blk_below (g := gb229) (o := .cells #[.slice A0_0 l0_0.length c0_0] 30 (0, 0)) (bp BK229) hb); have NB230_234 := am ((by rw [hg]; exact Nat.ne_of_lt (blk_lt (g := gb230) (o := .cells #[.int .i64 x231000_2, .int .i64 x231001_2, .int .i64 x231002_2] 84 (0, 0)) (bp BK230)) : gb230 ≠ gb234)); have NB234_230 := am ((by rw [hg]; exact Nat.ne_of_gt (blk_lt (g := gb230) (o := .cells #[.int .i64 x231000_2, .int .i64 x231001_2, .int .i64 x231002_2] 84 (0, 0)) (bp BK230)) : gb234 ≠ gb230)); replace BK230 := am (blk_below (g := gb230) (o := .cells #[.int .i64 x231000_2, .int .i64 x231001_2, .int .i64 x231002_2] 84 (0, 0)) (bp BK230) hb); clear hb hbox hg; have hnb20 := NB234_229.out; have hnc20 := NB229_234.out; have hnb21 := NB234_230.out; have hnc21 := NB230_234.out; have hcz22_0 : w19.cell? ⟨gb234, 0, none⟩ = some (.int .i64 0) := bc BK234 0; have hcz22_1 : w19.cell? ⟨gb234, 1, none⟩ = some (.int .i64 0) := bc BK234 1; have hcz22_2 : w19.cell? ⟨gb234, 2, none⟩ = some (.int .i64 0) := bc BK234 2; have hfz22_0 := bf BK234 0; have hfz22_1 := bf BK234 1; have hfz22_2 := bf BK234 2))
        go_roundg k2
        case measure => have := HJ1.out; have := HK2.out; omega
        case rel => exact ⟨(wrap64 (x3_2 + 1)), (x231000_2), (x231001_2), (x231002_2), dr, H', ⟨by have := HJ1.out; have := HK2.out; omega⟩, ⟨by (with_reducible repeat (first | apply dN | apply dW | apply dA)); refine blk_far ?_ NB229_234.out _; (with_reducible repeat (first | apply dN | apply dW | apply dA)); refine blk_far ?_ NB229_234.out _; (with_reducible repeat (first | apply dN | apply dW | apply dA)); refine blk_far ?_ NB229_234.out _; exact bp BK229⟩, ⟨by (with_reducible repeat (first | apply dN | apply dW | apply dA)); refine blk_far ?_ NB230_234.out _; (with_reducible repeat (first | apply dN | apply dW | apply dA)); refine blk_far ?_ NB230_234.out _; (with_reducible repeat (first | apply dN | apply dW | apply dA)); refine blk_far ?_ NB230_234.out _; exact bp BK230⟩, ⟨bw HB⟩⟩
       ·rw [if_neg c15] at H
        have c15b0 : (t233 == 0) = false := beq_eq_false_iff_ne.mpr c15
        have c15b1 : (t233 != 0) = true := bne_iff_ne.mpr c15
        simp only [Option.some.injEq, Prod.mk.injEq] at H
        obtain ⟨rfl, rfl, rfl⟩ := H
        have hnb23 := NB229_230.out
        have hnc23 := NB230_229.out
        have hcz24_0 : wr.cell? ⟨gb229, 0, none⟩ = some (.slice A0_0 l0_0.length c0_0) := bc BK229 0
        have hfz24_0 := bf BK229 0
        go_wp2_with (first | ((with_reducible refine gate_callee (f := 172) rfl ?_); refine goesL_ (some 25) rfl rfl Try.func172 (by kernel_rfl) rfl #[.agg #[.slice A0_0 l0_0.length c0_0], .int .i64 x3_2] rfl gl ?_; (with_reducible refine (spec_l04Func.calls k2 _ _ l0_0 x3_2 t231 t232 t233 _ ?side1 ?side2 A14.out).mono ?_); (case side1 => exact cc (Kd.C_below HR0_0.out HB.out)); (case side2 => exact HC0_0.out); rintro e w25 ⟨rfl, hb⟩; refine ⟨_, rfl, ?_⟩; replace BK229 := am (blk_below (g := gb229) (o := .cells #[.slice A0_0 l0_0.length c0_0] 30 (0, 0)) (bp BK229) hb); replace BK230 := am (blk_below (g := gb230) (o := .cells #[.int .i64 x231000_2, .int .i64 x231001_2, .int .i64 x231002_2] 84 (0, 0)) (bp BK230) hb); replace HB := am (below_step (bw HB) hb); (try clear hb); (try clear hb2); (try clear hk); (try clear hi)) | ((with_reducible refine gate_dst (N := 4) rfl ?_); (try (refine gate_guard (by rfl) ?_; dsimp only)); refine box_event ?hg (N := 4) ?hd (cs := #[.int .i64 0, .int .i64 0, .int .i64 0]) (t := 84) ?hr ?_; (case hd => rfl); (case hg => rfl); (case hr => exact gs); intro gb234 hg w26 hbox hb; have BK234 := am (hbox); have GW234 := am ((by rw [hg]; exact (below_size (bw HB)) : w.heap.size ≤ gb234)); have GE234 := am ((by rw [hg]; exact (below_size (bw HB)) : w.heap.size ≤ gb234)); replace HB := am (below_step (bw HB) hb); have NB229_234 := am ((by rw [hg]; exact Nat.ne_of_lt (blk_lt (g := gb229) (o := .cells #[.slice A0_0 l0_0.length c0_0] 30 (0, 0)) (bp BK229)) : gb229 ≠ gb234)); have NB234_229 := am ((by rw [hg]; exact Nat.ne_of_gt (blk_lt (g := gb229) (o := .cells #[.slice A0_0 l0_0.length c0_0] 30 (0, 0)) (bp BK229)) : gb234 ≠ gb229)); replace BK229 := am (blk_below (g := gb229) (o := .cells #[.slice A0_0 l0_0.length c0_0] 30 (0, 0)) (bp BK229) hb); have NB230_234 := am ((by rw [hg]; exact Nat.ne_of_lt (blk_lt (g := gb230) (o := .cells #[.int .i64 x231000_2, .int .i64 x231001_2, .int .i64 x231002_2] 84 (0, 0)) (bp BK230)) : gb230 ≠ gb234)); have NB234_230 := am ((by rw [hg]; exact Nat.ne_of_gt (blk_lt (g := gb230) (o := .cells #[.int .i64 x231000_2, .int .i64 x231001_2, .int .i64 x231002_2] 84 (0, 0)) (bp BK230)) : gb234 ≠ gb230)); replace BK230 := am (blk_below (g := gb230) (o := .cells #[.int .i64 x231000_2, .int .i64 x231001_2, .int .i64 x231002_2] 84 (0, 0)) (bp BK230) hb); clear hb hbox hg; have hnb27 := NB234_229.out; have hnc27 := NB229_234.out; have hnb28 := NB234_230.out; have hnc28 := NB230_234.out; have hcz29_0 : w26.cell? ⟨gb234, 0, none⟩ = some (.int .i64 0) := bc BK234 0; have hcz29_1 : w26.cell? ⟨gb234, 1, none⟩ = some (.int .i64 0) := bc BK234 1; have hcz29_2 : w26.cell? ⟨gb234, 2, none⟩ = some (.int .i64 0) := bc BK234 2; have hfz29_0 := bf BK234 0; have hfz29_1 := bf BK234 1; have hfz29_2 := bf BK234 2; have hcz30_0 : w26.cell? ⟨gb230, 0, none⟩ = some (.int .i64 x231000_2) := bc BK230 0; have hcz30_1 : w26.cell? ⟨gb230, 1, none⟩ = some (.int .i64 x231001_2) := bc BK230 1; have hcz30_2 : w26.cell? ⟨gb230, 2, none⟩ = some (.int .i64 x231002_2) := bc BK230 2; have hfz30_0 := bf BK230 0; have hfz30_1 := bf BK230 1; have hfz30_2 := bf BK230 2))
        refine bodyPost_ret (results_cell_row rfl _ _ gb230 84 #[.int .i64 t231, .int .i64 t232, .int .i64 t233] (0, 0) _ rfl (by (with_reducible repeat (first | apply dN | apply dW | apply dA)); refine blk_put (cs := #[.int .i64 t231, .int .i64 t232, .int .i64 x231002_2]) ?_ 2 _ rfl; (with_reducible repeat (first | apply dN | apply dW | apply dA)); refine blk_put (cs := #[.int .i64 t231, .int .i64 x231001_2, .int .i64 x231002_2]) ?_ 1 _ rfl; (with_reducible repeat (first | apply dN | apply dW | apply dA)); refine blk_put (cs := #[.int .i64 x231000_2, .int .i64 x231001_2, .int .i64 x231002_2]) ?_ 0 _ rfl; (with_reducible repeat (first | apply dN | apply dW | apply dA)); refine blk_far ?_ NB230_234.out _; (with_reducible repeat (first | apply dN | apply dW | apply dA)); refine blk_far ?_ NB230_234.out _; (with_reducible repeat (first | apply dN | apply dW | apply dA)); refine blk_far ?_ NB230_234.out _; exact bp BK230) Try.underlying84 rfl (by kernel_rfl)) rfl ?_
        exact ⟨er, bw HB⟩
      ·rw [if_neg c13] at H
       have c13b0 := decide_eq_false c13
       clear c13
       simp only [Option.some.injEq, Prod.mk.injEq] at H
       obtain ⟨rfl, rfl, rfl⟩ := H
       have hnb31 := NB229_230.out
       have hnc31 := NB230_229.out
       have hcz32_0 : wr.cell? ⟨gb229, 0, none⟩ = some (.slice A0_0 l0_0.length c0_0) := bc BK229 0
       have hfz32_0 := bf BK229 0
       have hcz33_0 : wr.cell? ⟨gb230, 0, none⟩ = some (.int .i64 x231000_2) := bc BK230 0
       have hcz33_1 : wr.cell? ⟨gb230, 1, none⟩ = some (.int .i64 x231001_2) := bc BK230 1
       have hcz33_2 : wr.cell? ⟨gb230, 2, none⟩ = some (.int .i64 x231002_2) := bc BK230 2
       have hfz33_0 := bf BK230 0
       have hfz33_1 := bf BK230 1
       have hfz33_2 := bf BK230 2
       go_wp2
       refine bodyPost_ret (results_cell_row rfl _ _ gb230 84 #[.int .i64 0, .int .i64 0, .int .i64 0] (0, 0) _ rfl (by (with_reducible repeat (first | apply dN | apply dW | apply dA)); refine blk_put (cs := #[.int .i64 0, .int .i64 0, .int .i64 x231002_2]) ?_ 2 _ rfl; (with_reducible repeat (first | apply dN | apply dW | apply dA)); refine blk_put (cs := #[.int .i64 0, .int .i64 x231001_2, .int .i64 x231002_2]) ?_ 1 _ rfl; (with_reducible repeat (first | apply dN | apply dW | apply dA)); refine blk_put (cs := #[.int .i64 x231000_2, .int .i64 x231001_2, .int .i64 x231002_2]) ?_ 0 _ rfl; exact bp BK230) Try.underlying84 rfl (by kernel_rfl)) rfl ?_
       exact ⟨er, bw HB⟩

def spec_l04Right.f (k : Nat) (l0_0 : List (S100)) : Option (Bool) := (spec_Verify.f k l0_0).bind fun bt236 => (some (bt236.2.2 == 0))
theorem spec_l04Right.mono : ∀ a0 k, LeO (spec_l04Right.f k a0) (spec_l04Right.f (k + 1) a0) := by
 intro a0 k
 unfold spec_l04Right.f
 repeat' first
   | (with_reducible exact spec_Verify.mono _ _)
   | (with_reducible exact LeO.refl _)
   | (with_reducible exact LeO.none _)
   | (with_reducible refine LeO.ite ?_ ?_)
   | (with_reducible refine LeO.bind ?_ (fun _ => ?_))
theorem spec_l04Right.calls (k : Nat) (A0_0 : Option Addr) (c0_0 : Nat) (l0_0 : List (S100)) (r : Bool) (w : World) (hr0_0 : Kd.C k100 w A0_0 l0_0.length l0_0) (hc0_0 : l0_0.length ≤ c0_0) (h : spec_l04Right.f k l0_0 = some r) :
  Calls Try.prog 63 #[.agg #[.slice A0_0 l0_0.length c0_0]] w fun e w' => e = .returned (.bool r) ∧ Below w.heap.size w w' := by
 have hu30 := Try.underlying30
 have hu84 := Try.underlying84
 have hfd84_2 : ∀ (v0_ v1_ v2_ : Value) (W : World), (Instr.field 84 (.agg #[v0_, v1_, v2_]) 2).run Try.prog W = .ok (v2_) W := fun v0_ v1_ v2_ W => by kernel_rfl
 have HR0_0 := am hr0_0
 have HC0_0 := am hc0_0
 clear hr0_0 hc0_0
 have HB := am (Below.refl w.heap.size w)
 have H : ((spec_Verify.f k l0_0).bind fun bt236 => (some (bt236.2.2 == 0))) = some r := h
 clear h
 replace H := Option.bind_eq_some_iff.mp H
 obtain ⟨⟨t236, t237, t238⟩, A20, H⟩ := H
 replace H : (some (t238 == 0)) = some r := H
 have A2 := am A20
 clear A20
 obtain rfl := Option.some.inj H
 go_enter Try.func63, Try.ntmps63
 go_wp2_with (first | ((with_reducible refine gate_dst (N := 1) rfl ?_); refine box_event ?hg (N := 1) ?hd (cs := #[.slice A0_0 l0_0.length c0_0]) (t := 30) ?hr ?_; (case hd => rfl); (case hg => rfl); (case hr => exact gs); intro gb235 hg w3 hbox hb; have BK235 := am (hbox); have GW235 := am ((by rw [hg]; exact (below_size (bw HB)) : w.heap.size ≤ gb235)); have GE235 := am ((by rw [hg]; exact (below_size (bw HB)) : w.heap.size ≤ gb235)); replace HB := am (below_step (bw HB) hb); clear hb hbox hg; have hcz4_0 : w3.cell? ⟨gb235, 0, none⟩ = some (.slice A0_0 l0_0.length c0_0) := bc BK235 0; have hfz4_0 := bf BK235 0) | ((with_reducible refine gate_callee (f := 124) rfl ?_); refine goesL_ (some 4) rfl rfl Try.func124 (by kernel_rfl) rfl #[.agg #[.slice A0_0 l0_0.length c0_0]] rfl gl ?_; (with_reducible refine (spec_Verify.calls k _ _ l0_0 t236 t237 t238 _ ?side1 ?side2 A2.out).mono ?_); (case side1 => exact cc (Kd.C_below HR0_0.out HB.out)); (case side2 => exact HC0_0.out); rintro e w5 ⟨rfl, hb⟩; refine ⟨_, rfl, ?_⟩; replace BK235 := am (blk_below (g := gb235) (o := .cells #[.slice A0_0 l0_0.length c0_0] 30 (0, 0)) (bp BK235) hb); replace HB := am (below_step (bw HB) hb); (try clear hb); (try clear hb2); (try clear hk); (try clear hi)))
 go_ret
 exact ⟨er, bw HB⟩

end Go.Proofs.Ytbmjmaahcaoajaa.QFnExactFileBytes
