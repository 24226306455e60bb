import Derived.Test.YtbmjmaahcaoajaaCFnExactHeadersx0
import Derived.Test.YtbmjmaahcaoajaaCFnExactHeadersx5
import Derived.Test.YtbmjmaahcaoajaaCFnExactHeadersx6
namespace Go.Proofs.Ytbmjmaahcaoajaa.QFnExactHeaders
open Go.RowKit Go.Proofs.YtbmjmaahcaoajaaW
open PrintWords PrintLast PrintMore PrintShort PrintIsh
attribute [local go_sem] max2_int min2_int max_two min_two max_three min_three max_four min_four   -- for this text's walks alone
set_option linter.unusedVariables false
set_option maxHeartbeats 8000000
set_option maxRecDepth 100000
set_option linter.unusedSimpArgs false

mutual
def spec_l04Func.j0 : Nat → Int → Bool → List (S100) → Int → Int → List (S102) → Option (Int × Int × Int)
 | 0, _, _, _, _, _, _ => none
 | k + 1, x1, x45, x221000, x224000, x224001, x224002 => if x45 = true then (some (x1, 0, 1)) else (spec_l04Func.l0 k x1 0 x221000 x224000 x224001 x224002)
def spec_l04Func.l0 : Nat → Int → Int → List (S100) → Int → Int → List (S102) → Option (Int × Int × Int)
 | 0, _, _, _, _, _, _ => none
 | k + 1, x1, x6, x221000, x224000, x224001, x224002 => if x6 < (x224002.length : Int) then (if 0 ≤ x6 then ((spec_InsRight.f k x221000 x1 ((rd_T102 x224002 x6).f0) ((rd_T102 x224002 x6).f1)).bind fun t225 => (if t225 = true then (spec_l04Func.l0 k x1 (wrap64 (x6 + 1)) x221000 x224000 x224001 x224002) else (some (x1, x6, 1)))) else (none)) else ((spec_l04Heights.f k x221000 x1).bind fun bt226 => (some (bt226.2.1, bt226.2.2.1, bt226.2.2.2)))
end
def spec_l04Func.f (k : Nat) (l0_0 : List (S100)) (a1 : Int) : Option (Int × Int × Int) := if 0 ≤ a1 then (if a1 < (l0_0.length : Int) then (if ((rd_T100 l0_0 a1).f0) < 0 then (spec_l04Func.j0 k a1 true l0_0 ((rd_T100 l0_0 a1).f0) ((rd_T100 l0_0 a1).f1) ((rd_T100 l0_0 a1).f2)) else (if ((rd_T100 l0_0 a1).f0) > 4 then (spec_l04Func.j0 k a1 true l0_0 ((rd_T100 l0_0 a1).f0) ((rd_T100 l0_0 a1).f1) ((rd_T100 l0_0 a1).f2)) else (if ((rd_T100 l0_0 a1).f1) < ((rd_T100 l0_0 a1).f0) then (spec_l04Func.j0 k a1 true l0_0 ((rd_T100 l0_0 a1).f0) ((rd_T100 l0_0 a1).f1) ((rd_T100 l0_0 a1).f2)) else (if ((rd_T100 l0_0 a1).f1) > 8 then (spec_l04Func.j0 k a1 true l0_0 ((rd_T100 l0_0 a1).f0) ((rd_T100 l0_0 a1).f1) ((rd_T100 l0_0 a1).f2)) else (if (((rd_T100 l0_0 a1).f2).length : Int) < 1 then (spec_l04Func.j0 k a1 true l0_0 ((rd_T100 l0_0 a1).f0) ((rd_T100 l0_0 a1).f1) ((rd_T100 l0_0 a1).f2)) else (spec_l04Func.j0 k a1 (decide ((((rd_T100 l0_0 a1).f2).length : Int) > 60)) l0_0 ((rd_T100 l0_0 a1).f0) ((rd_T100 l0_0 a1).f1) ((rd_T100 l0_0 a1).f2))))))) else (none)) else (none)
theorem spec_l04Func.mono_l : ∀ k, (∀ y0 y1 y2 y3 y4 y5, LeO (spec_l04Func.j0 k y0 y1 y2 y3 y4 y5) (spec_l04Func.j0 (k + 1) y0 y1 y2 y3 y4 y5)) ∧ (∀ y0 y1 y2 y3 y4 y5, LeO (spec_l04Func.l0 k y0 y1 y2 y3 y4 y5) (spec_l04Func.l0 (k + 1) y0 y1 y2 y3 y4 y5))
 | 0 => ⟨fun _ _ _ _ _ _ r h => by simp [spec_l04Func.j0] at h, fun _ _ _ _ _ _ r h => by simp [spec_l04Func.l0] at h⟩
 | k + 1 => by
  obtain ⟨ih0, ih1⟩ := spec_l04Func.mono_l k
  refine ⟨?_, ?_⟩
  ·intro y0 y1 y2 y3 y4 y5
   unfold spec_l04Func.j0
   repeat' first
   | (with_reducible exact ih0 _ _ _ _ _ _)
   | (with_reducible exact ih1 _ _ _ _ _ _)
   | (with_reducible exact spec_InsRight.mono _ _ _ _ _)
   | (with_reducible exact spec_l04Heights.mono _ _ _)
   | (with_reducible exact LeO.refl _)
   | (with_reducible exact LeO.none _)
   | (with_reducible refine LeO.ite ?_ ?_)
   | (with_reducible refine LeO.bind ?_ (fun _ => ?_))
  ·intro y0 y1 y2 y3 y4 y5
   unfold spec_l04Func.l0
   repeat' first
   | (with_reducible exact ih0 _ _ _ _ _ _)
   | (with_reducible exact ih1 _ _ _ _ _ _)
   | (with_reducible exact spec_InsRight.mono _ _ _ _ _)
   | (with_reducible exact spec_l04Heights.mono _ _ _)
   | (with_reducible exact LeO.refl _)
   | (with_reducible exact LeO.none _)
   | (with_reducible refine LeO.ite ?_ ?_)
   | (with_reducible refine LeO.bind ?_ (fun _ => ?_))
theorem spec_l04Func.mono : ∀ a0 a1 k, LeO (spec_l04Func.f k a0 a1) (spec_l04Func.f (k + 1) a0 a1) := by
 intro a0 a1 k
 obtain ⟨ih0, ih1⟩ := spec_l04Func.mono_l k
 unfold spec_l04Func.f
 repeat' first
   | (with_reducible exact ih0 _ _ _ _ _ _)
   | (with_reducible exact ih1 _ _ _ _ _ _)
   | (with_reducible exact spec_InsRight.mono _ _ _ _ _)
   | (with_reducible exact spec_l04Heights.mono _ _ _)
   | (with_reducible exact LeO.refl _)
   | (with_reducible exact LeO.none _)
   | (with_reducible refine LeO.ite ?_ ?_)
   | (with_reducible refine LeO.bind ?_ (fun _ => ?_))
def spec_l04Func.T7 : Bool × List (List Nat × List Nat) := (true, [([], []), ([], []), ([], []), ([2], [2]), ([], []), ([3, 4], [3, 4]), ([5], [5]), ([0, 1, 6], [0, 1, 6]), ([7], [7])])
def spec_l04Func.B7 : List Nat := [0, 0, 0, 4, 0, 28, 60, 127, 255]
theorem spec_l04Func.tab7 : rtab .any (opsOf Try.f172 7) = spec_l04Func.T7 := by kernel_rfl
theorem spec_l04Func.bits7 : waitsOk spec_l04Func.T7.2 spec_l04Func.B7 = true := by kernel_rfl
theorem spec_l04Func.calls (k : Nat) (A0_0 : Option Addr) (c0_0 : Nat) (l0_0 : List (S100)) (a1 : Int) (r1 : Int) (r2 : Int) (r3 : Int) (w : World) (hr0_0 : Kd.C k100 w A0_0 l0_0.length l0_0) (hc0_0 : l0_0.length ≤ c0_0) (h : spec_l04Func.f k l0_0 a1 = some (r1, r2, r3)) :
  Calls Try.prog 172 #[.agg #[.slice A0_0 l0_0.length c0_0], .int .i64 a1] w fun e w' => e = .returned (.agg #[.int .i64 r1, .int .i64 r2, .int .i64 r3]) ∧ Below w.heap.size w w' := by
 have hu30 := Try.underlying30
 have hu84 := Try.underlying84
 have hu100 := Try.underlying100
 have hu102 := Try.underlying102
 have HR0_0 := am hr0_0
 have HC0_0 := am hc0_0
 clear hr0_0 hc0_0
 have HB := am (Below.refl w.heap.size w)
 have H : (if 0 ≤ a1 then (if a1 < (l0_0.length : Int) then (if ((rd_T100 l0_0 a1).f0) < 0 then (spec_l04Func.j0 k a1 true l0_0 ((rd_T100 l0_0 a1).f0) ((rd_T100 l0_0 a1).f1) ((rd_T100 l0_0 a1).f2)) else (if ((rd_T100 l0_0 a1).f0) > 4 then (spec_l04Func.j0 k a1 true l0_0 ((rd_T100 l0_0 a1).f0) ((rd_T100 l0_0 a1).f1) ((rd_T100 l0_0 a1).f2)) else (if ((rd_T100 l0_0 a1).f1) < ((rd_T100 l0_0 a1).f0) then (spec_l04Func.j0 k a1 true l0_0 ((rd_T100 l0_0 a1).f0) ((rd_T100 l0_0 a1).f1) ((rd_T100 l0_0 a1).f2)) else (if ((rd_T100 l0_0 a1).f1) > 8 then (spec_l04Func.j0 k a1 true l0_0 ((rd_T100 l0_0 a1).f0) ((rd_T100 l0_0 a1).f1) ((rd_T100 l0_0 a1).f2)) else (if (((rd_T100 l0_0 a1).f2).length : Int) < 1 then (spec_l04Func.j0 k a1 true l0_0 ((rd_T100 l0_0 a1).f0) ((rd_T100 l0_0 a1).f1) ((rd_T100 l0_0 a1).f2)) else (spec_l04Func.j0 k a1 (decide ((((rd_T100 l0_0 a1).f2).length : Int) > 60)) l0_0 ((rd_T100 l0_0 a1).f0) ((rd_T100 l0_0 a1).f1) ((rd_T100 l0_0 a1).f2))))))) else (none)) else (none)) = some (r1, r2, r3) := h
 clear h
 by_cases c3 : 0 ≤ a1
 ·rw [if_pos c3] at H
  have c3b0 := decide_eq_true c3
  clear c3
  by_cases c4 : a1 < (l0_0.length : Int)
  ·rw [if_pos c4] at H
   have c4b0 := decide_eq_true c4
   clear c4
   have HC5 := am H
   clear H
   go_enter Try.func172, Try.ntmps172
   go_upto_region 2 with (first | ((with_reducible refine gate_dst (N := 2) rfl ?_); (try (refine gate_guard (by rfl) ?_; dsimp only)); refine box_event ?hg (N := 2) ?hd (cs := #[.slice A0_0 l0_0.length c0_0]) (t := 30) ?hr ?_; (case hd => rfl); (case hg => rfl); (case hr => exact gs); intro gb220 hg w6 hbox hb; have BK220 := am (hbox); have GW220 := am ((by rw [hg]; exact (below_size (bw HB)) : w.heap.size ≤ gb220)); have GE220 := am ((by rw [hg]; exact (below_size (bw HB)) : w.heap.size ≤ gb220)); replace HB := am (below_step (bw HB) hb); clear hb hbox hg) | ((with_reducible refine gate_dst (N := 4) rfl ?_); (try (refine gate_guard (by rfl) ?_; dsimp only)); refine box_event ?hg (N := 4) ?hd (cs := #[.int .i64 0, .int .i64 0, .int .i64 0]) (t := 84) ?hr ?_; (case hd => rfl); (case hg => rfl); (case hr => exact gs); intro gb221 hg w7 hbox hb; have BK221 := am (hbox); have GW221 := am ((by rw [hg]; exact (below_size (bw HB)) : w.heap.size ≤ gb221)); have GE221 := am ((by rw [hg]; exact (below_size (bw HB)) : w.heap.size ≤ gb221)); replace HB := am (below_step (bw HB) hb); have NB220_221 := am ((by rw [hg]; exact Nat.ne_of_lt (blk_lt (g := gb220) (o := .cells #[.slice A0_0 l0_0.length c0_0] 30 (0, 0)) (bp BK220)) : gb220 ≠ gb221)); have NB221_220 := am ((by rw [hg]; exact Nat.ne_of_gt (blk_lt (g := gb220) (o := .cells #[.slice A0_0 l0_0.length c0_0] 30 (0, 0)) (bp BK220)) : gb221 ≠ gb220)); replace BK220 := am (blk_below (g := gb220) (o := .cells #[.slice A0_0 l0_0.length c0_0] 30 (0, 0)) (bp BK220) hb); clear hb hbox hg; have hnb8 := NB220_221.out; have hnc8 := NB221_220.out; have hcz9_0 : w7.cell? ⟨gb220, 0, none⟩ = some (.slice A0_0 l0_0.length c0_0) := bc BK220 0; have hfz9_0 := bf BK220 0; have p222 : 0 ≤ (a1 : Int) := of_decide_eq_true as1; have q222 : a1 < (l0_0.length : Int) := of_decide_eq_true as1; obtain ⟨ad222, A222_2, c222_2, e222, hx222_0, hx222_1, hx222_2, hl222_2, hi222_2⟩ := at_T100 HR0_0.out a1 p222 q222; cases e222; replace hx222_0 := (HB.out.cell (World.block_lt_of_cell? w _ hx222_0)).trans hx222_0; replace hx222_1 := (HB.out.cell (World.block_lt_of_cell? w _ hx222_1)).trans hx222_1; replace hx222_2 := (HB.out.cell (World.block_lt_of_cell? w _ hx222_2)).trans hx222_2; have HR222_2 := am hi222_2; have HC222_2 := am hl222_2; clear hi222_2 hl222_2; replace p222 := eq_true p222; replace q222 := eq_true q222) | ((with_reducible refine gate_dst (N := 5) rfl ?_); (try (refine gate_guard (by rfl) ?_; dsimp only)); refine box_event ?hg (N := 5) ?hd (cs := #[.int .i64 0, .int .i64 0, .slice none 0 0]) (t := 100) ?hr ?_; (case hd => rfl); (case hg => rfl); (case hr => exact gs); intro gb223 hg w10 hbox hb; have BK223 := am (hbox); have GW223 := am ((by rw [hg]; exact (below_size (bw HB)) : w.heap.size ≤ gb223)); have GE223 := am ((by rw [hg]; exact (below_size (bw HB)) : w.heap.size ≤ gb223)); replace HB := am (below_step (bw HB) hb); have NB220_223 := am ((by rw [hg]; exact Nat.ne_of_lt (blk_lt (g := gb220) (o := .cells #[.slice (some ad222) l0_0.length c0_0] 30 (0, 0)) (bp BK220)) : gb220 ≠ gb223)); have NB223_220 := am ((by rw [hg]; exact Nat.ne_of_gt (blk_lt (g := gb220) (o := .cells #[.slice (some ad222) l0_0.length c0_0] 30 (0, 0)) (bp BK220)) : gb223 ≠ gb220)); replace BK220 := am (blk_below (g := gb220) (o := .cells #[.slice (some ad222) l0_0.length c0_0] 30 (0, 0)) (bp BK220) hb); have NB221_223 := am ((by rw [hg]; exact Nat.ne_of_lt (blk_lt (g := gb221) (o := .cells #[.int .i64 0, .int .i64 0, .int .i64 0] 84 (0, 0)) (bp BK221)) : gb221 ≠ gb223)); have NB223_221 := am ((by rw [hg]; exact Nat.ne_of_gt (blk_lt (g := gb221) (o := .cells #[.int .i64 0, .int .i64 0, .int .i64 0] 84 (0, 0)) (bp BK221)) : gb223 ≠ gb221)); replace BK221 := am (blk_below (g := gb221) (o := .cells #[.int .i64 0, .int .i64 0, .int .i64 0] 84 (0, 0)) (bp BK221) hb); clear hb hbox hg; have hnb11 := NB223_220.out; have hnc11 := NB220_223.out; have hnb12 := NB223_221.out; have hnc12 := NB221_223.out; have hcz13_0 : w10.cell? ⟨gb223, 0, none⟩ = some (.int .i64 0) := bc BK223 0; have hcz13_1 : w10.cell? ⟨gb223, 1, none⟩ = some (.int .i64 0) := bc BK223 1; have hcz13_2 : w10.cell? ⟨gb223, 2, none⟩ = some (.slice none 0 0) := bc BK223 2; have hfz13_0 := bf BK223 0; have hfz13_1 := bf BK223 1; have hfz13_2 := bf BK223 2))
   (try simp only [Act.put, sa, sz, ss])
   go_cut [45] (fun v45 wc => ∃ (kq : Nat) (x45_4 : Bool), v45 = .bool x45_4 ∧ Aside0 (spec_l04Func.j0 kq a1 x45_4 l0_0 ((rd_T100 l0_0 a1).f0) ((rd_T100 l0_0 a1).f1) ((rd_T100 l0_0 a1).f2) = some (r1, r2, r3)) ∧ Aside0 (kq ≤ k) ∧ Aside0 (wc.heap[gb220]? = some (.cells #[(.slice (some ad222) l0_0.length c0_0)] 30 (0, 0))) ∧ Aside0 (wc.heap[gb221]? = some (.cells #[.int .i64 0, .int .i64 0, .int .i64 0] 84 (0, 0))) ∧ Aside0 (wc.heap[gb223]? = some (.cells #[.int .i64 ((rd_T100 l0_0 a1).f0), .int .i64 ((rd_T100 l0_0 a1).f1), (.slice A222_2 ((rd_T100 l0_0 a1).f2).length c222_2)] 100 (0, 0))) ∧ Aside0 (Below w.heap.size w wc))
   case first =>
    have H := HC5.out
    clear HC5
    by_cases c14 : ((rd_T100 l0_0 a1).f0) < 0
    ·rw [if_pos c14] at H
     have c14b0 := decide_eq_true c14
     clear c14
     (first | rw [c14b0] | (simp only [i64_w, i32_w]; rw [c14b0]) | skip)
     have H' := am H
     clear H
     have hnb15 := NB223_220.out
     have hnc15 := NB220_223.out
     have hnb16 := NB223_221.out
     have hnc16 := NB221_223.out
     have hcz17_0 : w10.cell? ⟨gb223, 0, none⟩ = some (.int .i64 0) := bc BK223 0
     have hcz17_1 : w10.cell? ⟨gb223, 1, none⟩ = some (.int .i64 0) := bc BK223 1
     have hcz17_2 : w10.cell? ⟨gb223, 2, none⟩ = some (.slice none 0 0) := bc BK223 2
     have hfz17_0 := bf BK223 0
     have hfz17_1 := bf BK223 1
     have hfz17_2 := bf BK223 2
     go_wp2
     go_meet
     case rel => exact ⟨_, (true), dr, H', ⟨by first | omega | exact Nat.le_refl _⟩, ⟨by (with_reducible repeat (first | apply dN | apply dW | apply dA)); refine blk_far ?_ NB220_223.out _; (with_reducible repeat (first | apply dN | apply dW | apply dA)); refine blk_far ?_ NB220_223.out _; (with_reducible repeat (first | apply dN | apply dW | apply dA)); refine blk_far ?_ NB220_223.out _; exact bp BK220⟩, ⟨by (with_reducible repeat (first | apply dN | apply dW | apply dA)); refine blk_far ?_ NB221_223.out _; (with_reducible repeat (first | apply dN | apply dW | apply dA)); refine blk_far ?_ NB221_223.out _; (with_reducible repeat (first | apply dN | apply dW | apply dA)); refine blk_far ?_ NB221_223.out _; exact bp BK221⟩, ⟨by (with_reducible repeat (first | apply dN | apply dW | apply dA)); refine blk_put (cs := #[.int .i64 ((rd_T100 l0_0 a1).f0), .int .i64 ((rd_T100 l0_0 a1).f1), .slice none 0 0]) ?_ 2 _ rfl; (with_reducible repeat (first | apply dN | apply dW | apply dA)); refine blk_put (cs := #[.int .i64 ((rd_T100 l0_0 a1).f0), .int .i64 0, .slice none 0 0]) ?_ 1 _ rfl; (with_reducible repeat (first | apply dN | apply dW | apply dA)); refine blk_put (cs := #[.int .i64 0, .int .i64 0, .slice none 0 0]) ?_ 0 _ rfl; exact bp BK223⟩, ⟨bw HB⟩⟩
    ·rw [if_neg c14] at H
     have c14b0 := decide_eq_false c14
     clear c14
     (first | rw [c14b0] | (simp only [i64_w, i32_w]; rw [c14b0]) | skip)
     by_cases c18 : ((rd_T100 l0_0 a1).f0) > 4
     ·rw [if_pos c18] at H
      have c18b0 : decide (4 < ((rd_T100 l0_0 a1).f0)) = true := decide_eq_true c18
      clear c18
      have H' := am H
      clear H
      have hnb19 := NB223_220.out
      have hnc19 := NB220_223.out
      have hnb20 := NB223_221.out
      have hnc20 := NB221_223.out
      have hcz21_0 : w10.cell? ⟨gb223, 0, none⟩ = some (.int .i64 0) := bc BK223 0
      have hcz21_1 : w10.cell? ⟨gb223, 1, none⟩ = some (.int .i64 0) := bc BK223 1
      have hcz21_2 : w10.cell? ⟨gb223, 2, none⟩ = some (.slice none 0 0) := bc BK223 2
      have hfz21_0 := bf BK223 0
      have hfz21_1 := bf BK223 1
      have hfz21_2 := bf BK223 2
      go_wp2
      go_meet
      case rel => exact ⟨_, (true), dr, H', ⟨by first | omega | exact Nat.le_refl _⟩, ⟨by (with_reducible repeat (first | apply dN | apply dW | apply dA)); refine blk_far ?_ NB220_223.out _; (with_reducible repeat (first | apply dN | apply dW | apply dA)); refine blk_far ?_ NB220_223.out _; (with_reducible repeat (first | apply dN | apply dW | apply dA)); refine blk_far ?_ NB220_223.out _; exact bp BK220⟩, ⟨by (with_reducible repeat (first | apply dN | apply dW | apply dA)); refine blk_far ?_ NB221_223.out _; (with_reducible repeat (first | apply dN | apply dW | apply dA)); refine blk_far ?_ NB221_223.out _; (with_reducible repeat (first | apply dN | apply dW | apply dA)); refine blk_far ?_ NB221_223.out _; exact bp BK221⟩, ⟨by (with_reducible repeat (first | apply dN | apply dW | apply dA)); refine blk_put (cs := #[.int .i64 ((rd_T100 l0_0 a1).f0), .int .i64 ((rd_T100 l0_0 a1).f1), .slice none 0 0]) ?_ 2 _ rfl; (with_reducible repeat (first | apply dN | apply dW | apply dA)); refine blk_put (cs := #[.int .i64 ((rd_T100 l0_0 a1).f0), .int .i64 0, .slice none 0 0]) ?_ 1 _ rfl; (with_reducible repeat (first | apply dN | apply dW | apply dA)); refine blk_put (cs := #[.int .i64 0, .int .i64 0, .slice none 0 0]) ?_ 0 _ rfl; exact bp BK223⟩, ⟨bw HB⟩⟩
     ·rw [if_neg c18] at H
      have c18b0 : decide (4 < ((rd_T100 l0_0 a1).f0)) = false := decide_eq_false c18
      clear c18
      by_cases c22 : ((rd_T100 l0_0 a1).f1) < ((rd_T100 l0_0 a1).f0)
      ·rw [if_pos c22] at H
       have c22b0 := decide_eq_true c22
       clear c22
       have H' := am H
       clear H
       have hnb23 := NB223_220.out
       have hnc23 := NB220_223.out
       have hnb24 := NB223_221.out
       have hnc24 := NB221_223.out
       have hcz25_0 : w10.cell? ⟨gb223, 0, none⟩ = some (.int .i64 0) := bc BK223 0
       have hcz25_1 : w10.cell? ⟨gb223, 1, none⟩ = some (.int .i64 0) := bc BK223 1
       have hcz25_2 : w10.cell? ⟨gb223, 2, none⟩ = some (.slice none 0 0) := bc BK223 2
       have hfz25_0 := bf BK223 0
       have hfz25_1 := bf BK223 1
       have hfz25_2 := bf BK223 2
       go_wp2
       go_meet
       case rel => exact ⟨_, (true), dr, H', ⟨by first | omega | exact Nat.le_refl _⟩, ⟨by (with_reducible repeat (first | apply dN | apply dW | apply dA)); refine blk_far ?_ NB220_223.out _; (with_reducible repeat (first | apply dN | apply dW | apply dA)); refine blk_far ?_ NB220_223.out _; (with_reducible repeat (first | apply dN | apply dW | apply dA)); refine blk_far ?_ NB220_223.out _; exact bp BK220⟩, ⟨by (with_reducible repeat (first | apply dN | apply dW | apply dA)); refine blk_far ?_ NB221_223.out _; (with_reducible repeat (first | apply dN | apply dW | apply dA)); refine blk_far ?_ NB221_223.out _; (with_reducible repeat (first | apply dN | apply dW | apply dA)); refine blk_far ?_ NB221_223.out _; exact bp BK221⟩, ⟨by (with_reducible repeat (first | apply dN | apply dW | apply dA)); refine blk_put (cs := #[.int .i64 ((rd_T100 l0_0 a1).f0), .int .i64 ((rd_T100 l0_0 a1).f1), .slice none 0 0]) ?_ 2 _ rfl; (with_reducible repeat (first | apply dN | apply dW | apply dA)); refine blk_put (cs := #[.int .i64 ((rd_T100 l0_0 a1).f0), .int .i64 0, .slice none 0 0]) ?_ 1 _ rfl; (with_reducible repeat (first | apply dN | apply dW | apply dA)); refine blk_put (cs := #[.int .i64 0, .int .i64 0, .slice none 0 0]) ?_ 0 _ rfl; exact bp BK223⟩, ⟨bw HB⟩⟩
      ·rw [if_neg c22] at H
       have c22b0 := decide_eq_false c22
       clear c22
       by_cases c26 : ((rd_T100 l0_0 a1).f1) > 8
       ·rw [if_pos c26] at H
        have c26b0 : decide (8 < ((rd_T100 l0_0 a1).f1)) = true := decide_eq_true c26
        clear c26
        have H' := am H
        clear H
        have hnb27 := NB223_220.out
        have hnc27 := NB220_223.out
        have hnb28 := NB223_221.out
        have hnc28 := NB221_223.out
        have hcz29_0 : w10.cell? ⟨gb223, 0, none⟩ = some (.int .i64 0) := bc BK223 0
        have hcz29_1 : w10.cell? ⟨gb223, 1, none⟩ = some (.int .i64 0) := bc BK223 1
        have hcz29_2 : w10.cell? ⟨gb223, 2, none⟩ = some (.slice none 0 0) := bc BK223 2
        have hfz29_0 := bf BK223 0
        have hfz29_1 := bf BK223 1
        have hfz29_2 := bf BK223 2
        go_wp2
        go_meet
        case rel => exact ⟨_, (true), dr, H', ⟨by first | omega | exact Nat.le_refl _⟩, ⟨by (with_reducible repeat (first | apply dN | apply dW | apply dA)); refine blk_far ?_ NB220_223.out _; (with_reducible repeat (first | apply dN | apply dW | apply dA)); refine blk_far ?_ NB220_223.out _; (with_reducible repeat (first | apply dN | apply dW | apply dA)); refine blk_far ?_ NB220_223.out _; exact bp BK220⟩, ⟨by (with_reducible repeat (first | apply dN | apply dW | apply dA)); refine blk_far ?_ NB221_223.out _; (with_reducible repeat (first | apply dN | apply dW | apply dA)); refine blk_far ?_ NB221_223.out _; (with_reducible repeat (first | apply dN | apply dW | apply dA)); refine blk_far ?_ NB221_223.out _; exact bp BK221⟩, ⟨by (with_reducible repeat (first | apply dN | apply dW | apply dA)); refine blk_put (cs := #[.int .i64 ((rd_T100 l0_0 a1).f0), .int .i64 ((rd_T100 l0_0 a1).f1), .slice none 0 0]) ?_ 2 _ rfl; (with_reducible repeat (first | apply dN | apply dW | apply dA)); refine blk_put (cs := #[.int .i64 ((rd_T100 l0_0 a1).f0), .int .i64 0, .slice none 0 0]) ?_ 1 _ rfl; (with_reducible repeat (first | apply dN | apply dW | apply dA)); refine blk_put (cs := #[.int .i64 0, .int .i64 0, .slice none 0 0]) ?_ 0 _ rfl; exact bp BK223⟩, ⟨bw HB⟩⟩
       ·rw [if_neg c26] at H
        have c26b0 : decide (8 < ((rd_T100 l0_0 a1).f1)) = false := decide_eq_false c26
        clear c26
        by_cases c30 : (((rd_T100 l0_0 a1).f2).length : Int) < 1
        ·rw [if_pos c30] at H
         have c30b0 := decide_eq_true c30
         have c30b1 : decide (((rd_T100 l0_0 a1).f2).length < 1) = true := decide_eq_true (by omega)
         clear c30
         have H' := am H
         clear H
         have hnb31 := NB223_220.out
         have hnc31 := NB220_223.out
         have hnb32 := NB223_221.out
         have hnc32 := NB221_223.out
         have hcz33_0 : w10.cell? ⟨gb223, 0, none⟩ = some (.int .i64 0) := bc BK223 0
         have hcz33_1 : w10.cell? ⟨gb223, 1, none⟩ = some (.int .i64 0) := bc BK223 1
         have hcz33_2 : w10.cell? ⟨gb223, 2, none⟩ = some (.slice none 0 0) := bc BK223 2
         have hfz33_0 := bf BK223 0
         have hfz33_1 := bf BK223 1
         have hfz33_2 := bf BK223 2
         go_wp2
         go_meet
         case rel => exact ⟨_, (true), dr, H', ⟨by first | omega | exact Nat.le_refl _⟩, ⟨by (with_reducible repeat (first | apply dN | apply dW | apply dA)); refine blk_far ?_ NB220_223.out _; (with_reducible repeat (first | apply dN | apply dW | apply dA)); refine blk_far ?_ NB220_223.out _; (with_reducible repeat (first | apply dN | apply dW | apply dA)); refine blk_far ?_ NB220_223.out _; exact bp BK220⟩, ⟨by (with_reducible repeat (first | apply dN | apply dW | apply dA)); refine blk_far ?_ NB221_223.out _; (with_reducible repeat (first | apply dN | apply dW | apply dA)); refine blk_far ?_ NB221_223.out _; (with_reducible repeat (first | apply dN | apply dW | apply dA)); refine blk_far ?_ NB221_223.out _; exact bp BK221⟩, ⟨by (with_reducible repeat (first | apply dN | apply dW | apply dA)); refine blk_put (cs := #[.int .i64 ((rd_T100 l0_0 a1).f0), .int .i64 ((rd_T100 l0_0 a1).f1), .slice none 0 0]) ?_ 2 _ rfl; (with_reducible repeat (first | apply dN | apply dW | apply dA)); refine blk_put (cs := #[.int .i64 ((rd_T100 l0_0 a1).f0), .int .i64 0, .slice none 0 0]) ?_ 1 _ rfl; (with_reducible repeat (first | apply dN | apply dW | apply dA)); refine blk_put (cs := #[.int .i64 0, .int .i64 0, .slice none 0 0]) ?_ 0 _ rfl; exact bp BK223⟩, ⟨bw HB⟩⟩
        ·rw [if_neg c30] at H
         have c30b0 := decide_eq_false c30
         have c30b1 : decide (((rd_T100 l0_0 a1).f2).length < 1) = false := decide_eq_false (by omega)
         clear c30
         have H' := am H
         clear H
         have hnb34 := NB223_220.out
         have hnc34 := NB220_223.out
         have hnb35 := NB223_221.out
         have hnc35 := NB221_223.out
         have hcz36_0 : w10.cell? ⟨gb223, 0, none⟩ = some (.int .i64 0) := bc BK223 0
         have hcz36_1 : w10.cell? ⟨gb223, 1, none⟩ = some (.int .i64 0) := bc BK223 1
         have hcz36_2 : w10.cell? ⟨gb223, 2, none⟩ = some (.slice none 0 0) := bc BK223 2
         have hfz36_0 := bf BK223 0
         have hfz36_1 := bf BK223 1
         have hfz36_2 := bf BK223 2
         go_wp2
         go_meet
         case rel => exact ⟨_, (decide ((((rd_T100 l0_0 a1).f2).length : Int) > 60)), dr, H', ⟨by first | omega | exact Nat.le_refl _⟩, ⟨by (with_reducible repeat (first | apply dN | apply dW | apply dA)); refine blk_far ?_ NB220_223.out _; (with_reducible repeat (first | apply dN | apply dW | apply dA)); refine blk_far ?_ NB220_223.out _; (with_reducible repeat (first | apply dN | apply dW | apply dA)); refine blk_far ?_ NB220_223.out _; exact bp BK220⟩, ⟨by (with_reducible repeat (first | apply dN | apply dW | apply dA)); refine blk_far ?_ NB221_223.out _; (with_reducible repeat (first | apply dN | apply dW | apply dA)); refine blk_far ?_ NB221_223.out _; (with_reducible repeat (first | apply dN | apply dW | apply dA)); refine blk_far ?_ NB221_223.out _; exact bp BK221⟩, ⟨by (with_reducible repeat (first | apply dN | apply dW | apply dA)); refine blk_put (cs := #[.int .i64 ((rd_T100 l0_0 a1).f0), .int .i64 ((rd_T100 l0_0 a1).f1), .slice none 0 0]) ?_ 2 _ rfl; (with_reducible repeat (first | apply dN | apply dW | apply dA)); refine blk_put (cs := #[.int .i64 ((rd_T100 l0_0 a1).f0), .int .i64 0, .slice none 0 0]) ?_ 1 _ rfl; (with_reducible repeat (first | apply dN | apply dW | apply dA)); refine blk_put (cs := #[.int .i64 0, .int .i64 0, .slice none 0 0]) ?_ 0 _ rfl; exact bp BK223⟩, ⟨bw HB⟩⟩
   case rest =>
    clear HC5
    (try clear c1); (try clear c2); (try clear p2); (try clear q2); (try clear hx2); (try clear c3); (try clear c3b0); (try clear c4); (try clear c4b0); (try clear c8); (try clear c11); (try clear c12); (try clear c14); (try clear c14b0); (try clear c15); (try clear c16); (try clear c17); (try clear c18); (try clear c18b0); (try clear c19); (try clear c20); (try clear c22); (try clear c22b0); (try clear p22); (try clear q22); (try clear hx22); (try clear c23); (try clear c24); (try clear c26); (try clear c26b0); (try clear c27); (try clear c28); (try clear c30); (try clear c30b0); (try clear c30b1); (try clear c31); (try clear c32); (try clear c34); (try clear c35); (try clear hcz13_0); (try clear hcz13_1); (try clear hcz13_2); (try clear hcz17_0); (try clear hcz17_1); (try clear hcz17_2); (try clear hcz21_0); (try clear hcz21_1); (try clear hcz21_2); (try clear hcz25_0); (try clear hcz25_1); (try clear hcz25_2); (try clear hcz29_0); (try clear hcz29_1); (try clear hcz29_2); (try clear hcz33_0); (try clear hcz33_1); (try clear hcz33_2); (try clear hcz36_0); (try clear hcz36_1); (try clear hcz36_2); (try clear hcz9_0); (try clear hfz13_0); (try clear hfz13_1); (try clear hfz13_2); (try clear hfz17_0); (try clear hfz17_1); (try clear hfz17_2); (try clear hfz21_0); (try clear hfz21_1); (try clear hfz21_2); (try clear hfz25_0); (try clear hfz25_1); (try clear hfz25_2); (try clear hfz29_0); (try clear hfz29_1); (try clear hfz29_2); (try clear hfz33_0); (try clear hfz33_1); (try clear hfz33_2); (try clear hfz36_0); (try clear hfz36_1); (try clear hfz36_2); (try clear hfz9_0); (try clear hx222_0); (try clear hx222_1); (try clear hx222_2); (try clear p222); (try clear q222)
    obtain ⟨kq, x45_4, rfl, HA, HJ4, BK220, BK221, BK223, HB⟩ := hcut
    cases kq with
    | zero => exact absurd HA.out (by simp [spec_l04Func.j0])
    | succ kj4 =>
     have H := HA.out
     clear HA
     simp only [spec_l04Func.j0] at H
     by_cases c37 : x45_4 = true
     ·subst c37
      have H1 : (some (a1, 0, 1)) = some (r1, r2, r3) := by rw [if_pos rfl] at H; exact H
      clear H
      have H := H1
      clear H1
      simp only [Option.some.injEq, Prod.mk.injEq] at H
      obtain ⟨rfl, rfl, rfl⟩ := H
      have hnb38 := NB221_220.out
      have hnc38 := NB220_221.out
      have hnb39 := NB221_223.out
      have hnc39 := NB223_221.out
      have hcz40_0 : wc.cell? ⟨gb221, 0, none⟩ = some (.int .i64 0) := bc BK221 0
      have hcz40_1 : wc.cell? ⟨gb221, 1, none⟩ = some (.int .i64 0) := bc BK221 1
      have hcz40_2 : wc.cell? ⟨gb221, 2, none⟩ = some (.int .i64 0) := bc BK221 2
      have hfz40_0 := bf BK221 0
      have hfz40_1 := bf BK221 1
      have hfz40_2 := bf BK221 2
      go_wp2
      refine bodyPost_ret (results_cell_row rfl _ _ gb221 84 #[.int .i64 a1, .int .i64 0, .int .i64 1] (0, 0) _ rfl (by (with_reducible repeat (first | apply dN | apply dW | apply dA)); refine blk_put (cs := #[.int .i64 a1, .int .i64 0, .int .i64 0]) ?_ 2 _ rfl; (with_reducible repeat (first | apply dN | apply dW | apply dA)); refine blk_put (cs := #[.int .i64 a1, .int .i64 0, .int .i64 0]) ?_ 1 _ rfl; (with_reducible repeat (first | apply dN | apply dW | apply dA)); refine blk_put (cs := #[.int .i64 0, .int .i64 0, .int .i64 0]) ?_ 0 _ rfl; exact bp BK221) Try.underlying84 rfl (by kernel_rfl)) rfl ?_
      exact ⟨er, bw HB⟩
     ·replace c37 := Bool.eq_false_iff.mpr c37
      subst c37
      have H1 : (spec_l04Func.l0 kj4 a1 0 l0_0 ((rd_T100 l0_0 a1).f0) ((rd_T100 l0_0 a1).f1) ((rd_T100 l0_0 a1).f2)) = some (r1, r2, r3) := by rw [if_neg (show ¬ (false = true) by decide)] at H; exact H
      clear H
      have H := H1
      clear H1
      have H' := am H
      clear H
      go_wp2
      go_loopg [6] kj4 (fun kq v6 w' => ∃ (x6_2 : Int) (x222000_2 : Int) (x222001_2 : Int) (x222002_2 : Int), v6 = .int .i64 x6_2 ∧ Aside0 (spec_l04Func.l0 kq a1 x6_2 l0_0 ((rd_T100 l0_0 a1).f0) ((rd_T100 l0_0 a1).f1) ((rd_T100 l0_0 a1).f2) = some (r1, r2, r3)) ∧ Aside0 (kq ≤ kj4) ∧ Aside0 (w'.heap[gb220]? = some (.cells #[(.slice (some ad222) l0_0.length c0_0)] 30 (0, 0))) ∧ Aside0 (w'.heap[gb221]? = some (.cells #[.int .i64 x222000_2, .int .i64 x222001_2, .int .i64 x222002_2] 84 (0, 0))) ∧ Aside0 (w'.heap[gb223]? = some (.cells #[.int .i64 ((rd_T100 l0_0 a1).f0), .int .i64 ((rd_T100 l0_0 a1).f1), (.slice A222_2 ((rd_T100 l0_0 a1).f2).length c222_2)] 100 (0, 0))) ∧ Aside0 (Below w.heap.size w w'))
      case atStart => exact ⟨(0), (0), (0), (0), dr, H', ⟨Nat.le_refl _⟩, ⟨bp BK220⟩, ⟨bp BK221⟩, ⟨bp BK223⟩, ⟨bw HB⟩⟩
      case round =>
       clear H'
       (try clear c1); (try clear c2); (try clear p2); (try clear q2); (try clear hx2); (try clear c3); (try clear c3b0); (try clear c4); (try clear c4b0); (try clear c8); (try clear c11); (try clear c12); (try clear c14); (try clear c14b0); (try clear c15); (try clear c16); (try clear c17); (try clear c18); (try clear c18b0); (try clear c19); (try clear c20); (try clear c22); (try clear c22b0); (try clear p22); (try clear q22); (try clear hx22); (try clear c23); (try clear c24); (try clear c26); (try clear c26b0); (try clear c27); (try clear c28); (try clear c30); (try clear c30b0); (try clear c30b1); (try clear c31); (try clear c32); (try clear c34); (try clear c35); (try clear c37); (try clear c38); (try clear c39); (try clear hcz13_0); (try clear hcz13_1); (try clear hcz13_2); (try clear hcz17_0); (try clear hcz17_1); (try clear hcz17_2); (try clear hcz21_0); (try clear hcz21_1); (try clear hcz21_2); (try clear hcz25_0); (try clear hcz25_1); (try clear hcz25_2); (try clear hcz29_0); (try clear hcz29_1); (try clear hcz29_2); (try clear hcz33_0); (try clear hcz33_1); (try clear hcz33_2); (try clear hcz36_0); (try clear hcz36_1); (try clear hcz36_2); (try clear hcz40_0); (try clear hcz40_1); (try clear hcz40_2); (try clear hcz9_0); (try clear hfz13_0); (try clear hfz13_1); (try clear hfz13_2); (try clear hfz17_0); (try clear hfz17_1); (try clear hfz17_2); (try clear hfz21_0); (try clear hfz21_1); (try clear hfz21_2); (try clear hfz25_0); (try clear hfz25_1); (try clear hfz25_2); (try clear hfz29_0); (try clear hfz29_1); (try clear hfz29_2); (try clear hfz33_0); (try clear hfz33_1); (try clear hfz33_2); (try clear hfz36_0); (try clear hfz36_1); (try clear hfz36_2); (try clear hfz40_0); (try clear hfz40_1); (try clear hfz40_2); (try clear hfz9_0); (try clear hx222_0); (try clear hx222_1); (try clear hx222_2); (try clear p2); (try clear p22); (try clear p222); (try clear q2); (try clear q22); (try clear q222)
       obtain ⟨x6_2, x222000_2, x222001_2, x222002_2, rfl, HA, HK2, BK220, BK221, BK223, HB⟩ := hrel
       cases gk with
       | zero => exact absurd HA.out (by simp [spec_l04Func.l0])
       | succ k2 =>
        have H := HA.out
        clear HA
        simp only [spec_l04Func.l0] at H
        by_cases c41 : x6_2 < (((rd_T100 l0_0 a1).f2).length : Int)
        ·rw [if_pos c41] at H
         have c41b0 := decide_eq_true c41
         clear c41
         by_cases c42 : 0 ≤ x6_2
         ·rw [if_pos c42] at H
          have c42b0 := decide_eq_true c42
          clear c42
          replace H := Option.bind_eq_some_iff.mp H
          obtain ⟨t225, A430, H⟩ := H
          replace H : (if t225 = true then (spec_l04Func.l0 k2 a1 (wrap64 (x6_2 + 1)) l0_0 ((rd_T100 l0_0 a1).f0) ((rd_T100 l0_0 a1).f1) ((rd_T100 l0_0 a1).f2)) else (some (a1, x6_2, 1))) = some (r1, r2, r3) := H
          have A43 := am A430
          clear A430
          by_cases c44 : t225 = true
          ·subst c44
           have H1 : (spec_l04Func.l0 k2 a1 (wrap64 (x6_2 + 1)) l0_0 ((rd_T100 l0_0 a1).f0) ((rd_T100 l0_0 a1).f1) ((rd_T100 l0_0 a1).f2)) = some (r1, r2, r3) := by rw [if_pos rfl] at H; exact H
           clear H
           have H := H1
           clear H1
           have H' := am H
           clear H
           have hnb45 := NB223_220.out
           have hnc45 := NB220_223.out
           have hnb46 := NB223_221.out
           have hnc46 := NB221_223.out
           have hcz47_0 : wr.cell? ⟨gb223, 0, none⟩ = some (.int .i64 ((rd_T100 l0_0 a1).f0)) := bc BK223 0
           have hcz47_1 : wr.cell? ⟨gb223, 1, none⟩ = some (.int .i64 ((rd_T100 l0_0 a1).f1)) := bc BK223 1
           have hcz47_2 : wr.cell? ⟨gb223, 2, none⟩ = some (.slice A222_2 ((rd_T100 l0_0 a1).f2).length c222_2) := bc BK223 2
           have hfz47_0 := bf BK223 0
           have hfz47_1 := bf BK223 1
           have hfz47_2 := bf BK223 2
           try go_wp2
           have n0_ := am (blk_drew BK220.out)
           have n1_ := am (blk_drew BK221.out)
           have n2_ := am (blk_drew BK223.out)
           have n3_ := am (below_drew1 HB.out)
           clear BK220
           clear BK221
           clear BK223
           clear HB
           have BK220 := n0_
           have BK221 := n1_
           have BK223 := n2_
           have HB := n3_
           clear n0_ n1_ n2_ n3_
           have p224 : 0 ≤ (x6_2 : Int) := of_decide_eq_true as1
           have q224 : x6_2 < (((rd_T100 l0_0 a1).f2).length : Int) := of_decide_eq_true as1
           obtain ⟨ad224, e224, hx224_0, hx224_1⟩ := at_T102 HR222_2.out x6_2 p224 q224
           have hw224_1 := hx224_1
           have hw224_0 := hx224_0
           cases e224
           replace hx224_0 := (HB.out.cell (World.block_lt_of_cell? w _ hx224_0)).trans hx224_0
           replace hx224_1 := (HB.out.cell (World.block_lt_of_cell? w _ hx224_1)).trans hx224_1
           replace p224 := eq_true p224
           replace q224 := eq_true q224
           refine start_ (n := 9) (S := fun w' => w'.cell? ⟨gb220, 0, none⟩ = some (.slice (some ad222) l0_0.length c0_0) ∧ w'.cell? ⟨gb223, 0, none⟩ = some (.int .i64 ((rd_T100 l0_0 a1).f0)) ∧ w'.cell? ⟨gb223, 1, none⟩ = some (.int .i64 ((rd_T100 l0_0 a1).f1)) ∧ w'.cell? ⟨gb223, 2, none⟩ = some (.slice (some ad224) ((rd_T100 l0_0 a1).f2).length c222_2) ∧ w'.cell? (ad224.add ((x6_2).toNat * 2)) = some (.int .i64 ((rd_T102 ((rd_T100 l0_0 a1).f2) x6_2).f0)) ∧ w'.cell? ⟨(ad224.add ((x6_2).toNat * 2)).block, (ad224.add ((x6_2).toNat * 2)).off + 1, none⟩ = some (.int .i64 ((rd_T102 ((rd_T100 l0_0 a1).f2) x6_2).f1))) (ds := []) #[false, false, false, false, false, false, false, false, false] (by kernel_rfl) rfl rfl ⟨bc BK220 0, bc BK223 0, bc BK223 1, bc BK223 2, ((HB.out.cell (World.block_lt_of_cell? _ _ hw224_0)).trans hw224_0), ((HB.out.cell (World.block_lt_of_cell? _ _ hw224_1)).trans hw224_1)⟩ (fun hHeld => ?_); refine with_tabW spec_l04Func.tab7 spec_l04Func.bits7 (fun HT_ HW_ => ?_)
           generalize wr.drew = w48 at BK220 BK221 BK223 HB hx224_0 hx224_1 hHeld ⊢
           refine pure_ (i := 1) (N := some 56) (v := ?_) (a' := ?_) #[false, true, false, false, false, false, false, false, false] rfl rfl (any_of HT_.out (by kernel_rfl)) (fun _ _ _ h => h) (Or.inl ⟨by rfl, ?_⟩) ?_ ?_
           rotate_left
           ·intro w'
            go_simp
            with_reducible rfl
           rotate_left
           ·simp only [Act.put, sa, sz, ss, i64_w, i32_w]
            rfl
           refine pure_ (i := 2) (N := some 57) (v := ?_) (a' := ?_) #[false, true, true, false, false, false, false, false, false] rfl rfl (any_of HT_.out (by kernel_rfl)) (fun _ _ _ h => h) (Or.inl ⟨by rfl, ?_⟩) ?_ ?_
           rotate_left
           ·intro w'
            go_simp
            with_reducible rfl
           rotate_left
           ·simp only [Act.put, sa, sz, ss, i64_w, i32_w]
            rfl
           refine pure_ (i := 4) (N := some 59) (v := ?_) (a' := ?_) #[false, true, true, false, true, false, false, false, false] rfl rfl (any_of HT_.out (by kernel_rfl)) (fun _ _ _ h => h) (Or.inl ⟨by rfl, ?_⟩) ?_ ?_
           rotate_left
           ·intro w'
            go_simp
            with_reducible rfl
           rotate_left
           ·simp only [Act.put, sa, sz, ss, i64_w, i32_w]
            rfl
           refine take_ (i := 0) (N := some 55) (v := ?_) (a' := ?_) #[true, true, true, false, true, false, false, false, false] rfl rfl (take_ofW HT_.out HW_.out (by kernel_rfl)) (fun _ _ _ h => h) (Or.inl ⟨by rfl, ?_⟩) hHeld ?_ ?_
           rotate_left
           ·rintro w' ⟨s0, s1, s2, s3, s4, s5⟩
            go_simp
            with_reducible rfl
           rotate_left
           ·simp only [Act.put, sa, sz, ss, i64_w, i32_w]
            rfl
           refine take_ (i := 3) (N := some 58) (v := ?_) (a' := ?_) #[true, true, true, true, true, false, false, false, false] rfl rfl (take_ofW HT_.out HW_.out (by kernel_rfl)) (fun _ _ _ h => h) (Or.inl ⟨by rfl, ?_⟩) hHeld ?_ ?_
           rotate_left
           ·rintro w' ⟨s0, s1, s2, s3, s4, s5⟩
            go_simp
            with_reducible rfl
           rotate_left
           ·simp only [Act.put, sa, sz, ss, i64_w, i32_w]
            rfl
           refine pure_ (i := 5) (N := some 60) (v := ?_) (a' := ?_) #[true, true, true, true, true, true, false, false, false] rfl rfl (any_of HT_.out (by kernel_rfl)) (fun _ _ _ h => h) (Or.inl ⟨by rfl, ?_⟩) ?_ ?_
           rotate_left
           ·intro w'
            go_simp
            with_reducible rfl
           rotate_left
           ·simp only [Act.put, sa, sz, ss, i64_w, i32_w]
            rfl
           refine take_ (i := 6) (N := some 61) (v := ?_) (a' := ?_) #[true, true, true, true, true, true, true, false, false] rfl rfl (take_ofW HT_.out HW_.out (by kernel_rfl)) (fun _ _ _ h => h) (Or.inl ⟨by rfl, ?_⟩) hHeld ?_ ?_
           rotate_left
           ·rintro w' ⟨s0, s1, s2, s3, s4, s5⟩
            go_simp
            with_reducible rfl
           rotate_left
           ·simp only [Act.put, sa, sz, ss, i64_w, i32_w]
            rfl
           refine one_ (i := 7) (N := some 62) #[true, true, true, true, true, true, true, true, false] rfl rfl (one_of HT_.out (by kernel_rfl)) (by decide) (fun K hK => ?_)
           refine goes_ Try.func191 (by kernel_rfl) rfl #[.agg #[.slice (some ad222) l0_0.length c0_0], .int .i64 a1, .agg #[.int .i64 ((rd_T102 ((rd_T100 l0_0 a1).f2) x6_2).f0), .int .i64 ((rd_T102 ((rd_T100 l0_0 a1).f2) x6_2).f1)]] (by rfl) rfl rfl gl ?_
           with_reducible refine (spec_InsRight.calls k2 _ _ l0_0 a1 ((rd_T102 ((rd_T100 l0_0 a1).f2) x6_2).f0) ((rd_T102 ((rd_T100 l0_0 a1).f2) x6_2).f1) true _ ?side1 ?side2 A43.out).mono ?_
           (case side1 => exact cc (Kd.C_below HR0_0.out HB.out))
           (case side2 => exact HC0_0.out)
           rintro e w49 ⟨rfl, hb⟩
           refine ⟨_, rfl, ?_⟩
           have n0_ := am (blk_below (g := gb220) (o := .cells #[.slice (some ad222) l0_0.length c0_0] 30 (0, 0)) (bp BK220) hb)
           have n1_ := am (blk_below (g := gb221) (o := .cells #[.int .i64 x222000_2, .int .i64 x222001_2, .int .i64 x222002_2] 84 (0, 0)) (bp BK221) hb)
           have n2_ := am (blk_below (g := gb223) (o := .cells #[.int .i64 ((rd_T100 l0_0 a1).f0), .int .i64 ((rd_T100 l0_0 a1).f1), .slice (some ad224) ((rd_T100 l0_0 a1).f2).length c222_2] 100 (0, 0)) (bp BK223) hb)
           have n3_ := am (below_step (bw HB) hb)
           clear BK220
           clear BK221
           clear BK223
           clear HB
           have BK220 := n0_
           have BK221 := n1_
           have BK223 := n2_
           have HB := n3_
           clear n0_ n1_ n2_ n3_
           (try clear hb)
           (try clear hb2)
           (try clear hk)
           (try clear hi)
           refine hK.out _ _ ⟨bc BK220 0, bc BK223 0, bc BK223 1, bc BK223 2, ((HB.out.cell (World.block_lt_of_cell? _ _ hw224_0)).trans hw224_0), ((HB.out.cell (World.block_lt_of_cell? _ _ hw224_1)).trans hw224_1)⟩ (fun hHeld => ?_)
           clear hK K
           refine norm_ (a' := ?_) ?_ ?_
           rotate_left
           ·show Act.put _ (some 62) _ = _
            simp only [Act.put, sa, sz, ss, i64_w, i32_w]
            rfl
           refine pure_ (i := 8) (N := some 63) (v := ?_) (a' := ?_) #[true, true, true, true, true, true, true, true, true] rfl rfl (any_of HT_.out (by kernel_rfl)) (fun _ _ _ h => h) (Or.inl ⟨by rfl, ?_⟩) ?_ ?_
           rotate_left
           ·intro w'
            go_simp
            with_reducible rfl
           rotate_left
           ·simp only [Act.put, sa, sz, ss, i64_w, i32_w]
            rfl
           refine done_ (done_of HT_.out (by kernel_rfl)) ?_
           try go_wp2
           go_roundg k2
           case measure => have := HJ4.out; have := HK2.out; omega
           case rel => exact ⟨(wrap64 (x6_2 + 1)), (x222000_2), (x222001_2), (x222002_2), dr, H', ⟨by have := HJ4.out; have := HK2.out; omega⟩, ⟨bp BK220⟩, ⟨bp BK221⟩, ⟨bp BK223⟩, ⟨bw HB⟩⟩
          ·replace c44 := Bool.eq_false_iff.mpr c44
           subst c44
           have H1 : (some (a1, x6_2, 1)) = some (r1, r2, r3) := by rw [if_neg (show ¬ (false = true) by decide)] at H; exact H
           clear H
           have H := H1
           clear H1
           simp only [Option.some.injEq, Prod.mk.injEq] at H
           obtain ⟨rfl, rfl, rfl⟩ := H
           have hnb50 := NB223_220.out
           have hnc50 := NB220_223.out
           have hnb51 := NB223_221.out
           have hnc51 := NB221_223.out
           have hcz52_0 : wr.cell? ⟨gb223, 0, none⟩ = some (.int .i64 ((rd_T100 l0_0 a1).f0)) := bc BK223 0
           have hcz52_1 : wr.cell? ⟨gb223, 1, none⟩ = some (.int .i64 ((rd_T100 l0_0 a1).f1)) := bc BK223 1
           have hcz52_2 : wr.cell? ⟨gb223, 2, none⟩ = some (.slice A222_2 ((rd_T100 l0_0 a1).f2).length c222_2) := bc BK223 2
           have hfz52_0 := bf BK223 0
           have hfz52_1 := bf BK223 1
           have hfz52_2 := bf BK223 2
           try go_wp2
           have n0_ := am (blk_drew BK220.out)
           have n1_ := am (blk_drew BK221.out)
           have n2_ := am (blk_drew BK223.out)
           have n3_ := am (below_drew1 HB.out)
           clear BK220
           clear BK221
           clear BK223
           clear HB
           have BK220 := n0_
           have BK221 := n1_
           have BK223 := n2_
           have HB := n3_
           clear n0_ n1_ n2_ n3_
           have p224 : 0 ≤ (x6_2 : Int) := of_decide_eq_true as1
           have q224 : x6_2 < (((rd_T100 l0_0 a1).f2).length : Int) := of_decide_eq_true as1
           obtain ⟨ad224, e224, hx224_0, hx224_1⟩ := at_T102 HR222_2.out x6_2 p224 q224
           have hw224_1 := hx224_1
           have hw224_0 := hx224_0
           cases e224
           replace hx224_0 := (HB.out.cell (World.block_lt_of_cell? w _ hx224_0)).trans hx224_0
           replace hx224_1 := (HB.out.cell (World.block_lt_of_cell? w _ hx224_1)).trans hx224_1
           replace p224 := eq_true p224
           replace q224 := eq_true q224
           refine start_ (n := 9) (S := fun w' => w'.cell? ⟨gb220, 0, none⟩ = some (.slice (some ad222) l0_0.length c0_0) ∧ w'.cell? ⟨gb223, 0, none⟩ = some (.int .i64 ((rd_T100 l0_0 a1).f0)) ∧ w'.cell? ⟨gb223, 1, none⟩ = some (.int .i64 ((rd_T100 l0_0 a1).f1)) ∧ w'.cell? ⟨gb223, 2, none⟩ = some (.slice (some ad224) ((rd_T100 l0_0 a1).f2).length c222_2) ∧ w'.cell? (ad224.add ((x6_2).toNat * 2)) = some (.int .i64 ((rd_T102 ((rd_T100 l0_0 a1).f2) x6_2).f0)) ∧ w'.cell? ⟨(ad224.add ((x6_2).toNat * 2)).block, (ad224.add ((x6_2).toNat * 2)).off + 1, none⟩ = some (.int .i64 ((rd_T102 ((rd_T100 l0_0 a1).f2) x6_2).f1))) (ds := []) #[false, false, false, false, false, false, false, false, false] (by kernel_rfl) rfl rfl ⟨bc BK220 0, bc BK223 0, bc BK223 1, bc BK223 2, ((HB.out.cell (World.block_lt_of_cell? _ _ hw224_0)).trans hw224_0), ((HB.out.cell (World.block_lt_of_cell? _ _ hw224_1)).trans hw224_1)⟩ (fun hHeld => ?_); refine with_tabW spec_l04Func.tab7 spec_l04Func.bits7 (fun HT_ HW_ => ?_)
           generalize wr.drew = w53 at BK220 BK221 BK223 HB hx224_0 hx224_1 hHeld ⊢
           refine pure_ (i := 1) (N := some 56) (v := ?_) (a' := ?_) #[false, true, false, false, false, false, false, false, false] rfl rfl (any_of HT_.out (by kernel_rfl)) (fun _ _ _ h => h) (Or.inl ⟨by rfl, ?_⟩) ?_ ?_
           rotate_left
           ·intro w'
            go_simp
            with_reducible rfl
           rotate_left
           ·simp only [Act.put, sa, sz, ss, i64_w, i32_w]
            rfl
           refine pure_ (i := 2) (N := some 57) (v := ?_) (a' := ?_) #[false, true, true, false, false, false, false, false, false] rfl rfl (any_of HT_.out (by kernel_rfl)) (fun _ _ _ h => h) (Or.inl ⟨by rfl, ?_⟩) ?_ ?_
           rotate_left
           ·intro w'
            go_simp
            with_reducible rfl
           rotate_left
           ·simp only [Act.put, sa, sz, ss, i64_w, i32_w]
            rfl
           refine pure_ (i := 4) (N := some 59) (v := ?_) (a' := ?_) #[false, true, true, false, true, false, false, false, false] rfl rfl (any_of HT_.out (by kernel_rfl)) (fun _ _ _ h => h) (Or.inl ⟨by rfl, ?_⟩) ?_ ?_
           rotate_left
           ·intro w'
            go_simp
            with_reducible rfl
           rotate_left
           ·simp only [Act.put, sa, sz, ss, i64_w, i32_w]
            rfl
           refine take_ (i := 0) (N := some 55) (v := ?_) (a' := ?_) #[true, true, true, false, true, false, false, false, false] rfl rfl (take_ofW HT_.out HW_.out (by kernel_rfl)) (fun _ _ _ h => h) (Or.inl ⟨by rfl, ?_⟩) hHeld ?_ ?_
           rotate_left
           ·rintro w' ⟨s0, s1, s2, s3, s4, s5⟩
            go_simp
            with_reducible rfl
           rotate_left
           ·simp only [Act.put, sa, sz, ss, i64_w, i32_w]
            rfl
           refine take_ (i := 3) (N := some 58) (v := ?_) (a' := ?_) #[true, true, true, true, true, false, false, false, false] rfl rfl (take_ofW HT_.out HW_.out (by kernel_rfl)) (fun _ _ _ h => h) (Or.inl ⟨by rfl, ?_⟩) hHeld ?_ ?_
           rotate_left
           ·rintro w' ⟨s0, s1, s2, s3, s4, s5⟩
            go_simp
            with_reducible rfl
           rotate_left
           ·simp only [Act.put, sa, sz, ss, i64_w, i32_w]
            rfl
           refine pure_ (i := 5) (N := some 60) (v := ?_) (a' := ?_) #[true, true, true, true, true, true, false, false, false] rfl rfl (any_of HT_.out (by kernel_rfl)) (fun _ _ _ h => h) (Or.inl ⟨by rfl, ?_⟩) ?_ ?_
           rotate_left
           ·intro w'
            go_simp
            with_reducible rfl
           rotate_left
           ·simp only [Act.put, sa, sz, ss, i64_w, i32_w]
            rfl
           refine take_ (i := 6) (N := some 61) (v := ?_) (a' := ?_) #[true, true, true, true, true, true, true, false, false] rfl rfl (take_ofW HT_.out HW_.out (by kernel_rfl)) (fun _ _ _ h => h) (Or.inl ⟨by rfl, ?_⟩) hHeld ?_ ?_
           rotate_left
           ·rintro w' ⟨s0, s1, s2, s3, s4, s5⟩
            go_simp
            with_reducible rfl
           rotate_left
           ·simp only [Act.put, sa, sz, ss, i64_w, i32_w]
            rfl
           refine one_ (i := 7) (N := some 62) #[true, true, true, true, true, true, true, true, false] rfl rfl (one_of HT_.out (by kernel_rfl)) (by decide) (fun K hK => ?_)
           refine goes_ Try.func191 (by kernel_rfl) rfl #[.agg #[.slice (some ad222) l0_0.length c0_0], .int .i64 a1, .agg #[.int .i64 ((rd_T102 ((rd_T100 l0_0 a1).f2) x6_2).f0), .int .i64 ((rd_T102 ((rd_T100 l0_0 a1).f2) x6_2).f1)]] (by rfl) rfl rfl gl ?_
           with_reducible refine (spec_InsRight.calls k2 _ _ l0_0 a1 ((rd_T102 ((rd_T100 l0_0 a1).f2) x6_2).f0) ((rd_T102 ((rd_T100 l0_0 a1).f2) x6_2).f1) false _ ?side1 ?side2 A43.out).mono ?_
           (case side1 => exact cc (Kd.C_below HR0_0.out HB.out))
           (case side2 => exact HC0_0.out)
           rintro e w54 ⟨rfl, hb⟩
           refine ⟨_, rfl, ?_⟩
           have n0_ := am (blk_below (g := gb220) (o := .cells #[.slice (some ad222) l0_0.length c0_0] 30 (0, 0)) (bp BK220) hb)
           have n1_ := am (blk_below (g := gb221) (o := .cells #[.int .i64 x222000_2, .int .i64 x222001_2, .int .i64 x222002_2] 84 (0, 0)) (bp BK221) hb)
           have n2_ := am (blk_below (g := gb223) (o := .cells #[.int .i64 ((rd_T100 l0_0 a1).f0), .int .i64 ((rd_T100 l0_0 a1).f1), .slice (some ad224) ((rd_T100 l0_0 a1).f2).length c222_2] 100 (0, 0)) (bp BK223) hb)
           have n3_ := am (below_step (bw HB) hb)
           clear BK220
           clear BK221
           clear BK223
           clear HB
           have BK220 := n0_
           have BK221 := n1_
           have BK223 := n2_
           have HB := n3_
           clear n0_ n1_ n2_ n3_
           (try clear hb)
           (try clear hb2)
           (try clear hk)
           (try clear hi)
           refine hK.out _ _ ⟨bc BK220 0, bc BK223 0, bc BK223 1, bc BK223 2, ((HB.out.cell (World.block_lt_of_cell? _ _ hw224_0)).trans hw224_0), ((HB.out.cell (World.block_lt_of_cell? _ _ hw224_1)).trans hw224_1)⟩ (fun hHeld => ?_)
           clear hK K
           refine norm_ (a' := ?_) ?_ ?_
           rotate_left
           ·show Act.put _ (some 62) _ = _
            simp only [Act.put, sa, sz, ss, i64_w, i32_w]
            rfl
           refine pure_ (i := 8) (N := some 63) (v := ?_) (a' := ?_) #[true, true, true, true, true, true, true, true, true] rfl rfl (any_of HT_.out (by kernel_rfl)) (fun _ _ _ h => h) (Or.inl ⟨by rfl, ?_⟩) ?_ ?_
           rotate_left
           ·intro w'
            go_simp
            with_reducible rfl
           rotate_left
           ·simp only [Act.put, sa, sz, ss, i64_w, i32_w]
            rfl
           refine done_ (done_of HT_.out (by kernel_rfl)) ?_
           have hnb55 := NB221_220.out
           have hnc55 := NB220_221.out
           have hcz56_0 : w54.cell? ⟨gb221, 0, none⟩ = some (.int .i64 x222000_2) := bc BK221 0
           have hcz56_1 : w54.cell? ⟨gb221, 1, none⟩ = some (.int .i64 x222001_2) := bc BK221 1
           have hcz56_2 : w54.cell? ⟨gb221, 2, none⟩ = some (.int .i64 x222002_2) := bc BK221 2
           have hfz56_0 := bf BK221 0
           have hfz56_1 := bf BK221 1
           have hfz56_2 := bf BK221 2
           try go_wp2
           refine bodyPost_ret (results_cell_row rfl _ _ gb221 84 #[.int .i64 a1, .int .i64 x6_2, .int .i64 1] (0, 0) _ rfl (by (with_reducible repeat (first | apply dN | apply dW | apply dA)); refine blk_put (cs := #[.int .i64 a1, .int .i64 x6_2, .int .i64 x222002_2]) ?_ 2 _ rfl; (with_reducible repeat (first | apply dN | apply dW | apply dA)); refine blk_put (cs := #[.int .i64 a1, .int .i64 x222001_2, .int .i64 x222002_2]) ?_ 1 _ rfl; (with_reducible repeat (first | apply dN | apply dW | apply dA)); refine blk_put (cs := #[.int .i64 x222000_2, .int .i64 x222001_2, .int .i64 x222002_2]) ?_ 0 _ rfl; exact bp BK221) Try.underlying84 rfl (by kernel_rfl)) rfl ?_
           exact ⟨er, bw HB⟩
         ·rw [if_neg c42] at H
          exact absurd H (by simp)
        ·rw [if_neg c41] at H
         have c41b0 := decide_eq_false c41
         clear c41
         replace H := Option.bind_eq_some_iff.mp H
         obtain ⟨⟨t226, t229, t230, t231⟩, A570, H⟩ := H
         replace H : (some (t229, t230, t231)) = some (r1, r2, r3) := H
         have A57 := am A570
         clear A570
         simp only [Option.some.injEq, Prod.mk.injEq] at H
         obtain ⟨rfl, rfl, rfl⟩ := H
         have hnb58 := NB223_220.out
         have hnc58 := NB220_223.out
         have hnb59 := NB223_221.out
         have hnc59 := NB221_223.out
         have hcz60_0 : wr.cell? ⟨gb223, 0, none⟩ = some (.int .i64 ((rd_T100 l0_0 a1).f0)) := bc BK223 0
         have hcz60_1 : wr.cell? ⟨gb223, 1, none⟩ = some (.int .i64 ((rd_T100 l0_0 a1).f1)) := bc BK223 1
         have hcz60_2 : wr.cell? ⟨gb223, 2, none⟩ = some (.slice A222_2 ((rd_T100 l0_0 a1).f2).length c222_2) := bc BK223 2
         have hfz60_0 := bf BK223 0
         have hfz60_1 := bf BK223 1
         have hfz60_2 := bf BK223 2
         have hnb61 := NB220_221.out
         have hnc61 := NB221_220.out
         have hcz62_0 : wr.cell? ⟨gb220, 0, none⟩ = some (.slice (some ad222) l0_0.length c0_0) := bc BK220 0
         have hfz62_0 := bf BK220 0
         go_wp2_with (first | ((with_reducible refine gate_callee (f := 58) rfl ?_); refine goesL_ (some 70) rfl rfl Try.func58 (by kernel_rfl) rfl #[.agg #[.slice (some ad222) l0_0.length c0_0], .int .i64 a1] rfl gl ?_; (with_reducible refine (spec_l04Heights.calls k2 _ _ l0_0 a1 t226 t229 t230 t231 _ ?side1 ?side2 A57.out).mono ?_); (case side1 => exact cc (Kd.C_below HR0_0.out HB.out)); (case side2 => exact HC0_0.out); rintro e w63 ⟨v227, rfl, ho0, hb⟩; refine ⟨_, rfl, ?_⟩; have HO228 := am (Kd.R_lower ho0 (below_size (bw HB))); replace BK220 := am (blk_below (g := gb220) (o := .cells #[.slice (some ad222) l0_0.length c0_0] 30 (0, 0)) (bp BK220) hb); replace BK221 := am (blk_below (g := gb221) (o := .cells #[.int .i64 x222000_2, .int .i64 x222001_2, .int .i64 x222002_2] 84 (0, 0)) (bp BK221) hb); replace BK223 := am (blk_below (g := gb223) (o := .cells #[.int .i64 ((rd_T100 l0_0 a1).f0), .int .i64 ((rd_T100 l0_0 a1).f1), .slice A222_2 ((rd_T100 l0_0 a1).f2).length c222_2] 100 (0, 0)) (bp BK223) hb); replace HB := am (below_step (bw HB) hb); (try clear hb); (try clear hb2); (try clear hk); (try clear hi); (try clear ho0)) | ((with_reducible refine gate_dst (N := 8) rfl ?_); (try (refine gate_guard (by rfl) ?_; dsimp only)); refine box_event ?hg (N := 8) ?hd (cs := #[.int .i64 0, .int .i64 0, .int .i64 0]) (t := 84) ?hr ?_; (case hd => rfl); (case hg => rfl); (case hr => exact gs); intro gb232 hg w64 hbox hb; replace HO228 := am (Kd.R_below (kR HO228) hb); have BK232 := am (hbox); have GW232 := am ((by rw [hg]; exact (below_size (bw HB)) : w.heap.size ≤ gb232)); have GE232 := am ((by rw [hg]; exact (below_size (bw HB)) : w.heap.size ≤ gb232)); replace HB := am (below_step (bw HB) hb); have NB220_232 := am ((by rw [hg]; exact Nat.ne_of_lt (blk_lt (g := gb220) (o := .cells #[.slice (some ad222) l0_0.length c0_0] 30 (0, 0)) (bp BK220)) : gb220 ≠ gb232)); have NB232_220 := am ((by rw [hg]; exact Nat.ne_of_gt (blk_lt (g := gb220) (o := .cells #[.slice (some ad222) l0_0.length c0_0] 30 (0, 0)) (bp BK220)) : gb232 ≠ gb220)); replace BK220 := am (blk_below (g := gb220) (o := .cells #[.slice (some ad222) l0_0.length c0_0] 30 (0, 0)) (bp BK220) hb); have NB221_232 := am ((by rw [hg]; exact Nat.ne_of_lt (blk_lt (g := gb221) (o := .cells #[.int .i64 x222000_2, .int .i64 x222001_2, .int .i64 x222002_2] 84 (0, 0)) (bp BK221)) : gb221 ≠ gb232)); have NB232_221 := am ((by rw [hg]; exact Nat.ne_of_gt (blk_lt (g := gb221) (o := .cells #[.int .i64 x222000_2, .int .i64 x222001_2, .int .i64 x222002_2] 84 (0, 0)) (bp BK221)) : gb232 ≠ gb221)); replace BK221 := am (blk_below (g := gb221) (o := .cells #[.int .i64 x222000_2, .int .i64 x222001_2, .int .i64 x222002_2] 84 (0, 0)) (bp BK221) hb); have NB223_232 := am ((by rw [hg]; exact Nat.ne_of_lt (blk_lt (g := gb223) (o := .cells #[.int .i64 ((rd_T100 l0_0 a1).f0), .int .i64 ((rd_T100 l0_0 a1).f1), .slice A222_2 ((rd_T100 l0_0 a1).f2).length c222_2] 100 (0, 0)) (bp BK223)) : gb223 ≠ gb232)); have NB232_223 := am ((by rw [hg]; exact Nat.ne_of_gt (blk_lt (g := gb223) (o := .cells #[.int .i64 ((rd_T100 l0_0 a1).f0), .int .i64 ((rd_T100 l0_0 a1).f1), .slice A222_2 ((rd_T100 l0_0 a1).f2).length c222_2] 100 (0, 0)) (bp BK223)) : gb232 ≠ gb223)); replace BK223 := am (blk_below (g := gb223) (o := .cells #[.int .i64 ((rd_T100 l0_0 a1).f0), .int .i64 ((rd_T100 l0_0 a1).f1), .slice A222_2 ((rd_T100 l0_0 a1).f2).length c222_2] 100 (0, 0)) (bp BK223) hb); clear hb hbox hg; have hnb65 := NB232_220.out; have hnc65 := NB220_232.out; have hnb66 := NB232_221.out; have hnc66 := NB221_232.out; have hnb67 := NB232_223.out; have hnc67 := NB223_232.out; have hcz68_0 : w64.cell? ⟨gb232, 0, none⟩ = some (.int .i64 0) := bc BK232 0; have hcz68_1 : w64.cell? ⟨gb232, 1, none⟩ = some (.int .i64 0) := bc BK232 1; have hcz68_2 : w64.cell? ⟨gb232, 2, none⟩ = some (.int .i64 0) := bc BK232 2; have hfz68_0 := bf BK232 0; have hfz68_1 := bf BK232 1; have hfz68_2 := bf BK232 2; have hcz69_0 : w64.cell? ⟨gb221, 0, none⟩ = some (.int .i64 x222000_2) := bc BK221 0; have hcz69_1 : w64.cell? ⟨gb221, 1, none⟩ = some (.int .i64 x222001_2) := bc BK221 1; have hcz69_2 : w64.cell? ⟨gb221, 2, none⟩ = some (.int .i64 x222002_2) := bc BK221 2; have hfz69_0 := bf BK221 0; have hfz69_1 := bf BK221 1; have hfz69_2 := bf BK221 2))
         refine bodyPost_ret (results_cell_row rfl _ _ gb221 84 #[.int .i64 t229, .int .i64 t230, .int .i64 t231] (0, 0) _ rfl (by (with_reducible repeat (first | apply dN | apply dW | apply dA)); refine blk_put (cs := #[.int .i64 t229, .int .i64 t230, .int .i64 x222002_2]) ?_ 2 _ rfl; (with_reducible repeat (first | apply dN | apply dW | apply dA)); refine blk_put (cs := #[.int .i64 t229, .int .i64 x222001_2, .int .i64 x222002_2]) ?_ 1 _ rfl; (with_reducible repeat (first | apply dN | apply dW | apply dA)); refine blk_put (cs := #[.int .i64 x222000_2, .int .i64 x222001_2, .int .i64 x222002_2]) ?_ 0 _ rfl; (with_reducible repeat (first | apply dN | apply dW | apply dA)); refine blk_far ?_ NB221_232.out _; (with_reducible repeat (first | apply dN | apply dW | apply dA)); refine blk_far ?_ NB221_232.out _; (with_reducible repeat (first | apply dN | apply dW | apply dA)); refine blk_far ?_ NB221_232.out _; exact bp BK221) Try.underlying84 rfl (by kernel_rfl)) rfl ?_
         exact ⟨er, bw HB⟩
  ·rw [if_neg c4] at H
   exact absurd H (by simp)
 ·rw [if_neg c3] at H
  exact absurd H (by simp)

mutual
def spec_Verify.j0 : Nat → Bool → List (S100) → Option (Int × Int × Int)
 | 0, _, _ => none
 | k + 1, x14, x234000 => if x14 = true then (some (0, 0, 1)) else (spec_Verify.l0 k 0 x234000)
def spec_Verify.l0 : Nat → Int → List (S100) → Option (Int × Int × Int)
 | 0, _, _ => none
 | k + 1, x3, x234000 => if x3 < (x234000.length : Int) then ((spec_l04Func.f k x234000 x3).bind fun bt235 => (if bt235.2.2 = 0 then (spec_Verify.l0 k (wrap64 (x3 + 1)) x234000) else (some (bt235.1, bt235.2.1, bt235.2.2)))) else (some (0, 0, 0))
end
def spec_Verify.f (k : Nat) (l0_0 : List (S100)) : Option (Int × Int × Int) := if (l0_0.length : Int) < 1 then (spec_Verify.j0 k true l0_0) else (spec_Verify.j0 k (decide ((l0_0.length : Int) > 6)) l0_0)
theorem spec_Verify.mono_l : ∀ k, (∀ y0 y1, LeO (spec_Verify.j0 k y0 y1) (spec_Verify.j0 (k + 1) y0 y1)) ∧ (∀ y0 y1, LeO (spec_Verify.l0 k y0 y1) (spec_Verify.l0 (k + 1) y0 y1))
 | 0 => ⟨fun _ _ r h => by simp [spec_Verify.j0] at h, fun _ _ r h => by simp [spec_Verify.l0] at h⟩
 | k + 1 => by
  obtain ⟨ih0, ih1⟩ := spec_Verify.mono_l k
  refine ⟨?_, ?_⟩
  ·intro y0 y1
   unfold spec_Verify.j0
   repeat' first
   | (with_reducible exact ih0 _ _)
   | (with_reducible exact ih1 _ _)
   | (with_reducible exact spec_l04Func.mono _ _ _)
   | (with_reducible exact LeO.refl _)
   | (with_reducible exact LeO.none _)
   | (with_reducible refine LeO.ite ?_ ?_)
   | (with_reducible refine LeO.bind ?_ (fun _ => ?_))
  ·intro y0 y1
   unfold spec_Verify.l0
   repeat' first
   | (with_reducible exact ih0 _ _)
   | (with_reducible exact ih1 _ _)
   | (with_reducible exact spec_l04Func.mono _ _ _)
   | (with_reducible exact LeO.refl _)
   | (with_reducible exact LeO.none _)
   | (with_reducible refine LeO.ite ?_ ?_)
   | (with_reducible refine LeO.bind ?_ (fun _ => ?_))
theorem spec_Verify.mono : ∀ a0 k, LeO (spec_Verify.f k a0) (spec_Verify.f (k + 1) a0) := by
 intro a0 k
 obtain ⟨ih0, ih1⟩ := spec_Verify.mono_l k
 unfold spec_Verify.f
 repeat' first
   | (with_reducible exact ih0 _ _)
   | (with_reducible exact ih1 _ _)
   | (with_reducible exact spec_l04Func.mono _ _ _)
   | (with_reducible exact LeO.refl _)
   | (with_reducible exact LeO.none _)
   | (with_reducible refine LeO.ite ?_ ?_)
   | (with_reducible refine LeO.bind ?_ (fun _ => ?_))
theorem spec_Verify.calls (k : Nat) (A0_0 : Option Addr) (c0_0 : Nat) (l0_0 : List (S100)) (r1 : Int) (r2 : Int) (r3 : Int) (w : World) (hr0_0 : Kd.C k100 w A0_0 l0_0.length l0_0) (hc0_0 : l0_0.length ≤ c0_0) (h : spec_Verify.f k l0_0 = some (r1, r2, r3)) :
  Calls Try.prog 124 #[.agg #[.slice A0_0 l0_0.length c0_0]] w fun e w' => e = .returned (.agg #[.int .i64 r1, .int .i64 r2, .int .i64 r3]) ∧ Below w.heap.size w w' := by
 have hu30 := Try.underlying30
 have hu84 := Try.underlying84
 have HR0_0 := am hr0_0
 have HC0_0 := am hc0_0
 clear hr0_0 hc0_0
 have HB := am (Below.refl w.heap.size w)
 have H : (if (l0_0.length : Int) < 1 then (spec_Verify.j0 k true l0_0) else (spec_Verify.j0 k (decide ((l0_0.length : Int) > 6)) l0_0)) = some (r1, r2, r3) := h
 clear h
 have HC2 := am H
 clear H
 go_enter Try.func124, Try.ntmps124
 go_upto_region 1 with (first | ((with_reducible refine gate_dst (N := 1) rfl ?_); (try (refine gate_guard (by rfl) ?_; dsimp only)); refine box_event ?hg (N := 1) ?hd (cs := #[.slice A0_0 l0_0.length c0_0]) (t := 30) ?hr ?_; (case hd => rfl); (case hg => rfl); (case hr => exact gs); intro gb233 hg w3 hbox hb; have BK233 := am (hbox); have GW233 := am ((by rw [hg]; exact (below_size (bw HB)) : w.heap.size ≤ gb233)); have GE233 := am ((by rw [hg]; exact (below_size (bw HB)) : w.heap.size ≤ gb233)); replace HB := am (below_step (bw HB) hb); clear hb hbox hg) | ((with_reducible refine gate_dst (N := 2) rfl ?_); (try (refine gate_guard (by rfl) ?_; dsimp only)); refine box_event ?hg (N := 2) ?hd (cs := #[.int .i64 0, .int .i64 0, .int .i64 0]) (t := 84) ?hr ?_; (case hd => rfl); (case hg => rfl); (case hr => exact gs); intro gb234 hg w4 hbox hb; have BK234 := am (hbox); have GW234 := am ((by rw [hg]; exact (below_size (bw HB)) : w.heap.size ≤ gb234)); have GE234 := am ((by rw [hg]; exact (below_size (bw HB)) : w.heap.size ≤ gb234)); replace HB := am (below_step (bw HB) hb); have NB233_234 := am ((by rw [hg]; exact Nat.ne_of_lt (blk_lt (g := gb233) (o := .cells #[.slice A0_0 l0_0.length c0_0] 30 (0, 0)) (bp BK233)) : gb233 ≠ gb234)); have NB234_233 := am ((by rw [hg]; exact Nat.ne_of_gt (blk_lt (g := gb233) (o := .cells #[.slice A0_0 l0_0.length c0_0] 30 (0, 0)) (bp BK233)) : gb234 ≠ gb233)); replace BK233 := am (blk_below (g := gb233) (o := .cells #[.slice A0_0 l0_0.length c0_0] 30 (0, 0)) (bp BK233) hb); clear hb hbox hg))
 (try simp only [Act.put, sa, sz, ss])
 go_cut [14] (fun v14 wc => ∃ (kq : Nat) (x14_1 : Bool), v14 = .bool x14_1 ∧ Aside0 (spec_Verify.j0 kq x14_1 l0_0 = some (r1, r2, r3)) ∧ Aside0 (kq ≤ k) ∧ Aside0 (wc.heap[gb233]? = some (.cells #[(.slice A0_0 l0_0.length c0_0)] 30 (0, 0))) ∧ Aside0 (wc.heap[gb234]? = some (.cells #[.int .i64 0, .int .i64 0, .int .i64 0] 84 (0, 0))) ∧ Aside0 (Below w.heap.size w wc))
 case first =>
  have H := HC2.out
  clear HC2
  by_cases c5 : (l0_0.length : Int) < 1
  ·rw [if_pos c5] at H
   have c5b0 := decide_eq_true c5
   have c5b1 : decide (l0_0.length < 1) = true := decide_eq_true (by omega)
   clear c5
   (first | rw [c5b0] | (simp only [i64_w, i32_w]; rw [c5b0]) | skip)
   have H' := am H
   clear H
   have hnb6 := NB233_234.out
   have hnc6 := NB234_233.out
   have hcz7_0 : w4.cell? ⟨gb233, 0, none⟩ = some (.slice A0_0 l0_0.length c0_0) := bc BK233 0
   have hfz7_0 := bf BK233 0
   go_wp2
   go_meet
   case rel => exact ⟨_, (true), dr, H', ⟨by first | omega | exact Nat.le_refl _⟩, ⟨bp BK233⟩, ⟨bp BK234⟩, ⟨bw HB⟩⟩
  ·rw [if_neg c5] at H
   have c5b0 := decide_eq_false c5
   have c5b1 : decide (l0_0.length < 1) = false := decide_eq_false (by omega)
   clear c5
   (first | rw [c5b0] | (simp only [i64_w, i32_w]; rw [c5b0]) | skip)
   have H' := am H
   clear H
   have hnb8 := NB233_234.out
   have hnc8 := NB234_233.out
   have hcz9_0 : w4.cell? ⟨gb233, 0, none⟩ = some (.slice A0_0 l0_0.length c0_0) := bc BK233 0
   have hfz9_0 := bf BK233 0
   go_wp2
   go_meet
   case rel => exact ⟨_, (decide ((l0_0.length : Int) > 6)), dr, H', ⟨by first | omega | exact Nat.le_refl _⟩, ⟨bp BK233⟩, ⟨bp BK234⟩, ⟨bw HB⟩⟩
 case rest =>
  clear HC2
  (try clear c1); (try clear p2); (try clear c5); (try clear c5b0); (try clear c5b1); (try clear c6); (try clear c8); (try clear hcz7_0); (try clear hcz9_0); (try clear hfz7_0); (try clear hfz9_0)
  obtain ⟨kq, x14_1, rfl, HA, HJ1, BK233, BK234, HB⟩ := hcut
  cases kq with
  | zero => exact absurd HA.out (by simp [spec_Verify.j0])
  | succ kj1 =>
   have H := HA.out
   clear HA
   simp only [spec_Verify.j0] at H
   by_cases c10 : x14_1 = true
   ·subst c10
    have H1 : (some (0, 0, 1)) = some (r1, r2, r3) := by rw [if_pos rfl] at H; exact H
    clear H
    have H := H1
    clear H1
    simp only [Option.some.injEq, Prod.mk.injEq] at H
    obtain ⟨rfl, rfl, rfl⟩ := H
    have hnb11 := NB234_233.out
    have hnc11 := NB233_234.out
    have hcz12_0 : wc.cell? ⟨gb234, 0, none⟩ = some (.int .i64 0) := bc BK234 0
    have hcz12_1 : wc.cell? ⟨gb234, 1, none⟩ = some (.int .i64 0) := bc BK234 1
    have hcz12_2 : wc.cell? ⟨gb234, 2, none⟩ = some (.int .i64 0) := bc BK234 2
    have hfz12_0 := bf BK234 0
    have hfz12_1 := bf BK234 1
    have hfz12_2 := bf BK234 2
    go_wp2
    refine bodyPost_ret (results_cell_row rfl _ _ gb234 84 #[.int .i64 0, .int .i64 0, .int .i64 1] (0, 0) _ rfl (by (with_reducible repeat (first | apply dN | apply dW | apply dA)); refine blk_put (cs := #[.int .i64 0, .int .i64 0, .int .i64 0]) ?_ 2 _ rfl; (with_reducible repeat (first | apply dN | apply dW | apply dA)); refine blk_put (cs := #[.int .i64 0, .int .i64 0, .int .i64 0]) ?_ 1 _ rfl; (with_reducible repeat (first | apply dN | apply dW | apply dA)); refine blk_put (cs := #[.int .i64 0, .int .i64 0, .int .i64 0]) ?_ 0 _ rfl; exact bp BK234) Try.underlying84 rfl (by kernel_rfl)) rfl ?_
    exact ⟨er, bw HB⟩
   ·replace c10 := Bool.eq_false_iff.mpr c10
    subst c10
    have H1 : (spec_Verify.l0 kj1 0 l0_0) = some (r1, r2, r3) := by rw [if_neg (show ¬ (false = true) by decide)] at H; exact H
    clear H
    have H := H1
    clear H1
    have H' := am H
    clear H
    go_wp2
    go_loopg [3] kj1 (fun kq v3 w' => ∃ (x3_2 : Int) (x235000_2 : Int) (x235001_2 : Int) (x235002_2 : Int), v3 = .int .i64 x3_2 ∧ Aside0 (spec_Verify.l0 kq x3_2 l0_0 = some (r1, r2, r3)) ∧ Aside0 (kq ≤ kj1) ∧ Aside0 (w'.heap[gb233]? = some (.cells #[(.slice A0_0 l0_0.length c0_0)] 30 (0, 0))) ∧ Aside0 (w'.heap[gb234]? = some (.cells #[.int .i64 x235000_2, .int .i64 x235001_2, .int .i64 x235002_2] 84 (0, 0))) ∧ Aside0 (Below w.heap.size w w'))
    case atStart => exact ⟨(0), (0), (0), (0), dr, H', ⟨Nat.le_refl _⟩, ⟨bp BK233⟩, ⟨bp BK234⟩, ⟨bw HB⟩⟩
    case round =>
     clear H'
     (try clear c1); (try clear p2); (try clear c5); (try clear c5b0); (try clear c5b1); (try clear c6); (try clear c8); (try clear c10); (try clear c11); (try clear c12); (try clear hcz12_0); (try clear hcz12_1); (try clear hcz12_2); (try clear hcz7_0); (try clear hcz9_0); (try clear hfz12_0); (try clear hfz12_1); (try clear hfz12_2); (try clear hfz7_0); (try clear hfz9_0); (try clear p2)
     obtain ⟨x3_2, x235000_2, x235001_2, x235002_2, rfl, HA, HK2, BK233, BK234, HB⟩ := hrel
     cases gk with
     | zero => exact absurd HA.out (by simp [spec_Verify.l0])
     | succ k2 =>
      have H := HA.out
      clear HA
      simp only [spec_Verify.l0] at H
      by_cases c13 : x3_2 < (l0_0.length : Int)
      ·rw [if_pos c13] at H
       have c13b0 := decide_eq_true c13
       clear c13
       replace H := Option.bind_eq_some_iff.mp H
       obtain ⟨⟨t235, t236, t237⟩, A140, H⟩ := H
       replace H : (if t237 = 0 then (spec_Verify.l0 k2 (wrap64 (x3_2 + 1)) l0_0) else (some (t235, t236, t237))) = some (r1, r2, r3) := H
       have A14 := am A140
       clear A140
       by_cases c15 : t237 = 0
       ·rw [if_pos c15] at H
        have c15b0 : (t237 == 0) = true := beq_iff_eq.mpr c15
        have c15b1 : (t237 != 0) = false := bne_eq_false_iff_eq.mpr c15
        clear c15
        have H' := am H
        clear H
        have hnb16 := NB233_234.out
        have hnc16 := NB234_233.out
        have hcz17_0 : wr.cell? ⟨gb233, 0, none⟩ = some (.slice A0_0 l0_0.length c0_0) := bc BK233 0
        have hfz17_0 := bf BK233 0
        go_wp2_with (first | ((with_reducible refine gate_callee (f := 172) rfl ?_); refine goesL_ (some 25) rfl rfl Try.func172 (by kernel_rfl) rfl #[.agg #[.slice A0_0 l0_0.length c0_0], .int .i64 x3_2] rfl gl ?_; (with_reducible refine (spec_l04Func.calls k2 _ _ l0_0 x3_2 t235 t236 t237 _ ?side1 ?side2 A14.out).mono ?_); (case side1 => exact cc (Kd.C_below HR0_0.out HB.out)); (case side2 => exact HC0_0.out); rintro e w18 ⟨rfl, hb⟩; refine ⟨_, rfl, ?_⟩; replace BK233 := am (blk_below (g := gb233) (o := .cells #[.slice A0_0 l0_0.length c0_0] 30 (0, 0)) (bp BK233) hb); replace BK234 := am (blk_below (g := gb234) (o := .cells #[.int .i64 x235000_2, .int .i64 x235001_2, .int .i64 x235002_2] 84 (0, 0)) (bp BK234) hb); replace HB := am (below_step (bw HB) hb); (try clear hb); (try clear hb2); (try clear hk); (try clear hi)) | ((with_reducible refine gate_dst (N := 4) rfl ?_); (try (refine gate_guard (by rfl) ?_; dsimp only)); refine box_event ?hg (N := 4) ?hd (cs := #[.int .i64 0, .int .i64 0, .int .i64 0]) (t := 84) ?hr ?_; (case hd => rfl); (case hg => rfl); (case hr => exact gs); intro gb238 hg w19 hbox hb; have BK238 := am (hbox); have GW238 := am ((by rw [hg]; exact (below_size (bw HB)) : w.heap.size ≤ gb238)); have GE238 := am ((by rw [hg]; exact (below_size (bw HB)) : w.heap.size ≤ gb238)); replace HB := am (below_step (bw HB) hb); have NB233_238 := am ((by rw [hg]; exact Nat.ne_of_lt (blk_lt (g := gb233) (o := .cells #[.slice A0_0 l0_0.length c0_0] 30 (0, 0)) (bp BK233)) : gb233 ≠ gb238)); have NB238_233 := am ((by rw [hg]; exact Nat.ne_of_gt (blk_lt (g := gb233) (o := .cells #[.slice A0_0 l0_0.length c0_0] 30 (0, 0)) (bp BK233)) : gb238 ≠ gb233)); replace BK233 := am (blk_below (g := gb233) (o := .cells #[.slice A0_0 l0_0.length c0_0] 30 (0, 0)) (bp BK233) hb); have NB234_238 := am ((by rw [hg]; exact Nat.ne_of_lt (blk_lt (g := gb234) (o := .cells #[.int .i64 x235000_2, .int .i64 x235001_2, .int .i64 x235002_2] 84 (0, 0)) (bp BK234)) : gb234 ≠ gb238)); have NB238_234 := am ((by rw [hg]; exact Nat.ne_of_gt (blk_lt (g := gb234) (o := .cells #[.int .i64 x235000_2, .int .i64 x235001_2, .int .i64 x235002_2] 84 (0, 0)) (bp BK234)) : gb238 ≠ gb234)); replace BK234 := am (blk_below (g := gb234) (o := .cells #[.int .i64 x235000_2, .int .i64 x235001_2, .int .i64 x235002_2] 84 (0, 0)) (bp BK234) hb); clear hb hbox hg; have hnb20 := NB238_233.out; have hnc20 := NB233_238.out; have hnb21 := NB238_234.out; have hnc21 := NB234_238.out; have hcz22_0 : w19.cell? ⟨gb238, 0, none⟩ = some (.int .i64 0) := bc BK238 0; have hcz22_1 : w19.cell? ⟨gb238, 1, none⟩ = some (.int .i64 0) := bc BK238 1; have hcz22_2 : w19.cell? ⟨gb238, 2, none⟩ = some (.int .i64 0) := bc BK238 2; have hfz22_0 := bf BK238 0; have hfz22_1 := bf BK238 1; have hfz22_2 := bf BK238 2))
        go_roundg k2
        case measure => have := HJ1.out; have := HK2.out; omega
        case rel => exact ⟨(wrap64 (x3_2 + 1)), (x235000_2), (x235001_2), (x235002_2), dr, H', ⟨by have := HJ1.out; have := HK2.out; omega⟩, ⟨by (with_reducible repeat (first | apply dN | apply dW | apply dA)); refine blk_far ?_ NB233_238.out _; (with_reducible repeat (first | apply dN | apply dW | apply dA)); refine blk_far ?_ NB233_238.out _; (with_reducible repeat (first | apply dN | apply dW | apply dA)); refine blk_far ?_ NB233_238.out _; exact bp BK233⟩, ⟨by (with_reducible repeat (first | apply dN | apply dW | apply dA)); refine blk_far ?_ NB234_238.out _; (with_reducible repeat (first | apply dN | apply dW | apply dA)); refine blk_far ?_ NB234_238.out _; (with_reducible repeat (first | apply dN | apply dW | apply dA)); refine blk_far ?_ NB234_238.out _; exact bp BK234⟩, ⟨bw HB⟩⟩
       ·rw [if_neg c15] at H
        have c15b0 : (t237 == 0) = false := beq_eq_false_iff_ne.mpr c15
        have c15b1 : (t237 != 0) = true := bne_iff_ne.mpr c15
        simp only [Option.some.injEq, Prod.mk.injEq] at H
        obtain ⟨rfl, rfl, rfl⟩ := H
        have hnb23 := NB233_234.out
        have hnc23 := NB234_233.out
        have hcz24_0 : wr.cell? ⟨gb233, 0, none⟩ = some (.slice A0_0 l0_0.length c0_0) := bc BK233 0
        have hfz24_0 := bf BK233 0
        go_wp2_with (first | ((with_reducible refine gate_callee (f := 172) rfl ?_); refine goesL_ (some 25) rfl rfl Try.func172 (by kernel_rfl) rfl #[.agg #[.slice A0_0 l0_0.length c0_0], .int .i64 x3_2] rfl gl ?_; (with_reducible refine (spec_l04Func.calls k2 _ _ l0_0 x3_2 t235 t236 t237 _ ?side1 ?side2 A14.out).mono ?_); (case side1 => exact cc (Kd.C_below HR0_0.out HB.out)); (case side2 => exact HC0_0.out); rintro e w25 ⟨rfl, hb⟩; refine ⟨_, rfl, ?_⟩; replace BK233 := am (blk_below (g := gb233) (o := .cells #[.slice A0_0 l0_0.length c0_0] 30 (0, 0)) (bp BK233) hb); replace BK234 := am (blk_below (g := gb234) (o := .cells #[.int .i64 x235000_2, .int .i64 x235001_2, .int .i64 x235002_2] 84 (0, 0)) (bp BK234) hb); replace HB := am (below_step (bw HB) hb); (try clear hb); (try clear hb2); (try clear hk); (try clear hi)) | ((with_reducible refine gate_dst (N := 4) rfl ?_); (try (refine gate_guard (by rfl) ?_; dsimp only)); refine box_event ?hg (N := 4) ?hd (cs := #[.int .i64 0, .int .i64 0, .int .i64 0]) (t := 84) ?hr ?_; (case hd => rfl); (case hg => rfl); (case hr => exact gs); intro gb238 hg w26 hbox hb; have BK238 := am (hbox); have GW238 := am ((by rw [hg]; exact (below_size (bw HB)) : w.heap.size ≤ gb238)); have GE238 := am ((by rw [hg]; exact (below_size (bw HB)) : w.heap.size ≤ gb238)); replace HB := am (below_step (bw HB) hb); have NB233_238 := am ((by rw [hg]; exact Nat.ne_of_lt (blk_lt (g := gb233) (o := .cells #[.slice A0_0 l0_0.length c0_0] 30 (0, 0)) (bp BK233)) : gb233 ≠ gb238)); have NB238_233 := am ((by rw [hg]; exact Nat.ne_of_gt (blk_lt (g := gb233) (o := .cells #[.slice A0_0 l0_0.length c0_0] 30 (0, 0)) (bp BK233)) : gb238 ≠ gb233)); replace BK233 := am (blk_below (g := gb233) (o := .cells #[.slice A0_0 l0_0.length c0_0] 30 (0, 0)) (bp BK233) hb); have NB234_238 := am ((by rw [hg]; exact Nat.ne_of_lt (blk_lt (g := gb234) (o := .cells #[.int .i64 x235000_2, .int .i64 x235001_2, .int .i64 x235002_2] 84 (0, 0)) (bp BK234)) : gb234 ≠ gb238)); have NB238_234 := am ((by rw [hg]; exact Nat.ne_of_gt (blk_lt (g := gb234) (o := .cells #[.int .i64 x235000_2, .int .i64 x235001_2, .int .i64 x235002_2] 84 (0, 0)) (bp BK234)) : gb238 ≠ gb234)); replace BK234 := am (blk_below (g := gb234) (o := .cells #[.int .i64 x235000_2, .int .i64 x235001_2, .int .i64 x235002_2] 84 (0, 0)) (bp BK234) hb); clear hb hbox hg; have hnb27 := NB238_233.out; have hnc27 := NB233_238.out; have hnb28 := NB238_234.out; have hnc28 := NB234_238.out; have hcz29_0 : w26.cell? ⟨gb238, 0, none⟩ = some (.int .i64 0) := bc BK238 0; have hcz29_1 : w26.cell? ⟨gb238, 1, none⟩ = some (.int .i64 0) := bc BK238 1; have hcz29_2 : w26.cell? ⟨gb238, 2, none⟩ = some (.int .i64 0) := bc BK238 2; have hfz29_0 := bf BK238 0; have hfz29_1 := bf BK238 1; have hfz29_2 := bf BK238 2; have hcz30_0 : w26.cell? ⟨gb234, 0, none⟩ = some (.int .i64 x235000_2) := bc BK234 0; have hcz30_1 : w26.cell? ⟨gb234, 1, none⟩ = some (.int .i64 x235001_2) := bc BK234 1; have hcz30_2 : w26.cell? ⟨gb234, 2, none⟩ = some (.int .i64 x235002_2) := bc BK234 2; have hfz30_0 := bf BK234 0; have hfz30_1 := bf BK234 1; have hfz30_2 := bf BK234 2))
        refine bodyPost_ret (results_cell_row rfl _ _ gb234 84 #[.int .i64 t235, .int .i64 t236, .int .i64 t237] (0, 0) _ rfl (by (with_reducible repeat (first | apply dN | apply dW | apply dA)); refine blk_put (cs := #[.int .i64 t235, .int .i64 t236, .int .i64 x235002_2]) ?_ 2 _ rfl; (with_reducible repeat (first | apply dN | apply dW | apply dA)); refine blk_put (cs := #[.int .i64 t235, .int .i64 x235001_2, .int .i64 x235002_2]) ?_ 1 _ rfl; (with_reducible repeat (first | apply dN | apply dW | apply dA)); refine blk_put (cs := #[.int .i64 x235000_2, .int .i64 x235001_2, .int .i64 x235002_2]) ?_ 0 _ rfl; (with_reducible repeat (first | apply dN | apply dW | apply dA)); refine blk_far ?_ NB234_238.out _; (with_reducible repeat (first | apply dN | apply dW | apply dA)); refine blk_far ?_ NB234_238.out _; (with_reducible repeat (first | apply dN | apply dW | apply dA)); refine blk_far ?_ NB234_238.out _; exact bp BK234) Try.underlying84 rfl (by kernel_rfl)) rfl ?_
        exact ⟨er, bw HB⟩
      ·rw [if_neg c13] at H
       have c13b0 := decide_eq_false c13
       clear c13
       simp only [Option.some.injEq, Prod.mk.injEq] at H
       obtain ⟨rfl, rfl, rfl⟩ := H
       have hnb31 := NB233_234.out
       have hnc31 := NB234_233.out
       have hcz32_0 : wr.cell? ⟨gb233, 0, none⟩ = some (.slice A0_0 l0_0.length c0_0) := bc BK233 0
       have hfz32_0 := bf BK233 0
       have hcz33_0 : wr.cell? ⟨gb234, 0, none⟩ = some (.int .i64 x235000_2) := bc BK234 0
       have hcz33_1 : wr.cell? ⟨gb234, 1, none⟩ = some (.int .i64 x235001_2) := bc BK234 1
       have hcz33_2 : wr.cell? ⟨gb234, 2, none⟩ = some (.int .i64 x235002_2) := bc BK234 2
       have hfz33_0 := bf BK234 0
       have hfz33_1 := bf BK234 1
       have hfz33_2 := bf BK234 2
       go_wp2
       refine bodyPost_ret (results_cell_row rfl _ _ gb234 84 #[.int .i64 0, .int .i64 0, .int .i64 0] (0, 0) _ rfl (by (with_reducible repeat (first | apply dN | apply dW | apply dA)); refine blk_put (cs := #[.int .i64 0, .int .i64 0, .int .i64 x235002_2]) ?_ 2 _ rfl; (with_reducible repeat (first | apply dN | apply dW | apply dA)); refine blk_put (cs := #[.int .i64 0, .int .i64 x235001_2, .int .i64 x235002_2]) ?_ 1 _ rfl; (with_reducible repeat (first | apply dN | apply dW | apply dA)); refine blk_put (cs := #[.int .i64 x235000_2, .int .i64 x235001_2, .int .i64 x235002_2]) ?_ 0 _ rfl; exact bp BK234) Try.underlying84 rfl (by kernel_rfl)) rfl ?_
       exact ⟨er, bw HB⟩

def spec_l04Right.f (k : Nat) (l0_0 : List (S100)) : Option (Bool) := (spec_Verify.f k l0_0).bind fun bt240 => (some (bt240.2.2 == 0))
theorem spec_l04Right.mono : ∀ a0 k, LeO (spec_l04Right.f k a0) (spec_l04Right.f (k + 1) a0) := by
 intro a0 k
 unfold spec_l04Right.f
 repeat' first
   | (with_reducible exact spec_Verify.mono _ _)
   | (with_reducible exact LeO.refl _)
   | (with_reducible exact LeO.none _)
   | (with_reducible refine LeO.ite ?_ ?_)
   | (with_reducible refine LeO.bind ?_ (fun _ => ?_))
theorem spec_l04Right.calls (k : Nat) (A0_0 : Option Addr) (c0_0 : Nat) (l0_0 : List (S100)) (r : Bool) (w : World) (hr0_0 : Kd.C k100 w A0_0 l0_0.length l0_0) (hc0_0 : l0_0.length ≤ c0_0) (h : spec_l04Right.f k l0_0 = some r) :
  Calls Try.prog 63 #[.agg #[.slice A0_0 l0_0.length c0_0]] w fun e w' => e = .returned (.bool r) ∧ Below w.heap.size w w' := by
 have hu30 := Try.underlying30
 have hu84 := Try.underlying84
 have hfd84_2 : ∀ (v0_ v1_ v2_ : Value) (W : World), (Instr.field 84 (.agg #[v0_, v1_, v2_]) 2).run Try.prog W = .ok (v2_) W := fun v0_ v1_ v2_ W => by kernel_rfl
 have HR0_0 := am hr0_0
 have HC0_0 := am hc0_0
 clear hr0_0 hc0_0
 have HB := am (Below.refl w.heap.size w)
 have H : ((spec_Verify.f k l0_0).bind fun bt240 => (some (bt240.2.2 == 0))) = some r := h
 clear h
 replace H := Option.bind_eq_some_iff.mp H
 obtain ⟨⟨t240, t241, t242⟩, A20, H⟩ := H
 replace H : (some (t242 == 0)) = some r := H
 have A2 := am A20
 clear A20
 obtain rfl := Option.some.inj H
 go_enter Try.func63, Try.ntmps63
 go_wp2_with (first | ((with_reducible refine gate_dst (N := 1) rfl ?_); refine box_event ?hg (N := 1) ?hd (cs := #[.slice A0_0 l0_0.length c0_0]) (t := 30) ?hr ?_; (case hd => rfl); (case hg => rfl); (case hr => exact gs); intro gb239 hg w3 hbox hb; have BK239 := am (hbox); have GW239 := am ((by rw [hg]; exact (below_size (bw HB)) : w.heap.size ≤ gb239)); have GE239 := am ((by rw [hg]; exact (below_size (bw HB)) : w.heap.size ≤ gb239)); replace HB := am (below_step (bw HB) hb); clear hb hbox hg; have hcz4_0 : w3.cell? ⟨gb239, 0, none⟩ = some (.slice A0_0 l0_0.length c0_0) := bc BK239 0; have hfz4_0 := bf BK239 0) | ((with_reducible refine gate_callee (f := 124) rfl ?_); refine goesL_ (some 4) rfl rfl Try.func124 (by kernel_rfl) rfl #[.agg #[.slice A0_0 l0_0.length c0_0]] rfl gl ?_; (with_reducible refine (spec_Verify.calls k _ _ l0_0 t240 t241 t242 _ ?side1 ?side2 A2.out).mono ?_); (case side1 => exact cc (Kd.C_below HR0_0.out HB.out)); (case side2 => exact HC0_0.out); rintro e w5 ⟨rfl, hb⟩; refine ⟨_, rfl, ?_⟩; replace BK239 := am (blk_below (g := gb239) (o := .cells #[.slice A0_0 l0_0.length c0_0] 30 (0, 0)) (bp BK239) hb); replace HB := am (below_step (bw HB) hb); (try clear hb); (try clear hb2); (try clear hk); (try clear hi)))
 go_ret
 exact ⟨er, bw HB⟩

end Go.Proofs.Ytbmjmaahcaoajaa.QFnExactHeaders
