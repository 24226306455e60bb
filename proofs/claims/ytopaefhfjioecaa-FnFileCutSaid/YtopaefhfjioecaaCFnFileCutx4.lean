import Derived.Test.YtopaefhfjioecaaCFnFileCutx0
import Derived.Test.YtopaefhfjioecaaCFnFileCutx2
import Derived.Test.YtopaefhfjioecaaCFnFileCutx3
namespace Go.Proofs.Ytopaefhfjioecaa.QFnFileCut
open Go.RowKit Go.Proofs.YtopaefhfjioecaaW
open PrintWords PrintLast PrintMore PrintShort
attribute [local go_sem] max2_int min2_int max_two min_two max_three min_three max_four min_four   -- for this text's walks alone
set_option linter.unusedVariables false
set_option maxHeartbeats 8000000
set_option maxRecDepth 100000
set_option linter.unusedSimpArgs false

mutual
def spec_l04Func.j0 : Nat → Int → Bool → List (S35) → Int → Int → List (S38) → Option (Int × Int × Int)
 | 0, _, _, _, _, _, _ => none
 | k + 1, x1, x45, x165000, x168000, x168001, x168002 => if x45 = true then (some (x1, 0, 1)) else (spec_l04Func.l0 k x1 0 x165000 x168000 x168001 x168002)
def spec_l04Func.l0 : Nat → Int → Int → List (S35) → Int → Int → List (S38) → Option (Int × Int × Int)
 | 0, _, _, _, _, _, _ => none
 | k + 1, x1, x6, x165000, x168000, x168001, x168002 => if x6 < (x168002.length : Int) then (if 0 ≤ x6 then ((spec_InsRight.f k x165000 x1 ((rd_T38 x168002 x6).f0) ((rd_T38 x168002 x6).f1)).bind fun t169 => (if t169 = true then (spec_l04Func.l0 k x1 (wrap64 (x6 + 1)) x165000 x168000 x168001 x168002) else (some (x1, x6, 1)))) else (none)) else ((spec_l04Heights.f k x165000 x1).bind fun bt170 => (some (bt170.2.1, bt170.2.2.1, bt170.2.2.2)))
end
def spec_l04Func.f (k : Nat) (l0_0 : List (S35)) (a1 : Int) : Option (Int × Int × Int) := if 0 ≤ a1 then (if a1 < (l0_0.length : Int) then (if ((rd_T35 l0_0 a1).f0) < 0 then (spec_l04Func.j0 k a1 true l0_0 ((rd_T35 l0_0 a1).f0) ((rd_T35 l0_0 a1).f1) ((rd_T35 l0_0 a1).f2)) else (if ((rd_T35 l0_0 a1).f0) > 4 then (spec_l04Func.j0 k a1 true l0_0 ((rd_T35 l0_0 a1).f0) ((rd_T35 l0_0 a1).f1) ((rd_T35 l0_0 a1).f2)) else (if ((rd_T35 l0_0 a1).f1) < ((rd_T35 l0_0 a1).f0) then (spec_l04Func.j0 k a1 true l0_0 ((rd_T35 l0_0 a1).f0) ((rd_T35 l0_0 a1).f1) ((rd_T35 l0_0 a1).f2)) else (if ((rd_T35 l0_0 a1).f1) > 8 then (spec_l04Func.j0 k a1 true l0_0 ((rd_T35 l0_0 a1).f0) ((rd_T35 l0_0 a1).f1) ((rd_T35 l0_0 a1).f2)) else (if (((rd_T35 l0_0 a1).f2).length : Int) < 1 then (spec_l04Func.j0 k a1 true l0_0 ((rd_T35 l0_0 a1).f0) ((rd_T35 l0_0 a1).f1) ((rd_T35 l0_0 a1).f2)) else (spec_l04Func.j0 k a1 (decide ((((rd_T35 l0_0 a1).f2).length : Int) > 60)) l0_0 ((rd_T35 l0_0 a1).f0) ((rd_T35 l0_0 a1).f1) ((rd_T35 l0_0 a1).f2))))))) else (none)) else (none)
theorem spec_l04Func.mono_l : ∀ k, (∀ y0 y1 y2 y3 y4 y5, LeO (spec_l04Func.j0 k y0 y1 y2 y3 y4 y5) (spec_l04Func.j0 (k + 1) y0 y1 y2 y3 y4 y5)) ∧ (∀ y0 y1 y2 y3 y4 y5, LeO (spec_l04Func.l0 k y0 y1 y2 y3 y4 y5) (spec_l04Func.l0 (k + 1) y0 y1 y2 y3 y4 y5))
 | 0 => ⟨fun _ _ _ _ _ _ r h => by simp [spec_l04Func.j0] at h, fun _ _ _ _ _ _ r h => by simp [spec_l04Func.l0] at h⟩
 | k + 1 => by
  obtain ⟨ih0, ih1⟩ := spec_l04Func.mono_l k
  refine ⟨?_, ?_⟩
  ·intro y0 y1 y2 y3 y4 y5
   unfold spec_l04Func.j0
   with_reducible repeat' first | exact ih0 .. | exact ih1 .. | exact spec_InsRight.mono .. | exact spec_l04Heights.mono .. | exact LeO.refl _ | exact LeO.none _ | refine LeO.ite ?_ ?_ | refine LeO.bind ?_ (fun _ => ?_)
  ·intro y0 y1 y2 y3 y4 y5
   unfold spec_l04Func.l0
   with_reducible repeat' first | exact ih0 .. | exact ih1 .. | exact spec_InsRight.mono .. | exact spec_l04Heights.mono .. | exact LeO.refl _ | exact LeO.none _ | refine LeO.ite ?_ ?_ | refine LeO.bind ?_ (fun _ => ?_)
theorem spec_l04Func.mono : ∀ a0 a1 k, LeO (spec_l04Func.f k a0 a1) (spec_l04Func.f (k + 1) a0 a1) := by
 intro a0 a1 k
 obtain ⟨ih0, ih1⟩ := spec_l04Func.mono_l k
 unfold spec_l04Func.f
 with_reducible repeat' first | exact ih0 .. | exact ih1 .. | exact spec_InsRight.mono .. | exact spec_l04Heights.mono .. | exact LeO.refl _ | exact LeO.none _ | refine LeO.ite ?_ ?_ | refine LeO.bind ?_ (fun _ => ?_)
def spec_l04Func.T7 : Bool × List (List Nat × List Nat) := (true, [([], []), ([], []), ([], []), ([2], [2]), ([], []), ([3, 4], [3, 4]), ([5], [5]), ([0, 1, 6], [0, 1, 6]), ([7], [7])])
def spec_l04Func.B7 : List Nat := [0, 0, 0, 4, 0, 28, 60, 127, 255]
theorem spec_l04Func.tab7 : rtab .any (opsOf Try.f33 7) = spec_l04Func.T7 := by kernel_rfl
theorem spec_l04Func.bits7 : waitsOk spec_l04Func.T7.2 spec_l04Func.B7 = true := by kernel_rfl
theorem spec_l04Func.calls (k : Nat) (A0_0 : Option Addr) (c0_0 : Nat) (l0_0 : List (S35)) (a1 : Int) (r1 : Int) (r2 : Int) (r3 : Int) (w : World) (hr0_0 : Kd.C k35 w A0_0 l0_0.length l0_0) (hc0_0 : l0_0.length ≤ c0_0) (h : spec_l04Func.f k l0_0 a1 = some (r1, r2, r3)) :
  Calls Try.prog 33 #[.agg #[.slice A0_0 l0_0.length c0_0], .int .i64 a1] w fun e w' => e = .returned (.agg #[.int .i64 r1, .int .i64 r2, .int .i64 r3]) ∧ Below w.heap.size w w' := by
 have hu25 := Try.underlying25
 have hu29 := Try.underlying29
 have hu35 := Try.underlying35
 have hu38 := Try.underlying38
 have HR0_0 := am hr0_0
 have HC0_0 := am hc0_0
 clear hr0_0 hc0_0
 have HB := am (Below.refl w.heap.size w)
 have H : (if 0 ≤ a1 then (if a1 < (l0_0.length : Int) then (if ((rd_T35 l0_0 a1).f0) < 0 then (spec_l04Func.j0 k a1 true l0_0 ((rd_T35 l0_0 a1).f0) ((rd_T35 l0_0 a1).f1) ((rd_T35 l0_0 a1).f2)) else (if ((rd_T35 l0_0 a1).f0) > 4 then (spec_l04Func.j0 k a1 true l0_0 ((rd_T35 l0_0 a1).f0) ((rd_T35 l0_0 a1).f1) ((rd_T35 l0_0 a1).f2)) else (if ((rd_T35 l0_0 a1).f1) < ((rd_T35 l0_0 a1).f0) then (spec_l04Func.j0 k a1 true l0_0 ((rd_T35 l0_0 a1).f0) ((rd_T35 l0_0 a1).f1) ((rd_T35 l0_0 a1).f2)) else (if ((rd_T35 l0_0 a1).f1) > 8 then (spec_l04Func.j0 k a1 true l0_0 ((rd_T35 l0_0 a1).f0) ((rd_T35 l0_0 a1).f1) ((rd_T35 l0_0 a1).f2)) else (if (((rd_T35 l0_0 a1).f2).length : Int) < 1 then (spec_l04Func.j0 k a1 true l0_0 ((rd_T35 l0_0 a1).f0) ((rd_T35 l0_0 a1).f1) ((rd_T35 l0_0 a1).f2)) else (spec_l04Func.j0 k a1 (decide ((((rd_T35 l0_0 a1).f2).length : Int) > 60)) l0_0 ((rd_T35 l0_0 a1).f0) ((rd_T35 l0_0 a1).f1) ((rd_T35 l0_0 a1).f2))))))) else (none)) else (none)) = some (r1, r2, r3) := h
 clear h
 refine iN H ?_; clear H; intro c3 H
 have c3b0 := decide_eq_true c3
 clear c3
 refine iN H ?_; clear H; intro c4 H
 have c4b0 := decide_eq_true c4
 clear c4
 have HC5 := am H
 clear H
 go_enter Try.func33, Try.ntmps33
 go_upto_region 2 with (first | ((with_reducible refine gate_dst (N := 2) rfl ?_); (try (refine gate_guard (by rfl) ?_; dsimp only)); refine box_event ?hg (N := 2) ?hd (cs := #[.slice A0_0 l0_0.length c0_0]) (t := 25) ?hr ?_; (case hd => rfl); (case hg => rfl); (case hr => exact gs); intro gb164 hg w6 hbox hb; have BK164 := am (hbox); have GW164 := gw hg HB; replace HB := bs HB hb; clear hb hbox hg) | ((with_reducible refine gate_dst (N := 4) rfl ?_); (try (refine gate_guard (by rfl) ?_; dsimp only)); refine box_event ?hg (N := 4) ?hd (cs := #[.int .i64 0, .int .i64 0, .int .i64 0]) (t := 29) ?hr ?_; (case hd => rfl); (case hg => rfl); (case hr => exact gs); intro gb165 hg w7 hbox hb; have BK165 := am (hbox); have GW165 := gw hg HB; replace HB := bs HB hb; obtain ⟨NB164_165, NB165_164, BK164⟩ := b3 hg BK164 hb; clear hb hbox hg; have hnb8 := NB164_165.out; have hnc8 := NB165_164.out; have hcz9 := bK w7 BK164; have hfz9 := bF BK164; have p166 : 0 ≤ (a1 : Int) := of_decide_eq_true as1; have q166 : a1 < (l0_0.length : Int) := of_decide_eq_true as1; obtain ⟨ad166, A166_2, c166_2, e166, hx166_0, hx166_1, hx166_2, hl166_2, hi166_2⟩ := at_T35 HR0_0.out a1 p166 q166; cases e166; replace hx166_0 := cl HB hx166_0; replace hx166_1 := cl HB hx166_1; replace hx166_2 := cl HB hx166_2; have HR166_2 := am hi166_2; have HC166_2 := am hl166_2; clear hi166_2 hl166_2; replace p166 := eq_true p166; replace q166 := eq_true q166) | ((with_reducible refine gate_dst (N := 5) rfl ?_); (try (refine gate_guard (by rfl) ?_; dsimp only)); refine box_event ?hg (N := 5) ?hd (cs := #[.int .i64 0, .int .i64 0, .slice none 0 0]) (t := 35) ?hr ?_; (case hd => rfl); (case hg => rfl); (case hr => exact gs); intro gb167 hg w10 hbox hb; have BK167 := am (hbox); have GW167 := gw hg HB; replace HB := bs HB hb; obtain ⟨NB164_167, NB167_164, BK164⟩ := b3 hg BK164 hb; obtain ⟨NB165_167, NB167_165, BK165⟩ := b3 hg BK165 hb; clear hb hbox hg; have hnb11 := NB167_164.out; have hnc11 := NB164_167.out; have hnb12 := NB167_165.out; have hnc12 := NB165_167.out; have hcz13 := bK w10 BK167; have hfz13 := bF BK167))
 (try simp only [Act.put, sa, sz, ss])
 go_cut [45] (fun v45 wc => ∃ (kq : Nat) (x45_4 : Bool), v45 = .bool x45_4 ∧ Aside0 (spec_l04Func.j0 kq a1 x45_4 l0_0 ((rd_T35 l0_0 a1).f0) ((rd_T35 l0_0 a1).f1) ((rd_T35 l0_0 a1).f2) = some (r1, r2, r3)) ∧ Aside0 (kq ≤ k) ∧ Aside0 (wc.heap[gb164]? = some (.cells #[(.slice (some ad166) l0_0.length c0_0)] 25 (0, 0))) ∧ Aside0 (wc.heap[gb165]? = some (.cells #[.int .i64 0, .int .i64 0, .int .i64 0] 29 (0, 0))) ∧ Aside0 (wc.heap[gb167]? = some (.cells #[.int .i64 ((rd_T35 l0_0 a1).f0), .int .i64 ((rd_T35 l0_0 a1).f1), (.slice A166_2 ((rd_T35 l0_0 a1).f2).length c166_2)] 35 (0, 0))) ∧ Aside0 (Below w.heap.size w wc))
 case first =>
  have H := HC5.out
  clear HC5
  refine qI H ?_ ?_ <;> clear H <;> intro c14b0 H
  ·(first | rw [c14b0] | (simp only [i64_w, i32_w]; rw [c14b0]) | skip)
   have H' := am H
   clear H
   have hnb15 := NB167_164.out
   have hnc15 := NB164_167.out
   have hnb16 := NB167_165.out
   have hnc16 := NB165_167.out
   have hcz17 := bK w10 BK167
   have hfz17 := bF BK167
   go_wp2
   go_meet
   case rel => exact ⟨_, (true), dr, H', ⟨lk0⟩, ⟨by (with_reducible repeat (first | apply dN | apply dW | apply dA)); refine blk_far ?_ NB164_167.out _; (with_reducible repeat (first | apply dN | apply dW | apply dA)); refine blk_far ?_ NB164_167.out _; (with_reducible repeat (first | apply dN | apply dW | apply dA)); refine blk_far ?_ NB164_167.out _; exact bp BK164⟩, ⟨by (with_reducible repeat (first | apply dN | apply dW | apply dA)); refine blk_far ?_ NB165_167.out _; (with_reducible repeat (first | apply dN | apply dW | apply dA)); refine blk_far ?_ NB165_167.out _; (with_reducible repeat (first | apply dN | apply dW | apply dA)); refine blk_far ?_ NB165_167.out _; exact bp BK165⟩, ⟨by (with_reducible repeat (first | apply dN | apply dW | apply dA)); refine blk_put (cs := #[.int .i64 ((rd_T35 l0_0 a1).f0), .int .i64 ((rd_T35 l0_0 a1).f1), .slice none 0 0]) ?_ 2 _ rfl; (with_reducible repeat (first | apply dN | apply dW | apply dA)); refine blk_put (cs := #[.int .i64 ((rd_T35 l0_0 a1).f0), .int .i64 0, .slice none 0 0]) ?_ 1 _ rfl; (with_reducible repeat (first | apply dN | apply dW | apply dA)); refine blk_put (cs := #[.int .i64 0, .int .i64 0, .slice none 0 0]) ?_ 0 _ rfl; exact bp BK167⟩, ⟨bw HB⟩⟩
  (first | rw [c14b0] | (simp only [i64_w, i32_w]; rw [c14b0]) | skip)
  refine qG H ?_ ?_ <;> clear H <;> intro c18b0 H
  ·have H' := am H
   clear H
   have hnb19 := NB167_164.out
   have hnc19 := NB164_167.out
   have hnb20 := NB167_165.out
   have hnc20 := NB165_167.out
   have hcz21 := bK w10 BK167
   have hfz21 := bF BK167
   go_wp2
   go_meet
   case rel => exact ⟨_, (true), dr, H', ⟨lk0⟩, ⟨by (with_reducible repeat (first | apply dN | apply dW | apply dA)); refine blk_far ?_ NB164_167.out _; (with_reducible repeat (first | apply dN | apply dW | apply dA)); refine blk_far ?_ NB164_167.out _; (with_reducible repeat (first | apply dN | apply dW | apply dA)); refine blk_far ?_ NB164_167.out _; exact bp BK164⟩, ⟨by (with_reducible repeat (first | apply dN | apply dW | apply dA)); refine blk_far ?_ NB165_167.out _; (with_reducible repeat (first | apply dN | apply dW | apply dA)); refine blk_far ?_ NB165_167.out _; (with_reducible repeat (first | apply dN | apply dW | apply dA)); refine blk_far ?_ NB165_167.out _; exact bp BK165⟩, ⟨by (with_reducible repeat (first | apply dN | apply dW | apply dA)); refine blk_put (cs := #[.int .i64 ((rd_T35 l0_0 a1).f0), .int .i64 ((rd_T35 l0_0 a1).f1), .slice none 0 0]) ?_ 2 _ rfl; (with_reducible repeat (first | apply dN | apply dW | apply dA)); refine blk_put (cs := #[.int .i64 ((rd_T35 l0_0 a1).f0), .int .i64 0, .slice none 0 0]) ?_ 1 _ rfl; (with_reducible repeat (first | apply dN | apply dW | apply dA)); refine blk_put (cs := #[.int .i64 0, .int .i64 0, .slice none 0 0]) ?_ 0 _ rfl; exact bp BK167⟩, ⟨bw HB⟩⟩
  refine qI H ?_ ?_ <;> clear H <;> intro c22b0 H
  ·have H' := am H
   clear H
   have hnb23 := NB167_164.out
   have hnc23 := NB164_167.out
   have hnb24 := NB167_165.out
   have hnc24 := NB165_167.out
   have hcz25 := bK w10 BK167
   have hfz25 := bF BK167
   go_wp2
   go_meet
   case rel => exact ⟨_, (true), dr, H', ⟨lk0⟩, ⟨by (with_reducible repeat (first | apply dN | apply dW | apply dA)); refine blk_far ?_ NB164_167.out _; (with_reducible repeat (first | apply dN | apply dW | apply dA)); refine blk_far ?_ NB164_167.out _; (with_reducible repeat (first | apply dN | apply dW | apply dA)); refine blk_far ?_ NB164_167.out _; exact bp BK164⟩, ⟨by (with_reducible repeat (first | apply dN | apply dW | apply dA)); refine blk_far ?_ NB165_167.out _; (with_reducible repeat (first | apply dN | apply dW | apply dA)); refine blk_far ?_ NB165_167.out _; (with_reducible repeat (first | apply dN | apply dW | apply dA)); refine blk_far ?_ NB165_167.out _; exact bp BK165⟩, ⟨by (with_reducible repeat (first | apply dN | apply dW | apply dA)); refine blk_put (cs := #[.int .i64 ((rd_T35 l0_0 a1).f0), .int .i64 ((rd_T35 l0_0 a1).f1), .slice none 0 0]) ?_ 2 _ rfl; (with_reducible repeat (first | apply dN | apply dW | apply dA)); refine blk_put (cs := #[.int .i64 ((rd_T35 l0_0 a1).f0), .int .i64 0, .slice none 0 0]) ?_ 1 _ rfl; (with_reducible repeat (first | apply dN | apply dW | apply dA)); refine blk_put (cs := #[.int .i64 0, .int .i64 0, .slice none 0 0]) ?_ 0 _ rfl; exact bp BK167⟩, ⟨bw HB⟩⟩
  refine qG H ?_ ?_ <;> clear H <;> intro c26b0 H
  ·have H' := am H
   clear H
   have hnb27 := NB167_164.out
   have hnc27 := NB164_167.out
   have hnb28 := NB167_165.out
   have hnc28 := NB165_167.out
   have hcz29 := bK w10 BK167
   have hfz29 := bF BK167
   go_wp2
   go_meet
   case rel => exact ⟨_, (true), dr, H', ⟨lk0⟩, ⟨by (with_reducible repeat (first | apply dN | apply dW | apply dA)); refine blk_far ?_ NB164_167.out _; (with_reducible repeat (first | apply dN | apply dW | apply dA)); refine blk_far ?_ NB164_167.out _; (with_reducible repeat (first | apply dN | apply dW | apply dA)); refine blk_far ?_ NB164_167.out _; exact bp BK164⟩, ⟨by (with_reducible repeat (first | apply dN | apply dW | apply dA)); refine blk_far ?_ NB165_167.out _; (with_reducible repeat (first | apply dN | apply dW | apply dA)); refine blk_far ?_ NB165_167.out _; (with_reducible repeat (first | apply dN | apply dW | apply dA)); refine blk_far ?_ NB165_167.out _; exact bp BK165⟩, ⟨by (with_reducible repeat (first | apply dN | apply dW | apply dA)); refine blk_put (cs := #[.int .i64 ((rd_T35 l0_0 a1).f0), .int .i64 ((rd_T35 l0_0 a1).f1), .slice none 0 0]) ?_ 2 _ rfl; (with_reducible repeat (first | apply dN | apply dW | apply dA)); refine blk_put (cs := #[.int .i64 ((rd_T35 l0_0 a1).f0), .int .i64 0, .slice none 0 0]) ?_ 1 _ rfl; (with_reducible repeat (first | apply dN | apply dW | apply dA)); refine blk_put (cs := #[.int .i64 0, .int .i64 0, .slice none 0 0]) ?_ 0 _ rfl; exact bp BK167⟩, ⟨bw HB⟩⟩
  refine qI H ?_ ?_ <;> clear H <;> intro c30b0 H
  ·have c30 := of_decide_eq_true c30b0
   have c30b1 : decide (((rd_T35 l0_0 a1).f2).length < 1) = true := decide_eq_true (by omega)
   clear c30
   have H' := am H
   clear H
   have hnb31 := NB167_164.out
   have hnc31 := NB164_167.out
   have hnb32 := NB167_165.out
   have hnc32 := NB165_167.out
   have hcz33 := bK w10 BK167
   have hfz33 := bF BK167
   go_wp2
   go_meet
   case rel => exact ⟨_, (true), dr, H', ⟨lk0⟩, ⟨by (with_reducible repeat (first | apply dN | apply dW | apply dA)); refine blk_far ?_ NB164_167.out _; (with_reducible repeat (first | apply dN | apply dW | apply dA)); refine blk_far ?_ NB164_167.out _; (with_reducible repeat (first | apply dN | apply dW | apply dA)); refine blk_far ?_ NB164_167.out _; exact bp BK164⟩, ⟨by (with_reducible repeat (first | apply dN | apply dW | apply dA)); refine blk_far ?_ NB165_167.out _; (with_reducible repeat (first | apply dN | apply dW | apply dA)); refine blk_far ?_ NB165_167.out _; (with_reducible repeat (first | apply dN | apply dW | apply dA)); refine blk_far ?_ NB165_167.out _; exact bp BK165⟩, ⟨by (with_reducible repeat (first | apply dN | apply dW | apply dA)); refine blk_put (cs := #[.int .i64 ((rd_T35 l0_0 a1).f0), .int .i64 ((rd_T35 l0_0 a1).f1), .slice none 0 0]) ?_ 2 _ rfl; (with_reducible repeat (first | apply dN | apply dW | apply dA)); refine blk_put (cs := #[.int .i64 ((rd_T35 l0_0 a1).f0), .int .i64 0, .slice none 0 0]) ?_ 1 _ rfl; (with_reducible repeat (first | apply dN | apply dW | apply dA)); refine blk_put (cs := #[.int .i64 0, .int .i64 0, .slice none 0 0]) ?_ 0 _ rfl; exact bp BK167⟩, ⟨bw HB⟩⟩
  have c30 := of_decide_eq_false c30b0
  have c30b1 : decide (((rd_T35 l0_0 a1).f2).length < 1) = false := decide_eq_false (by omega)
  clear c30
  have H' := am H
  clear H
  have hnb34 := NB167_164.out
  have hnc34 := NB164_167.out
  have hnb35 := NB167_165.out
  have hnc35 := NB165_167.out
  have hcz36 := bK w10 BK167
  have hfz36 := bF BK167
  go_wp2
  go_meet
  case rel => exact ⟨_, (decide ((((rd_T35 l0_0 a1).f2).length : Int) > 60)), dr, H', ⟨lk0⟩, ⟨by (with_reducible repeat (first | apply dN | apply dW | apply dA)); refine blk_far ?_ NB164_167.out _; (with_reducible repeat (first | apply dN | apply dW | apply dA)); refine blk_far ?_ NB164_167.out _; (with_reducible repeat (first | apply dN | apply dW | apply dA)); refine blk_far ?_ NB164_167.out _; exact bp BK164⟩, ⟨by (with_reducible repeat (first | apply dN | apply dW | apply dA)); refine blk_far ?_ NB165_167.out _; (with_reducible repeat (first | apply dN | apply dW | apply dA)); refine blk_far ?_ NB165_167.out _; (with_reducible repeat (first | apply dN | apply dW | apply dA)); refine blk_far ?_ NB165_167.out _; exact bp BK165⟩, ⟨by (with_reducible repeat (first | apply dN | apply dW | apply dA)); refine blk_put (cs := #[.int .i64 ((rd_T35 l0_0 a1).f0), .int .i64 ((rd_T35 l0_0 a1).f1), .slice none 0 0]) ?_ 2 _ rfl; (with_reducible repeat (first | apply dN | apply dW | apply dA)); refine blk_put (cs := #[.int .i64 ((rd_T35 l0_0 a1).f0), .int .i64 0, .slice none 0 0]) ?_ 1 _ rfl; (with_reducible repeat (first | apply dN | apply dW | apply dA)); refine blk_put (cs := #[.int .i64 0, .int .i64 0, .slice none 0 0]) ?_ 0 _ rfl; exact bp BK167⟩, ⟨bw HB⟩⟩
 clear HC5
 (try clear c1); (try clear p1); (try clear q1); (try clear hx1); (try clear c2); (try clear p2); (try clear c3); (try clear c3b0); (try clear c4); (try clear c4b0); (try clear c8); (try clear c11); (try clear c12); (try clear c14); (try clear c14b0); (try clear c15); (try clear c16); (try clear p16); (try clear q16); (try clear hx16); (try clear c18); (try clear c18b0); (try clear c19); (try clear c20); (try clear c22); (try clear c22b0); (try clear c23); (try clear c24); (try clear c26); (try clear c26b0); (try clear c27); (try clear c28); (try clear c30); (try clear c30b0); (try clear c30b1); (try clear c31); (try clear c32); (try clear c33); (try clear c34); (try clear c35); (try clear hcz13); (try clear hcz17); (try clear hcz21); (try clear hcz25); (try clear hcz29); (try clear hcz33); (try clear hcz36); (try clear hcz9); (try clear hfz13); (try clear hfz17); (try clear hfz21); (try clear hfz25); (try clear hfz29); (try clear hfz33); (try clear hfz36); (try clear hfz9); (try clear hx166_0); (try clear hx166_1); (try clear hx166_2); (try clear p166); (try clear q166)
 obtain ⟨kq, x45_4, rfl, HA, HJ4, BK164, BK165, BK167, HB⟩ := hcut
 rcases kq with _ | kj4
 ·exact absurd HA.out (by simp [spec_l04Func.j0])
 have H := HA.out
 clear HA
 simp only [spec_l04Func.j0] at H
 refine qT H ?_ ?_ <;> clear H <;> intro c37 H <;> subst c37
 ·simp only [Option.some.injEq, Prod.mk.injEq] at H
  obtain ⟨rfl, rfl, rfl⟩ := H
  have hnb38 := NB165_164.out
  have hnc38 := NB164_165.out
  have hnb39 := NB165_167.out
  have hnc39 := NB167_165.out
  have hcz40 := bK wc BK165
  have hfz40 := bF BK165
  go_wp2
  refine bodyPost_ret (results_cell_row rfl _ _ gb165 29 #[.int .i64 a1, .int .i64 0, .int .i64 1] (0, 0) _ rfl (bt BK165) Try.underlying29 rfl (by kernel_rfl)) rfl ?_
  exact ⟨er, bw HB⟩
 have H' := am H
 clear H
 go_wp2
 go_loopg [6] kj4 (fun kq v6 w' => ∃ (x6_2 : Int) (x166000_2 : Int) (x166001_2 : Int) (x166002_2 : Int), v6 = .int .i64 x6_2 ∧ Aside0 (spec_l04Func.l0 kq a1 x6_2 l0_0 ((rd_T35 l0_0 a1).f0) ((rd_T35 l0_0 a1).f1) ((rd_T35 l0_0 a1).f2) = some (r1, r2, r3)) ∧ Aside0 (kq ≤ kj4) ∧ Aside0 (w'.heap[gb164]? = some (.cells #[(.slice (some ad166) l0_0.length c0_0)] 25 (0, 0))) ∧ Aside0 (w'.heap[gb165]? = some (.cells #[.int .i64 x166000_2, .int .i64 x166001_2, .int .i64 x166002_2] 29 (0, 0))) ∧ Aside0 (w'.heap[gb167]? = some (.cells #[.int .i64 ((rd_T35 l0_0 a1).f0), .int .i64 ((rd_T35 l0_0 a1).f1), (.slice A166_2 ((rd_T35 l0_0 a1).f2).length c166_2)] 35 (0, 0))) ∧ Aside0 (Below w.heap.size w w'))
 case atStart => exact ⟨(0), (0), (0), (0), dr, H', ⟨Nat.le_refl _⟩, ⟨bp BK164⟩, ⟨bp BK165⟩, ⟨bp BK167⟩, ⟨bw HB⟩⟩
 clear H'
 (try clear c37); (try clear c38); (try clear c39); (try clear hcz40); (try clear hfz40)
 obtain ⟨x6_2, x166000_2, x166001_2, x166002_2, rfl, HA, HK2, BK164, BK165, BK167, HB⟩ := hrel
 rcases gk with _ | k2
 ·exact absurd HA.out (by simp [spec_l04Func.l0])
 have H := HA.out
 clear HA
 simp only [spec_l04Func.l0] at H
 refine qI H ?_ ?_ <;> clear H <;> intro c41b0 H
 ·refine iM H ?_; clear H; intro c42b0 H
  refine be H ?_; clear H; intro t169 A43 H
  have HC44 := am H
  clear H
  have hnb45 := NB167_164.out
  have hnc45 := NB164_167.out
  have hnb46 := NB167_165.out
  have hnc46 := NB165_167.out
  have hcz47 := bK wr BK167
  have hfz47 := bF BK167
  try go_wp2
  replace BK164 := am (blk_drew BK164.out)
  replace BK165 := am (blk_drew BK165.out)
  replace BK167 := am (blk_drew BK167.out)
  replace HB := am (below_drew1 HB.out)
  have p168 : 0 ≤ (x6_2 : Int) := of_decide_eq_true as1
  have q168 : x6_2 < (((rd_T35 l0_0 a1).f2).length : Int) := of_decide_eq_true as1
  obtain ⟨ad168, e168, hx168_0, hx168_1⟩ := at_T38 HR166_2.out x6_2 p168 q168
  have hw168_1 := hx168_1
  have hw168_0 := hx168_0
  cases e168
  replace hx168_0 := cl HB hx168_0
  replace hx168_1 := cl HB hx168_1
  replace p168 := eq_true p168
  replace q168 := eq_true q168
  refine start_ (n := 9) (S := fun w' => w'.cell? ⟨gb164, 0, none⟩ = some (.slice (some ad166) l0_0.length c0_0) ∧ w'.cell? ⟨gb167, 0, none⟩ = some (.int .i64 ((rd_T35 l0_0 a1).f0)) ∧ w'.cell? ⟨gb167, 1, none⟩ = some (.int .i64 ((rd_T35 l0_0 a1).f1)) ∧ w'.cell? ⟨gb167, 2, none⟩ = some (.slice (some ad168) ((rd_T35 l0_0 a1).f2).length c166_2) ∧ w'.cell? (ad168.add ((x6_2).toNat * 2)) = some (.int .i64 ((rd_T38 ((rd_T35 l0_0 a1).f2) x6_2).f0)) ∧ w'.cell? ⟨(ad168.add ((x6_2).toNat * 2)).block, (ad168.add ((x6_2).toNat * 2)).off + 1, none⟩ = some (.int .i64 ((rd_T38 ((rd_T35 l0_0 a1).f2) x6_2).f1))) (ds := []) (bv 9 0) (by kernel_rfl) rfl (by kernel_rfl) ⟨bc BK164 0, bc BK167 0, bc BK167 1, bc BK167 2, (cq HB hw168_0), (cq HB hw168_1)⟩ (fun hHeld => ?_); refine with_tabW spec_l04Func.tab7 spec_l04Func.bits7 (fun HT_ HW_ => ?_)
  generalize wr.drew = w48 at BK164 BK165 BK167 HB hx168_0 hx168_1 hHeld ⊢
  refine pu 1 56 9 2 HT_ ?_
  refine pu 2 57 9 6 HT_ ?_
  refine pu 4 59 9 22 HT_ ?_
  refine tk 0 55 9 23 HT_ HW_ hHeld ?_
  refine tk 3 58 9 31 HT_ HW_ hHeld ?_
  refine pu 5 60 9 63 HT_ ?_
  refine tk 6 61 9 127 HT_ HW_ hHeld ?_
  refine on 7 (some 62) 9 255 HT_ fun K hK => ?_
  refine goes_ Try.func74 (by kernel_rfl) rfl #[.agg #[.slice (some ad166) l0_0.length c0_0], .int .i64 a1, .agg #[.int .i64 ((rd_T38 ((rd_T35 l0_0 a1).f2) x6_2).f0), .int .i64 ((rd_T38 ((rd_T35 l0_0 a1).f2) x6_2).f1)]] (by rfl) rfl rfl gl ?_
  with_reducible refine (spec_InsRight.calls k2 _ _ l0_0 a1 ((rd_T38 ((rd_T35 l0_0 a1).f2) x6_2).f0) ((rd_T38 ((rd_T35 l0_0 a1).f2) x6_2).f1) t169 _ ?side1 ?side2 A43.out).mono ?_
  (case side1 => exact cc (Kd.C_below HR0_0.out HB.out))
  (case side2 => exact HC0_0.out)
  rintro e w49 ⟨rfl, hb⟩
  refine ⟨_, rfl, ?_⟩
  replace BK164 := bb BK164 hb
  replace BK165 := bb BK165 hb
  replace BK167 := bb BK167 hb
  replace HB := am (below_step (bw HB) hb)
  clear hb
  refine hK.out _ _ ⟨bc BK164 0, bc BK167 0, bc BK167 1, bc BK167 2, (cq HB hw168_0), (cq HB hw168_1)⟩ (fun hHeld => ?_)
  clear hK K
  refine nm (some 62) ?_
  refine pu 8 63 9 511 HT_ ?_
  refine done_ (done_of HT_.out (by kernel_rfl)) ?_
  go_upto_if 63 with (fail)
  (try simp only [Act.put, sa, sz, ss])
  have H := HC44.out
  clear HC44
  refine qT H ?_ ?_ <;> clear H <;> intro c50 H <;> subst c50
  ·have H' := am H
   clear H
   go_wp2
   go_roundg k2
   case measure => have := HJ4.out; have := HK2.out; omega
   case rel => exact ⟨(wrap64 (x6_2 + 1)), (x166000_2), (x166001_2), (x166002_2), dr, H', ⟨by have := HJ4.out; have := HK2.out; omega⟩, ⟨bp BK164⟩, ⟨bp BK165⟩, ⟨bp BK167⟩, ⟨bw HB⟩⟩
  simp only [Option.some.injEq, Prod.mk.injEq] at H
  obtain ⟨rfl, rfl, rfl⟩ := H
  have hnb51 := NB165_164.out
  have hnc51 := NB164_165.out
  have hnb52 := NB165_167.out
  have hnc52 := NB167_165.out
  have hcz53 := bK w49 BK165
  have hfz53 := bF BK165
  go_wp2
  refine bodyPost_ret (results_cell_row rfl _ _ gb165 29 #[.int .i64 a1, .int .i64 x6_2, .int .i64 1] (0, 0) _ rfl (bt BK165) Try.underlying29 rfl (by kernel_rfl)) rfl ?_
  exact ⟨er, bw HB⟩
 replace H := Option.bind_eq_some_iff.mp H
 obtain ⟨⟨t170, t173, t174, t175⟩, A540, H⟩ := H
 replace H : (some (t173, t174, t175)) = some (r1, r2, r3) := H
 have A54 := am A540
 clear A540
 simp only [Option.some.injEq, Prod.mk.injEq] at H
 obtain ⟨rfl, rfl, rfl⟩ := H
 have hnb55 := NB167_164.out
 have hnc55 := NB164_167.out
 have hnb56 := NB167_165.out
 have hnc56 := NB165_167.out
 have hcz57 := bK wr BK167
 have hfz57 := bF BK167
 have hnb58 := NB164_165.out
 have hnc58 := NB165_164.out
 have hcz59 := bK wr BK164
 have hfz59 := bF BK164
 go_wp2_with (first | ((with_reducible refine gk 66 rfl ?_); refine gC 66 (some 70) Try.func66 #[.agg #[.slice (some ad166) l0_0.length c0_0], .int .i64 a1] ((spec_l04Heights.calls k2 _ _ l0_0 a1 t170 t173 t174 t175 _ (cc (Kd.C_below HR0_0.out HB.out)) HC0_0.out A54.out).mono ?_); rintro e w60 ⟨v171, rfl, ho0, hb⟩; refine ⟨_, rfl, ?_⟩; have HO172 := am (Kd.R_lower ho0 (below_size (bw HB))); replace BK164 := bb BK164 hb; replace BK165 := bb BK165 hb; replace BK167 := bb BK167 hb; replace HB := bs HB hb; clear hb; (try clear ho0)) | ((with_reducible refine gate_dst (N := 8) rfl ?_); (try (refine gate_guard (by rfl) ?_; dsimp only)); refine box_event ?hg (N := 8) ?hd (cs := #[.int .i64 0, .int .i64 0, .int .i64 0]) (t := 29) ?hr ?_; (case hd => rfl); (case hg => rfl); (case hr => exact gs); intro gb176 hg w61 hbox hb; replace HO172 := am (Kd.R_below (kR HO172) hb); have BK176 := am (hbox); have GW176 := gw hg HB; replace HB := bs HB hb; obtain ⟨NB164_176, NB176_164, BK164⟩ := b3 hg BK164 hb; obtain ⟨NB165_176, NB176_165, BK165⟩ := b3 hg BK165 hb; obtain ⟨NB167_176, NB176_167, BK167⟩ := b3 hg BK167 hb; clear hb hbox hg; have hnb62 := NB176_164.out; have hnc62 := NB164_176.out; have hnb63 := NB176_165.out; have hnc63 := NB165_176.out; have hnb64 := NB176_167.out; have hnc64 := NB167_176.out; have hcz65 := bK w61 BK176; have hfz65 := bF BK176; have hcz66 := bK w61 BK165; have hfz66 := bF BK165))
 refine bodyPost_ret (results_cell_row rfl _ _ gb165 29 #[.int .i64 t173, .int .i64 t174, .int .i64 t175] (0, 0) _ rfl (bt BK165) Try.underlying29 rfl (by kernel_rfl)) rfl ?_
 exact ⟨er, bw HB⟩

mutual
def spec_Verify.j0 : Nat → Bool → List (S35) → Option (Int × Int × Int)
 | 0, _, _ => none
 | k + 1, x14, x178000 => if x14 = true then (some (0, 0, 1)) else (spec_Verify.l0 k 0 x178000)
def spec_Verify.l0 : Nat → Int → List (S35) → Option (Int × Int × Int)
 | 0, _, _ => none
 | k + 1, x3, x178000 => if x3 < (x178000.length : Int) then ((spec_l04Func.f k x178000 x3).bind fun bt179 => (if bt179.2.2 = 0 then (spec_Verify.l0 k (wrap64 (x3 + 1)) x178000) else (some (bt179.1, bt179.2.1, bt179.2.2)))) else (some (0, 0, 0))
end
def spec_Verify.f (k : Nat) (l0_0 : List (S35)) : Option (Int × Int × Int) := if (l0_0.length : Int) < 1 then (spec_Verify.j0 k true l0_0) else (spec_Verify.j0 k (decide ((l0_0.length : Int) > 6)) l0_0)
theorem spec_Verify.mono_l : ∀ k, (∀ y0 y1, LeO (spec_Verify.j0 k y0 y1) (spec_Verify.j0 (k + 1) y0 y1)) ∧ (∀ y0 y1, LeO (spec_Verify.l0 k y0 y1) (spec_Verify.l0 (k + 1) y0 y1))
 | 0 => ⟨fun _ _ r h => by simp [spec_Verify.j0] at h, fun _ _ r h => by simp [spec_Verify.l0] at h⟩
 | k + 1 => by
  obtain ⟨ih0, ih1⟩ := spec_Verify.mono_l k
  refine ⟨?_, ?_⟩
  ·intro y0 y1
   unfold spec_Verify.j0
   with_reducible repeat' first | exact ih0 .. | exact ih1 .. | exact spec_l04Func.mono .. | exact LeO.refl _ | exact LeO.none _ | refine LeO.ite ?_ ?_ | refine LeO.bind ?_ (fun _ => ?_)
  ·intro y0 y1
   unfold spec_Verify.l0
   with_reducible repeat' first | exact ih0 .. | exact ih1 .. | exact spec_l04Func.mono .. | exact LeO.refl _ | exact LeO.none _ | refine LeO.ite ?_ ?_ | refine LeO.bind ?_ (fun _ => ?_)
theorem spec_Verify.mono : ∀ a0 k, LeO (spec_Verify.f k a0) (spec_Verify.f (k + 1) a0) := by
 intro a0 k
 obtain ⟨ih0, ih1⟩ := spec_Verify.mono_l k
 unfold spec_Verify.f
 with_reducible repeat' first | exact ih0 .. | exact ih1 .. | exact spec_l04Func.mono .. | exact LeO.refl _ | exact LeO.none _ | refine LeO.ite ?_ ?_ | refine LeO.bind ?_ (fun _ => ?_)
theorem spec_Verify.calls (k : Nat) (A0_0 : Option Addr) (c0_0 : Nat) (l0_0 : List (S35)) (r1 : Int) (r2 : Int) (r3 : Int) (w : World) (hr0_0 : Kd.C k35 w A0_0 l0_0.length l0_0) (hc0_0 : l0_0.length ≤ c0_0) (h : spec_Verify.f k l0_0 = some (r1, r2, r3)) :
  Calls Try.prog 9 #[.agg #[.slice A0_0 l0_0.length c0_0]] w fun e w' => e = .returned (.agg #[.int .i64 r1, .int .i64 r2, .int .i64 r3]) ∧ Below w.heap.size w w' := by
 have hu25 := Try.underlying25
 have hu29 := Try.underlying29
 have HR0_0 := am hr0_0
 have HC0_0 := am hc0_0
 clear hr0_0 hc0_0
 have HB := am (Below.refl w.heap.size w)
 have H : (if (l0_0.length : Int) < 1 then (spec_Verify.j0 k true l0_0) else (spec_Verify.j0 k (decide ((l0_0.length : Int) > 6)) l0_0)) = some (r1, r2, r3) := h
 clear h
 have HC2 := am H
 clear H
 go_enter Try.func9, Try.ntmps9
 go_upto_region 1 with (first | ((with_reducible refine gate_dst (N := 1) rfl ?_); (try (refine gate_guard (by rfl) ?_; dsimp only)); refine box_event ?hg (N := 1) ?hd (cs := #[.slice A0_0 l0_0.length c0_0]) (t := 25) ?hr ?_; (case hd => rfl); (case hg => rfl); (case hr => exact gs); intro gb177 hg w3 hbox hb; have BK177 := am (hbox); have GW177 := gw hg HB; replace HB := bs HB hb; clear hb hbox hg) | ((with_reducible refine gate_dst (N := 2) rfl ?_); (try (refine gate_guard (by rfl) ?_; dsimp only)); refine box_event ?hg (N := 2) ?hd (cs := #[.int .i64 0, .int .i64 0, .int .i64 0]) (t := 29) ?hr ?_; (case hd => rfl); (case hg => rfl); (case hr => exact gs); intro gb178 hg w4 hbox hb; have BK178 := am (hbox); have GW178 := gw hg HB; replace HB := bs HB hb; obtain ⟨NB177_178, NB178_177, BK177⟩ := b3 hg BK177 hb; clear hb hbox hg))
 (try simp only [Act.put, sa, sz, ss])
 go_cut [14] (fun v14 wc => ∃ (kq : Nat) (x14_1 : Bool), v14 = .bool x14_1 ∧ Aside0 (spec_Verify.j0 kq x14_1 l0_0 = some (r1, r2, r3)) ∧ Aside0 (kq ≤ k) ∧ Aside0 (wc.heap[gb177]? = some (.cells #[(.slice A0_0 l0_0.length c0_0)] 25 (0, 0))) ∧ Aside0 (wc.heap[gb178]? = some (.cells #[.int .i64 0, .int .i64 0, .int .i64 0] 29 (0, 0))) ∧ Aside0 (Below w.heap.size w wc))
 case first =>
  have H := HC2.out
  clear HC2
  refine qI H ?_ ?_ <;> clear H <;> intro c5b0 H
  ·have c5 := of_decide_eq_true c5b0
   have c5b1 : decide (l0_0.length < 1) = true := decide_eq_true (by omega)
   clear c5
   (first | rw [c5b0] | (simp only [i64_w, i32_w]; rw [c5b0]) | skip)
   have H' := am H
   clear H
   have hnb6 := NB177_178.out
   have hnc6 := NB178_177.out
   have hcz7 := bK w4 BK177
   have hfz7 := bF BK177
   go_wp2
   go_meet
   case rel => exact ⟨_, (true), dr, H', ⟨lk0⟩, ⟨bp BK177⟩, ⟨bp BK178⟩, ⟨bw HB⟩⟩
  have c5 := of_decide_eq_false c5b0
  have c5b1 : decide (l0_0.length < 1) = false := decide_eq_false (by omega)
  clear c5
  (first | rw [c5b0] | (simp only [i64_w, i32_w]; rw [c5b0]) | skip)
  have H' := am H
  clear H
  have hnb8 := NB177_178.out
  have hnc8 := NB178_177.out
  have hcz9 := bK w4 BK177
  have hfz9 := bF BK177
  go_wp2
  go_meet
  case rel => exact ⟨_, (decide ((l0_0.length : Int) > 6)), dr, H', ⟨lk0⟩, ⟨bp BK177⟩, ⟨bp BK178⟩, ⟨bw HB⟩⟩
 clear HC2
 (try clear p2); (try clear c5); (try clear c5b0); (try clear c5b1); (try clear c6); (try clear c8); (try clear c9); (try clear hcz7); (try clear hcz9); (try clear hfz7); (try clear hfz9)
 obtain ⟨kq, x14_1, rfl, HA, HJ1, BK177, BK178, HB⟩ := hcut
 rcases kq with _ | kj1
 ·exact absurd HA.out (by simp [spec_Verify.j0])
 have H := HA.out
 clear HA
 simp only [spec_Verify.j0] at H
 refine qT H ?_ ?_ <;> clear H <;> intro c10 H <;> subst c10
 ·simp only [Option.some.injEq, Prod.mk.injEq] at H
  obtain ⟨rfl, rfl, rfl⟩ := H
  have hnb11 := NB178_177.out
  have hnc11 := NB177_178.out
  have hcz12 := bK wc BK178
  have hfz12 := bF BK178
  go_wp2
  refine bodyPost_ret (results_cell_row rfl _ _ gb178 29 #[.int .i64 0, .int .i64 0, .int .i64 1] (0, 0) _ rfl (bt BK178) Try.underlying29 rfl (by kernel_rfl)) rfl ?_
  exact ⟨er, bw HB⟩
 have H' := am H
 clear H
 go_wp2
 go_loopg [3] kj1 (fun kq v3 w' => ∃ (x3_2 : Int) (x179000_2 : Int) (x179001_2 : Int) (x179002_2 : Int), v3 = .int .i64 x3_2 ∧ Aside0 (spec_Verify.l0 kq x3_2 l0_0 = some (r1, r2, r3)) ∧ Aside0 (kq ≤ kj1) ∧ Aside0 (w'.heap[gb177]? = some (.cells #[(.slice A0_0 l0_0.length c0_0)] 25 (0, 0))) ∧ Aside0 (w'.heap[gb178]? = some (.cells #[.int .i64 x179000_2, .int .i64 x179001_2, .int .i64 x179002_2] 29 (0, 0))) ∧ Aside0 (Below w.heap.size w w'))
 case atStart => exact ⟨(0), (0), (0), (0), dr, H', ⟨Nat.le_refl _⟩, ⟨bp BK177⟩, ⟨bp BK178⟩, ⟨bw HB⟩⟩
 clear H'
 (try clear c1); (try clear c10); (try clear c11); (try clear hcz12); (try clear hfz12)
 obtain ⟨x3_2, x179000_2, x179001_2, x179002_2, rfl, HA, HK2, BK177, BK178, HB⟩ := hrel
 rcases gk with _ | k2
 ·exact absurd HA.out (by simp [spec_Verify.l0])
 have H := HA.out
 clear HA
 simp only [spec_Verify.l0] at H
 refine qI H ?_ ?_ <;> clear H <;> intro c13b0 H
 ·replace H := Option.bind_eq_some_iff.mp H
  obtain ⟨⟨t179, t180, t181⟩, A140, H⟩ := H
  replace H : (if t181 = 0 then (spec_Verify.l0 k2 (wrap64 (x3_2 + 1)) l0_0) else (some (t179, t180, t181))) = some (r1, r2, r3) := H
  have A14 := am A140
  clear A140
  have HC15 := am H
  clear H
  have hnb16 := NB177_178.out
  have hnc16 := NB178_177.out
  have hcz17 := bK wr BK177
  have hfz17 := bF BK177
  go_upto_if 28 with (first | ((with_reducible refine gk 33 rfl ?_); refine gB 33 (some 25) Try.func33 #[.agg #[.slice A0_0 l0_0.length c0_0], .int .i64 x3_2] (spec_l04Func.calls k2 _ _ l0_0 x3_2 t179 t180 t181 _ (cc (Kd.C_below HR0_0.out HB.out)) HC0_0.out A14.out) ?_; intro w18 hb; replace BK177 := bb BK177 hb; replace BK178 := bb BK178 hb; replace HB := bs HB hb; clear hb) | ((with_reducible refine gate_dst (N := 4) rfl ?_); (try (refine gate_guard (by rfl) ?_; dsimp only)); refine box_event ?hg (N := 4) ?hd (cs := #[.int .i64 0, .int .i64 0, .int .i64 0]) (t := 29) ?hr ?_; (case hd => rfl); (case hg => rfl); (case hr => exact gs); intro gb182 hg w19 hbox hb; have BK182 := am (hbox); have GW182 := gw hg HB; replace HB := bs HB hb; obtain ⟨NB177_182, NB182_177, BK177⟩ := b3 hg BK177 hb; obtain ⟨NB178_182, NB182_178, BK178⟩ := b3 hg BK178 hb; clear hb hbox hg; have hnb20 := NB182_177.out; have hnc20 := NB177_182.out; have hnb21 := NB182_178.out; have hnc21 := NB178_182.out; have hcz22 := bK w19 BK182; have hfz22 := bF BK182))
  (try simp only [Act.put, sa, sz, ss])
  have H := HC15.out
  clear HC15
  refine qE H ?_ ?_ <;> clear H
  ·intro c23b0 c23b1 H
   (first | rw [c23b0] | (simp only [i64_w, i32_w]; rw [c23b0]) | skip)
   have H' := am H
   clear H
   go_wp2
   go_roundg k2
   case measure => have := HJ1.out; have := HK2.out; omega
   case rel => exact ⟨(wrap64 (x3_2 + 1)), (x179000_2), (x179001_2), (x179002_2), dr, H', ⟨by have := HJ1.out; have := HK2.out; omega⟩, ⟨by (with_reducible repeat (first | apply dN | apply dW | apply dA)); refine blk_far ?_ NB177_182.out _; (with_reducible repeat (first | apply dN | apply dW | apply dA)); refine blk_far ?_ NB177_182.out _; (with_reducible repeat (first | apply dN | apply dW | apply dA)); refine blk_far ?_ NB177_182.out _; exact bp BK177⟩, ⟨by (with_reducible repeat (first | apply dN | apply dW | apply dA)); refine blk_far ?_ NB178_182.out _; (with_reducible repeat (first | apply dN | apply dW | apply dA)); refine blk_far ?_ NB178_182.out _; (with_reducible repeat (first | apply dN | apply dW | apply dA)); refine blk_far ?_ NB178_182.out _; exact bp BK178⟩, ⟨bw HB⟩⟩
  intro c23 c23b0 c23b1 H
  (first | rw [c23b0] | (simp only [i64_w, i32_w]; rw [c23b0]) | skip)
  simp only [Option.some.injEq, Prod.mk.injEq] at H
  obtain ⟨rfl, rfl, rfl⟩ := H
  have hnb24 := NB182_177.out
  have hnc24 := NB177_182.out
  have hnb25 := NB182_178.out
  have hnc25 := NB178_182.out
  have hcz26 := bK w19 BK182
  have hfz26 := bF BK182
  have hnb27 := NB178_177.out
  have hnc27 := NB177_178.out
  have hcz28 := bK w19 BK178
  have hfz28 := bF BK178
  go_wp2
  refine bodyPost_ret (results_cell_row rfl _ _ gb178 29 #[.int .i64 t179, .int .i64 t180, .int .i64 t181] (0, 0) _ rfl (bt BK178) Try.underlying29 rfl (by kernel_rfl)) rfl ?_
  exact ⟨er, bw HB⟩
 simp only [Option.some.injEq, Prod.mk.injEq] at H
 obtain ⟨rfl, rfl, rfl⟩ := H
 have hnb29 := NB177_178.out
 have hnc29 := NB178_177.out
 have hcz30 := bK wr BK177
 have hfz30 := bF BK177
 have hcz31 := bK wr BK178
 have hfz31 := bF BK178
 go_wp2
 refine bodyPost_ret (results_cell_row rfl _ _ gb178 29 #[.int .i64 0, .int .i64 0, .int .i64 0] (0, 0) _ rfl (bt BK178) Try.underlying29 rfl (by kernel_rfl)) rfl ?_
 exact ⟨er, bw HB⟩

def spec_l04Right.f (k : Nat) (l0_0 : List (S35)) : Option (Bool) := (spec_Verify.f k l0_0).bind fun bt184 => (some (bt184.2.2 == 0))
theorem spec_l04Right.mono : ∀ a0 k, LeO (spec_l04Right.f k a0) (spec_l04Right.f (k + 1) a0) := by
 intro a0 k
 unfold spec_l04Right.f
 with_reducible repeat' first | exact spec_Verify.mono .. | exact LeO.refl _ | exact LeO.none _ | refine LeO.ite ?_ ?_ | refine LeO.bind ?_ (fun _ => ?_)
theorem spec_l04Right.calls (k : Nat) (A0_0 : Option Addr) (c0_0 : Nat) (l0_0 : List (S35)) (r : Bool) (w : World) (hr0_0 : Kd.C k35 w A0_0 l0_0.length l0_0) (hc0_0 : l0_0.length ≤ c0_0) (h : spec_l04Right.f k l0_0 = some r) :
  Calls Try.prog 41 #[.agg #[.slice A0_0 l0_0.length c0_0]] w fun e w' => e = .returned (.bool r) ∧ Below w.heap.size w w' := by
 have hu25 := Try.underlying25
 have hu29 := Try.underlying29
 have hfd29_2 : ∀ (v0_ v1_ v2_ : Value) (W : World), (Instr.field 29 (.agg #[v0_, v1_, v2_]) 2).run Try.prog W = .ok (v2_) W := fun v0_ v1_ v2_ W => by kernel_rfl
 have HR0_0 := am hr0_0
 have HC0_0 := am hc0_0
 clear hr0_0 hc0_0
 have HB := am (Below.refl w.heap.size w)
 have H : ((spec_Verify.f k l0_0).bind fun bt184 => (some (bt184.2.2 == 0))) = some r := h
 clear h
 replace H := Option.bind_eq_some_iff.mp H
 obtain ⟨⟨t184, t185, t186⟩, A20, H⟩ := H
 replace H : (some (t186 == 0)) = some r := H
 have A2 := am A20
 clear A20
 obtain rfl := Option.some.inj H
 go_enter Try.func41, Try.ntmps41
 go_wp2_with (first | ((with_reducible refine gd 1 rfl ?_); refine bX 1 #[.slice A0_0 l0_0.length c0_0] 25 HB ?_; clear HB; intro gb183 w3 hg hb BK183 GW183 HB; clear hb hg; have hcz4 := bK w3 BK183; have hfz4 := bF BK183) | ((with_reducible refine gk 9 rfl ?_); refine gB 9 (some 4) Try.func9 #[.agg #[.slice A0_0 l0_0.length c0_0]] (spec_Verify.calls k _ _ l0_0 t184 t185 t186 _ (cc (Kd.C_below HR0_0.out HB.out)) HC0_0.out A2.out) ?_; intro w5 hb; replace BK183 := bb BK183 hb; replace HB := bs HB hb; clear hb))
 go_ret
 exact ⟨er, bw HB⟩

def spec_l01Fold.f (a0 : Int) : Option (Int) := if a0 < 0 then (some (IntKind.u64.wrap ((IntKind.u64.wrap (2 * (IntKind.u64.wrap (wrap64 (-(wrap64 (a0 + 1))))))) + 1))) else (some (IntKind.u64.wrap (2 * (IntKind.u64.wrap (a0)))))
theorem spec_l01Fold.calls (a0 : Int) (r : Int) (w : World) (h : spec_l01Fold.f a0 = some r) :
  Calls Try.prog 78 #[.int .i64 a0] w fun e w' => e = .returned (.int .u64 r) ∧ Drawn0 w w' := by
 have H : (if a0 < 0 then (some (IntKind.u64.wrap ((IntKind.u64.wrap (2 * (IntKind.u64.wrap (wrap64 (-(wrap64 (a0 + 1))))))) + 1))) else (some (IntKind.u64.wrap (2 * (IntKind.u64.wrap (a0)))))) = some r := h
 clear h
 refine qI H ?_ ?_ <;> clear H <;> intro c2b0 H
 ·obtain rfl := Option.some.inj H
  go_enter Try.func78, Try.ntmps78
  go_wp2
  go_ret
  exact ⟨by first | rfl | (simp; done) | (simp [*]; done), by repeat (first | exact Drawn0.refl _ | apply Drawn0.step)⟩
 obtain rfl := Option.some.inj H
 go_enter Try.func78, Try.ntmps78
 go_wp2
 go_ret
 exact ⟨by first | rfl | (simp; done) | (simp [*]; done), by repeat (first | exact Drawn0.refl _ | apply Drawn0.step)⟩

end Go.Proofs.Ytopaefhfjioecaa.QFnFileCut
