import Derived.Test.YtbmjmaahcaoajaaCFnExactFileBytesx0
import Derived.Test.YtbmjmaahcaoajaaCFnExactFileBytesx8
namespace Go.Proofs.Ytbmjmaahcaoajaa.QFnExactFileBytes
open Go.RowKit Go.Proofs.YtbmjmaahcaoajaaW
open PrintWords PrintLast PrintMore PrintShort
attribute [local go_sem] max2_int min2_int max_two min_two max_three min_three max_four min_four   -- for this text's walks alone
set_option linter.unusedVariables false
set_option maxHeartbeats 8000000
set_option maxRecDepth 100000
set_option linter.unusedSimpArgs false

mutual
def impl_InsRight.j0 : Nat → Int → Int → Bool → List (S100) → Int → Int → Option (Bool)
 | 0, _, _, _, _, _, _ => none
 | k + 1, x1, x12, x15, x294000, x295000, x295001 => if x15 = true then (if x295001 ≥ 0 then (if 0 ≤ x1 then (if x1 < (x294000.length : Int) then (some (decide (x295001 < ((rd_T100 x294000 x1).f1)))) else (none)) else (none)) else (some false)) else (if x12 = 30 then (impl_InsRight.j1 k x1 x12 (x12 == 30) x294000 x295000 x295001) else (impl_InsRight.j1 k x1 x12 (x12 == 31) x294000 x295000 x295001))
def impl_InsRight.j1 : Nat → Int → Int → Bool → List (S100) → Int → Int → Option (Bool)
 | 0, _, _, _, _, _, _ => none
 | k + 1, x1, x12, x32, x294000, x295000, x295001 => if x32 = true then (if x295001 ≥ 0 then (if 0 ≤ x1 then (if x1 < (x294000.length : Int) then (some (decide (x295001 < (((rd_T100 x294000 x1).f2).length : Int)))) else (none)) else (none)) else (some false)) else (if x12 = 32 then ((impl_hasFunc.f x294000 x295001).bind fun t298 => (some t298)) else ((impl_OpName.f x295000).bind fun t299 => (if t299.toList = ([] : List UInt8) then (some false) else (some (x295001 == 0)))))
end
def impl_InsRight.f (k : Nat) (l0_0 : List (S100)) (a1 : Int) (a2_0 : Int) (a2_1 : Int) : Option (Bool) := (impl_hasFunc.f l0_0 a1).bind fun t295 => (if t295 = true then (if a2_0 = 1 then (some true) else (if a2_0 = 2 then (impl_InsRight.j0 k a1 a2_0 (a2_0 == 2) l0_0 a2_0 a2_1) else (impl_InsRight.j0 k a1 a2_0 (a2_0 == 3) l0_0 a2_0 a2_1))) else (some false))
theorem impl_InsRight.mono_l : ∀ k, (∀ y0 y1 y2 y3 y4 y5, LeO (impl_InsRight.j0 k y0 y1 y2 y3 y4 y5) (impl_InsRight.j0 (k + 1) y0 y1 y2 y3 y4 y5)) ∧ (∀ y0 y1 y2 y3 y4 y5, LeO (impl_InsRight.j1 k y0 y1 y2 y3 y4 y5) (impl_InsRight.j1 (k + 1) y0 y1 y2 y3 y4 y5))
 | 0 => ⟨fun _ _ _ _ _ _ r h => by simp [impl_InsRight.j0] at h, fun _ _ _ _ _ _ r h => by simp [impl_InsRight.j1] at h⟩
 | k + 1 => by
  obtain ⟨ih0, ih1⟩ := impl_InsRight.mono_l k
  refine ⟨?_, ?_⟩
  ·intro y0 y1 y2 y3 y4 y5
   unfold impl_InsRight.j0
   repeat' first
   | (with_reducible exact ih0 _ _ _ _ _ _)
   | (with_reducible exact ih1 _ _ _ _ _ _)
   | (with_reducible exact LeO.refl _)
   | (with_reducible exact LeO.none _)
   | (with_reducible refine LeO.ite ?_ ?_)
   | (with_reducible refine LeO.bind ?_ (fun _ => ?_))
  ·intro y0 y1 y2 y3 y4 y5
   unfold impl_InsRight.j1
   repeat' first
   | (with_reducible exact ih0 _ _ _ _ _ _)
   | (with_reducible exact ih1 _ _ _ _ _ _)
   | (with_reducible exact LeO.refl _)
   | (with_reducible exact LeO.none _)
   | (with_reducible refine LeO.ite ?_ ?_)
   | (with_reducible refine LeO.bind ?_ (fun _ => ?_))
theorem impl_InsRight.mono : ∀ a0 a1 a2 a3 k, LeO (impl_InsRight.f k a0 a1 a2 a3) (impl_InsRight.f (k + 1) a0 a1 a2 a3) := by
 intro a0 a1 a2 a3 k
 obtain ⟨ih0, ih1⟩ := impl_InsRight.mono_l k
 unfold impl_InsRight.f
 repeat' first
   | (with_reducible exact ih0 _ _ _ _ _ _)
   | (with_reducible exact ih1 _ _ _ _ _ _)
   | (with_reducible exact LeO.refl _)
   | (with_reducible exact LeO.none _)
   | (with_reducible refine LeO.ite ?_ ?_)
   | (with_reducible refine LeO.bind ?_ (fun _ => ?_))
theorem impl_InsRight.calls (k : Nat) (A0_0 : Option Addr) (c0_0 : Nat) (l0_0 : List (S100)) (a1 : Int) (a2_0 : Int) (a2_1 : Int) (r : Bool) (w : World) (hr0_0 : Kd.C k100 w A0_0 l0_0.length l0_0) (hc0_0 : l0_0.length ≤ c0_0) (h : impl_InsRight.f k l0_0 a1 a2_0 a2_1 = some r) :
  Calls Try.prog 173 #[.agg #[.slice A0_0 l0_0.length c0_0], .int .i64 a1, .agg #[.int .i64 a2_0, .int .i64 a2_1]] w fun e w' => e = .returned (.bool r) ∧ Below w.heap.size w w' := by
 have hu30 := Try.underlying30
 have hu102 := Try.underlying102
 have HR0_0 := am hr0_0
 have HC0_0 := am hc0_0
 clear hr0_0 hc0_0
 have HB := am (Below.refl w.heap.size w)
 have H : ((impl_hasFunc.f l0_0 a1).bind fun t295 => (if t295 = true then (if a2_0 = 1 then (some true) else (if a2_0 = 2 then (impl_InsRight.j0 k a1 a2_0 (a2_0 == 2) l0_0 a2_0 a2_1) else (impl_InsRight.j0 k a1 a2_0 (a2_0 == 3) l0_0 a2_0 a2_1))) else (some false))) = some r := h
 clear h
 replace H := Option.bind_eq_some_iff.mp H
 obtain ⟨t295, A40, H⟩ := H
 replace H : (if t295 = true then (if a2_0 = 1 then (some true) else (if a2_0 = 2 then (impl_InsRight.j0 k a1 a2_0 (a2_0 == 2) l0_0 a2_0 a2_1) else (impl_InsRight.j0 k a1 a2_0 (a2_0 == 3) l0_0 a2_0 a2_1))) else (some false)) = some r := H
 have A4 := am A40
 clear A40
 by_cases c5 : t295 = true
 ·subst c5
  have H1 : (if a2_0 = 1 then (some true) else (if a2_0 = 2 then (impl_InsRight.j0 k a1 a2_0 (a2_0 == 2) l0_0 a2_0 a2_1) else (impl_InsRight.j0 k a1 a2_0 (a2_0 == 3) l0_0 a2_0 a2_1))) = some r := by rw [if_pos rfl] at H; exact H
  clear H
  have H := H1
  clear H1
  by_cases c6 : a2_0 = 1
  ·rw [if_pos c6] at H
   have c6b0 : (a2_0 == 1) = true := beq_iff_eq.mpr c6
   have c6b1 : (a2_0 != 1) = false := bne_eq_false_iff_eq.mpr c6
   clear c6
   obtain rfl := Option.some.inj H
   go_enter Try.func173, Try.ntmps173
   go_wp2_with (first | ((with_reducible refine gate_dst (N := 3) rfl ?_); (try (refine gate_guard (by rfl) ?_; dsimp only)); refine box_event ?hg (N := 3) ?hd (cs := #[.slice A0_0 l0_0.length c0_0]) (t := 30) ?hr ?_; (case hd => rfl); (case hg => rfl); (case hr => exact gs); intro gb293 hg w7 hbox hb; have BK293 := am (hbox); have GW293 := am ((by rw [hg]; exact (below_size (bw HB)) : w.heap.size ≤ gb293)); have GE293 := am ((by rw [hg]; exact (below_size (bw HB)) : w.heap.size ≤ gb293)); replace HB := am (below_step (bw HB) hb); clear hb hbox hg) | ((with_reducible refine gate_dst (N := 5) rfl ?_); (try (refine gate_guard (by rfl) ?_; dsimp only)); refine box_event ?hg (N := 5) ?hd (cs := #[.int .i64 a2_0, .int .i64 a2_1]) (t := 102) ?hr ?_; (case hd => rfl); (case hg => rfl); (case hr => exact gs); intro gb294 hg w8 hbox hb; have BK294 := am (hbox); have GW294 := am ((by rw [hg]; exact (below_size (bw HB)) : w.heap.size ≤ gb294)); have GE294 := am ((by rw [hg]; exact (below_size (bw HB)) : w.heap.size ≤ gb294)); replace HB := am (below_step (bw HB) hb); have NB293_294 := am ((by rw [hg]; exact Nat.ne_of_lt (blk_lt (g := gb293) (o := .cells #[.slice A0_0 l0_0.length c0_0] 30 (0, 0)) (bp BK293)) : gb293 ≠ gb294)); have NB294_293 := am ((by rw [hg]; exact Nat.ne_of_gt (blk_lt (g := gb293) (o := .cells #[.slice A0_0 l0_0.length c0_0] 30 (0, 0)) (bp BK293)) : gb294 ≠ gb293)); replace BK293 := am (blk_below (g := gb293) (o := .cells #[.slice A0_0 l0_0.length c0_0] 30 (0, 0)) (bp BK293) hb); clear hb hbox hg; have hnb9 := NB293_294.out; have hnc9 := NB294_293.out; have hcz10_0 : w8.cell? ⟨gb293, 0, none⟩ = some (.slice A0_0 l0_0.length c0_0) := bc BK293 0; have hfz10_0 := bf BK293 0) | (go_at_call 121; (with_reducible refine (impl_hasFunc.calls _ _ l0_0 a1 true _ ?side1 ?side2 A4.out).mono ?_); (case side1 => exact cc (Kd.C_below HR0_0.out HB.out)); (case side2 => exact HC0_0.out); rintro e w11 ⟨rfl, hb⟩; replace BK293 := am (blk_below (g := gb293) (o := .cells #[.slice A0_0 l0_0.length c0_0] 30 (0, 0)) (bp BK293) hb); replace BK294 := am (blk_below (g := gb294) (o := .cells #[.int .i64 a2_0, .int .i64 a2_1] 102 (0, 0)) (bp BK294) hb); replace HB := am (below_step (bw HB) hb); (try clear hb); (try clear hb2); (try clear hk); (try clear hi); have hcz12_0 : w11.cell? ⟨gb294, 0, none⟩ = some (.int .i64 a2_0) := bc BK294 0; have hcz12_1 : w11.cell? ⟨gb294, 1, none⟩ = some (.int .i64 a2_1) := bc BK294 1; have hfz12_0 := bf BK294 0; have hfz12_1 := bf BK294 1))
   repeat (go_quiet (first | ((with_reducible refine gate_dst (N := 3) rfl ?_); (try (refine gate_guard (by rfl) ?_; dsimp only)); refine box_event ?hg (N := 3) ?hd (cs := #[.slice A0_0 l0_0.length c0_0]) (t := 30) ?hr ?_; (case hd => rfl); (case hg => rfl); (case hr => exact gs); intro gb293 hg w7 hbox hb; have BK293 := am (hbox); have GW293 := am ((by rw [hg]; exact (below_size (bw HB)) : w.heap.size ≤ gb293)); have GE293 := am ((by rw [hg]; exact (below_size (bw HB)) : w.heap.size ≤ gb293)); replace HB := am (below_step (bw HB) hb); clear hb hbox hg) | ((with_reducible refine gate_dst (N := 5) rfl ?_); (try (refine gate_guard (by rfl) ?_; dsimp only)); refine box_event ?hg (N := 5) ?hd (cs := #[.int .i64 a2_0, .int .i64 a2_1]) (t := 102) ?hr ?_; (case hd => rfl); (case hg => rfl); (case hr => exact gs); intro gb294 hg w8 hbox hb; have BK294 := am (hbox); have GW294 := am ((by rw [hg]; exact (below_size (bw HB)) : w.heap.size ≤ gb294)); have GE294 := am ((by rw [hg]; exact (below_size (bw HB)) : w.heap.size ≤ gb294)); replace HB := am (below_step (bw HB) hb); have NB293_294 := am ((by rw [hg]; exact Nat.ne_of_lt (blk_lt (g := gb293) (o := .cells #[.slice A0_0 l0_0.length c0_0] 30 (0, 0)) (bp BK293)) : gb293 ≠ gb294)); have NB294_293 := am ((by rw [hg]; exact Nat.ne_of_gt (blk_lt (g := gb293) (o := .cells #[.slice A0_0 l0_0.length c0_0] 30 (0, 0)) (bp BK293)) : gb294 ≠ gb293)); replace BK293 := am (blk_below (g := gb293) (o := .cells #[.slice A0_0 l0_0.length c0_0] 30 (0, 0)) (bp BK293) hb); clear hb hbox hg; have hnb9 := NB293_294.out; have hnc9 := NB294_293.out; have hcz10_0 : w8.cell? ⟨gb293, 0, none⟩ = some (.slice A0_0 l0_0.length c0_0) := bc BK293 0; have hfz10_0 := bf BK293 0) | (go_at_call 121; (with_reducible refine (impl_hasFunc.calls _ _ l0_0 a1 true _ ?side1 ?side2 A4.out).mono ?_); (case side1 => exact cc (Kd.C_below HR0_0.out HB.out)); (case side2 => exact HC0_0.out); rintro e w11 ⟨rfl, hb⟩; replace BK293 := am (blk_below (g := gb293) (o := .cells #[.slice A0_0 l0_0.length c0_0] 30 (0, 0)) (bp BK293) hb); replace BK294 := am (blk_below (g := gb294) (o := .cells #[.int .i64 a2_0, .int .i64 a2_1] 102 (0, 0)) (bp BK294) hb); replace HB := am (below_step (bw HB) hb); (try clear hb); (try clear hb2); (try clear hk); (try clear hi); have hcz12_0 : w11.cell? ⟨gb294, 0, none⟩ = some (.int .i64 a2_0) := bc BK294 0; have hcz12_1 : w11.cell? ⟨gb294, 1, none⟩ = some (.int .i64 a2_1) := bc BK294 1; have hfz12_0 := bf BK294 0; have hfz12_1 := bf BK294 1)); try go_wp2_with (first | ((with_reducible refine gate_dst (N := 3) rfl ?_); (try (refine gate_guard (by rfl) ?_; dsimp only)); refine box_event ?hg (N := 3) ?hd (cs := #[.slice A0_0 l0_0.length c0_0]) (t := 30) ?hr ?_; (case hd => rfl); (case hg => rfl); (case hr => exact gs); intro gb293 hg w7 hbox hb; have BK293 := am (hbox); have GW293 := am ((by rw [hg]; exact (below_size (bw HB)) : w.heap.size ≤ gb293)); have GE293 := am ((by rw [hg]; exact (below_size (bw HB)) : w.heap.size ≤ gb293)); replace HB := am (below_step (bw HB) hb); clear hb hbox hg) | ((with_reducible refine gate_dst (N := 5) rfl ?_); (try (refine gate_guard (by rfl) ?_; dsimp only)); refine box_event ?hg (N := 5) ?hd (cs := #[.int .i64 a2_0, .int .i64 a2_1]) (t := 102) ?hr ?_; (case hd => rfl); (case hg => rfl); (case hr => exact gs); intro gb294 hg w8 hbox hb; have BK294 := am (hbox); have GW294 := am ((by rw [hg]; exact (below_size (bw HB)) : w.heap.size ≤ gb294)); have GE294 := am ((by rw [hg]; exact (below_size (bw HB)) : w.heap.size ≤ gb294)); replace HB := am (below_step (bw HB) hb); have NB293_294 := am ((by rw [hg]; exact Nat.ne_of_lt (blk_lt (g := gb293) (o := .cells #[.slice A0_0 l0_0.length c0_0] 30 (0, 0)) (bp BK293)) : gb293 ≠ gb294)); have NB294_293 := am ((by rw [hg]; exact Nat.ne_of_gt (blk_lt (g := gb293) (o := .cells #[.slice A0_0 l0_0.length c0_0] 30 (0, 0)) (bp BK293)) : gb294 ≠ gb293)); replace BK293 := am (blk_below (g := gb293) (o := .cells #[.slice A0_0 l0_0.length c0_0] 30 (0, 0)) (bp BK293) hb); clear hb hbox hg; have hnb9 := NB293_294.out; have hnc9 := NB294_293.out; have hcz10_0 : w8.cell? ⟨gb293, 0, none⟩ = some (.slice A0_0 l0_0.length c0_0) := bc BK293 0; have hfz10_0 := bf BK293 0) | (go_at_call 121; (with_reducible refine (impl_hasFunc.calls _ _ l0_0 a1 true _ ?side1 ?side2 A4.out).mono ?_); (case side1 => exact cc (Kd.C_below HR0_0.out HB.out)); (case side2 => exact HC0_0.out); rintro e w11 ⟨rfl, hb⟩; replace BK293 := am (blk_below (g := gb293) (o := .cells #[.slice A0_0 l0_0.length c0_0] 30 (0, 0)) (bp BK293) hb); replace BK294 := am (blk_below (g := gb294) (o := .cells #[.int .i64 a2_0, .int .i64 a2_1] 102 (0, 0)) (bp BK294) hb); replace HB := am (below_step (bw HB) hb); (try clear hb); (try clear hb2); (try clear hk); (try clear hi); have hcz12_0 : w11.cell? ⟨gb294, 0, none⟩ = some (.int .i64 a2_0) := bc BK294 0; have hcz12_1 : w11.cell? ⟨gb294, 1, none⟩ = some (.int .i64 a2_1) := bc BK294 1; have hfz12_0 := bf BK294 0; have hfz12_1 := bf BK294 1)))
   go_ret
   exact ⟨er, bw HB⟩
  ·rw [if_neg c6] at H
   have c6b0 : (a2_0 == 1) = false := beq_eq_false_iff_ne.mpr c6
   have c6b1 : (a2_0 != 1) = true := bne_iff_ne.mpr c6
   have HC13 := am H
   clear H
   go_enter Try.func173, Try.ntmps173
   go_upto_if 15 with (first | ((with_reducible refine gate_dst (N := 3) rfl ?_); (try (refine gate_guard (by rfl) ?_; dsimp only)); refine box_event ?hg (N := 3) ?hd (cs := #[.slice A0_0 l0_0.length c0_0]) (t := 30) ?hr ?_; (case hd => rfl); (case hg => rfl); (case hr => exact gs); intro gb293 hg w14 hbox hb; have BK293 := am (hbox); have GW293 := am ((by rw [hg]; exact (below_size (bw HB)) : w.heap.size ≤ gb293)); have GE293 := am ((by rw [hg]; exact (below_size (bw HB)) : w.heap.size ≤ gb293)); replace HB := am (below_step (bw HB) hb); clear hb hbox hg) | ((with_reducible refine gate_dst (N := 5) rfl ?_); (try (refine gate_guard (by rfl) ?_; dsimp only)); refine box_event ?hg (N := 5) ?hd (cs := #[.int .i64 a2_0, .int .i64 a2_1]) (t := 102) ?hr ?_; (case hd => rfl); (case hg => rfl); (case hr => exact gs); intro gb294 hg w15 hbox hb; have BK294 := am (hbox); have GW294 := am ((by rw [hg]; exact (below_size (bw HB)) : w.heap.size ≤ gb294)); have GE294 := am ((by rw [hg]; exact (below_size (bw HB)) : w.heap.size ≤ gb294)); replace HB := am (below_step (bw HB) hb); have NB293_294 := am ((by rw [hg]; exact Nat.ne_of_lt (blk_lt (g := gb293) (o := .cells #[.slice A0_0 l0_0.length c0_0] 30 (0, 0)) (bp BK293)) : gb293 ≠ gb294)); have NB294_293 := am ((by rw [hg]; exact Nat.ne_of_gt (blk_lt (g := gb293) (o := .cells #[.slice A0_0 l0_0.length c0_0] 30 (0, 0)) (bp BK293)) : gb294 ≠ gb293)); replace BK293 := am (blk_below (g := gb293) (o := .cells #[.slice A0_0 l0_0.length c0_0] 30 (0, 0)) (bp BK293) hb); clear hb hbox hg; have hnb16 := NB293_294.out; have hnc16 := NB294_293.out; have hcz17_0 : w15.cell? ⟨gb293, 0, none⟩ = some (.slice A0_0 l0_0.length c0_0) := bc BK293 0; have hfz17_0 := bf BK293 0) | (go_at_call 121; (with_reducible refine (impl_hasFunc.calls _ _ l0_0 a1 true _ ?side1 ?side2 A4.out).mono ?_); (case side1 => exact cc (Kd.C_below HR0_0.out HB.out)); (case side2 => exact HC0_0.out); rintro e w18 ⟨rfl, hb⟩; replace BK293 := am (blk_below (g := gb293) (o := .cells #[.slice A0_0 l0_0.length c0_0] 30 (0, 0)) (bp BK293) hb); replace BK294 := am (blk_below (g := gb294) (o := .cells #[.int .i64 a2_0, .int .i64 a2_1] 102 (0, 0)) (bp BK294) hb); replace HB := am (below_step (bw HB) hb); (try clear hb); (try clear hb2); (try clear hk); (try clear hi); have hcz19_0 : w18.cell? ⟨gb294, 0, none⟩ = some (.int .i64 a2_0) := bc BK294 0; have hcz19_1 : w18.cell? ⟨gb294, 1, none⟩ = some (.int .i64 a2_1) := bc BK294 1; have hfz19_0 := bf BK294 0; have hfz19_1 := bf BK294 1))
   repeat (go_quiet (first | ((with_reducible refine gate_dst (N := 3) rfl ?_); (try (refine gate_guard (by rfl) ?_; dsimp only)); refine box_event ?hg (N := 3) ?hd (cs := #[.slice A0_0 l0_0.length c0_0]) (t := 30) ?hr ?_; (case hd => rfl); (case hg => rfl); (case hr => exact gs); intro gb293 hg w14 hbox hb; have BK293 := am (hbox); have GW293 := am ((by rw [hg]; exact (below_size (bw HB)) : w.heap.size ≤ gb293)); have GE293 := am ((by rw [hg]; exact (below_size (bw HB)) : w.heap.size ≤ gb293)); replace HB := am (below_step (bw HB) hb); clear hb hbox hg) | ((with_reducible refine gate_dst (N := 5) rfl ?_); (try (refine gate_guard (by rfl) ?_; dsimp only)); refine box_event ?hg (N := 5) ?hd (cs := #[.int .i64 a2_0, .int .i64 a2_1]) (t := 102) ?hr ?_; (case hd => rfl); (case hg => rfl); (case hr => exact gs); intro gb294 hg w15 hbox hb; have BK294 := am (hbox); have GW294 := am ((by rw [hg]; exact (below_size (bw HB)) : w.heap.size ≤ gb294)); have GE294 := am ((by rw [hg]; exact (below_size (bw HB)) : w.heap.size ≤ gb294)); replace HB := am (below_step (bw HB) hb); have NB293_294 := am ((by rw [hg]; exact Nat.ne_of_lt (blk_lt (g := gb293) (o := .cells #[.slice A0_0 l0_0.length c0_0] 30 (0, 0)) (bp BK293)) : gb293 ≠ gb294)); have NB294_293 := am ((by rw [hg]; exact Nat.ne_of_gt (blk_lt (g := gb293) (o := .cells #[.slice A0_0 l0_0.length c0_0] 30 (0, 0)) (bp BK293)) : gb294 ≠ gb293)); replace BK293 := am (blk_below (g := gb293) (o := .cells #[.slice A0_0 l0_0.length c0_0] 30 (0, 0)) (bp BK293) hb); clear hb hbox hg; have hnb16 := NB293_294.out; have hnc16 := NB294_293.out; have hcz17_0 : w15.cell? ⟨gb293, 0, none⟩ = some (.slice A0_0 l0_0.length c0_0) := bc BK293 0; have hfz17_0 := bf BK293 0) | (go_at_call 121; (with_reducible refine (impl_hasFunc.calls _ _ l0_0 a1 true _ ?side1 ?side2 A4.out).mono ?_); (case side1 => exact cc (Kd.C_below HR0_0.out HB.out)); (case side2 => exact HC0_0.out); rintro e w18 ⟨rfl, hb⟩; replace BK293 := am (blk_below (g := gb293) (o := .cells #[.slice A0_0 l0_0.length c0_0] 30 (0, 0)) (bp BK293) hb); replace BK294 := am (blk_below (g := gb294) (o := .cells #[.int .i64 a2_0, .int .i64 a2_1] 102 (0, 0)) (bp BK294) hb); replace HB := am (below_step (bw HB) hb); (try clear hb); (try clear hb2); (try clear hk); (try clear hi); have hcz19_0 : w18.cell? ⟨gb294, 0, none⟩ = some (.int .i64 a2_0) := bc BK294 0; have hcz19_1 : w18.cell? ⟨gb294, 1, none⟩ = some (.int .i64 a2_1) := bc BK294 1; have hfz19_0 := bf BK294 0; have hfz19_1 := bf BK294 1)); go_upto_if 15 with (first | ((with_reducible refine gate_dst (N := 3) rfl ?_); (try (refine gate_guard (by rfl) ?_; dsimp only)); refine box_event ?hg (N := 3) ?hd (cs := #[.slice A0_0 l0_0.length c0_0]) (t := 30) ?hr ?_; (case hd => rfl); (case hg => rfl); (case hr => exact gs); intro gb293 hg w14 hbox hb; have BK293 := am (hbox); have GW293 := am ((by rw [hg]; exact (below_size (bw HB)) : w.heap.size ≤ gb293)); have GE293 := am ((by rw [hg]; exact (below_size (bw HB)) : w.heap.size ≤ gb293)); replace HB := am (below_step (bw HB) hb); clear hb hbox hg) | ((with_reducible refine gate_dst (N := 5) rfl ?_); (try (refine gate_guard (by rfl) ?_; dsimp only)); refine box_event ?hg (N := 5) ?hd (cs := #[.int .i64 a2_0, .int .i64 a2_1]) (t := 102) ?hr ?_; (case hd => rfl); (case hg => rfl); (case hr => exact gs); intro gb294 hg w15 hbox hb; have BK294 := am (hbox); have GW294 := am ((by rw [hg]; exact (below_size (bw HB)) : w.heap.size ≤ gb294)); have GE294 := am ((by rw [hg]; exact (below_size (bw HB)) : w.heap.size ≤ gb294)); replace HB := am (below_step (bw HB) hb); have NB293_294 := am ((by rw [hg]; exact Nat.ne_of_lt (blk_lt (g := gb293) (o := .cells #[.slice A0_0 l0_0.length c0_0] 30 (0, 0)) (bp BK293)) : gb293 ≠ gb294)); have NB294_293 := am ((by rw [hg]; exact Nat.ne_of_gt (blk_lt (g := gb293) (o := .cells #[.slice A0_0 l0_0.length c0_0] 30 (0, 0)) (bp BK293)) : gb294 ≠ gb293)); replace BK293 := am (blk_below (g := gb293) (o := .cells #[.slice A0_0 l0_0.length c0_0] 30 (0, 0)) (bp BK293) hb); clear hb hbox hg; have hnb16 := NB293_294.out; have hnc16 := NB294_293.out; have hcz17_0 : w15.cell? ⟨gb293, 0, none⟩ = some (.slice A0_0 l0_0.length c0_0) := bc BK293 0; have hfz17_0 := bf BK293 0) | (go_at_call 121; (with_reducible refine (impl_hasFunc.calls _ _ l0_0 a1 true _ ?side1 ?side2 A4.out).mono ?_); (case side1 => exact cc (Kd.C_below HR0_0.out HB.out)); (case side2 => exact HC0_0.out); rintro e w18 ⟨rfl, hb⟩; replace BK293 := am (blk_below (g := gb293) (o := .cells #[.slice A0_0 l0_0.length c0_0] 30 (0, 0)) (bp BK293) hb); replace BK294 := am (blk_below (g := gb294) (o := .cells #[.int .i64 a2_0, .int .i64 a2_1] 102 (0, 0)) (bp BK294) hb); replace HB := am (below_step (bw HB) hb); (try clear hb); (try clear hb2); (try clear hk); (try clear hi); have hcz19_0 : w18.cell? ⟨gb294, 0, none⟩ = some (.int .i64 a2_0) := bc BK294 0; have hcz19_1 : w18.cell? ⟨gb294, 1, none⟩ = some (.int .i64 a2_1) := bc BK294 1; have hfz19_0 := bf BK294 0; have hfz19_1 := bf BK294 1)))
   (try simp only [Act.put, sa, sz, ss])
   go_cut [15] (fun v15 wc => ∃ (kq : Nat) (x15_12 : Bool), v15 = .bool x15_12 ∧ Aside0 (impl_InsRight.j0 kq a1 a2_0 x15_12 l0_0 a2_0 a2_1 = some r) ∧ Aside0 (kq ≤ k) ∧ Aside0 (wc.heap[gb293]? = some (.cells #[(.slice A0_0 l0_0.length c0_0)] 30 (0, 0))) ∧ Aside0 (wc.heap[gb294]? = some (.cells #[.int .i64 a2_0, .int .i64 a2_1] 102 (0, 0))) ∧ Aside0 (Below w.heap.size w wc))
   case first =>
    have H := HC13.out
    clear HC13
    by_cases c20 : a2_0 = 2
    ·rw [if_pos c20] at H
     have c20b0 : (a2_0 == 2) = true := beq_iff_eq.mpr c20
     have c20b1 : (a2_0 != 2) = false := bne_eq_false_iff_eq.mpr c20
     clear c20
     (first | rw [c20b0] | (simp only [i64_w, i32_w]; rw [c20b0]) | skip)
     have H' := am H
     clear H
     go_wp2
     repeat (go_quiet (fail); try go_wp2)
     go_meet
     case rel => exact ⟨_, ((a2_0 == 2)), dr, H', ⟨by first | omega | exact Nat.le_refl _⟩, ⟨bp BK293⟩, ⟨bp BK294⟩, ⟨bw HB⟩⟩
    ·rw [if_neg c20] at H
     have c20b0 : (a2_0 == 2) = false := beq_eq_false_iff_ne.mpr c20
     have c20b1 : (a2_0 != 2) = true := bne_iff_ne.mpr c20
     (first | rw [c20b0] | (simp only [i64_w, i32_w]; rw [c20b0]) | skip)
     have H' := am H
     clear H
     go_wp2
     repeat (go_quiet (fail); try go_wp2)
     go_meet
     case rel => exact ⟨_, ((a2_0 == 3)), dr, H', ⟨by first | omega | exact Nat.le_refl _⟩, ⟨bp BK293⟩, ⟨bp BK294⟩, ⟨bw HB⟩⟩
   case rest =>
    clear HC13
    (try clear c1); (try clear c2); (try clear p2); (try clear c5); (try clear c6); (try clear c6b0); (try clear c6b1); (try clear c9); (try clear c16); (try clear c17); (try clear c20); (try clear c20b0); (try clear c20b1); (try clear hcz10_0); (try clear hcz12_0); (try clear hcz12_1); (try clear hcz17_0); (try clear hcz19_0); (try clear hcz19_1); (try clear hfz10_0); (try clear hfz12_0); (try clear hfz12_1); (try clear hfz17_0); (try clear hfz19_0); (try clear hfz19_1)
    obtain ⟨kq, x15_12, rfl, HA, HJ12, BK293, BK294, HB⟩ := hcut
    cases kq with
    | zero => exact absurd HA.out (by simp [impl_InsRight.j0])
    | succ kj12 =>
     have H := HA.out
     clear HA
     simp only [impl_InsRight.j0] at H
     by_cases c21 : x15_12 = true
     ·subst c21
      have H1 : (if a2_1 ≥ 0 then (if 0 ≤ a1 then (if a1 < (l0_0.length : Int) then (some (decide (a2_1 < ((rd_T100 l0_0 a1).f1)))) else (none)) else (none)) else (some false)) = some r := by rw [if_pos rfl] at H; exact H
      clear H
      have H := H1
      clear H1
      by_cases c22 : a2_1 ≥ 0
      ·rw [if_pos c22] at H
       have c22b0 : decide (0 ≤ a2_1) = true := decide_eq_true c22
       clear c22
       by_cases c23 : 0 ≤ a1
       ·rw [if_pos c23] at H
        have c23b0 := decide_eq_true c23
        clear c23
        by_cases c24 : a1 < (l0_0.length : Int)
        ·rw [if_pos c24] at H
         have c24b0 := decide_eq_true c24
         clear c24
         obtain rfl := Option.some.inj H
         have hnb25 := NB294_293.out
         have hnc25 := NB293_294.out
         have hcz26_0 : wc.cell? ⟨gb294, 0, none⟩ = some (.int .i64 a2_0) := bc BK294 0
         have hcz26_1 : wc.cell? ⟨gb294, 1, none⟩ = some (.int .i64 a2_1) := bc BK294 1
         have hfz26_0 := bf BK294 0
         have hfz26_1 := bf BK294 1
         have hcz27_0 : wc.cell? ⟨gb293, 0, none⟩ = some (.slice A0_0 l0_0.length c0_0) := bc BK293 0
         have hfz27_0 := bf BK293 0
         have p296 : 0 ≤ (a1 : Int) := of_decide_eq_true as1
         have q296 : a1 < (l0_0.length : Int) := of_decide_eq_true as1
         obtain ⟨ad296, A296_2, c296_2, e296, hx296_0, hx296_1, hx296_2, hl296_2, hi296_2⟩ := at_T100 HR0_0.out a1 p296 q296
         cases e296
         replace hx296_0 := (HB.out.cell (World.block_lt_of_cell? w _ hx296_0)).trans hx296_0
         replace hx296_1 := (HB.out.cell (World.block_lt_of_cell? w _ hx296_1)).trans hx296_1
         replace hx296_2 := (HB.out.cell (World.block_lt_of_cell? w _ hx296_2)).trans hx296_2
         have HR296_2 := am hi296_2
         have HC296_2 := am hl296_2
         clear hi296_2 hl296_2
         replace p296 := eq_true p296
         replace q296 := eq_true q296
         go_wp2
         repeat (go_quiet (fail); try go_wp2)
         go_ret
         exact ⟨er, bw HB⟩
        ·rw [if_neg c24] at H
         exact absurd H (by simp)
       ·rw [if_neg c23] at H
        exact absurd H (by simp)
      ·rw [if_neg c22] at H
       have c22b0 : decide (0 ≤ a2_1) = false := decide_eq_false c22
       clear c22
       obtain rfl := Option.some.inj H
       have hnb28 := NB294_293.out
       have hnc28 := NB293_294.out
       have hcz29_0 : wc.cell? ⟨gb294, 0, none⟩ = some (.int .i64 a2_0) := bc BK294 0
       have hcz29_1 : wc.cell? ⟨gb294, 1, none⟩ = some (.int .i64 a2_1) := bc BK294 1
       have hfz29_0 := bf BK294 0
       have hfz29_1 := bf BK294 1
       go_wp2
       repeat (go_quiet (fail); try go_wp2)
       go_ret
       exact ⟨er, bw HB⟩
     ·replace c21 := Bool.eq_false_iff.mpr c21
      subst c21
      have H1 : (if a2_0 = 30 then (impl_InsRight.j1 kj12 a1 a2_0 (a2_0 == 30) l0_0 a2_0 a2_1) else (impl_InsRight.j1 kj12 a1 a2_0 (a2_0 == 31) l0_0 a2_0 a2_1)) = some r := by rw [if_neg (show ¬ (false = true) by decide)] at H; exact H
      clear H
      have H := H1
      clear H1
      have HC30 := am H
      clear H
      go_upto_if 32 with (fail)
      repeat (go_quiet (fail); go_upto_if 32 with (fail))
      go_cut [32] (fun v32 wc => ∃ (kq : Nat) (x32_29 : Bool), v32 = .bool x32_29 ∧ Aside0 (impl_InsRight.j1 kq a1 a2_0 x32_29 l0_0 a2_0 a2_1 = some r) ∧ Aside0 (kq ≤ kj12) ∧ Aside0 (wc.heap[gb293]? = some (.cells #[(.slice A0_0 l0_0.length c0_0)] 30 (0, 0))) ∧ Aside0 (wc.heap[gb294]? = some (.cells #[.int .i64 a2_0, .int .i64 a2_1] 102 (0, 0))) ∧ Aside0 (Below w.heap.size w wc))
      case first =>
       have H := HC30.out
       clear HC30
       by_cases c31 : a2_0 = 30
       ·rw [if_pos c31] at H
        have c31b0 : (a2_0 == 30) = true := beq_iff_eq.mpr c31
        have c31b1 : (a2_0 != 30) = false := bne_eq_false_iff_eq.mpr c31
        clear c31
        (first | rw [c31b0] | (simp only [i64_w, i32_w]; rw [c31b0]) | skip)
        have H' := am H
        clear H
        go_wp2
        repeat (go_quiet (fail); try go_wp2)
        go_meet
        case rel => exact ⟨_, ((a2_0 == 30)), dr, H', ⟨by have := HJ12.out; first | omega | exact Nat.le_refl _⟩, ⟨bp BK293⟩, ⟨bp BK294⟩, ⟨bw HB⟩⟩
       ·rw [if_neg c31] at H
        have c31b0 : (a2_0 == 30) = false := beq_eq_false_iff_ne.mpr c31
        have c31b1 : (a2_0 != 30) = true := bne_iff_ne.mpr c31
        (first | rw [c31b0] | (simp only [i64_w, i32_w]; rw [c31b0]) | skip)
        have H' := am H
        clear H
        go_wp2
        repeat (go_quiet (fail); try go_wp2)
        go_meet
        case rel => exact ⟨_, ((a2_0 == 31)), dr, H', ⟨by have := HJ12.out; first | omega | exact Nat.le_refl _⟩, ⟨bp BK293⟩, ⟨bp BK294⟩, ⟨bw HB⟩⟩
      case rest =>
       clear HC30
       (try clear c1); (try clear c2); (try clear p2); (try clear q2); (try clear hx2); (try clear c3); (try clear c5); (try clear c6); (try clear c6b0); (try clear c6b1); (try clear c9); (try clear c16); (try clear c17); (try clear c20); (try clear c20b0); (try clear c20b1); (try clear c21); (try clear c22); (try clear c22b0); (try clear c23); (try clear c23b0); (try clear c24); (try clear c24b0); (try clear c25); (try clear c28); (try clear c29); (try clear p29); (try clear q29); (try clear hx29); (try clear c31); (try clear c31b0); (try clear c31b1); (try clear hcz10_0); (try clear hcz12_0); (try clear hcz12_1); (try clear hcz17_0); (try clear hcz19_0); (try clear hcz19_1); (try clear hcz26_0); (try clear hcz26_1); (try clear hcz27_0); (try clear hcz29_0); (try clear hcz29_1); (try clear hfz10_0); (try clear hfz12_0); (try clear hfz12_1); (try clear hfz17_0); (try clear hfz19_0); (try clear hfz19_1); (try clear hfz26_0); (try clear hfz26_1); (try clear hfz27_0); (try clear hfz29_0); (try clear hfz29_1); (try clear hx296_0); (try clear hx296_1); (try clear hx296_2); (try clear p2); (try clear p296); (try clear q296)
       obtain ⟨kq, x32_29, rfl, HA, HJ29, BK293, BK294, HB⟩ := hcut
       cases kq with
       | zero => exact absurd HA.out (by simp [impl_InsRight.j1])
       | succ kj29 =>
        have H := HA.out
        clear HA
        simp only [impl_InsRight.j1] at H
        by_cases c32 : x32_29 = true
        ·subst c32
         have H1 : (if a2_1 ≥ 0 then (if 0 ≤ a1 then (if a1 < (l0_0.length : Int) then (some (decide (a2_1 < (((rd_T100 l0_0 a1).f2).length : Int)))) else (none)) else (none)) else (some false)) = some r := by rw [if_pos rfl] at H; exact H
         clear H
         have H := H1
         clear H1
         by_cases c33 : a2_1 ≥ 0
         ·rw [if_pos c33] at H
          have c33b0 : decide (0 ≤ a2_1) = true := decide_eq_true c33
          clear c33
          by_cases c34 : 0 ≤ a1
          ·rw [if_pos c34] at H
           have c34b0 := decide_eq_true c34
           clear c34
           by_cases c35 : a1 < (l0_0.length : Int)
           ·rw [if_pos c35] at H
            have c35b0 := decide_eq_true c35
            clear c35
            obtain rfl := Option.some.inj H
            have hnb36 := NB294_293.out
            have hnc36 := NB293_294.out
            have hcz37_0 : wc.cell? ⟨gb294, 0, none⟩ = some (.int .i64 a2_0) := bc BK294 0
            have hcz37_1 : wc.cell? ⟨gb294, 1, none⟩ = some (.int .i64 a2_1) := bc BK294 1
            have hfz37_0 := bf BK294 0
            have hfz37_1 := bf BK294 1
            have hcz38_0 : wc.cell? ⟨gb293, 0, none⟩ = some (.slice A0_0 l0_0.length c0_0) := bc BK293 0
            have hfz38_0 := bf BK293 0
            have p297 : 0 ≤ (a1 : Int) := of_decide_eq_true as1
            have q297 : a1 < (l0_0.length : Int) := of_decide_eq_true as1
            obtain ⟨ad297, A297_2, c297_2, e297, hx297_0, hx297_1, hx297_2, hl297_2, hi297_2⟩ := at_T100 HR0_0.out a1 p297 q297
            cases e297
            replace hx297_0 := (HB.out.cell (World.block_lt_of_cell? w _ hx297_0)).trans hx297_0
            replace hx297_1 := (HB.out.cell (World.block_lt_of_cell? w _ hx297_1)).trans hx297_1
            replace hx297_2 := (HB.out.cell (World.block_lt_of_cell? w _ hx297_2)).trans hx297_2
            have HR297_2 := am hi297_2
            have HC297_2 := am hl297_2
            clear hi297_2 hl297_2
            replace p297 := eq_true p297
            replace q297 := eq_true q297
            go_wp2
            repeat (go_quiet (fail); try go_wp2)
            go_ret
            exact ⟨er, bw HB⟩
           ·rw [if_neg c35] at H
            exact absurd H (by simp)
          ·rw [if_neg c34] at H
           exact absurd H (by simp)
         ·rw [if_neg c33] at H
          have c33b0 : decide (0 ≤ a2_1) = false := decide_eq_false c33
          clear c33
          obtain rfl := Option.some.inj H
          have hnb39 := NB294_293.out
          have hnc39 := NB293_294.out
          have hcz40_0 : wc.cell? ⟨gb294, 0, none⟩ = some (.int .i64 a2_0) := bc BK294 0
          have hcz40_1 : wc.cell? ⟨gb294, 1, none⟩ = some (.int .i64 a2_1) := bc BK294 1
          have hfz40_0 := bf BK294 0
          have hfz40_1 := bf BK294 1
          go_wp2
          repeat (go_quiet (fail); try go_wp2)
          go_ret
          exact ⟨er, bw HB⟩
        ·replace c32 := Bool.eq_false_iff.mpr c32
         subst c32
         have H1 : (if a2_0 = 32 then ((impl_hasFunc.f l0_0 a2_1).bind fun t298 => (some t298)) else ((impl_OpName.f a2_0).bind fun t299 => (if t299.toList = ([] : List UInt8) then (some false) else (some (a2_1 == 0))))) = some r := by rw [if_neg (show ¬ (false = true) by decide)] at H; exact H
         clear H
         have H := H1
         clear H1
         by_cases c41 : a2_0 = 32
         ·rw [if_pos c41] at H
          have c41b0 : (a2_0 == 32) = true := beq_iff_eq.mpr c41
          have c41b1 : (a2_0 != 32) = false := bne_eq_false_iff_eq.mpr c41
          clear c41
          replace H := Option.bind_eq_some_iff.mp H
          obtain ⟨t298, A420, H⟩ := H
          replace H : (some t298) = some r := H
          have A42 := am A420
          clear A420
          obtain rfl := Option.some.inj H
          have hnb43 := NB293_294.out
          have hnc43 := NB294_293.out
          have hcz44_0 : wc.cell? ⟨gb293, 0, none⟩ = some (.slice A0_0 l0_0.length c0_0) := bc BK293 0
          have hfz44_0 := bf BK293 0
          have hcz45_0 : wc.cell? ⟨gb294, 0, none⟩ = some (.int .i64 a2_0) := bc BK294 0
          have hcz45_1 : wc.cell? ⟨gb294, 1, none⟩ = some (.int .i64 a2_1) := bc BK294 1
          have hfz45_0 := bf BK294 0
          have hfz45_1 := bf BK294 1
          go_wp2_with (first | (go_at_call 121; (with_reducible refine (impl_hasFunc.calls _ _ l0_0 a2_1 t298 _ ?side1 ?side2 A42.out).mono ?_); (case side1 => exact cc (Kd.C_below HR0_0.out HB.out)); (case side2 => exact HC0_0.out); rintro e w46 ⟨rfl, hb⟩; replace BK293 := am (blk_below (g := gb293) (o := .cells #[.slice A0_0 l0_0.length c0_0] 30 (0, 0)) (bp BK293) hb); replace BK294 := am (blk_below (g := gb294) (o := .cells #[.int .i64 a2_0, .int .i64 a2_1] 102 (0, 0)) (bp BK294) hb); replace HB := am (below_step (bw HB) hb); (try clear hb); (try clear hb2); (try clear hk); (try clear hi)))
          repeat (go_quiet (first | (go_at_call 121; (with_reducible refine (impl_hasFunc.calls _ _ l0_0 a2_1 t298 _ ?side1 ?side2 A42.out).mono ?_); (case side1 => exact cc (Kd.C_below HR0_0.out HB.out)); (case side2 => exact HC0_0.out); rintro e w46 ⟨rfl, hb⟩; replace BK293 := am (blk_below (g := gb293) (o := .cells #[.slice A0_0 l0_0.length c0_0] 30 (0, 0)) (bp BK293) hb); replace BK294 := am (blk_below (g := gb294) (o := .cells #[.int .i64 a2_0, .int .i64 a2_1] 102 (0, 0)) (bp BK294) hb); replace HB := am (below_step (bw HB) hb); (try clear hb); (try clear hb2); (try clear hk); (try clear hi))); try go_wp2_with (first | (go_at_call 121; (with_reducible refine (impl_hasFunc.calls _ _ l0_0 a2_1 t298 _ ?side1 ?side2 A42.out).mono ?_); (case side1 => exact cc (Kd.C_below HR0_0.out HB.out)); (case side2 => exact HC0_0.out); rintro e w46 ⟨rfl, hb⟩; replace BK293 := am (blk_below (g := gb293) (o := .cells #[.slice A0_0 l0_0.length c0_0] 30 (0, 0)) (bp BK293) hb); replace BK294 := am (blk_below (g := gb294) (o := .cells #[.int .i64 a2_0, .int .i64 a2_1] 102 (0, 0)) (bp BK294) hb); replace HB := am (below_step (bw HB) hb); (try clear hb); (try clear hb2); (try clear hk); (try clear hi))))
          go_ret
          exact ⟨er, bw HB⟩
         ·rw [if_neg c41] at H
          have c41b0 : (a2_0 == 32) = false := beq_eq_false_iff_ne.mpr c41
          have c41b1 : (a2_0 != 32) = true := bne_iff_ne.mpr c41
          replace H := Option.bind_eq_some_iff.mp H
          obtain ⟨t299, A470, H⟩ := H
          replace H : (if t299.toList = ([] : List UInt8) then (some false) else (some (a2_1 == 0))) = some r := H
          have A47 := am A470
          clear A470
          by_cases c48 : t299.toList = ([] : List UInt8)
          ·rw [if_pos c48] at H
           have c48b0 : (t299.toList == ([] : List UInt8)) = true := beq_iff_eq.mpr c48
           have c48b1 : (t299.toList != ([] : List UInt8)) = false := bne_eq_false_iff_eq.mpr c48
           clear c48
           obtain rfl := Option.some.inj H
           have hnb49 := NB294_293.out
           have hnc49 := NB293_294.out
           have hcz50_0 : wc.cell? ⟨gb294, 0, none⟩ = some (.int .i64 a2_0) := bc BK294 0
           have hcz50_1 : wc.cell? ⟨gb294, 1, none⟩ = some (.int .i64 a2_1) := bc BK294 1
           have hfz50_0 := bf BK294 0
           have hfz50_1 := bf BK294 1
           go_wp2_with (first | (go_at_call 192; (with_reducible refine (impl_OpName.calls a2_0 t299 _ A47.out).mono ?_); rintro e w51 ⟨rfl, hb⟩; replace BK293 := am (blk_below (g := gb293) (o := .cells #[.slice A0_0 l0_0.length c0_0] 30 (0, 0)) (bp BK293) hb); replace BK294 := am (blk_below (g := gb294) (o := .cells #[.int .i64 a2_0, .int .i64 a2_1] 102 (0, 0)) (bp BK294) hb); replace HB := am (below_step (bw HB) hb); (try clear hb); (try clear hb2); (try clear hk); (try clear hi)))
           repeat (go_quiet (first | (go_at_call 192; (with_reducible refine (impl_OpName.calls a2_0 t299 _ A47.out).mono ?_); rintro e w51 ⟨rfl, hb⟩; replace BK293 := am (blk_below (g := gb293) (o := .cells #[.slice A0_0 l0_0.length c0_0] 30 (0, 0)) (bp BK293) hb); replace BK294 := am (blk_below (g := gb294) (o := .cells #[.int .i64 a2_0, .int .i64 a2_1] 102 (0, 0)) (bp BK294) hb); replace HB := am (below_step (bw HB) hb); (try clear hb); (try clear hb2); (try clear hk); (try clear hi))); try go_wp2_with (first | (go_at_call 192; (with_reducible refine (impl_OpName.calls a2_0 t299 _ A47.out).mono ?_); rintro e w51 ⟨rfl, hb⟩; replace BK293 := am (blk_below (g := gb293) (o := .cells #[.slice A0_0 l0_0.length c0_0] 30 (0, 0)) (bp BK293) hb); replace BK294 := am (blk_below (g := gb294) (o := .cells #[.int .i64 a2_0, .int .i64 a2_1] 102 (0, 0)) (bp BK294) hb); replace HB := am (below_step (bw HB) hb); (try clear hb); (try clear hb2); (try clear hk); (try clear hi))))
           go_ret
           exact ⟨er, bw HB⟩
          ·rw [if_neg c48] at H
           have c48b0 : (t299.toList == ([] : List UInt8)) = false := beq_eq_false_iff_ne.mpr c48
           have c48b1 : (t299.toList != ([] : List UInt8)) = true := bne_iff_ne.mpr c48
           obtain rfl := Option.some.inj H
           have hnb52 := NB294_293.out
           have hnc52 := NB293_294.out
           have hcz53_0 : wc.cell? ⟨gb294, 0, none⟩ = some (.int .i64 a2_0) := bc BK294 0
           have hcz53_1 : wc.cell? ⟨gb294, 1, none⟩ = some (.int .i64 a2_1) := bc BK294 1
           have hfz53_0 := bf BK294 0
           have hfz53_1 := bf BK294 1
           go_wp2_with (first | (go_at_call 192; (with_reducible refine (impl_OpName.calls a2_0 t299 _ A47.out).mono ?_); rintro e w54 ⟨rfl, hb⟩; replace BK293 := am (blk_below (g := gb293) (o := .cells #[.slice A0_0 l0_0.length c0_0] 30 (0, 0)) (bp BK293) hb); replace BK294 := am (blk_below (g := gb294) (o := .cells #[.int .i64 a2_0, .int .i64 a2_1] 102 (0, 0)) (bp BK294) hb); replace HB := am (below_step (bw HB) hb); (try clear hb); (try clear hb2); (try clear hk); (try clear hi); have hcz55_0 : w54.cell? ⟨gb294, 0, none⟩ = some (.int .i64 a2_0) := bc BK294 0; have hcz55_1 : w54.cell? ⟨gb294, 1, none⟩ = some (.int .i64 a2_1) := bc BK294 1; have hfz55_0 := bf BK294 0; have hfz55_1 := bf BK294 1))
           repeat (go_quiet (first | (go_at_call 192; (with_reducible refine (impl_OpName.calls a2_0 t299 _ A47.out).mono ?_); rintro e w54 ⟨rfl, hb⟩; replace BK293 := am (blk_below (g := gb293) (o := .cells #[.slice A0_0 l0_0.length c0_0] 30 (0, 0)) (bp BK293) hb); replace BK294 := am (blk_below (g := gb294) (o := .cells #[.int .i64 a2_0, .int .i64 a2_1] 102 (0, 0)) (bp BK294) hb); replace HB := am (below_step (bw HB) hb); (try clear hb); (try clear hb2); (try clear hk); (try clear hi); have hcz55_0 : w54.cell? ⟨gb294, 0, none⟩ = some (.int .i64 a2_0) := bc BK294 0; have hcz55_1 : w54.cell? ⟨gb294, 1, none⟩ = some (.int .i64 a2_1) := bc BK294 1; have hfz55_0 := bf BK294 0; have hfz55_1 := bf BK294 1)); try go_wp2_with (first | (go_at_call 192; (with_reducible refine (impl_OpName.calls a2_0 t299 _ A47.out).mono ?_); rintro e w54 ⟨rfl, hb⟩; replace BK293 := am (blk_below (g := gb293) (o := .cells #[.slice A0_0 l0_0.length c0_0] 30 (0, 0)) (bp BK293) hb); replace BK294 := am (blk_below (g := gb294) (o := .cells #[.int .i64 a2_0, .int .i64 a2_1] 102 (0, 0)) (bp BK294) hb); replace HB := am (below_step (bw HB) hb); (try clear hb); (try clear hb2); (try clear hk); (try clear hi); have hcz55_0 : w54.cell? ⟨gb294, 0, none⟩ = some (.int .i64 a2_0) := bc BK294 0; have hcz55_1 : w54.cell? ⟨gb294, 1, none⟩ = some (.int .i64 a2_1) := bc BK294 1; have hfz55_0 := bf BK294 0; have hfz55_1 := bf BK294 1)))
           go_ret
           exact ⟨er, bw HB⟩
 ·replace c5 := Bool.eq_false_iff.mpr c5
  subst c5
  have H1 : (some false) = some r := by rw [if_neg (show ¬ (false = true) by decide)] at H; exact H
  clear H
  have H := H1
  clear H1
  obtain rfl := Option.some.inj H
  go_enter Try.func173, Try.ntmps173
  go_wp2_with (first | ((with_reducible refine gate_dst (N := 3) rfl ?_); (try (refine gate_guard (by rfl) ?_; dsimp only)); refine box_event ?hg (N := 3) ?hd (cs := #[.slice A0_0 l0_0.length c0_0]) (t := 30) ?hr ?_; (case hd => rfl); (case hg => rfl); (case hr => exact gs); intro gb293 hg w56 hbox hb; have BK293 := am (hbox); have GW293 := am ((by rw [hg]; exact (below_size (bw HB)) : w.heap.size ≤ gb293)); have GE293 := am ((by rw [hg]; exact (below_size (bw HB)) : w.heap.size ≤ gb293)); replace HB := am (below_step (bw HB) hb); clear hb hbox hg) | ((with_reducible refine gate_dst (N := 5) rfl ?_); (try (refine gate_guard (by rfl) ?_; dsimp only)); refine box_event ?hg (N := 5) ?hd (cs := #[.int .i64 a2_0, .int .i64 a2_1]) (t := 102) ?hr ?_; (case hd => rfl); (case hg => rfl); (case hr => exact gs); intro gb294 hg w57 hbox hb; have BK294 := am (hbox); have GW294 := am ((by rw [hg]; exact (below_size (bw HB)) : w.heap.size ≤ gb294)); have GE294 := am ((by rw [hg]; exact (below_size (bw HB)) : w.heap.size ≤ gb294)); replace HB := am (below_step (bw HB) hb); have NB293_294 := am ((by rw [hg]; exact Nat.ne_of_lt (blk_lt (g := gb293) (o := .cells #[.slice A0_0 l0_0.length c0_0] 30 (0, 0)) (bp BK293)) : gb293 ≠ gb294)); have NB294_293 := am ((by rw [hg]; exact Nat.ne_of_gt (blk_lt (g := gb293) (o := .cells #[.slice A0_0 l0_0.length c0_0] 30 (0, 0)) (bp BK293)) : gb294 ≠ gb293)); replace BK293 := am (blk_below (g := gb293) (o := .cells #[.slice A0_0 l0_0.length c0_0] 30 (0, 0)) (bp BK293) hb); clear hb hbox hg; have hnb58 := NB293_294.out; have hnc58 := NB294_293.out; have hcz59_0 : w57.cell? ⟨gb293, 0, none⟩ = some (.slice A0_0 l0_0.length c0_0) := bc BK293 0; have hfz59_0 := bf BK293 0) | (go_at_call 121; (with_reducible refine (impl_hasFunc.calls _ _ l0_0 a1 false _ ?side1 ?side2 A4.out).mono ?_); (case side1 => exact cc (Kd.C_below HR0_0.out HB.out)); (case side2 => exact HC0_0.out); rintro e w60 ⟨rfl, hb⟩; replace BK293 := am (blk_below (g := gb293) (o := .cells #[.slice A0_0 l0_0.length c0_0] 30 (0, 0)) (bp BK293) hb); replace BK294 := am (blk_below (g := gb294) (o := .cells #[.int .i64 a2_0, .int .i64 a2_1] 102 (0, 0)) (bp BK294) hb); replace HB := am (below_step (bw HB) hb); (try clear hb); (try clear hb2); (try clear hk); (try clear hi)))
  repeat (go_quiet (first | ((with_reducible refine gate_dst (N := 3) rfl ?_); (try (refine gate_guard (by rfl) ?_; dsimp only)); refine box_event ?hg (N := 3) ?hd (cs := #[.slice A0_0 l0_0.length c0_0]) (t := 30) ?hr ?_; (case hd => rfl); (case hg => rfl); (case hr => exact gs); intro gb293 hg w56 hbox hb; have BK293 := am (hbox); have GW293 := am ((by rw [hg]; exact (below_size (bw HB)) : w.heap.size ≤ gb293)); have GE293 := am ((by rw [hg]; exact (below_size (bw HB)) : w.heap.size ≤ gb293)); replace HB := am (below_step (bw HB) hb); clear hb hbox hg) | ((with_reducible refine gate_dst (N := 5) rfl ?_); (try (refine gate_guard (by rfl) ?_; dsimp only)); refine box_event ?hg (N := 5) ?hd (cs := #[.int .i64 a2_0, .int .i64 a2_1]) (t := 102) ?hr ?_; (case hd => rfl); (case hg => rfl); (case hr => exact gs); intro gb294 hg w57 hbox hb; have BK294 := am (hbox); have GW294 := am ((by rw [hg]; exact (below_size (bw HB)) : w.heap.size ≤ gb294)); have GE294 := am ((by rw [hg]; exact (below_size (bw HB)) : w.heap.size ≤ gb294)); replace HB := am (below_step (bw HB) hb); have NB293_294 := am ((by rw [hg]; exact Nat.ne_of_lt (blk_lt (g := gb293) (o := .cells #[.slice A0_0 l0_0.length c0_0] 30 (0, 0)) (bp BK293)) : gb293 ≠ gb294)); have NB294_293 := am ((by rw [hg]; exact Nat.ne_of_gt (blk_lt (g := gb293) (o := .cells #[.slice A0_0 l0_0.length c0_0] 30 (0, 0)) (bp BK293)) : gb294 ≠ gb293)); replace BK293 := am (blk_below (g := gb293) (o := .cells #[.slice A0_0 l0_0.length c0_0] 30 (0, 0)) (bp BK293) hb); clear hb hbox hg; have hnb58 := NB293_294.out; have hnc58 := NB294_293.out; have hcz59_0 : w57.cell? ⟨gb293, 0, none⟩ = some (.slice A0_0 l0_0.length c0_0) := bc BK293 0; have hfz59_0 := bf BK293 0) | (go_at_call 121; (with_reducible refine (impl_hasFunc.calls _ _ l0_0 a1 false _ ?side1 ?side2 A4.out).mono ?_); (case side1 => exact cc (Kd.C_below HR0_0.out HB.out)); (case side2 => exact HC0_0.out); rintro e w60 ⟨rfl, hb⟩; replace BK293 := am (blk_below (g := gb293) (o := .cells #[.slice A0_0 l0_0.length c0_0] 30 (0, 0)) (bp BK293) hb); replace BK294 := am (blk_below (g := gb294) (o := .cells #[.int .i64 a2_0, .int .i64 a2_1] 102 (0, 0)) (bp BK294) hb); replace HB := am (below_step (bw HB) hb); (try clear hb); (try clear hb2); (try clear hk); (try clear hi))); try go_wp2_with (first | ((with_reducible refine gate_dst (N := 3) rfl ?_); (try (refine gate_guard (by rfl) ?_; dsimp only)); refine box_event ?hg (N := 3) ?hd (cs := #[.slice A0_0 l0_0.length c0_0]) (t := 30) ?hr ?_; (case hd => rfl); (case hg => rfl); (case hr => exact gs); intro gb293 hg w56 hbox hb; have BK293 := am (hbox); have GW293 := am ((by rw [hg]; exact (below_size (bw HB)) : w.heap.size ≤ gb293)); have GE293 := am ((by rw [hg]; exact (below_size (bw HB)) : w.heap.size ≤ gb293)); replace HB := am (below_step (bw HB) hb); clear hb hbox hg) | ((with_reducible refine gate_dst (N := 5) rfl ?_); (try (refine gate_guard (by rfl) ?_; dsimp only)); refine box_event ?hg (N := 5) ?hd (cs := #[.int .i64 a2_0, .int .i64 a2_1]) (t := 102) ?hr ?_; (case hd => rfl); (case hg => rfl); (case hr => exact gs); intro gb294 hg w57 hbox hb; have BK294 := am (hbox); have GW294 := am ((by rw [hg]; exact (below_size (bw HB)) : w.heap.size ≤ gb294)); have GE294 := am ((by rw [hg]; exact (below_size (bw HB)) : w.heap.size ≤ gb294)); replace HB := am (below_step (bw HB) hb); have NB293_294 := am ((by rw [hg]; exact Nat.ne_of_lt (blk_lt (g := gb293) (o := .cells #[.slice A0_0 l0_0.length c0_0] 30 (0, 0)) (bp BK293)) : gb293 ≠ gb294)); have NB294_293 := am ((by rw [hg]; exact Nat.ne_of_gt (blk_lt (g := gb293) (o := .cells #[.slice A0_0 l0_0.length c0_0] 30 (0, 0)) (bp BK293)) : gb294 ≠ gb293)); replace BK293 := am (blk_below (g := gb293) (o := .cells #[.slice A0_0 l0_0.length c0_0] 30 (0, 0)) (bp BK293) hb); clear hb hbox hg; have hnb58 := NB293_294.out; have hnc58 := NB294_293.out; have hcz59_0 : w57.cell? ⟨gb293, 0, none⟩ = some (.slice A0_0 l0_0.length c0_0) := bc BK293 0; have hfz59_0 := bf BK293 0) | (go_at_call 121; (with_reducible refine (impl_hasFunc.calls _ _ l0_0 a1 false _ ?side1 ?side2 A4.out).mono ?_); (case side1 => exact cc (Kd.C_below HR0_0.out HB.out)); (case side2 => exact HC0_0.out); rintro e w60 ⟨rfl, hb⟩; replace BK293 := am (blk_below (g := gb293) (o := .cells #[.slice A0_0 l0_0.length c0_0] 30 (0, 0)) (bp BK293) hb); replace BK294 := am (blk_below (g := gb294) (o := .cells #[.int .i64 a2_0, .int .i64 a2_1] 102 (0, 0)) (bp BK294) hb); replace HB := am (below_step (bw HB) hb); (try clear hb); (try clear hb2); (try clear hk); (try clear hi))))
  go_ret
  exact ⟨er, bw HB⟩

def impl_isBinary.f (a0 : Int) : Option (Bool) := (impl_in.f a0 10 23).bind fun t300 => (some t300)
theorem impl_isBinary.calls (a0 : Int) (r : Bool) (w : World) (h : impl_isBinary.f a0 = some r) :
  Calls Try.prog 175 #[.int .i64 a0] w fun e w' => e = .returned (.bool r) ∧ Drawn0 w w' := by
 have H : ((impl_in.f a0 10 23).bind fun t300 => (some t300)) = some r := h
 clear h
 replace H := Option.bind_eq_some_iff.mp H
 obtain ⟨t300, A20, H⟩ := H
 replace H : (some t300) = some r := H
 have A2 := am A20
 clear A20
 obtain rfl := Option.some.inj H
 go_enter Try.func175, Try.ntmps175
 go_wp2_with (first | ((with_reducible refine gate_callee (f := 85) rfl ?_); refine goesL_ (some 4) rfl rfl Try.func85 (by kernel_rfl) rfl #[.int .i64 a0, .int .i64 10, .int .i64 23] rfl gl ?_; (with_reducible refine (impl_in.calls a0 10 23 t300 _ A2.out).mono ?_); rintro e w' ⟨rfl, ⟨nd, rfl⟩⟩; refine ⟨_, rfl, ?_⟩))
 go_ret
 exact ⟨by first | rfl | (simp; done) | (simp [*]; done), by repeat (first | exact Drawn0.refl _ | apply Drawn0.step)⟩

def impl_isUnary.f (a0 : Int) : Option (Bool) := (impl_in.f a0 24 29).bind fun t301 => (some t301)
theorem impl_isUnary.calls (a0 : Int) (r : Bool) (w : World) (h : impl_isUnary.f a0 = some r) :
  Calls Try.prog 176 #[.int .i64 a0] w fun e w' => e = .returned (.bool r) ∧ Drawn0 w w' := by
 have H : ((impl_in.f a0 24 29).bind fun t301 => (some t301)) = some r := h
 clear h
 replace H := Option.bind_eq_some_iff.mp H
 obtain ⟨t301, A20, H⟩ := H
 replace H : (some t301) = some r := H
 have A2 := am A20
 clear A20
 obtain rfl := Option.some.inj H
 go_enter Try.func176, Try.ntmps176
 go_wp2_with (first | ((with_reducible refine gate_callee (f := 85) rfl ?_); refine goesL_ (some 4) rfl rfl Try.func85 (by kernel_rfl) rfl #[.int .i64 a0, .int .i64 24, .int .i64 29] rfl gl ?_; (with_reducible refine (impl_in.calls a0 24 29 t301 _ A2.out).mono ?_); rintro e w' ⟨rfl, ⟨nd, rfl⟩⟩; refine ⟨_, rfl, ?_⟩))
 go_ret
 exact ⟨by first | rfl | (simp; done) | (simp [*]; done), by repeat (first | exact Drawn0.refl _ | apply Drawn0.step)⟩

mutual
def impl_Takes.j0 : Nat → Bool → List (S100) → Int → Int → Option (Int)
 | 0, _, _, _, _ => none
 | k + 1, x5, x303000, x304000, x304001 => if x5 = true then (some 2) else (if x304000 = 36 then (some 3) else (if x304000 = 32 then ((impl_hasFunc.f x303000 x304001).bind fun t305 => (if t305 = true then (if 0 ≤ x304001 then (if x304001 < (x303000.length : Int) then (some ((rd_T100 x303000 x304001).f0)) else (none)) else (none)) else (some 0))) else ((impl_isUnary.f x304000).bind fun t307 => (if t307 = true then (some 1) else (if x304000 = 3 then (impl_Takes.j1 k (x304000 == 3)) else (if x304000 = 4 then (impl_Takes.j1 k (x304000 == 4)) else (if x304000 = 5 then (impl_Takes.j1 k (x304000 == 5)) else (if x304000 = 31 then (impl_Takes.j1 k (x304000 == 31)) else (if x304000 = 33 then (impl_Takes.j1 k (x304000 == 33)) else (if x304000 = 34 then (impl_Takes.j1 k (x304000 == 34)) else (if x304000 = 37 then (impl_Takes.j1 k (x304000 == 37)) else (impl_Takes.j1 k (x304000 == 38)))))))))))))
def impl_Takes.j1 : Nat → Bool → Option (Int)
 | 0, _ => none
 | k + 1, x37 => if x37 = true then (some 1) else (some 0)
end
def impl_Takes.f (k : Nat) (l0_0 : List (S100)) (a1_0 : Int) (a1_1 : Int) : Option (Int) := (impl_isBinary.f a1_0).bind fun t304 => (if t304 = true then (impl_Takes.j0 k t304 l0_0 a1_0 a1_1) else (impl_Takes.j0 k (a1_0 == 35) l0_0 a1_0 a1_1))
theorem impl_Takes.mono_l : ∀ k, (∀ y0 y1 y2 y3, LeO (impl_Takes.j0 k y0 y1 y2 y3) (impl_Takes.j0 (k + 1) y0 y1 y2 y3)) ∧ (∀ y0, LeO (impl_Takes.j1 k y0) (impl_Takes.j1 (k + 1) y0))
 | 0 => ⟨fun _ _ _ _ r h => by simp [impl_Takes.j0] at h, fun _ r h => by simp [impl_Takes.j1] at h⟩
 | k + 1 => by
  obtain ⟨ih0, ih1⟩ := impl_Takes.mono_l k
  refine ⟨?_, ?_⟩
  ·intro y0 y1 y2 y3
   unfold impl_Takes.j0
   repeat' first
   | (with_reducible exact ih0 _ _ _ _)
   | (with_reducible exact ih1 _)
   | (with_reducible exact LeO.refl _)
   | (with_reducible exact LeO.none _)
   | (with_reducible refine LeO.ite ?_ ?_)
   | (with_reducible refine LeO.bind ?_ (fun _ => ?_))
  ·intro y0
   unfold impl_Takes.j1
   repeat' first
   | (with_reducible exact ih0 _ _ _ _)
   | (with_reducible exact ih1 _)
   | (with_reducible exact LeO.refl _)
   | (with_reducible exact LeO.none _)
   | (with_reducible refine LeO.ite ?_ ?_)
   | (with_reducible refine LeO.bind ?_ (fun _ => ?_))
theorem impl_Takes.mono : ∀ a0 a1 a2 k, LeO (impl_Takes.f k a0 a1 a2) (impl_Takes.f (k + 1) a0 a1 a2) := by
 intro a0 a1 a2 k
 obtain ⟨ih0, ih1⟩ := impl_Takes.mono_l k
 unfold impl_Takes.f
 repeat' first
   | (with_reducible exact ih0 _ _ _ _)
   | (with_reducible exact ih1 _)
   | (with_reducible exact LeO.refl _)
   | (with_reducible exact LeO.none _)
   | (with_reducible refine LeO.ite ?_ ?_)
   | (with_reducible refine LeO.bind ?_ (fun _ => ?_))
theorem impl_Takes.calls (k : Nat) (A0_0 : Option Addr) (c0_0 : Nat) (l0_0 : List (S100)) (a1_0 : Int) (a1_1 : Int) (r : Int) (w : World) (hr0_0 : Kd.C k100 w A0_0 l0_0.length l0_0) (hc0_0 : l0_0.length ≤ c0_0) (h : impl_Takes.f k l0_0 a1_0 a1_1 = some r) :
  Calls Try.prog 134 #[.agg #[.slice A0_0 l0_0.length c0_0], .agg #[.int .i64 a1_0, .int .i64 a1_1]] w fun e w' => e = .returned (.int .i64 r) ∧ Below w.heap.size w w' := by
 have hu30 := Try.underlying30
 have hu102 := Try.underlying102
 have HR0_0 := am hr0_0
 have HC0_0 := am hc0_0
 clear hr0_0 hc0_0
 have HB := am (Below.refl w.heap.size w)
 have H : ((impl_isBinary.f a1_0).bind fun t304 => (if t304 = true then (impl_Takes.j0 k t304 l0_0 a1_0 a1_1) else (impl_Takes.j0 k (a1_0 == 35) l0_0 a1_0 a1_1))) = some r := h
 clear h
 replace H := Option.bind_eq_some_iff.mp H
 obtain ⟨t304, A30, H⟩ := H
 replace H : (if t304 = true then (impl_Takes.j0 k t304 l0_0 a1_0 a1_1) else (impl_Takes.j0 k (a1_0 == 35) l0_0 a1_0 a1_1)) = some r := H
 have A3 := am A30
 clear A30
 have HC4 := am H
 clear H
 go_enter Try.func134, Try.ntmps134
 go_upto_if 5 with (first | ((with_reducible refine gate_dst (N := 2) rfl ?_); refine box_event ?hg (N := 2) ?hd (cs := #[.slice A0_0 l0_0.length c0_0]) (t := 30) ?hr ?_; (case hd => rfl); (case hg => rfl); (case hr => exact gs); intro gb302 hg w5 hbox hb; have BK302 := am (hbox); have GW302 := am ((by rw [hg]; exact (below_size (bw HB)) : w.heap.size ≤ gb302)); have GE302 := am ((by rw [hg]; exact (below_size (bw HB)) : w.heap.size ≤ gb302)); replace HB := am (below_step (bw HB) hb); clear hb hbox hg) | ((with_reducible refine gate_dst (N := 3) rfl ?_); refine box_event ?hg (N := 3) ?hd (cs := #[.int .i64 a1_0, .int .i64 a1_1]) (t := 102) ?hr ?_; (case hd => rfl); (case hg => rfl); (case hr => exact gs); intro gb303 hg w6 hbox hb; have BK303 := am (hbox); have GW303 := am ((by rw [hg]; exact (below_size (bw HB)) : w.heap.size ≤ gb303)); have GE303 := am ((by rw [hg]; exact (below_size (bw HB)) : w.heap.size ≤ gb303)); replace HB := am (below_step (bw HB) hb); have NB302_303 := am ((by rw [hg]; exact Nat.ne_of_lt (blk_lt (g := gb302) (o := .cells #[.slice A0_0 l0_0.length c0_0] 30 (0, 0)) (bp BK302)) : gb302 ≠ gb303)); have NB303_302 := am ((by rw [hg]; exact Nat.ne_of_gt (blk_lt (g := gb302) (o := .cells #[.slice A0_0 l0_0.length c0_0] 30 (0, 0)) (bp BK302)) : gb303 ≠ gb302)); replace BK302 := am (blk_below (g := gb302) (o := .cells #[.slice A0_0 l0_0.length c0_0] 30 (0, 0)) (bp BK302) hb); clear hb hbox hg; have hnb7 := NB303_302.out; have hnc7 := NB302_303.out; have hcz8_0 : w6.cell? ⟨gb303, 0, none⟩ = some (.int .i64 a1_0) := bc BK303 0; have hcz8_1 : w6.cell? ⟨gb303, 1, none⟩ = some (.int .i64 a1_1) := bc BK303 1; have hfz8_0 := bf BK303 0; have hfz8_1 := bf BK303 1) | ((with_reducible refine gate_callee (f := 175) rfl ?_); refine goesL_ (some 8) rfl rfl Try.func175 (by kernel_rfl) rfl #[.int .i64 a1_0] rfl gl ?_; (with_reducible refine (impl_isBinary.calls a1_0 t304 _ A3.out).mono ?_); rintro e w' ⟨rfl, ⟨nd, rfl⟩⟩; refine ⟨_, rfl, ?_⟩))
 (try simp only [Act.put, sa, sz, ss])
 go_cut [5] (fun v5 wc => ∃ (kq : Nat) (x5_3 : Bool), v5 = .bool x5_3 ∧ Aside0 (impl_Takes.j0 kq x5_3 l0_0 a1_0 a1_1 = some r) ∧ Aside0 (kq ≤ k) ∧ Aside0 (wc.heap[gb302]? = some (.cells #[(.slice A0_0 l0_0.length c0_0)] 30 (0, 0))) ∧ Aside0 (wc.heap[gb303]? = some (.cells #[.int .i64 a1_0, .int .i64 a1_1] 102 (0, 0))) ∧ Aside0 (Below w.heap.size w wc))
 case first =>
  have H := HC4.out
  clear HC4
  by_cases c9 : t304 = true
  ·subst c9
   have H1 : (impl_Takes.j0 k true l0_0 a1_0 a1_1) = some r := by rw [if_pos rfl] at H; exact H
   clear H
   have H := H1
   clear H1
   have H' := am H
   clear H
   go_wp2
   go_meet
   case rel => exact ⟨_, (true), dr, H', ⟨by first | omega | exact Nat.le_refl _⟩, ⟨bp BK302⟩, ⟨bp BK303⟩, ⟨bw HB⟩⟩
  ·replace c9 := Bool.eq_false_iff.mpr c9
   subst c9
   have H1 : (impl_Takes.j0 k (a1_0 == 35) l0_0 a1_0 a1_1) = some r := by rw [if_neg (show ¬ (false = true) by decide)] at H; exact H
   clear H
   have H := H1
   clear H1
   have H' := am H
   clear H
   have hnb10 := NB303_302.out
   have hnc10 := NB302_303.out
   have hcz11_0 : w6.cell? ⟨gb303, 0, none⟩ = some (.int .i64 a1_0) := bc BK303 0
   have hcz11_1 : w6.cell? ⟨gb303, 1, none⟩ = some (.int .i64 a1_1) := bc BK303 1
   have hfz11_0 := bf BK303 0
   have hfz11_1 := bf BK303 1
   go_wp2
   go_meet
   case rel => exact ⟨_, ((a1_0 == 35)), dr, H', ⟨by first | omega | exact Nat.le_refl _⟩, ⟨bp BK302⟩, ⟨bp BK303⟩, ⟨bw HB⟩⟩
 case rest =>
  clear HC4
  (try clear c1); (try clear p2); (try clear c7); (try clear c9); (try clear c10); (try clear hcz11_0); (try clear hcz11_1); (try clear hcz8_0); (try clear hcz8_1); (try clear hfz11_0); (try clear hfz11_1); (try clear hfz8_0); (try clear hfz8_1)
  obtain ⟨kq, x5_3, rfl, HA, HJ3, BK302, BK303, HB⟩ := hcut
  cases kq with
  | zero => exact absurd HA.out (by simp [impl_Takes.j0])
  | succ kj3 =>
   have H := HA.out
   clear HA
   simp only [impl_Takes.j0] at H
   by_cases c12 : x5_3 = true
   ·subst c12
    have H1 : (some 2) = some r := by rw [if_pos rfl] at H; exact H
    clear H
    have H := H1
    clear H1
    obtain rfl := Option.some.inj H
    go_wp2
    go_ret
    exact ⟨er, bw HB⟩
   ·replace c12 := Bool.eq_false_iff.mpr c12
    subst c12
    have H1 : (if a1_0 = 36 then (some 3) else (if a1_0 = 32 then ((impl_hasFunc.f l0_0 a1_1).bind fun t305 => (if t305 = true then (if 0 ≤ a1_1 then (if a1_1 < (l0_0.length : Int) then (some ((rd_T100 l0_0 a1_1).f0)) else (none)) else (none)) else (some 0))) else ((impl_isUnary.f a1_0).bind fun t307 => (if t307 = true then (some 1) else (if a1_0 = 3 then (impl_Takes.j1 kj3 (a1_0 == 3)) else (if a1_0 = 4 then (impl_Takes.j1 kj3 (a1_0 == 4)) else (if a1_0 = 5 then (impl_Takes.j1 kj3 (a1_0 == 5)) else (if a1_0 = 31 then (impl_Takes.j1 kj3 (a1_0 == 31)) else (if a1_0 = 33 then (impl_Takes.j1 kj3 (a1_0 == 33)) else (if a1_0 = 34 then (impl_Takes.j1 kj3 (a1_0 == 34)) else (if a1_0 = 37 then (impl_Takes.j1 kj3 (a1_0 == 37)) else (impl_Takes.j1 kj3 (a1_0 == 38))))))))))))) = some r := by rw [if_neg (show ¬ (false = true) by decide)] at H; exact H
    clear H
    have H := H1
    clear H1
    by_cases c13 : a1_0 = 36
    ·rw [if_pos c13] at H
     have c13b0 : (a1_0 == 36) = true := beq_iff_eq.mpr c13
     have c13b1 : (a1_0 != 36) = false := bne_eq_false_iff_eq.mpr c13
     clear c13
     obtain rfl := Option.some.inj H
     have hnb14 := NB303_302.out
     have hnc14 := NB302_303.out
     have hcz15_0 : wc.cell? ⟨gb303, 0, none⟩ = some (.int .i64 a1_0) := bc BK303 0
     have hcz15_1 : wc.cell? ⟨gb303, 1, none⟩ = some (.int .i64 a1_1) := bc BK303 1
     have hfz15_0 := bf BK303 0
     have hfz15_1 := bf BK303 1
     go_wp2
     go_ret
     exact ⟨er, bw HB⟩
    ·rw [if_neg c13] at H
     have c13b0 : (a1_0 == 36) = false := beq_eq_false_iff_ne.mpr c13
     have c13b1 : (a1_0 != 36) = true := bne_iff_ne.mpr c13
     by_cases c16 : a1_0 = 32
     ·rw [if_pos c16] at H
      have c16b0 : (a1_0 == 32) = true := beq_iff_eq.mpr c16
      have c16b1 : (a1_0 != 32) = false := bne_eq_false_iff_eq.mpr c16
      clear c16
      replace H := Option.bind_eq_some_iff.mp H
      obtain ⟨t305, A170, H⟩ := H
      replace H : (if t305 = true then (if 0 ≤ a1_1 then (if a1_1 < (l0_0.length : Int) then (some ((rd_T100 l0_0 a1_1).f0)) else (none)) else (none)) else (some 0)) = some r := H
      have A17 := am A170
      clear A170
      by_cases c18 : t305 = true
      ·subst c18
       have H1 : (if 0 ≤ a1_1 then (if a1_1 < (l0_0.length : Int) then (some ((rd_T100 l0_0 a1_1).f0)) else (none)) else (none)) = some r := by rw [if_pos rfl] at H; exact H
       clear H
       have H := H1
       clear H1
       by_cases c19 : 0 ≤ a1_1
       ·rw [if_pos c19] at H
        have c19b0 := decide_eq_true c19
        clear c19
        by_cases c20 : a1_1 < (l0_0.length : Int)
        ·rw [if_pos c20] at H
         have c20b0 := decide_eq_true c20
         clear c20
         obtain rfl := Option.some.inj H
         have hnb21 := NB303_302.out
         have hnc21 := NB302_303.out
         have hcz22_0 : wc.cell? ⟨gb303, 0, none⟩ = some (.int .i64 a1_0) := bc BK303 0
         have hcz22_1 : wc.cell? ⟨gb303, 1, none⟩ = some (.int .i64 a1_1) := bc BK303 1
         have hfz22_0 := bf BK303 0
         have hfz22_1 := bf BK303 1
         have hcz23_0 : wc.cell? ⟨gb302, 0, none⟩ = some (.slice A0_0 l0_0.length c0_0) := bc BK302 0
         have hfz23_0 := bf BK302 0
         go_wp2_with (first | ((with_reducible refine gate_callee (f := 121) rfl ?_); refine goesL_ (some 23) rfl rfl Try.func121 (by kernel_rfl) rfl #[.agg #[.slice A0_0 l0_0.length c0_0], .int .i64 a1_1] rfl gl ?_; (with_reducible refine (impl_hasFunc.calls _ _ l0_0 a1_1 true _ ?side1 ?side2 A17.out).mono ?_); (case side1 => exact cc (Kd.C_below HR0_0.out HB.out)); (case side2 => exact HC0_0.out); rintro e w24 ⟨rfl, hb⟩; refine ⟨_, rfl, ?_⟩; replace BK302 := am (blk_below (g := gb302) (o := .cells #[.slice A0_0 l0_0.length c0_0] 30 (0, 0)) (bp BK302) hb); replace BK303 := am (blk_below (g := gb303) (o := .cells #[.int .i64 a1_0, .int .i64 a1_1] 102 (0, 0)) (bp BK303) hb); replace HB := am (below_step (bw HB) hb); (try clear hb); (try clear hb2); (try clear hk); (try clear hi); have hcz25_0 : w24.cell? ⟨gb302, 0, none⟩ = some (.slice A0_0 l0_0.length c0_0) := bc BK302 0; have hfz25_0 := bf BK302 0; have hcz26_0 : w24.cell? ⟨gb303, 0, none⟩ = some (.int .i64 a1_0) := bc BK303 0; have hcz26_1 : w24.cell? ⟨gb303, 1, none⟩ = some (.int .i64 a1_1) := bc BK303 1; have hfz26_0 := bf BK303 0; have hfz26_1 := bf BK303 1; have p306 : 0 ≤ (a1_1 : Int) := of_decide_eq_true as1; have q306 : a1_1 < (l0_0.length : Int) := of_decide_eq_true as1; obtain ⟨ad306, A306_2, c306_2, e306, hx306_0, hx306_1, hx306_2, hl306_2, hi306_2⟩ := at_T100 HR0_0.out a1_1 p306 q306; cases e306; replace hx306_0 := (HB.out.cell (World.block_lt_of_cell? w _ hx306_0)).trans hx306_0; replace hx306_1 := (HB.out.cell (World.block_lt_of_cell? w _ hx306_1)).trans hx306_1; replace hx306_2 := (HB.out.cell (World.block_lt_of_cell? w _ hx306_2)).trans hx306_2; have HR306_2 := am hi306_2; have HC306_2 := am hl306_2; clear hi306_2 hl306_2; replace p306 := eq_true p306; replace q306 := eq_true q306))
         go_ret
         exact ⟨er, bw HB⟩
        ·rw [if_neg c20] at H
         exact absurd H (by simp)
       ·rw [if_neg c19] at H
        exact absurd H (by simp)
      ·replace c18 := Bool.eq_false_iff.mpr c18
       subst c18
       have H1 : (some 0) = some r := by rw [if_neg (show ¬ (false = true) by decide)] at H; exact H
       clear H
       have H := H1
       clear H1
       obtain rfl := Option.some.inj H
       have hnb27 := NB303_302.out
       have hnc27 := NB302_303.out
       have hcz28_0 : wc.cell? ⟨gb303, 0, none⟩ = some (.int .i64 a1_0) := bc BK303 0
       have hcz28_1 : wc.cell? ⟨gb303, 1, none⟩ = some (.int .i64 a1_1) := bc BK303 1
       have hfz28_0 := bf BK303 0
       have hfz28_1 := bf BK303 1
       have hcz29_0 : wc.cell? ⟨gb302, 0, none⟩ = some (.slice A0_0 l0_0.length c0_0) := bc BK302 0
       have hfz29_0 := bf BK302 0
       go_wp2_with (first | ((with_reducible refine gate_callee (f := 121) rfl ?_); refine goesL_ (some 23) rfl rfl Try.func121 (by kernel_rfl) rfl #[.agg #[.slice A0_0 l0_0.length c0_0], .int .i64 a1_1] rfl gl ?_; (with_reducible refine (impl_hasFunc.calls _ _ l0_0 a1_1 false _ ?side1 ?side2 A17.out).mono ?_); (case side1 => exact cc (Kd.C_below HR0_0.out HB.out)); (case side2 => exact HC0_0.out); rintro e w30 ⟨rfl, hb⟩; refine ⟨_, rfl, ?_⟩; replace BK302 := am (blk_below (g := gb302) (o := .cells #[.slice A0_0 l0_0.length c0_0] 30 (0, 0)) (bp BK302) hb); replace BK303 := am (blk_below (g := gb303) (o := .cells #[.int .i64 a1_0, .int .i64 a1_1] 102 (0, 0)) (bp BK303) hb); replace HB := am (below_step (bw HB) hb); (try clear hb); (try clear hb2); (try clear hk); (try clear hi)))
       go_ret
       exact ⟨er, bw HB⟩
     ·rw [if_neg c16] at H
      have c16b0 : (a1_0 == 32) = false := beq_eq_false_iff_ne.mpr c16
      have c16b1 : (a1_0 != 32) = true := bne_iff_ne.mpr c16
      replace H := Option.bind_eq_some_iff.mp H
      obtain ⟨t307, A310, H⟩ := H
      replace H : (if t307 = true then (some 1) else (if a1_0 = 3 then (impl_Takes.j1 kj3 (a1_0 == 3)) else (if a1_0 = 4 then (impl_Takes.j1 kj3 (a1_0 == 4)) else (if a1_0 = 5 then (impl_Takes.j1 kj3 (a1_0 == 5)) else (if a1_0 = 31 then (impl_Takes.j1 kj3 (a1_0 == 31)) else (if a1_0 = 33 then (impl_Takes.j1 kj3 (a1_0 == 33)) else (if a1_0 = 34 then (impl_Takes.j1 kj3 (a1_0 == 34)) else (if a1_0 = 37 then (impl_Takes.j1 kj3 (a1_0 == 37)) else (impl_Takes.j1 kj3 (a1_0 == 38)))))))))) = some r := H
      have A31 := am A310
      clear A310
      by_cases c32 : t307 = true
      ·subst c32
       have H1 : (some 1) = some r := by rw [if_pos rfl] at H; exact H
       clear H
       have H := H1
       clear H1
       obtain rfl := Option.some.inj H
       have hnb33 := NB303_302.out
       have hnc33 := NB302_303.out
       have hcz34_0 : wc.cell? ⟨gb303, 0, none⟩ = some (.int .i64 a1_0) := bc BK303 0
       have hcz34_1 : wc.cell? ⟨gb303, 1, none⟩ = some (.int .i64 a1_1) := bc BK303 1
       have hfz34_0 := bf BK303 0
       have hfz34_1 := bf BK303 1
       go_wp2_with (first | ((with_reducible refine gate_callee (f := 176) rfl ?_); refine goesL_ (some 34) rfl rfl Try.func176 (by kernel_rfl) rfl #[.int .i64 a1_0] rfl gl ?_; (with_reducible refine (impl_isUnary.calls a1_0 true _ A31.out).mono ?_); rintro e w' ⟨rfl, ⟨nd, rfl⟩⟩; refine ⟨_, rfl, ?_⟩))
       go_ret
       exact ⟨er, bw HB⟩
      ·replace c32 := Bool.eq_false_iff.mpr c32
       subst c32
       have H1 : (if a1_0 = 3 then (impl_Takes.j1 kj3 (a1_0 == 3)) else (if a1_0 = 4 then (impl_Takes.j1 kj3 (a1_0 == 4)) else (if a1_0 = 5 then (impl_Takes.j1 kj3 (a1_0 == 5)) else (if a1_0 = 31 then (impl_Takes.j1 kj3 (a1_0 == 31)) else (if a1_0 = 33 then (impl_Takes.j1 kj3 (a1_0 == 33)) else (if a1_0 = 34 then (impl_Takes.j1 kj3 (a1_0 == 34)) else (if a1_0 = 37 then (impl_Takes.j1 kj3 (a1_0 == 37)) else (impl_Takes.j1 kj3 (a1_0 == 38))))))))) = some r := by rw [if_neg (show ¬ (false = true) by decide)] at H; exact H
       clear H
       have H := H1
       clear H1
       have HC35 := am H
       clear H
       have hnb36 := NB303_302.out
       have hnc36 := NB302_303.out
       have hcz37_0 : wc.cell? ⟨gb303, 0, none⟩ = some (.int .i64 a1_0) := bc BK303 0
       have hcz37_1 : wc.cell? ⟨gb303, 1, none⟩ = some (.int .i64 a1_1) := bc BK303 1
       have hfz37_0 := bf BK303 0
       have hfz37_1 := bf BK303 1
       go_upto_if 37 with (first | ((with_reducible refine gate_callee (f := 176) rfl ?_); refine goesL_ (some 34) rfl rfl Try.func176 (by kernel_rfl) rfl #[.int .i64 a1_0] rfl gl ?_; (with_reducible refine (impl_isUnary.calls a1_0 false _ A31.out).mono ?_); rintro e w' ⟨rfl, ⟨nd, rfl⟩⟩; refine ⟨_, rfl, ?_⟩))
       (try simp only [Act.put, sa, sz, ss])
       go_cut [37] (fun v37 wc => ∃ (kq : Nat) (x37_34 : Bool), v37 = .bool x37_34 ∧ Aside0 (impl_Takes.j1 kq x37_34 = some r) ∧ Aside0 (kq ≤ kj3) ∧ Aside0 (wc.heap[gb302]? = some (.cells #[(.slice A0_0 l0_0.length c0_0)] 30 (0, 0))) ∧ Aside0 (wc.heap[gb303]? = some (.cells #[.int .i64 a1_0, .int .i64 a1_1] 102 (0, 0))) ∧ Aside0 (Below w.heap.size w wc))
       case first =>
        have H := HC35.out
        clear HC35
        by_cases c38 : a1_0 = 3
        ·rw [if_pos c38] at H
         have c38b0 : (a1_0 == 3) = true := beq_iff_eq.mpr c38
         have c38b1 : (a1_0 != 3) = false := bne_eq_false_iff_eq.mpr c38
         clear c38
         (first | rw [c38b0] | (simp only [i64_w, i32_w]; rw [c38b0]) | skip)
         have H' := am H
         clear H
         go_wp2
         go_meet
         case rel => exact ⟨_, ((a1_0 == 3)), dr, H', ⟨by have := HJ3.out; first | omega | exact Nat.le_refl _⟩, ⟨bp BK302⟩, ⟨bp BK303⟩, ⟨bw HB⟩⟩
        ·rw [if_neg c38] at H
         have c38b0 : (a1_0 == 3) = false := beq_eq_false_iff_ne.mpr c38
         have c38b1 : (a1_0 != 3) = true := bne_iff_ne.mpr c38
         (first | rw [c38b0] | (simp only [i64_w, i32_w]; rw [c38b0]) | skip)
         by_cases c39 : a1_0 = 4
         ·rw [if_pos c39] at H
          have c39b0 : (a1_0 == 4) = true := beq_iff_eq.mpr c39
          have c39b1 : (a1_0 != 4) = false := bne_eq_false_iff_eq.mpr c39
          clear c39
          have H' := am H
          clear H
          go_wp2
          go_meet
          case rel => exact ⟨_, ((a1_0 == 4)), dr, H', ⟨by have := HJ3.out; first | omega | exact Nat.le_refl _⟩, ⟨bp BK302⟩, ⟨bp BK303⟩, ⟨bw HB⟩⟩
         ·rw [if_neg c39] at H
          have c39b0 : (a1_0 == 4) = false := beq_eq_false_iff_ne.mpr c39
          have c39b1 : (a1_0 != 4) = true := bne_iff_ne.mpr c39
          by_cases c40 : a1_0 = 5
          ·rw [if_pos c40] at H
           have c40b0 : (a1_0 == 5) = true := beq_iff_eq.mpr c40
           have c40b1 : (a1_0 != 5) = false := bne_eq_false_iff_eq.mpr c40
           clear c40
           have H' := am H
           clear H
           go_wp2
           go_meet
           case rel => exact ⟨_, ((a1_0 == 5)), dr, H', ⟨by have := HJ3.out; first | omega | exact Nat.le_refl _⟩, ⟨bp BK302⟩, ⟨bp BK303⟩, ⟨bw HB⟩⟩
          ·rw [if_neg c40] at H
           have c40b0 : (a1_0 == 5) = false := beq_eq_false_iff_ne.mpr c40
           have c40b1 : (a1_0 != 5) = true := bne_iff_ne.mpr c40
           by_cases c41 : a1_0 = 31
           ·rw [if_pos c41] at H
            have c41b0 : (a1_0 == 31) = true := beq_iff_eq.mpr c41
            have c41b1 : (a1_0 != 31) = false := bne_eq_false_iff_eq.mpr c41
            clear c41
            have H' := am H
            clear H
            go_wp2
            go_meet
            case rel => exact ⟨_, ((a1_0 == 31)), dr, H', ⟨by have := HJ3.out; first | omega | exact Nat.le_refl _⟩, ⟨bp BK302⟩, ⟨bp BK303⟩, ⟨bw HB⟩⟩
           ·rw [if_neg c41] at H
            have c41b0 : (a1_0 == 31) = false := beq_eq_false_iff_ne.mpr c41
            have c41b1 : (a1_0 != 31) = true := bne_iff_ne.mpr c41
            by_cases c42 : a1_0 = 33
            ·rw [if_pos c42] at H
             have c42b0 : (a1_0 == 33) = true := beq_iff_eq.mpr c42
             have c42b1 : (a1_0 != 33) = false := bne_eq_false_iff_eq.mpr c42
             clear c42
             have H' := am H
             clear H
             go_wp2
             go_meet
             case rel => exact ⟨_, ((a1_0 == 33)), dr, H', ⟨by have := HJ3.out; first | omega | exact Nat.le_refl _⟩, ⟨bp BK302⟩, ⟨bp BK303⟩, ⟨bw HB⟩⟩
            ·rw [if_neg c42] at H
             have c42b0 : (a1_0 == 33) = false := beq_eq_false_iff_ne.mpr c42
             have c42b1 : (a1_0 != 33) = true := bne_iff_ne.mpr c42
             by_cases c43 : a1_0 = 34
             ·rw [if_pos c43] at H
              have c43b0 : (a1_0 == 34) = true := beq_iff_eq.mpr c43
              have c43b1 : (a1_0 != 34) = false := bne_eq_false_iff_eq.mpr c43
              clear c43
              have H' := am H
              clear H
              go_wp2
              go_meet
              case rel => exact ⟨_, ((a1_0 == 34)), dr, H', ⟨by have := HJ3.out; first | omega | exact Nat.le_refl _⟩, ⟨bp BK302⟩, ⟨bp BK303⟩, ⟨bw HB⟩⟩
             ·rw [if_neg c43] at H
              have c43b0 : (a1_0 == 34) = false := beq_eq_false_iff_ne.mpr c43
              have c43b1 : (a1_0 != 34) = true := bne_iff_ne.mpr c43
              by_cases c44 : a1_0 = 37
              ·rw [if_pos c44] at H
               have c44b0 : (a1_0 == 37) = true := beq_iff_eq.mpr c44
               have c44b1 : (a1_0 != 37) = false := bne_eq_false_iff_eq.mpr c44
               clear c44
               have H' := am H
               clear H
               go_wp2
               go_meet
               case rel => exact ⟨_, ((a1_0 == 37)), dr, H', ⟨by have := HJ3.out; first | omega | exact Nat.le_refl _⟩, ⟨bp BK302⟩, ⟨bp BK303⟩, ⟨bw HB⟩⟩
              ·rw [if_neg c44] at H
               have c44b0 : (a1_0 == 37) = false := beq_eq_false_iff_ne.mpr c44
               have c44b1 : (a1_0 != 37) = true := bne_iff_ne.mpr c44
               have H' := am H
               clear H
               go_wp2
               go_meet
               case rel => exact ⟨_, ((a1_0 == 38)), dr, H', ⟨by have := HJ3.out; first | omega | exact Nat.le_refl _⟩, ⟨bp BK302⟩, ⟨bp BK303⟩, ⟨bw HB⟩⟩
       case rest =>
        clear HC35
        (try clear c1); (try clear c2); (try clear p2); (try clear c3); (try clear p3); (try clear q3); (try clear hx3); (try clear c4); (try clear c7); (try clear c9); (try clear c10); (try clear c12); (try clear c13); (try clear c13b0); (try clear c13b1); (try clear c14); (try clear c16); (try clear c16b0); (try clear c16b1); (try clear c17); (try clear c18); (try clear c19); (try clear c19b0); (try clear c20); (try clear c20b0); (try clear c21); (try clear c27); (try clear c30); (try clear p30); (try clear q30); (try clear hx30); (try clear c32); (try clear c33); (try clear c36); (try clear c38); (try clear c38b0); (try clear c38b1); (try clear c39); (try clear c39b0); (try clear c39b1); (try clear c40); (try clear c40b0); (try clear c40b1); (try clear c41); (try clear c41b0); (try clear c41b1); (try clear c42); (try clear c42b0); (try clear c42b1); (try clear c43); (try clear c43b0); (try clear c43b1); (try clear c44); (try clear c44b0); (try clear c44b1); (try clear hcz11_0); (try clear hcz11_1); (try clear hcz15_0); (try clear hcz15_1); (try clear hcz22_0); (try clear hcz22_1); (try clear hcz23_0); (try clear hcz25_0); (try clear hcz26_0); (try clear hcz26_1); (try clear hcz28_0); (try clear hcz28_1); (try clear hcz29_0); (try clear hcz34_0); (try clear hcz34_1); (try clear hcz37_0); (try clear hcz37_1); (try clear hcz8_0); (try clear hcz8_1); (try clear hfz11_0); (try clear hfz11_1); (try clear hfz15_0); (try clear hfz15_1); (try clear hfz22_0); (try clear hfz22_1); (try clear hfz23_0); (try clear hfz25_0); (try clear hfz26_0); (try clear hfz26_1); (try clear hfz28_0); (try clear hfz28_1); (try clear hfz29_0); (try clear hfz34_0); (try clear hfz34_1); (try clear hfz37_0); (try clear hfz37_1); (try clear hfz8_0); (try clear hfz8_1); (try clear hx306_0); (try clear hx306_1); (try clear hx306_2); (try clear p2); (try clear p306); (try clear q306)
        obtain ⟨kq, x37_34, rfl, HA, HJ34, BK302, BK303, HB⟩ := hcut
        cases kq with
        | zero => exact absurd HA.out (by simp [impl_Takes.j1])
        | succ kj34 =>
         have H := HA.out
         clear HA
         simp only [impl_Takes.j1] at H
         by_cases c45 : x37_34 = true
         ·subst c45
          have H1 : (some 1) = some r := by rw [if_pos rfl] at H; exact H
          clear H
          have H := H1
          clear H1
          obtain rfl := Option.some.inj H
          go_wp2
          go_ret
          exact ⟨er, bw HB⟩
         ·replace c45 := Bool.eq_false_iff.mpr c45
          subst c45
          have H1 : (some 0) = some r := by rw [if_neg (show ¬ (false = true) by decide)] at H; exact H
          clear H
          have H := H1
          clear H1
          obtain rfl := Option.some.inj H
          go_wp2
          go_ret
          exact ⟨er, bw HB⟩

def impl_isArith.f (a0 : Int) : Option (Bool) := (impl_in.f a0 10 29).bind fun t308 => (some t308)
theorem impl_isArith.calls (a0 : Int) (r : Bool) (w : World) (h : impl_isArith.f a0 = some r) :
  Calls Try.prog 177 #[.int .i64 a0] w fun e w' => e = .returned (.bool r) ∧ Drawn0 w w' := by
 have H : ((impl_in.f a0 10 29).bind fun t308 => (some t308)) = some r := h
 clear h
 replace H := Option.bind_eq_some_iff.mp H
 obtain ⟨t308, A20, H⟩ := H
 replace H : (some t308) = some r := H
 have A2 := am A20
 clear A20
 obtain rfl := Option.some.inj H
 go_enter Try.func177, Try.ntmps177
 go_wp2_with (first | ((with_reducible refine gate_callee (f := 85) rfl ?_); refine goesL_ (some 4) rfl rfl Try.func85 (by kernel_rfl) rfl #[.int .i64 a0, .int .i64 10, .int .i64 29] rfl gl ?_; (with_reducible refine (impl_in.calls a0 10 29 t308 _ A2.out).mono ?_); rintro e w' ⟨rfl, ⟨nd, rfl⟩⟩; refine ⟨_, rfl, ?_⟩))
 go_ret
 exact ⟨by first | rfl | (simp; done) | (simp [*]; done), by repeat (first | exact Drawn0.refl _ | apply Drawn0.step)⟩

end Go.Proofs.Ytbmjmaahcaoajaa.QFnExactFileBytes
