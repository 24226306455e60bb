-- Written by this session's own program (wip/tools/xprint.py) on the seat's printed words. Lean checks it.
import Derived.Test.YtbmjmaahcaoajaaCFnExactHeightsx0
import Derived.Test.YtbmjmaahcaoajaaCFnExactHeightsx6
import Derived.Test.YtbmjmaahcaoajaaCFnExactHeightsx7
import Derived.Test.YtbmjmaahcaoajaaCFnExactHeightsx9
namespace Go.Proofs.Ytbmjmaahcaoajaa.QFnExactHeights
open Go.RowKit Go.Proofs.YtbmjmaahcaoajaaW.PrintWords Go.Proofs.YtbmjmaahcaoajaaW.PrintLast Go.Proofs.YtbmjmaahcaoajaaW.PrintMore Go.Proofs.YtbmjmaahcaoajaaW.PrintShort Go.Proofs.YtbmjmaahcaoajaaW.PrintIsh
attribute [local go_sem] max2_int min2_int max_two min_two max_three min_three max_four min_four   -- for this text's walks alone
set_option linter.unusedVariables false
set_option maxHeartbeats 8000000
set_option maxRecDepth 100000
set_option linter.unusedSimpArgs false

/-! ### impl_verify: function 126 -/
mutual
def impl_verify.j0 : Nat → Bool → List (S100) → Option (Int × Int × Int × (List (List Int)))
 | 0, _, _ => none
 | k + 1, x21, x306000 => if x21 = true then (some (0, 0, 1, ([] : List (List Int)))) else (impl_verify.l0 k ([] : List (List Int)) x306000 (x306000.length : Int) 0 x306000)
def impl_verify.l0 : Nat → List (List Int) → List (S100) → Int → Int → List (S100) → Option (Int × Int × Int × (List (List Int)))
 | 0, _, _, _, _, _ => none
 | k + 1, x4, x24, x25, x26, x306000 => if x26 < x25 then (if 0 ≤ x26 then (if x26 < (x24.length : Int) then ((impl_in.f ((rd_T100 x24 x26).f0) 0 4).bind fun t309 => (if t309 = true then ((impl_in.f ((rd_T100 x24 x26).f1) ((rd_T100 x24 x26).f0) 8).bind fun t310 => (if t310 = true then ((impl_in.f (((rd_T100 x24 x26).f2).length : Int) 1 60).bind fun t311 => (impl_verify.j2 k x4 x26 x24 x25 x26 (!t311) x306000 ((rd_T100 x24 x26).f0) ((rd_T100 x24 x26).f1) ((rd_T100 x24 x26).f2))) else (impl_verify.j2 k x4 x26 x24 x25 x26 true x306000 ((rd_T100 x24 x26).f0) ((rd_T100 x24 x26).f1) ((rd_T100 x24 x26).f2)))) else (impl_verify.j2 k x4 x26 x24 x25 x26 true x306000 ((rd_T100 x24 x26).f0) ((rd_T100 x24 x26).f1) ((rd_T100 x24 x26).f2)))) else (none)) else (none)) else (some (0, 0, 0, x4))
def impl_verify.j2 : Nat → List (List Int) → Int → List (S100) → Int → Int → Bool → List (S100) → Int → Int → List (S102) → Option (Int × Int × Int × (List (List Int)))
 | 0, _, _, _, _, _, _, _, _, _, _ => none
 | k + 1, x4, x5, x24, x25, x26, x49, x306000, x309000, x309001, x309002 => if x49 = true then (some (x5, 0, 1, ([] : List (List Int)))) else (impl_verify.l1 k x4 x5 x24 x25 x26 x309002 (x309002.length : Int) 0 x306000)
def impl_verify.l1 : Nat → List (List Int) → Int → List (S100) → Int → Int → List (S102) → Int → Int → List (S100) → Option (Int × Int × Int × (List (List Int)))
 | 0, _, _, _, _, _, _, _, _, _ => none
 | k + 1, x4, x5, x24, x25, x26, x53, x54, x55, x306000 => if x55 < x54 then (if 0 ≤ x55 then (if x55 < (x53.length : Int) then ((impl_InsRight.f k x306000 x5 ((rd_T102 x53 x55).f0) ((rd_T102 x53 x55).f1)).bind fun t314 => (if t314 = true then (impl_verify.l1 k x4 x5 x24 x25 x26 x53 x54 (wrap64 (x55 + 1)) x306000) else (some (x5, x55, 1, ([] : List (List Int)))))) else (none)) else (none)) else ((impl_heightsOf.f k x306000 x5).bind fun bt315 => (if bt315.2.2 = 0 then (if x4.length < 5864062014805 then (impl_verify.l0 k (x4 ++ [bt315.1]) x24 x25 (wrap64 (x26 + 1)) x306000) else (none)) else (some (x5, bt315.2.1, bt315.2.2, ([] : List (List Int))))))
end
def impl_verify.f (k : Nat) (l0_0 : List (S100)) : Option (Int × Int × Int × (List (List Int))) := if (l0_0.length : Int) < 1 then (impl_verify.j0 k true l0_0) else (impl_verify.j0 k (decide ((l0_0.length : Int) > 6)) l0_0)
theorem impl_verify.mono_l : ∀ k, (∀ y0 y1, LeO (impl_verify.j0 k y0 y1) (impl_verify.j0 (k + 1) y0 y1)) ∧ (∀ y0 y1 y2 y3 y4, LeO (impl_verify.l0 k y0 y1 y2 y3 y4) (impl_verify.l0 (k + 1) y0 y1 y2 y3 y4)) ∧ (∀ y0 y1 y2 y3 y4 y5 y6 y7 y8 y9, LeO (impl_verify.j2 k y0 y1 y2 y3 y4 y5 y6 y7 y8 y9) (impl_verify.j2 (k + 1) y0 y1 y2 y3 y4 y5 y6 y7 y8 y9)) ∧ (∀ y0 y1 y2 y3 y4 y5 y6 y7 y8, LeO (impl_verify.l1 k y0 y1 y2 y3 y4 y5 y6 y7 y8) (impl_verify.l1 (k + 1) y0 y1 y2 y3 y4 y5 y6 y7 y8))
 | 0 => ⟨fun _ _ r h => by simp [impl_verify.j0] at h, fun _ _ _ _ _ r h => by simp [impl_verify.l0] at h, fun _ _ _ _ _ _ _ _ _ _ r h => by simp [impl_verify.j2] at h, fun _ _ _ _ _ _ _ _ _ r h => by simp [impl_verify.l1] at h⟩
 | k + 1 => by
  obtain ⟨ih0, ih1, ih2, ih3⟩ := impl_verify.mono_l k
  refine ⟨?_, ?_, ?_, ?_⟩
  ·intro y0 y1
   unfold impl_verify.j0
   repeat' first
   | (with_reducible exact ih0 _ _)
   | (with_reducible exact ih1 _ _ _ _ _)
   | (with_reducible exact ih2 _ _ _ _ _ _ _ _ _ _)
   | (with_reducible exact ih3 _ _ _ _ _ _ _ _ _)
   | (with_reducible exact impl_InsRight.mono _ _ _ _ _)
   | (with_reducible exact impl_heightsOf.mono _ _ _)
   | (with_reducible exact LeO.refl _)
   | (with_reducible exact LeO.none _)
   | (with_reducible refine LeO.ite ?_ ?_)
   | (with_reducible refine LeO.bind ?_ (fun _ => ?_))
   | exact ih0 _ _
   | exact ih1 _ _ _ _ _
   | exact ih2 _ _ _ _ _ _ _ _ _ _
   | exact ih3 _ _ _ _ _ _ _ _ _
   | exact impl_InsRight.mono _ _ _ _ _
   | exact impl_heightsOf.mono _ _ _
   | exact LeO.none _
   | refine LeO.ite ?_ ?_
   | refine LeO.bind ?_ (fun _ => ?_)
  ·intro y0 y1 y2 y3 y4
   unfold impl_verify.l0
   repeat' first
   | (with_reducible exact ih0 _ _)
   | (with_reducible exact ih1 _ _ _ _ _)
   | (with_reducible exact ih2 _ _ _ _ _ _ _ _ _ _)
   | (with_reducible exact ih3 _ _ _ _ _ _ _ _ _)
   | (with_reducible exact impl_InsRight.mono _ _ _ _ _)
   | (with_reducible exact impl_heightsOf.mono _ _ _)
   | (with_reducible exact LeO.refl _)
   | (with_reducible exact LeO.none _)
   | (with_reducible refine LeO.ite ?_ ?_)
   | (with_reducible refine LeO.bind ?_ (fun _ => ?_))
   | exact ih0 _ _
   | exact ih1 _ _ _ _ _
   | exact ih2 _ _ _ _ _ _ _ _ _ _
   | exact ih3 _ _ _ _ _ _ _ _ _
   | exact impl_InsRight.mono _ _ _ _ _
   | exact impl_heightsOf.mono _ _ _
   | exact LeO.none _
   | refine LeO.ite ?_ ?_
   | refine LeO.bind ?_ (fun _ => ?_)
  ·intro y0 y1 y2 y3 y4 y5 y6 y7 y8 y9
   unfold impl_verify.j2
   repeat' first
   | (with_reducible exact ih0 _ _)
   | (with_reducible exact ih1 _ _ _ _ _)
   | (with_reducible exact ih2 _ _ _ _ _ _ _ _ _ _)
   | (with_reducible exact ih3 _ _ _ _ _ _ _ _ _)
   | (with_reducible exact impl_InsRight.mono _ _ _ _ _)
   | (with_reducible exact impl_heightsOf.mono _ _ _)
   | (with_reducible exact LeO.refl _)
   | (with_reducible exact LeO.none _)
   | (with_reducible refine LeO.ite ?_ ?_)
   | (with_reducible refine LeO.bind ?_ (fun _ => ?_))
   | exact ih0 _ _
   | exact ih1 _ _ _ _ _
   | exact ih2 _ _ _ _ _ _ _ _ _ _
   | exact ih3 _ _ _ _ _ _ _ _ _
   | exact impl_InsRight.mono _ _ _ _ _
   | exact impl_heightsOf.mono _ _ _
   | exact LeO.none _
   | refine LeO.ite ?_ ?_
   | refine LeO.bind ?_ (fun _ => ?_)
  ·intro y0 y1 y2 y3 y4 y5 y6 y7 y8
   unfold impl_verify.l1
   repeat' first
   | (with_reducible exact ih0 _ _)
   | (with_reducible exact ih1 _ _ _ _ _)
   | (with_reducible exact ih2 _ _ _ _ _ _ _ _ _ _)
   | (with_reducible exact ih3 _ _ _ _ _ _ _ _ _)
   | (with_reducible exact impl_InsRight.mono _ _ _ _ _)
   | (with_reducible exact impl_heightsOf.mono _ _ _)
   | (with_reducible exact LeO.refl _)
   | (with_reducible exact LeO.none _)
   | (with_reducible refine LeO.ite ?_ ?_)
   | (with_reducible refine LeO.bind ?_ (fun _ => ?_))
   | exact ih0 _ _
   | exact ih1 _ _ _ _ _
   | exact ih2 _ _ _ _ _ _ _ _ _ _
   | exact ih3 _ _ _ _ _ _ _ _ _
   | exact impl_InsRight.mono _ _ _ _ _
   | exact impl_heightsOf.mono _ _ _
   | exact LeO.none _
   | refine LeO.ite ?_ ?_
   | refine LeO.bind ?_ (fun _ => ?_)
theorem impl_verify.mono : ∀ a0 k, LeO (impl_verify.f k a0) (impl_verify.f (k + 1) a0) := by
 intro a0 k
 obtain ⟨ih0, ih1, ih2, ih3⟩ := impl_verify.mono_l k
 unfold impl_verify.f
 repeat' first
   | (with_reducible exact ih0 _ _)
   | (with_reducible exact ih1 _ _ _ _ _)
   | (with_reducible exact ih2 _ _ _ _ _ _ _ _ _ _)
   | (with_reducible exact ih3 _ _ _ _ _ _ _ _ _)
   | (with_reducible exact impl_InsRight.mono _ _ _ _ _)
   | (with_reducible exact impl_heightsOf.mono _ _ _)
   | (with_reducible exact LeO.refl _)
   | (with_reducible exact LeO.none _)
   | (with_reducible refine LeO.ite ?_ ?_)
   | (with_reducible refine LeO.bind ?_ (fun _ => ?_))
   | exact ih0 _ _
   | exact ih1 _ _ _ _ _
   | exact ih2 _ _ _ _ _ _ _ _ _ _
   | exact ih3 _ _ _ _ _ _ _ _ _
   | exact impl_InsRight.mono _ _ _ _ _
   | exact impl_heightsOf.mono _ _ _
   | exact LeO.none _
   | refine LeO.ite ?_ ?_
   | refine LeO.bind ?_ (fun _ => ?_)
theorem impl_verify.calls (k : Nat) (A0_0 : Option Addr) (c0_0 : Nat) (l0_0 : List (S100)) (r1 : Int) (r2 : Int) (r3 : Int) (r4 : List (List Int)) (w : World) (hr0_0 : Kd.C k100 w A0_0 l0_0.length l0_0) (hc0_0 : l0_0.length ≤ c0_0) (h : impl_verify.f k l0_0 = some (r1, r2, r3, r4)) :
  Calls Try.prog 126 #[.agg #[.slice A0_0 l0_0.length c0_0]] w fun e w' => ∃ v3_ : Value, e = .returned (.tuple #[.agg #[.int .i64 r1, .int .i64 r2, .int .i64 r3], v3_]) ∧ Kd.S (Kd.slice 2 (Kd.int .i64)) 26 w' w.heap.size (fun _ => True) v3_ r4 ∧ Below w.heap.size w w' := by
 have hu30 := Try.underlying30
 have hu84 := Try.underlying84
 have hu100 := Try.underlying100
 have hu102 := Try.underlying102
 have HR0_0 := am hr0_0
 have HC0_0 := am hc0_0
 clear hr0_0 hc0_0
 have HB := am (Below.refl w.heap.size w)
 have H : (if (l0_0.length : Int) < 1 then (impl_verify.j0 k true l0_0) else (impl_verify.j0 k (decide ((l0_0.length : Int) > 6)) l0_0)) = some (r1, r2, r3, r4) := h
 clear h
 have HC2 := am H
 clear H
 go_enter Try.func126, Try.ntmps126
 go_upto_region 1 with (first | ((with_reducible refine gate_dst (N := 1) rfl ?_); (try (refine gate_guard (by rfl) ?_; dsimp only)); refine box_event ?hg (N := 1) ?hd (cs := #[.slice A0_0 l0_0.length c0_0]) (t := 30) ?hr ?_; (case hd => rfl); (case hg => rfl); (case hr => exact gs); intro gb305 hg w3 hbox hb; have n0_ := am (below_step (bw HB) hb); have n1_ := am (hbox); have n2_ := am ((by rw [hg]; exact (below_size (bw HB)) : w.heap.size ≤ gb305)); have n3_ := am ((by rw [hg]; exact (below_size (bw HB)) : w.heap.size ≤ gb305)); clear HB; have HB := n0_; have BK305 := n1_; have GW305 := n2_; have GE305 := n3_; clear n0_ n1_ n2_ n3_; clear hb hbox hg) | ((with_reducible refine gate_dst (N := 2) rfl ?_); (try (refine gate_guard (by rfl) ?_; dsimp only)); refine box_event ?hg (N := 2) ?hd (cs := #[.int .i64 0, .int .i64 0, .int .i64 0]) (t := 84) ?hr ?_; (case hd => rfl); (case hg => rfl); (case hr => exact gs); intro gb306 hg w4 hbox hb; have n0_ := am (blk_below (g := gb305) (o := .cells #[.slice A0_0 l0_0.length c0_0] 30 (0, 0)) (bp BK305) hb); have n1_ := am (below_step (bw HB) hb); have n2_ := am (hbox); have n3_ := am ((by rw [hg]; exact (below_size (bw HB)) : w.heap.size ≤ gb306)); have n4_ := am ((by rw [hg]; exact (below_size (bw HB)) : w.heap.size ≤ gb306)); have n5_ := am ((by rw [hg]; exact Nat.ne_of_lt (blk_lt (g := gb305) (o := .cells #[.slice A0_0 l0_0.length c0_0] 30 (0, 0)) (bp BK305)) : gb305 ≠ gb306)); have n6_ := am ((by rw [hg]; exact Nat.ne_of_gt (blk_lt (g := gb305) (o := .cells #[.slice A0_0 l0_0.length c0_0] 30 (0, 0)) (bp BK305)) : gb306 ≠ gb305)); clear BK305; clear HB; have BK305 := n0_; have HB := n1_; have BK306 := n2_; have GW306 := n3_; have GE306 := n4_; have NB305_306 := n5_; have NB306_305 := n6_; clear n0_ n1_ n2_ n3_ n4_ n5_ n6_; clear hb hbox hg))
 (try simp only [Act.put, sa, sz, ss])
 go_cut [21] (fun v21 wc => ∃ (kq : Nat) (x21_1 : Bool), v21 = .bool x21_1 ∧ Aside0 (impl_verify.j0 kq x21_1 l0_0 = some (r1, r2, r3, r4)) ∧ Aside0 (kq ≤ k) ∧ Aside0 (wc.heap[gb305]? = some (.cells #[(.slice A0_0 l0_0.length c0_0)] 30 (0, 0))) ∧ Aside0 (wc.heap[gb306]? = some (.cells #[.int .i64 0, .int .i64 0, .int .i64 0] 84 (0, 0))) ∧ Aside0 (Below w.heap.size w wc))
 case first =>
  have H := HC2.out
  clear HC2
  by_cases c5 : (l0_0.length : Int) < 1
  ·rw [if_pos c5] at H
   have c5b0 : decide ((l0_0.length : Int) < 1) = true := decide_eq_true c5
   have c5b1 : decide (l0_0.length < 1) = true := decide_eq_true (by omega)
   clear c5
   (first | rw [c5b0] | (simp only [i64_w, i32_w]; rw [c5b0]) | skip)
   have H' := am H
   clear H
   have hnb6 := NB305_306.out
   have hnc6 := NB306_305.out
   have hcz7_0 : w4.cell? ⟨gb305, 0, none⟩ = some (.slice A0_0 l0_0.length c0_0) := (blk_cell BK305.out 0).trans rfl
   have hfz7_0 := blk_frozen BK305.out 0
   go_wp2
   go_meet
   case rel => exact ⟨_, (true), dr, H', ⟨by first | omega | exact Nat.le_refl _⟩, ⟨bp BK305⟩, ⟨bp BK306⟩, ⟨bw HB⟩⟩
  ·rw [if_neg c5] at H
   have c5b0 : decide ((l0_0.length : Int) < 1) = false := decide_eq_false c5
   have c5b1 : decide (l0_0.length < 1) = false := decide_eq_false (by omega)
   clear c5
   (first | rw [c5b0] | (simp only [i64_w, i32_w]; rw [c5b0]) | skip)
   have H' := am H
   clear H
   have hnb8 := NB305_306.out
   have hnc8 := NB306_305.out
   have hcz9_0 : w4.cell? ⟨gb305, 0, none⟩ = some (.slice A0_0 l0_0.length c0_0) := (blk_cell BK305.out 0).trans rfl
   have hfz9_0 := blk_frozen BK305.out 0
   go_wp2
   go_meet
   case rel => exact ⟨_, (decide ((l0_0.length : Int) > 6)), dr, H', ⟨by first | omega | exact Nat.le_refl _⟩, ⟨bp BK305⟩, ⟨bp BK306⟩, ⟨bw HB⟩⟩
 case rest =>
  clear HC2
  (try clear c1); (try clear p2); (try clear c5); (try clear c5b0); (try clear c5b1); (try clear c6); (try clear c8); (try clear hcz7_0); (try clear hcz9_0); (try clear hfz7_0); (try clear hfz9_0)
  obtain ⟨kq, x21_1, rfl, HA, HJ1, BK305, BK306, HB⟩ := hcut
  cases kq with
  | zero => exact absurd HA.out (by simp [impl_verify.j0])
  | succ kj1 =>
   have H := HA.out
   clear HA
   simp only [impl_verify.j0] at H
   by_cases c10 : x21_1 = true
   ·subst c10
    have H1 : (some (0, 0, 1, ([] : List (List Int)))) = some (r1, r2, r3, r4) := by rw [if_pos rfl] at H; exact H
    clear H
    have H := H1
    clear H1
    simp only [Option.some.injEq, Prod.mk.injEq] at H
    obtain ⟨rfl, rfl, rfl, rfl⟩ := H
    have hnb11 := NB306_305.out
    have hnc11 := NB305_306.out
    have hcz12_0 : wc.cell? ⟨gb306, 0, none⟩ = some (.int .i64 0) := (blk_cell BK306.out 0).trans rfl
    have hcz12_1 : wc.cell? ⟨gb306, 1, none⟩ = some (.int .i64 0) := (blk_cell BK306.out 1).trans rfl
    have hcz12_2 : wc.cell? ⟨gb306, 2, none⟩ = some (.int .i64 0) := (blk_cell BK306.out 2).trans rfl
    have hfz12_0 := blk_frozen BK306.out 0
    have hfz12_1 := blk_frozen BK306.out 1
    have hfz12_2 := blk_frozen BK306.out 2
    go_wp2
    refine bodyPost_ret (results_ct rfl _ _ gb306 84 #[.int .i64 0, .int .i64 0, .int .i64 1] (0, 0) _ rfl (by (with_reducible repeat (first | apply dN | apply dW | apply dA)); refine blk_put (cs := #[.int .i64 0, .int .i64 0, .int .i64 0]) ?_ 2 _ rfl; (with_reducible repeat (first | apply dN | apply dW | apply dA)); refine blk_put (cs := #[.int .i64 0, .int .i64 0, .int .i64 0]) ?_ 1 _ rfl; (with_reducible repeat (first | apply dN | apply dW | apply dA)); refine blk_put (cs := #[.int .i64 0, .int .i64 0, .int .i64 0]) ?_ 0 _ rfl; exact bp BK306) Try.underlying84 rfl (by kernel_rfl)) rfl ?_
    exact ⟨_, er, by first | exact Kd.S_nil _ _ _ _ _ | exact Kd.N_nil _ _ _ _ _ | exact Kd.V_nil _ _ _ _ _ | exact Kd.Q_nil _ _ _ _ _ | exact Kd.R_nil _ _ _ _ _, bw HB⟩
   ·replace c10 := Bool.eq_false_iff.mpr c10
    subst c10
    have H1 : (impl_verify.l0 kj1 ([] : List (List Int)) l0_0 (l0_0.length : Int) 0 l0_0) = some (r1, r2, r3, r4) := by rw [if_neg (show ¬ (false = true) by decide)] at H; exact H
    clear H
    have H := H1
    clear H1
    have H' := am H
    clear H
    have hnb13 := NB305_306.out
    have hnc13 := NB306_305.out
    have hcz14_0 : wc.cell? ⟨gb305, 0, none⟩ = some (.slice A0_0 l0_0.length c0_0) := (blk_cell BK305.out 0).trans rfl
    have hfz14_0 := blk_frozen BK305.out 0
    go_wp2
    go_loopg [4, 26] kj1 (fun kq v4 v26 w' => ∃ (x4_2 : List (List Int)) (x26_2 : Int) (x307000_2 : Int) (x307001_2 : Int) (x307002_2 : Int), v26 = .int .i64 x26_2 ∧ Aside0 (impl_verify.l0 kq x4_2 l0_0 (l0_0.length : Int) x26_2 l0_0 = some (r1, r2, r3, r4)) ∧ Aside0 (kq ≤ kj1) ∧ Aside0 (Kd.S (Kd.slice 2 (Kd.int .i64)) 26 w' w.heap.size (fun _ => True) v4 x4_2) ∧ Aside0 (w'.heap[gb305]? = some (.cells #[(.slice A0_0 l0_0.length c0_0)] 30 (0, 0))) ∧ Aside0 (w'.heap[gb306]? = some (.cells #[.int .i64 x307000_2, .int .i64 x307001_2, .int .i64 x307002_2] 84 (0, 0))) ∧ Aside0 (Below w.heap.size w w'))
    case atStart => exact ⟨(([] : List (List Int))), (0), (0), (0), (0), dr, H', ⟨Nat.le_refl _⟩, ⟨by first | exact Kd.S_nil _ _ _ _ _ | exact Kd.N_nil _ _ _ _ _ | exact Kd.V_nil _ _ _ _ _ | exact Kd.Q_nil _ _ _ _ _ | exact Kd.R_nil _ _ _ _ _⟩, ⟨bp BK305⟩, ⟨bp BK306⟩, ⟨bw HB⟩⟩
    case round =>
     clear H'
     (try clear c1); (try clear p2); (try clear c5); (try clear c5b0); (try clear c5b1); (try clear c6); (try clear c8); (try clear c10); (try clear c11); (try clear c12); (try clear c13); (try clear hcz12_0); (try clear hcz12_1); (try clear hcz12_2); (try clear hcz14_0); (try clear hcz7_0); (try clear hcz9_0); (try clear hfz12_0); (try clear hfz12_1); (try clear hfz12_2); (try clear hfz14_0); (try clear hfz7_0); (try clear hfz9_0); (try clear p2)
     obtain ⟨x4_2, x26_2, x307000_2, x307001_2, x307002_2, rfl, HA, HK2, HO_4, BK305, BK306, HB⟩ := hrel
     cases gk with
     | zero => exact absurd HA.out (by simp [impl_verify.l0])
     | succ k2 =>
      have H := HA.out
      clear HA
      simp only [impl_verify.l0] at H
      by_cases c15 : x26_2 < (l0_0.length : Int)
      ·rw [if_pos c15] at H
       have c15b0 : decide (x26_2 < (l0_0.length : Int)) = true := decide_eq_true c15
       clear c15
       by_cases c16 : 0 ≤ x26_2
       ·rw [if_pos c16] at H
        have c16b0 : decide (0 ≤ x26_2) = true := decide_eq_true c16
        clear c16
        by_cases c17 : x26_2 < (l0_0.length : Int)
        ·rw [if_pos c17] at H
         have c17b0 : decide (x26_2 < (l0_0.length : Int)) = true := decide_eq_true c17
         clear c17
         have HC18 := am H
         clear H
         have p307 : 0 ≤ (x26_2 : Int) := of_decide_eq_true as1
         have q307 : x26_2 < (l0_0.length : Int) := of_decide_eq_true as1
         obtain ⟨ad307, A307_2, c307_2, e307, hx307_0, hx307_1, hx307_2, hl307_2, hi307_2⟩ := at_T100 HR0_0.out x26_2 p307 q307
         cases e307
         replace hx307_0 := (HB.out.cell (World.block_lt_of_cell? w _ hx307_0)).trans hx307_0
         replace hx307_1 := (HB.out.cell (World.block_lt_of_cell? w _ hx307_1)).trans hx307_1
         replace hx307_2 := (HB.out.cell (World.block_lt_of_cell? w _ hx307_2)).trans hx307_2
         have HR307_2 := am hi307_2
         have HC307_2 := am hl307_2
         clear hi307_2 hl307_2
         replace p307 := eq_true p307
         replace q307 := eq_true q307
         go_upto_region 7 with (first | ((with_reducible refine gate_dst (N := 6) rfl ?_); (try (refine gate_guard (by rfl) ?_; dsimp only)); refine box_event ?hg (N := 6) ?hd (cs := #[.int .i64 0, .int .i64 0, .slice none 0 0]) (t := 100) ?hr ?_; (case hd => rfl); (case hg => rfl); (case hr => exact gs); intro gb308 hg w19 hbox hb; have n0_ := am (Kd.S_below (kS HO_4) hb); have n1_ := am (blk_below (g := gb305) (o := .cells #[.slice (some ad307) l0_0.length c0_0] 30 (0, 0)) (bp BK305) hb); have n2_ := am (blk_below (g := gb306) (o := .cells #[.int .i64 x307000_2, .int .i64 x307001_2, .int .i64 x307002_2] 84 (0, 0)) (bp BK306) hb); have n3_ := am (below_step (bw HB) hb); have n4_ := am (hbox); have n5_ := am ((by rw [hg]; exact (below_size (bw HB)) : w.heap.size ≤ gb308)); have n6_ := am ((by rw [hg]; exact (below_size (bw HB)) : w.heap.size ≤ gb308)); have n7_ := am ((by rw [hg]; exact Nat.ne_of_lt (blk_lt (g := gb305) (o := .cells #[.slice (some ad307) l0_0.length c0_0] 30 (0, 0)) (bp BK305)) : gb305 ≠ gb308)); have n8_ := am ((by rw [hg]; exact Nat.ne_of_gt (blk_lt (g := gb305) (o := .cells #[.slice (some ad307) l0_0.length c0_0] 30 (0, 0)) (bp BK305)) : gb308 ≠ gb305)); have n9_ := am ((by rw [hg]; exact Nat.ne_of_lt (blk_lt (g := gb306) (o := .cells #[.int .i64 x307000_2, .int .i64 x307001_2, .int .i64 x307002_2] 84 (0, 0)) (bp BK306)) : gb306 ≠ gb308)); have n10_ := am ((by rw [hg]; exact Nat.ne_of_gt (blk_lt (g := gb306) (o := .cells #[.int .i64 x307000_2, .int .i64 x307001_2, .int .i64 x307002_2] 84 (0, 0)) (bp BK306)) : gb308 ≠ gb306)); clear HO_4; clear BK305; clear BK306; clear HB; have HO_4 := n0_; have BK305 := n1_; have BK306 := n2_; have HB := n3_; have BK308 := n4_; have GW308 := n5_; have GE308 := n6_; have NB305_308 := n7_; have NB308_305 := n8_; have NB306_308 := n9_; have NB308_306 := n10_; clear n0_ n1_ n2_ n3_ n4_ n5_ n6_ n7_ n8_ n9_ n10_; clear hb hbox hg; have hnb20 := NB308_305.out; have hnc20 := NB305_308.out; have hnb21 := NB308_306.out; have hnc21 := NB306_308.out; have hcz22_0 : w19.cell? ⟨gb308, 0, none⟩ = some (.int .i64 0) := (blk_cell BK308.out 0).trans rfl; have hcz22_1 : w19.cell? ⟨gb308, 1, none⟩ = some (.int .i64 0) := (blk_cell BK308.out 1).trans rfl; have hcz22_2 : w19.cell? ⟨gb308, 2, none⟩ = some (.slice none 0 0) := (blk_cell BK308.out 2).trans rfl; have hfz22_0 := blk_frozen BK308.out 0; have hfz22_1 := blk_frozen BK308.out 1; have hfz22_2 := blk_frozen BK308.out 2))
         (try simp only [Act.put, sa, sz, ss])
         go_cut [49] (fun v49 wc => ∃ (kq : Nat) (x49_17 : Bool), v49 = .bool x49_17 ∧ Aside0 (impl_verify.j2 kq x4_2 x26_2 l0_0 (l0_0.length : Int) x26_2 x49_17 l0_0 ((rd_T100 l0_0 x26_2).f0) ((rd_T100 l0_0 x26_2).f1) ((rd_T100 l0_0 x26_2).f2) = some (r1, r2, r3, r4)) ∧ Aside0 (kq ≤ k2) ∧ Aside0 (Kd.S (Kd.slice 2 (Kd.int .i64)) 26 wc w.heap.size (fun _ => True) u4 x4_2) ∧ Aside0 (wc.heap[gb305]? = some (.cells #[(.slice (some ad307) l0_0.length c0_0)] 30 (0, 0))) ∧ Aside0 (wc.heap[gb306]? = some (.cells #[.int .i64 x307000_2, .int .i64 x307001_2, .int .i64 x307002_2] 84 (0, 0))) ∧ Aside0 (wc.heap[gb308]? = some (.cells #[.int .i64 ((rd_T100 l0_0 x26_2).f0), .int .i64 ((rd_T100 l0_0 x26_2).f1), (.slice A307_2 ((rd_T100 l0_0 x26_2).f2).length c307_2)] 100 (0, 0))) ∧ Aside0 (Below w.heap.size w wc))
         case first =>
          have H := HC18.out
          clear HC18
          replace H := Option.bind_eq_some_iff.mp H
          obtain ⟨t309, A230, H⟩ := H
          replace H : (if t309 = true then ((impl_in.f ((rd_T100 l0_0 x26_2).f1) ((rd_T100 l0_0 x26_2).f0) 8).bind fun t310 => (if t310 = true then ((impl_in.f (((rd_T100 l0_0 x26_2).f2).length : Int) 1 60).bind fun t311 => (impl_verify.j2 k2 x4_2 x26_2 l0_0 (l0_0.length : Int) x26_2 (!t311) l0_0 ((rd_T100 l0_0 x26_2).f0) ((rd_T100 l0_0 x26_2).f1) ((rd_T100 l0_0 x26_2).f2))) else (impl_verify.j2 k2 x4_2 x26_2 l0_0 (l0_0.length : Int) x26_2 true l0_0 ((rd_T100 l0_0 x26_2).f0) ((rd_T100 l0_0 x26_2).f1) ((rd_T100 l0_0 x26_2).f2)))) else (impl_verify.j2 k2 x4_2 x26_2 l0_0 (l0_0.length : Int) x26_2 true l0_0 ((rd_T100 l0_0 x26_2).f0) ((rd_T100 l0_0 x26_2).f1) ((rd_T100 l0_0 x26_2).f2))) = some (r1, r2, r3, r4) := H
          have A23 := am A230
          clear A230
          by_cases c24 : t309 = true
          ·subst c24
           have H1 : ((impl_in.f ((rd_T100 l0_0 x26_2).f1) ((rd_T100 l0_0 x26_2).f0) 8).bind fun t310 => (if t310 = true then ((impl_in.f (((rd_T100 l0_0 x26_2).f2).length : Int) 1 60).bind fun t311 => (impl_verify.j2 k2 x4_2 x26_2 l0_0 (l0_0.length : Int) x26_2 (!t311) l0_0 ((rd_T100 l0_0 x26_2).f0) ((rd_T100 l0_0 x26_2).f1) ((rd_T100 l0_0 x26_2).f2))) else (impl_verify.j2 k2 x4_2 x26_2 l0_0 (l0_0.length : Int) x26_2 true l0_0 ((rd_T100 l0_0 x26_2).f0) ((rd_T100 l0_0 x26_2).f1) ((rd_T100 l0_0 x26_2).f2)))) = some (r1, r2, r3, r4) := by rw [if_pos rfl] at H; exact H
           clear H
           have H := H1
           clear H1
           replace H := Option.bind_eq_some_iff.mp H
           obtain ⟨t310, A250, H⟩ := H
           replace H : (if t310 = true then ((impl_in.f (((rd_T100 l0_0 x26_2).f2).length : Int) 1 60).bind fun t311 => (impl_verify.j2 k2 x4_2 x26_2 l0_0 (l0_0.length : Int) x26_2 (!t311) l0_0 ((rd_T100 l0_0 x26_2).f0) ((rd_T100 l0_0 x26_2).f1) ((rd_T100 l0_0 x26_2).f2))) else (impl_verify.j2 k2 x4_2 x26_2 l0_0 (l0_0.length : Int) x26_2 true l0_0 ((rd_T100 l0_0 x26_2).f0) ((rd_T100 l0_0 x26_2).f1) ((rd_T100 l0_0 x26_2).f2))) = some (r1, r2, r3, r4) := H
           have A25 := am A250
           clear A250
           by_cases c26 : t310 = true
           ·subst c26
            have H1 : ((impl_in.f (((rd_T100 l0_0 x26_2).f2).length : Int) 1 60).bind fun t311 => (impl_verify.j2 k2 x4_2 x26_2 l0_0 (l0_0.length : Int) x26_2 (!t311) l0_0 ((rd_T100 l0_0 x26_2).f0) ((rd_T100 l0_0 x26_2).f1) ((rd_T100 l0_0 x26_2).f2))) = some (r1, r2, r3, r4) := by rw [if_pos rfl] at H; exact H
            clear H
            have H := H1
            clear H1
            replace H := Option.bind_eq_some_iff.mp H
            obtain ⟨t311, A270, H⟩ := H
            replace H : (impl_verify.j2 k2 x4_2 x26_2 l0_0 (l0_0.length : Int) x26_2 (!t311) l0_0 ((rd_T100 l0_0 x26_2).f0) ((rd_T100 l0_0 x26_2).f1) ((rd_T100 l0_0 x26_2).f2)) = some (r1, r2, r3, r4) := H
            have A27 := am A270
            clear A270
            have H' := am H
            clear H
            have hnb28 := NB308_305.out
            have hnc28 := NB305_308.out
            have hnb29 := NB308_306.out
            have hnc29 := NB306_308.out
            have hcz30_0 : w19.cell? ⟨gb308, 0, none⟩ = some (.int .i64 0) := (blk_cell BK308.out 0).trans rfl
            have hcz30_1 : w19.cell? ⟨gb308, 1, none⟩ = some (.int .i64 0) := (blk_cell BK308.out 1).trans rfl
            have hcz30_2 : w19.cell? ⟨gb308, 2, none⟩ = some (.slice none 0 0) := (blk_cell BK308.out 2).trans rfl
            have hfz30_0 := blk_frozen BK308.out 0
            have hfz30_1 := blk_frozen BK308.out 1
            have hfz30_2 := blk_frozen BK308.out 2
            go_wp2_with (first | ((with_reducible refine gate_callee (f := 85) rfl ?_); refine goesL_ (some 33) rfl rfl Try.func85 (by kernel_rfl) rfl #[.int .i64 ((rd_T100 l0_0 x26_2).f0), .int .i64 0, .int .i64 4] rfl gl ?_; (with_reducible refine (impl_in.calls ((rd_T100 l0_0 x26_2).f0) 0 4 true _ A23.out).mono ?_); rintro e w' ⟨rfl, ⟨nd, rfl⟩⟩; refine ⟨_, rfl, ?_⟩) | (go_at_call 85; (with_reducible refine (impl_in.calls ((rd_T100 l0_0 x26_2).f1) ((rd_T100 l0_0 x26_2).f0) 8 true _ A25.out).mono ?_); rintro e w' ⟨rfl, ⟨nd, rfl⟩⟩) | (go_at_call 85; (with_reducible refine (impl_in.calls (((rd_T100 l0_0 x26_2).f2).length : Int) 1 60 t311 _ A27.out).mono ?_); rintro e w' ⟨rfl, ⟨nd, rfl⟩⟩))
            go_meet
            case rel => exact ⟨_, (!t311), dr, H', ⟨by have := HJ1.out; have := HK2.out; first | omega | exact Nat.le_refl _⟩, ⟨by (with_reducible repeat (first | apply Kd.S_alloc | apply Kd.S_drewN | apply Kd.S_drew)); exact Kd.S_mono (Kd.S_far (p := ⟨gb308, 2, none⟩) (Kd.S_far (p := ⟨gb308, 1, none⟩) (Kd.S_far (p := ⟨gb308, 0, none⟩) (Kd.S_types HO_4.out BK308.out (by decide)) (fun _ hk => hk.2) (.int .i64 ((rd_T100 l0_0 x26_2).f0))) (fun _ hk => hk.2) (.int .i64 ((rd_T100 l0_0 x26_2).f1))) (fun _ hk => hk.2) (.slice A307_2 ((rd_T100 l0_0 x26_2).f2).length c307_2)) (fun _ hk => trivial)⟩, ⟨by (with_reducible repeat (first | apply dN | apply dW | apply dA)); refine blk_far ?_ NB305_308.out _; (with_reducible repeat (first | apply dN | apply dW | apply dA)); refine blk_far ?_ NB305_308.out _; (with_reducible repeat (first | apply dN | apply dW | apply dA)); refine blk_far ?_ NB305_308.out _; exact bp BK305⟩, ⟨by (with_reducible repeat (first | apply dN | apply dW | apply dA)); refine blk_far ?_ NB306_308.out _; (with_reducible repeat (first | apply dN | apply dW | apply dA)); refine blk_far ?_ NB306_308.out _; (with_reducible repeat (first | apply dN | apply dW | apply dA)); refine blk_far ?_ NB306_308.out _; exact bp BK306⟩, ⟨by (with_reducible repeat (first | apply dN | apply dW | apply dA)); refine blk_put (cs := #[.int .i64 ((rd_T100 l0_0 x26_2).f0), .int .i64 ((rd_T100 l0_0 x26_2).f1), .slice none 0 0]) ?_ 2 _ rfl; (with_reducible repeat (first | apply dN | apply dW | apply dA)); refine blk_put (cs := #[.int .i64 ((rd_T100 l0_0 x26_2).f0), .int .i64 0, .slice none 0 0]) ?_ 1 _ rfl; (with_reducible repeat (first | apply dN | apply dW | apply dA)); refine blk_put (cs := #[.int .i64 0, .int .i64 0, .slice none 0 0]) ?_ 0 _ rfl; exact bp BK308⟩, ⟨bw HB⟩⟩
           ·replace c26 := Bool.eq_false_iff.mpr c26
            subst c26
            have H1 : (impl_verify.j2 k2 x4_2 x26_2 l0_0 (l0_0.length : Int) x26_2 true l0_0 ((rd_T100 l0_0 x26_2).f0) ((rd_T100 l0_0 x26_2).f1) ((rd_T100 l0_0 x26_2).f2)) = some (r1, r2, r3, r4) := by rw [if_neg (show ¬ (false = true) by decide)] at H; exact H
            clear H
            have H := H1
            clear H1
            have H' := am H
            clear H
            have hnb31 := NB308_305.out
            have hnc31 := NB305_308.out
            have hnb32 := NB308_306.out
            have hnc32 := NB306_308.out
            have hcz33_0 : w19.cell? ⟨gb308, 0, none⟩ = some (.int .i64 0) := (blk_cell BK308.out 0).trans rfl
            have hcz33_1 : w19.cell? ⟨gb308, 1, none⟩ = some (.int .i64 0) := (blk_cell BK308.out 1).trans rfl
            have hcz33_2 : w19.cell? ⟨gb308, 2, none⟩ = some (.slice none 0 0) := (blk_cell BK308.out 2).trans rfl
            have hfz33_0 := blk_frozen BK308.out 0
            have hfz33_1 := blk_frozen BK308.out 1
            have hfz33_2 := blk_frozen BK308.out 2
            go_wp2_with (first | ((with_reducible refine gate_callee (f := 85) rfl ?_); refine goesL_ (some 33) rfl rfl Try.func85 (by kernel_rfl) rfl #[.int .i64 ((rd_T100 l0_0 x26_2).f0), .int .i64 0, .int .i64 4] rfl gl ?_; (with_reducible refine (impl_in.calls ((rd_T100 l0_0 x26_2).f0) 0 4 true _ A23.out).mono ?_); rintro e w' ⟨rfl, ⟨nd, rfl⟩⟩; refine ⟨_, rfl, ?_⟩) | (go_at_call 85; (with_reducible refine (impl_in.calls ((rd_T100 l0_0 x26_2).f1) ((rd_T100 l0_0 x26_2).f0) 8 false _ A25.out).mono ?_); rintro e w' ⟨rfl, ⟨nd, rfl⟩⟩))
            go_meet
            case rel => exact ⟨_, (true), dr, H', ⟨by have := HJ1.out; have := HK2.out; first | omega | exact Nat.le_refl _⟩, ⟨by (with_reducible repeat (first | apply Kd.S_alloc | apply Kd.S_drewN | apply Kd.S_drew)); exact Kd.S_mono (Kd.S_far (p := ⟨gb308, 2, none⟩) (Kd.S_far (p := ⟨gb308, 1, none⟩) (Kd.S_far (p := ⟨gb308, 0, none⟩) (Kd.S_types HO_4.out BK308.out (by decide)) (fun _ hk => hk.2) (.int .i64 ((rd_T100 l0_0 x26_2).f0))) (fun _ hk => hk.2) (.int .i64 ((rd_T100 l0_0 x26_2).f1))) (fun _ hk => hk.2) (.slice A307_2 ((rd_T100 l0_0 x26_2).f2).length c307_2)) (fun _ hk => trivial)⟩, ⟨by (with_reducible repeat (first | apply dN | apply dW | apply dA)); refine blk_far ?_ NB305_308.out _; (with_reducible repeat (first | apply dN | apply dW | apply dA)); refine blk_far ?_ NB305_308.out _; (with_reducible repeat (first | apply dN | apply dW | apply dA)); refine blk_far ?_ NB305_308.out _; exact bp BK305⟩, ⟨by (with_reducible repeat (first | apply dN | apply dW | apply dA)); refine blk_far ?_ NB306_308.out _; (with_reducible repeat (first | apply dN | apply dW | apply dA)); refine blk_far ?_ NB306_308.out _; (with_reducible repeat (first | apply dN | apply dW | apply dA)); refine blk_far ?_ NB306_308.out _; exact bp BK306⟩, ⟨by (with_reducible repeat (first | apply dN | apply dW | apply dA)); refine blk_put (cs := #[.int .i64 ((rd_T100 l0_0 x26_2).f0), .int .i64 ((rd_T100 l0_0 x26_2).f1), .slice none 0 0]) ?_ 2 _ rfl; (with_reducible repeat (first | apply dN | apply dW | apply dA)); refine blk_put (cs := #[.int .i64 ((rd_T100 l0_0 x26_2).f0), .int .i64 0, .slice none 0 0]) ?_ 1 _ rfl; (with_reducible repeat (first | apply dN | apply dW | apply dA)); refine blk_put (cs := #[.int .i64 0, .int .i64 0, .slice none 0 0]) ?_ 0 _ rfl; exact bp BK308⟩, ⟨bw HB⟩⟩
          ·replace c24 := Bool.eq_false_iff.mpr c24
           subst c24
           have H1 : (impl_verify.j2 k2 x4_2 x26_2 l0_0 (l0_0.length : Int) x26_2 true l0_0 ((rd_T100 l0_0 x26_2).f0) ((rd_T100 l0_0 x26_2).f1) ((rd_T100 l0_0 x26_2).f2)) = some (r1, r2, r3, r4) := by rw [if_neg (show ¬ (false = true) by decide)] at H; exact H
           clear H
           have H := H1
           clear H1
           have H' := am H
           clear H
           have hnb34 := NB308_305.out
           have hnc34 := NB305_308.out
           have hnb35 := NB308_306.out
           have hnc35 := NB306_308.out
           have hcz36_0 : w19.cell? ⟨gb308, 0, none⟩ = some (.int .i64 0) := (blk_cell BK308.out 0).trans rfl
           have hcz36_1 : w19.cell? ⟨gb308, 1, none⟩ = some (.int .i64 0) := (blk_cell BK308.out 1).trans rfl
           have hcz36_2 : w19.cell? ⟨gb308, 2, none⟩ = some (.slice none 0 0) := (blk_cell BK308.out 2).trans rfl
           have hfz36_0 := blk_frozen BK308.out 0
           have hfz36_1 := blk_frozen BK308.out 1
           have hfz36_2 := blk_frozen BK308.out 2
           go_wp2_with (first | ((with_reducible refine gate_callee (f := 85) rfl ?_); refine goesL_ (some 33) rfl rfl Try.func85 (by kernel_rfl) rfl #[.int .i64 ((rd_T100 l0_0 x26_2).f0), .int .i64 0, .int .i64 4] rfl gl ?_; (with_reducible refine (impl_in.calls ((rd_T100 l0_0 x26_2).f0) 0 4 false _ A23.out).mono ?_); rintro e w' ⟨rfl, ⟨nd, rfl⟩⟩; refine ⟨_, rfl, ?_⟩))
           go_meet
           case rel => exact ⟨_, (true), dr, H', ⟨by have := HJ1.out; have := HK2.out; first | omega | exact Nat.le_refl _⟩, ⟨by (with_reducible repeat (first | apply Kd.S_alloc | apply Kd.S_drewN | apply Kd.S_drew)); exact Kd.S_mono (Kd.S_far (p := ⟨gb308, 2, none⟩) (Kd.S_far (p := ⟨gb308, 1, none⟩) (Kd.S_far (p := ⟨gb308, 0, none⟩) (Kd.S_types HO_4.out BK308.out (by decide)) (fun _ hk => hk.2) (.int .i64 ((rd_T100 l0_0 x26_2).f0))) (fun _ hk => hk.2) (.int .i64 ((rd_T100 l0_0 x26_2).f1))) (fun _ hk => hk.2) (.slice A307_2 ((rd_T100 l0_0 x26_2).f2).length c307_2)) (fun _ hk => trivial)⟩, ⟨by (with_reducible repeat (first | apply dN | apply dW | apply dA)); refine blk_far ?_ NB305_308.out _; (with_reducible repeat (first | apply dN | apply dW | apply dA)); refine blk_far ?_ NB305_308.out _; (with_reducible repeat (first | apply dN | apply dW | apply dA)); refine blk_far ?_ NB305_308.out _; exact bp BK305⟩, ⟨by (with_reducible repeat (first | apply dN | apply dW | apply dA)); refine blk_far ?_ NB306_308.out _; (with_reducible repeat (first | apply dN | apply dW | apply dA)); refine blk_far ?_ NB306_308.out _; (with_reducible repeat (first | apply dN | apply dW | apply dA)); refine blk_far ?_ NB306_308.out _; exact bp BK306⟩, ⟨by (with_reducible repeat (first | apply dN | apply dW | apply dA)); refine blk_put (cs := #[.int .i64 ((rd_T100 l0_0 x26_2).f0), .int .i64 ((rd_T100 l0_0 x26_2).f1), .slice none 0 0]) ?_ 2 _ rfl; (with_reducible repeat (first | apply dN | apply dW | apply dA)); refine blk_put (cs := #[.int .i64 ((rd_T100 l0_0 x26_2).f0), .int .i64 0, .slice none 0 0]) ?_ 1 _ rfl; (with_reducible repeat (first | apply dN | apply dW | apply dA)); refine blk_put (cs := #[.int .i64 0, .int .i64 0, .slice none 0 0]) ?_ 0 _ rfl; exact bp BK308⟩, ⟨bw HB⟩⟩
         case rest =>
          clear HC18
          (try clear c1); (try clear c2); (try clear p2); (try clear c3); (try clear p3); (try clear q3); (try clear hx3); (try clear c5); (try clear c5b0); (try clear c5b1); (try clear c6); (try clear c8); (try clear c10); (try clear c11); (try clear c12); (try clear c13); (try clear c15); (try clear c15b0); (try clear c16); (try clear c16b0); (try clear c17); (try clear c17b0); (try clear c20); (try clear c21); (try clear c24); (try clear c26); (try clear c28); (try clear c29); (try clear c30); (try clear p30); (try clear q30); (try clear hx30); (try clear c31); (try clear c32); (try clear c34); (try clear c35); (try clear hcz12_0); (try clear hcz12_1); (try clear hcz12_2); (try clear hcz14_0); (try clear hcz22_0); (try clear hcz22_1); (try clear hcz22_2); (try clear hcz30_0); (try clear hcz30_1); (try clear hcz30_2); (try clear hcz33_0); (try clear hcz33_1); (try clear hcz33_2); (try clear hcz36_0); (try clear hcz36_1); (try clear hcz36_2); (try clear hcz7_0); (try clear hcz9_0); (try clear hfz12_0); (try clear hfz12_1); (try clear hfz12_2); (try clear hfz14_0); (try clear hfz22_0); (try clear hfz22_1); (try clear hfz22_2); (try clear hfz30_0); (try clear hfz30_1); (try clear hfz30_2); (try clear hfz33_0); (try clear hfz33_1); (try clear hfz33_2); (try clear hfz36_0); (try clear hfz36_1); (try clear hfz36_2); (try clear hfz7_0); (try clear hfz9_0); (try clear hx307_0); (try clear hx307_1); (try clear hx307_2); (try clear p2); (try clear p307); (try clear q307)
          obtain ⟨kq, x49_17, rfl, HA, HJ17, HO_4, BK305, BK306, BK308, HB⟩ := hcut
          cases kq with
          | zero => exact absurd HA.out (by simp [impl_verify.j2])
          | succ kj17 =>
           have H := HA.out
           clear HA
           simp only [impl_verify.j2] at H
           by_cases c37 : x49_17 = true
           ·subst c37
            have H1 : (some (x26_2, 0, 1, ([] : List (List Int)))) = some (r1, r2, r3, r4) := by rw [if_pos rfl] at H; exact H
            clear H
            have H := H1
            clear H1
            simp only [Option.some.injEq, Prod.mk.injEq] at H
            obtain ⟨rfl, rfl, rfl, rfl⟩ := H
            have hnb38 := NB306_305.out
            have hnc38 := NB305_306.out
            have hnb39 := NB306_308.out
            have hnc39 := NB308_306.out
            have hcz40_0 : wc.cell? ⟨gb306, 0, none⟩ = some (.int .i64 x307000_2) := (blk_cell BK306.out 0).trans rfl
            have hcz40_1 : wc.cell? ⟨gb306, 1, none⟩ = some (.int .i64 x307001_2) := (blk_cell BK306.out 1).trans rfl
            have hcz40_2 : wc.cell? ⟨gb306, 2, none⟩ = some (.int .i64 x307002_2) := (blk_cell BK306.out 2).trans rfl
            have hfz40_0 := blk_frozen BK306.out 0
            have hfz40_1 := blk_frozen BK306.out 1
            have hfz40_2 := blk_frozen BK306.out 2
            go_wp2
            refine bodyPost_ret (results_ct rfl _ _ gb306 84 #[.int .i64 x26_2, .int .i64 0, .int .i64 1] (0, 0) _ rfl (by (with_reducible repeat (first | apply dN | apply dW | apply dA)); refine blk_put (cs := #[.int .i64 x26_2, .int .i64 0, .int .i64 x307002_2]) ?_ 2 _ rfl; (with_reducible repeat (first | apply dN | apply dW | apply dA)); refine blk_put (cs := #[.int .i64 x26_2, .int .i64 x307001_2, .int .i64 x307002_2]) ?_ 1 _ rfl; (with_reducible repeat (first | apply dN | apply dW | apply dA)); refine blk_put (cs := #[.int .i64 x307000_2, .int .i64 x307001_2, .int .i64 x307002_2]) ?_ 0 _ rfl; exact bp BK306) Try.underlying84 rfl (by kernel_rfl)) rfl ?_
            exact ⟨_, er, by first | exact Kd.S_nil _ _ _ _ _ | exact Kd.N_nil _ _ _ _ _ | exact Kd.V_nil _ _ _ _ _ | exact Kd.Q_nil _ _ _ _ _ | exact Kd.R_nil _ _ _ _ _, bw HB⟩
           ·replace c37 := Bool.eq_false_iff.mpr c37
            subst c37
            have H1 : (impl_verify.l1 kj17 x4_2 x26_2 l0_0 (l0_0.length : Int) x26_2 ((rd_T100 l0_0 x26_2).f2) (((rd_T100 l0_0 x26_2).f2).length : Int) 0 l0_0) = some (r1, r2, r3, r4) := by rw [if_neg (show ¬ (false = true) by decide)] at H; exact H
            clear H
            have H := H1
            clear H1
            have H' := am H
            clear H
            have hnb41 := NB308_305.out
            have hnc41 := NB305_308.out
            have hnb42 := NB308_306.out
            have hnc42 := NB306_308.out
            have hcz43_0 : wc.cell? ⟨gb308, 0, none⟩ = some (.int .i64 ((rd_T100 l0_0 x26_2).f0)) := (blk_cell BK308.out 0).trans rfl
            have hcz43_1 : wc.cell? ⟨gb308, 1, none⟩ = some (.int .i64 ((rd_T100 l0_0 x26_2).f1)) := (blk_cell BK308.out 1).trans rfl
            have hcz43_2 : wc.cell? ⟨gb308, 2, none⟩ = some (.slice A307_2 ((rd_T100 l0_0 x26_2).f2).length c307_2) := (blk_cell BK308.out 2).trans rfl
            have hfz43_0 := blk_frozen BK308.out 0
            have hfz43_1 := blk_frozen BK308.out 1
            have hfz43_2 := blk_frozen BK308.out 2
            go_wp2
            go_loopg [55] kj17 (fun kq v55 w' => ∃ (x55_4 : Int) (x307000_4 : Int) (x307001_4 : Int) (x307002_4 : Int), v55 = .int .i64 x55_4 ∧ Aside0 (impl_verify.l1 kq x4_2 x26_2 l0_0 (l0_0.length : Int) x26_2 ((rd_T100 l0_0 x26_2).f2) (((rd_T100 l0_0 x26_2).f2).length : Int) x55_4 l0_0 = some (r1, r2, r3, r4)) ∧ Aside0 (kq ≤ kj17) ∧ Aside0 (Kd.S (Kd.slice 2 (Kd.int .i64)) 26 w' w.heap.size (fun _ => True) u4 x4_2) ∧ Aside0 (w'.heap[gb305]? = some (.cells #[(.slice (some ad307) l0_0.length c0_0)] 30 (0, 0))) ∧ Aside0 (w'.heap[gb306]? = some (.cells #[.int .i64 x307000_4, .int .i64 x307001_4, .int .i64 x307002_4] 84 (0, 0))) ∧ Aside0 (w'.heap[gb308]? = some (.cells #[.int .i64 ((rd_T100 l0_0 x26_2).f0), .int .i64 ((rd_T100 l0_0 x26_2).f1), (.slice A307_2 ((rd_T100 l0_0 x26_2).f2).length c307_2)] 100 (0, 0))) ∧ Aside0 (Below w.heap.size w w'))
            case atStart => exact ⟨(0), (x307000_2), (x307001_2), (x307002_2), dr, H', ⟨Nat.le_refl _⟩, ⟨kS HO_4⟩, ⟨bp BK305⟩, ⟨bp BK306⟩, ⟨bp BK308⟩, ⟨bw HB⟩⟩
            case round =>
             clear H'
             (try clear c1); (try clear c2); (try clear p2); (try clear c3); (try clear p3); (try clear q3); (try clear hx3); (try clear c4); (try clear c5); (try clear c5b0); (try clear c5b1); (try clear c6); (try clear c8); (try clear c10); (try clear c11); (try clear c12); (try clear c13); (try clear c15); (try clear c15b0); (try clear c16); (try clear c16b0); (try clear c17); (try clear c17b0); (try clear c20); (try clear c21); (try clear c24); (try clear c26); (try clear c28); (try clear c29); (try clear c30); (try clear p30); (try clear q30); (try clear hx30); (try clear c31); (try clear c32); (try clear c34); (try clear c35); (try clear c37); (try clear c38); (try clear c39); (try clear c41); (try clear c42); (try clear hcz12_0); (try clear hcz12_1); (try clear hcz12_2); (try clear hcz14_0); (try clear hcz22_0); (try clear hcz22_1); (try clear hcz22_2); (try clear hcz30_0); (try clear hcz30_1); (try clear hcz30_2); (try clear hcz33_0); (try clear hcz33_1); (try clear hcz33_2); (try clear hcz36_0); (try clear hcz36_1); (try clear hcz36_2); (try clear hcz40_0); (try clear hcz40_1); (try clear hcz40_2); (try clear hcz43_0); (try clear hcz43_1); (try clear hcz43_2); (try clear hcz7_0); (try clear hcz9_0); (try clear hfz12_0); (try clear hfz12_1); (try clear hfz12_2); (try clear hfz14_0); (try clear hfz22_0); (try clear hfz22_1); (try clear hfz22_2); (try clear hfz30_0); (try clear hfz30_1); (try clear hfz30_2); (try clear hfz33_0); (try clear hfz33_1); (try clear hfz33_2); (try clear hfz36_0); (try clear hfz36_1); (try clear hfz36_2); (try clear hfz40_0); (try clear hfz40_1); (try clear hfz40_2); (try clear hfz43_0); (try clear hfz43_1); (try clear hfz43_2); (try clear hfz7_0); (try clear hfz9_0); (try clear hx307_0); (try clear hx307_1); (try clear hx307_2); (try clear p2); (try clear p3); (try clear p30); (try clear p307); (try clear q3); (try clear q30); (try clear q307)
             obtain ⟨x55_4, x307000_4, x307001_4, x307002_4, rfl, HA, HK4, HO_4, BK305, BK306, BK308, HB⟩ := hrel
             cases gk with
             | zero => exact absurd HA.out (by simp [impl_verify.l1])
             | succ k4 =>
              have H := HA.out
              clear HA
              simp only [impl_verify.l1] at H
              by_cases c44 : x55_4 < (((rd_T100 l0_0 x26_2).f2).length : Int)
              ·rw [if_pos c44] at H
               have c44b0 : decide (x55_4 < (((rd_T100 l0_0 x26_2).f2).length : Int)) = true := decide_eq_true c44
               clear c44
               by_cases c45 : 0 ≤ x55_4
               ·rw [if_pos c45] at H
                have c45b0 : decide (0 ≤ x55_4) = true := decide_eq_true c45
                clear c45
                by_cases c46 : x55_4 < (((rd_T100 l0_0 x26_2).f2).length : Int)
                ·rw [if_pos c46] at H
                 have c46b0 : decide (x55_4 < (((rd_T100 l0_0 x26_2).f2).length : Int)) = true := decide_eq_true c46
                 clear c46
                 replace H := Option.bind_eq_some_iff.mp H
                 obtain ⟨t314, A470, H⟩ := H
                 replace H : (if t314 = true then (impl_verify.l1 k4 x4_2 x26_2 l0_0 (l0_0.length : Int) x26_2 ((rd_T100 l0_0 x26_2).f2) (((rd_T100 l0_0 x26_2).f2).length : Int) (wrap64 (x55_4 + 1)) l0_0) else (some (x26_2, x55_4, 1, ([] : List (List Int))))) = some (r1, r2, r3, r4) := H
                 have A47 := am A470
                 clear A470
                 by_cases c48 : t314 = true
                 ·subst c48
                  have H1 : (impl_verify.l1 k4 x4_2 x26_2 l0_0 (l0_0.length : Int) x26_2 ((rd_T100 l0_0 x26_2).f2) (((rd_T100 l0_0 x26_2).f2).length : Int) (wrap64 (x55_4 + 1)) l0_0) = some (r1, r2, r3, r4) := by rw [if_pos rfl] at H; exact H
                  clear H
                  have H := H1
                  clear H1
                  have H' := am H
                  clear H
                  have p312 : 0 ≤ (x55_4 : Int) := of_decide_eq_true as1
                  have q312 : x55_4 < (((rd_T100 l0_0 x26_2).f2).length : Int) := of_decide_eq_true as1
                  obtain ⟨ad312, e312, hx312_0, hx312_1⟩ := at_T102 HR307_2.out x55_4 p312 q312
                  cases e312
                  replace hx312_0 := (HB.out.cell (World.block_lt_of_cell? w _ hx312_0)).trans hx312_0
                  replace hx312_1 := (HB.out.cell (World.block_lt_of_cell? w _ hx312_1)).trans hx312_1
                  replace p312 := eq_true p312
                  replace q312 := eq_true q312
                  go_wp2_with (first | ((with_reducible refine gate_dst (N := 8) rfl ?_); (try (refine gate_guard (by rfl) ?_; dsimp only)); refine box_event ?hg (N := 8) ?hd (cs := #[.int .i64 0, .int .i64 0]) (t := 102) ?hr ?_; (case hd => rfl); (case hg => rfl); (case hr => exact gs); intro gb313 hg w49 hbox hb; have n0_ := am (Kd.S_below (kS HO_4) hb); have n1_ := am (blk_below (g := gb305) (o := .cells #[.slice (some ad307) l0_0.length c0_0] 30 (0, 0)) (bp BK305) hb); have n2_ := am (blk_below (g := gb306) (o := .cells #[.int .i64 x307000_4, .int .i64 x307001_4, .int .i64 x307002_4] 84 (0, 0)) (bp BK306) hb); have n3_ := am (blk_below (g := gb308) (o := .cells #[.int .i64 ((rd_T100 l0_0 x26_2).f0), .int .i64 ((rd_T100 l0_0 x26_2).f1), .slice (some ad312) ((rd_T100 l0_0 x26_2).f2).length c307_2] 100 (0, 0)) (bp BK308) hb); have n4_ := am (below_step (bw HB) hb); have n5_ := am (hbox); have n6_ := am ((by rw [hg]; exact (below_size (bw HB)) : w.heap.size ≤ gb313)); have n7_ := am ((by rw [hg]; exact (below_size (bw HB)) : w.heap.size ≤ gb313)); have n8_ := am ((by rw [hg]; exact Nat.ne_of_lt (blk_lt (g := gb305) (o := .cells #[.slice (some ad307) l0_0.length c0_0] 30 (0, 0)) (bp BK305)) : gb305 ≠ gb313)); have n9_ := am ((by rw [hg]; exact Nat.ne_of_gt (blk_lt (g := gb305) (o := .cells #[.slice (some ad307) l0_0.length c0_0] 30 (0, 0)) (bp BK305)) : gb313 ≠ gb305)); have n10_ := am ((by rw [hg]; exact Nat.ne_of_lt (blk_lt (g := gb306) (o := .cells #[.int .i64 x307000_4, .int .i64 x307001_4, .int .i64 x307002_4] 84 (0, 0)) (bp BK306)) : gb306 ≠ gb313)); have n11_ := am ((by rw [hg]; exact Nat.ne_of_gt (blk_lt (g := gb306) (o := .cells #[.int .i64 x307000_4, .int .i64 x307001_4, .int .i64 x307002_4] 84 (0, 0)) (bp BK306)) : gb313 ≠ gb306)); have n12_ := am ((by rw [hg]; exact Nat.ne_of_lt (blk_lt (g := gb308) (o := .cells #[.int .i64 ((rd_T100 l0_0 x26_2).f0), .int .i64 ((rd_T100 l0_0 x26_2).f1), .slice (some ad312) ((rd_T100 l0_0 x26_2).f2).length c307_2] 100 (0, 0)) (bp BK308)) : gb308 ≠ gb313)); have n13_ := am ((by rw [hg]; exact Nat.ne_of_gt (blk_lt (g := gb308) (o := .cells #[.int .i64 ((rd_T100 l0_0 x26_2).f0), .int .i64 ((rd_T100 l0_0 x26_2).f1), .slice (some ad312) ((rd_T100 l0_0 x26_2).f2).length c307_2] 100 (0, 0)) (bp BK308)) : gb313 ≠ gb308)); clear HO_4; clear BK305; clear BK306; clear BK308; clear HB; have HO_4 := n0_; have BK305 := n1_; have BK306 := n2_; have BK308 := n3_; have HB := n4_; have BK313 := n5_; have GW313 := n6_; have GE313 := n7_; have NB305_313 := n8_; have NB313_305 := n9_; have NB306_313 := n10_; have NB313_306 := n11_; have NB308_313 := n12_; have NB313_308 := n13_; clear n0_ n1_ n2_ n3_ n4_ n5_ n6_ n7_ n8_ n9_ n10_ n11_ n12_ n13_; clear hb hbox hg; have hnb50 := NB313_305.out; have hnc50 := NB305_313.out; have hnb51 := NB313_306.out; have hnc51 := NB306_313.out; have hnb52 := NB313_308.out; have hnc52 := NB308_313.out; have hcz53_0 : w49.cell? ⟨gb313, 0, none⟩ = some (.int .i64 0) := (blk_cell BK313.out 0).trans rfl; have hcz53_1 : w49.cell? ⟨gb313, 1, none⟩ = some (.int .i64 0) := (blk_cell BK313.out 1).trans rfl; have hfz53_0 := blk_frozen BK313.out 0; have hfz53_1 := blk_frozen BK313.out 1; have hnb54 := NB305_306.out; have hnc54 := NB306_305.out; have hnb55 := NB305_308.out; have hnc55 := NB308_305.out; have hcz56_0 : w49.cell? ⟨gb305, 0, none⟩ = some (.slice (some ad307) l0_0.length c0_0) := (blk_cell BK305.out 0).trans rfl; have hfz56_0 := blk_frozen BK305.out 0) | ((with_reducible refine gate_callee (f := 173) rfl ?_); refine goesL_ (some 63) rfl rfl Try.func173 (by kernel_rfl) rfl #[.agg #[.slice (some ad307) l0_0.length c0_0], .int .i64 x26_2, .agg #[.int .i64 ((rd_T102 ((rd_T100 l0_0 x26_2).f2) x55_4).f0), .int .i64 ((rd_T102 ((rd_T100 l0_0 x26_2).f2) x55_4).f1)]] rfl gl ?_; (with_reducible refine (impl_InsRight.calls k4 _ _ l0_0 x26_2 ((rd_T102 ((rd_T100 l0_0 x26_2).f2) x55_4).f0) ((rd_T102 ((rd_T100 l0_0 x26_2).f2) x55_4).f1) true _ ?side1 ?side2 A47.out).mono ?_); (case side1 => exact Kd.C_below HR0_0.out (bw HB)); (case side2 => exact HC0_0.out); rintro e w57 ⟨rfl, hb⟩; refine ⟨_, rfl, ?_⟩; have n0_ := am (Kd.S_below (by (with_reducible repeat (first | apply Kd.S_alloc | apply Kd.S_drewN | apply Kd.S_drew)); exact (Kd.S_mono (Kd.S_far (p := ⟨gb313, 1, none⟩) (Kd.S_far (p := ⟨gb313, 0, none⟩) (Kd.S_types HO_4.out BK313.out (by decide)) (fun _ hk => hk.2) (.int .i64 ((rd_T102 ((rd_T100 l0_0 x26_2).f2) x55_4).f0))) (fun _ hk => hk.2) (.int .i64 ((rd_T102 ((rd_T100 l0_0 x26_2).f2) x55_4).f1))) (fun _ h_ => h_.1))) hb); have n1_ := am (blk_below (g := gb305) (o := .cells #[.slice (some ad307) l0_0.length c0_0] 30 (0, 0)) (by (with_reducible repeat (first | apply dN | apply dW | apply dA)); refine blk_far ?_ NB305_313.out _; (with_reducible repeat (first | apply dN | apply dW | apply dA)); refine blk_far ?_ NB305_313.out _; exact bp BK305) hb); have n2_ := am (blk_below (g := gb306) (o := .cells #[.int .i64 x307000_4, .int .i64 x307001_4, .int .i64 x307002_4] 84 (0, 0)) (by (with_reducible repeat (first | apply dN | apply dW | apply dA)); refine blk_far ?_ NB306_313.out _; (with_reducible repeat (first | apply dN | apply dW | apply dA)); refine blk_far ?_ NB306_313.out _; exact bp BK306) hb); have n3_ := am (blk_below (g := gb308) (o := .cells #[.int .i64 ((rd_T100 l0_0 x26_2).f0), .int .i64 ((rd_T100 l0_0 x26_2).f1), .slice (some ad312) ((rd_T100 l0_0 x26_2).f2).length c307_2] 100 (0, 0)) (by (with_reducible repeat (first | apply dN | apply dW | apply dA)); refine blk_far ?_ NB308_313.out _; (with_reducible repeat (first | apply dN | apply dW | apply dA)); refine blk_far ?_ NB308_313.out _; exact bp BK308) hb); have n4_ := am (blk_below (g := gb313) (o := .cells #[.int .i64 ((rd_T102 ((rd_T100 l0_0 x26_2).f2) x55_4).f0), .int .i64 ((rd_T102 ((rd_T100 l0_0 x26_2).f2) x55_4).f1)] 102 (0, 0)) (by (with_reducible repeat (first | apply dN | apply dW | apply dA)); refine blk_put (cs := #[.int .i64 ((rd_T102 ((rd_T100 l0_0 x26_2).f2) x55_4).f0), .int .i64 0]) ?_ 1 _ rfl; (with_reducible repeat (first | apply dN | apply dW | apply dA)); refine blk_put (cs := #[.int .i64 0, .int .i64 0]) ?_ 0 _ rfl; exact bp BK313) hb); have n5_ := am (below_step (bw HB) hb); clear HO_4; clear BK305; clear BK306; clear BK308; clear BK313; clear HB; have HO_4 := n0_; have BK305 := n1_; have BK306 := n2_; have BK308 := n3_; have BK313 := n4_; have HB := n5_; clear n0_ n1_ n2_ n3_ n4_ n5_; (try clear hb); (try clear hb2); (try clear hk); (try clear hi)))
                  go_roundg k4
                  case measure => have := HJ1.out; have := HK2.out; have := HJ17.out; have := HK4.out; omega
                  case rel => exact ⟨(wrap64 (x55_4 + 1)), (x307000_4), (x307001_4), (x307002_4), dr, H', ⟨by have := HJ1.out; have := HK2.out; have := HJ17.out; have := HK4.out; omega⟩, ⟨kS HO_4⟩, ⟨bp BK305⟩, ⟨bp BK306⟩, ⟨bp BK308⟩, ⟨bw HB⟩⟩
                 ·replace c48 := Bool.eq_false_iff.mpr c48
                  subst c48
                  have H1 : (some (x26_2, x55_4, 1, ([] : List (List Int)))) = some (r1, r2, r3, r4) := by rw [if_neg (show ¬ (false = true) by decide)] at H; exact H
                  clear H
                  have H := H1
                  clear H1
                  simp only [Option.some.injEq, Prod.mk.injEq] at H
                  obtain ⟨rfl, rfl, rfl, rfl⟩ := H
                  have p312 : 0 ≤ (x55_4 : Int) := of_decide_eq_true as1
                  have q312 : x55_4 < (((rd_T100 l0_0 x26_2).f2).length : Int) := of_decide_eq_true as1
                  obtain ⟨ad312, e312, hx312_0, hx312_1⟩ := at_T102 HR307_2.out x55_4 p312 q312
                  cases e312
                  replace hx312_0 := (HB.out.cell (World.block_lt_of_cell? w _ hx312_0)).trans hx312_0
                  replace hx312_1 := (HB.out.cell (World.block_lt_of_cell? w _ hx312_1)).trans hx312_1
                  replace p312 := eq_true p312
                  replace q312 := eq_true q312
                  go_wp2_with (first | ((with_reducible refine gate_dst (N := 8) rfl ?_); (try (refine gate_guard (by rfl) ?_; dsimp only)); refine box_event ?hg (N := 8) ?hd (cs := #[.int .i64 0, .int .i64 0]) (t := 102) ?hr ?_; (case hd => rfl); (case hg => rfl); (case hr => exact gs); intro gb313 hg w58 hbox hb; have n0_ := am (Kd.S_below (kS HO_4) hb); have n1_ := am (blk_below (g := gb305) (o := .cells #[.slice (some ad307) l0_0.length c0_0] 30 (0, 0)) (bp BK305) hb); have n2_ := am (blk_below (g := gb306) (o := .cells #[.int .i64 x307000_4, .int .i64 x307001_4, .int .i64 x307002_4] 84 (0, 0)) (bp BK306) hb); have n3_ := am (blk_below (g := gb308) (o := .cells #[.int .i64 ((rd_T100 l0_0 x26_2).f0), .int .i64 ((rd_T100 l0_0 x26_2).f1), .slice (some ad312) ((rd_T100 l0_0 x26_2).f2).length c307_2] 100 (0, 0)) (bp BK308) hb); have n4_ := am (below_step (bw HB) hb); have n5_ := am (hbox); have n6_ := am ((by rw [hg]; exact (below_size (bw HB)) : w.heap.size ≤ gb313)); have n7_ := am ((by rw [hg]; exact (below_size (bw HB)) : w.heap.size ≤ gb313)); have n8_ := am ((by rw [hg]; exact Nat.ne_of_lt (blk_lt (g := gb305) (o := .cells #[.slice (some ad307) l0_0.length c0_0] 30 (0, 0)) (bp BK305)) : gb305 ≠ gb313)); have n9_ := am ((by rw [hg]; exact Nat.ne_of_gt (blk_lt (g := gb305) (o := .cells #[.slice (some ad307) l0_0.length c0_0] 30 (0, 0)) (bp BK305)) : gb313 ≠ gb305)); have n10_ := am ((by rw [hg]; exact Nat.ne_of_lt (blk_lt (g := gb306) (o := .cells #[.int .i64 x307000_4, .int .i64 x307001_4, .int .i64 x307002_4] 84 (0, 0)) (bp BK306)) : gb306 ≠ gb313)); have n11_ := am ((by rw [hg]; exact Nat.ne_of_gt (blk_lt (g := gb306) (o := .cells #[.int .i64 x307000_4, .int .i64 x307001_4, .int .i64 x307002_4] 84 (0, 0)) (bp BK306)) : gb313 ≠ gb306)); have n12_ := am ((by rw [hg]; exact Nat.ne_of_lt (blk_lt (g := gb308) (o := .cells #[.int .i64 ((rd_T100 l0_0 x26_2).f0), .int .i64 ((rd_T100 l0_0 x26_2).f1), .slice (some ad312) ((rd_T100 l0_0 x26_2).f2).length c307_2] 100 (0, 0)) (bp BK308)) : gb308 ≠ gb313)); have n13_ := am ((by rw [hg]; exact Nat.ne_of_gt (blk_lt (g := gb308) (o := .cells #[.int .i64 ((rd_T100 l0_0 x26_2).f0), .int .i64 ((rd_T100 l0_0 x26_2).f1), .slice (some ad312) ((rd_T100 l0_0 x26_2).f2).length c307_2] 100 (0, 0)) (bp BK308)) : gb313 ≠ gb308)); clear HO_4; clear BK305; clear BK306; clear BK308; clear HB; have HO_4 := n0_; have BK305 := n1_; have BK306 := n2_; have BK308 := n3_; have HB := n4_; have BK313 := n5_; have GW313 := n6_; have GE313 := n7_; have NB305_313 := n8_; have NB313_305 := n9_; have NB306_313 := n10_; have NB313_306 := n11_; have NB308_313 := n12_; have NB313_308 := n13_; clear n0_ n1_ n2_ n3_ n4_ n5_ n6_ n7_ n8_ n9_ n10_ n11_ n12_ n13_; clear hb hbox hg; have hnb59 := NB313_305.out; have hnc59 := NB305_313.out; have hnb60 := NB313_306.out; have hnc60 := NB306_313.out; have hnb61 := NB313_308.out; have hnc61 := NB308_313.out; have hcz62_0 : w58.cell? ⟨gb313, 0, none⟩ = some (.int .i64 0) := (blk_cell BK313.out 0).trans rfl; have hcz62_1 : w58.cell? ⟨gb313, 1, none⟩ = some (.int .i64 0) := (blk_cell BK313.out 1).trans rfl; have hfz62_0 := blk_frozen BK313.out 0; have hfz62_1 := blk_frozen BK313.out 1; have hnb63 := NB305_306.out; have hnc63 := NB306_305.out; have hnb64 := NB305_308.out; have hnc64 := NB308_305.out; have hcz65_0 : w58.cell? ⟨gb305, 0, none⟩ = some (.slice (some ad307) l0_0.length c0_0) := (blk_cell BK305.out 0).trans rfl; have hfz65_0 := blk_frozen BK305.out 0) | ((with_reducible refine gate_callee (f := 173) rfl ?_); refine goesL_ (some 63) rfl rfl Try.func173 (by kernel_rfl) rfl #[.agg #[.slice (some ad307) l0_0.length c0_0], .int .i64 x26_2, .agg #[.int .i64 ((rd_T102 ((rd_T100 l0_0 x26_2).f2) x55_4).f0), .int .i64 ((rd_T102 ((rd_T100 l0_0 x26_2).f2) x55_4).f1)]] rfl gl ?_; (with_reducible refine (impl_InsRight.calls k4 _ _ l0_0 x26_2 ((rd_T102 ((rd_T100 l0_0 x26_2).f2) x55_4).f0) ((rd_T102 ((rd_T100 l0_0 x26_2).f2) x55_4).f1) false _ ?side1 ?side2 A47.out).mono ?_); (case side1 => exact Kd.C_below HR0_0.out (bw HB)); (case side2 => exact HC0_0.out); rintro e w66 ⟨rfl, hb⟩; refine ⟨_, rfl, ?_⟩; have n0_ := am (Kd.S_below (by (with_reducible repeat (first | apply Kd.S_alloc | apply Kd.S_drewN | apply Kd.S_drew)); exact (Kd.S_mono (Kd.S_far (p := ⟨gb313, 1, none⟩) (Kd.S_far (p := ⟨gb313, 0, none⟩) (Kd.S_types HO_4.out BK313.out (by decide)) (fun _ hk => hk.2) (.int .i64 ((rd_T102 ((rd_T100 l0_0 x26_2).f2) x55_4).f0))) (fun _ hk => hk.2) (.int .i64 ((rd_T102 ((rd_T100 l0_0 x26_2).f2) x55_4).f1))) (fun _ h_ => h_.1))) hb); have n1_ := am (blk_below (g := gb305) (o := .cells #[.slice (some ad307) l0_0.length c0_0] 30 (0, 0)) (by (with_reducible repeat (first | apply dN | apply dW | apply dA)); refine blk_far ?_ NB305_313.out _; (with_reducible repeat (first | apply dN | apply dW | apply dA)); refine blk_far ?_ NB305_313.out _; exact bp BK305) hb); have n2_ := am (blk_below (g := gb306) (o := .cells #[.int .i64 x307000_4, .int .i64 x307001_4, .int .i64 x307002_4] 84 (0, 0)) (by (with_reducible repeat (first | apply dN | apply dW | apply dA)); refine blk_far ?_ NB306_313.out _; (with_reducible repeat (first | apply dN | apply dW | apply dA)); refine blk_far ?_ NB306_313.out _; exact bp BK306) hb); have n3_ := am (blk_below (g := gb308) (o := .cells #[.int .i64 ((rd_T100 l0_0 x26_2).f0), .int .i64 ((rd_T100 l0_0 x26_2).f1), .slice (some ad312) ((rd_T100 l0_0 x26_2).f2).length c307_2] 100 (0, 0)) (by (with_reducible repeat (first | apply dN | apply dW | apply dA)); refine blk_far ?_ NB308_313.out _; (with_reducible repeat (first | apply dN | apply dW | apply dA)); refine blk_far ?_ NB308_313.out _; exact bp BK308) hb); have n4_ := am (blk_below (g := gb313) (o := .cells #[.int .i64 ((rd_T102 ((rd_T100 l0_0 x26_2).f2) x55_4).f0), .int .i64 ((rd_T102 ((rd_T100 l0_0 x26_2).f2) x55_4).f1)] 102 (0, 0)) (by (with_reducible repeat (first | apply dN | apply dW | apply dA)); refine blk_put (cs := #[.int .i64 ((rd_T102 ((rd_T100 l0_0 x26_2).f2) x55_4).f0), .int .i64 0]) ?_ 1 _ rfl; (with_reducible repeat (first | apply dN | apply dW | apply dA)); refine blk_put (cs := #[.int .i64 0, .int .i64 0]) ?_ 0 _ rfl; exact bp BK313) hb); have n5_ := am (below_step (bw HB) hb); clear HO_4; clear BK305; clear BK306; clear BK308; clear BK313; clear HB; have HO_4 := n0_; have BK305 := n1_; have BK306 := n2_; have BK308 := n3_; have BK313 := n4_; have HB := n5_; clear n0_ n1_ n2_ n3_ n4_ n5_; (try clear hb); (try clear hb2); (try clear hk); (try clear hi); have hnb67 := NB306_308.out; have hnc67 := NB308_306.out; have hcz68_0 : w66.cell? ⟨gb306, 0, none⟩ = some (.int .i64 x307000_4) := (blk_cell BK306.out 0).trans rfl; have hcz68_1 : w66.cell? ⟨gb306, 1, none⟩ = some (.int .i64 x307001_4) := (blk_cell BK306.out 1).trans rfl; have hcz68_2 : w66.cell? ⟨gb306, 2, none⟩ = some (.int .i64 x307002_4) := (blk_cell BK306.out 2).trans rfl; have hfz68_0 := blk_frozen BK306.out 0; have hfz68_1 := blk_frozen BK306.out 1; have hfz68_2 := blk_frozen BK306.out 2))
                  refine bodyPost_ret (results_ct rfl _ _ gb306 84 #[.int .i64 x26_2, .int .i64 x55_4, .int .i64 1] (0, 0) _ rfl (by (with_reducible repeat (first | apply dN | apply dW | apply dA)); refine blk_put (cs := #[.int .i64 x26_2, .int .i64 x55_4, .int .i64 x307002_4]) ?_ 2 _ rfl; (with_reducible repeat (first | apply dN | apply dW | apply dA)); refine blk_put (cs := #[.int .i64 x26_2, .int .i64 x307001_4, .int .i64 x307002_4]) ?_ 1 _ rfl; (with_reducible repeat (first | apply dN | apply dW | apply dA)); refine blk_put (cs := #[.int .i64 x307000_4, .int .i64 x307001_4, .int .i64 x307002_4]) ?_ 0 _ rfl; exact bp BK306) Try.underlying84 rfl (by kernel_rfl)) rfl ?_
                  exact ⟨_, er, by first | exact Kd.S_nil _ _ _ _ _ | exact Kd.N_nil _ _ _ _ _ | exact Kd.V_nil _ _ _ _ _ | exact Kd.Q_nil _ _ _ _ _ | exact Kd.R_nil _ _ _ _ _, bw HB⟩
                ·rw [if_neg c46] at H
                 exact absurd H (by simp)
               ·rw [if_neg c45] at H
                exact absurd H (by simp)
              ·rw [if_neg c44] at H
               have c44b0 : decide (x55_4 < (((rd_T100 l0_0 x26_2).f2).length : Int)) = false := decide_eq_false c44
               clear c44
               replace H := Option.bind_eq_some_iff.mp H
               obtain ⟨⟨t315, t318, t319⟩, A690, H⟩ := H
               replace H : (if t319 = 0 then (if x4_2.length < 5864062014805 then (impl_verify.l0 k4 (x4_2 ++ [t315]) l0_0 (l0_0.length : Int) (wrap64 (x26_2 + 1)) l0_0) else (none)) else (some (x26_2, t318, t319, ([] : List (List Int))))) = some (r1, r2, r3, r4) := H
               have A69 := am A690
               clear A690
               by_cases c70 : t319 = 0
               ·rw [if_pos c70] at H
                have c70b0 : (t319 == 0) = true := beq_iff_eq.mpr c70
                have c70b1 : (t319 != 0) = false := bne_eq_false_iff_eq.mpr c70
                clear c70
                by_cases c71 : x4_2.length < 5864062014805
                ·rw [if_pos c71] at H
                 have LMc71 := am c71
                 clear c71
                 obtain ⟨y320, hy320⟩ : ∃ y_ : List (List Int), y_ = (x4_2 ++ [t315]) := ⟨_, rfl⟩
                 replace H : (impl_verify.l0 k4 y320 l0_0 (l0_0.length : Int) (wrap64 (x26_2 + 1)) l0_0) = some (r1, r2, r3, r4) := by first | (rw [hy320]; with_reducible exact H) | (have H2_ := (Option.bind_some _ _).symm.trans H; rw [hy320]; with_reducible exact H2_) | (have H2_ := (Option.bind_some _ _).symm.trans H; with_reducible exact H2_) | with_reducible exact H | (rw [hy320]; exact H) | exact H
                 have Ny320 := am hy320
                 clear hy320
                 have H' := am H
                 clear H
                 have hnb72 := NB305_306.out
                 have hnc72 := NB306_305.out
                 have hnb73 := NB305_308.out
                 have hnc73 := NB308_305.out
                 have hcz74_0 : wr.cell? ⟨gb305, 0, none⟩ = some (.slice (some ad307) l0_0.length c0_0) := (blk_cell BK305.out 0).trans rfl
                 have hfz74_0 := blk_frozen BK305.out 0
                 go_wp2_with (first | ((with_reducible refine gate_callee (f := 174) rfl ?_); refine goesL_ (some 72) rfl rfl Try.func174 (by kernel_rfl) rfl #[.agg #[.slice (some ad307) l0_0.length c0_0], .int .i64 x26_2] rfl gl ?_; (with_reducible refine (impl_heightsOf.calls k4 _ _ l0_0 x26_2 t315 t318 t319 _ ?side1 ?side2 A69.out).mono ?_); (case side1 => exact cc (Kd.C_below HR0_0.out HB.out)); (case side2 => exact HC0_0.out); rintro e w75 ⟨v316, rfl, ho0, hb⟩; refine ⟨_, rfl, ?_⟩; have n0_ := am (Kd.S_elder' (kS HO_4) (Kd.R_base ho0) hb); have n1_ := am (Kd.R_lower ho0 (below_size (bw HB))); have n2_ := am (blk_below (g := gb305) (o := .cells #[.slice (some ad307) l0_0.length c0_0] 30 (0, 0)) (bp BK305) hb); have n3_ := am (blk_below (g := gb306) (o := .cells #[.int .i64 x307000_4, .int .i64 x307001_4, .int .i64 x307002_4] 84 (0, 0)) (bp BK306) hb); have n4_ := am (blk_below (g := gb308) (o := .cells #[.int .i64 ((rd_T100 l0_0 x26_2).f0), .int .i64 ((rd_T100 l0_0 x26_2).f1), .slice A307_2 ((rd_T100 l0_0 x26_2).f2).length c307_2] 100 (0, 0)) (bp BK308) hb); have n5_ := am (below_step (bw HB) hb); clear HO_4; clear BK305; clear BK306; clear BK308; clear HB; have HO_4 := n0_; have HO317 := n1_; have BK305 := n2_; have BK306 := n3_; have BK308 := n4_; have HB := n5_; clear n0_ n1_ n2_ n3_ n4_ n5_; (try clear hb); (try clear hb2); (try clear hk); (try clear hi); (try clear ho0); obtain ⟨Ao77, co77, eo77⟩ := Kd.R_slice HO317.out; subst eo77) | ((with_reducible refine gate_builtin (b := .append) (xs := #[.tmp 82, .tmp 84]) rfl ?_); (try (refine gate_guard (by rfl) ?_; dsimp only)); at_builtin; refine Kd.S_append (Kd.slice 2 (Kd.int .i64)) (w0 := w) w.heap.size rfl (.tmp 82) (.tmp 84) 50 26 (.slice none 0 0) 24 rfl Try.underlying50 info26 rfl (by decide) (by omega) u4 x4_2 t315 [.slice Ao77 t315.length co77] (fun _ => True) (fun k_ => some k_ = (.slice Ao77 t315.length co77 : Value).ownBlock) rfl rfl ?aP (fun k_ hk_ => ((Kd.R_mono (ok' := fun k_ => ((fun _ => True)) k_ ∧ some k_ ≠ (u4 : Value).ownBlock) (Kd.R_apart' (HO317.out) (Kd.S_typed HO_4.out) (by decide)) (fun k_ hk => ⟨trivial, hk.2⟩))).1 k_ hk_.symm) ?aF ?aO ?aB ?aS ?aL ?_; (case aP => exact Kd.M_row (Kd.R_mono (Kd.R_tight rfl (Kd.R_mono (ok' := fun k_ => ((fun _ => True)) k_ ∧ some k_ ≠ (u4 : Value).ownBlock) (Kd.R_apart' (HO317.out) (Kd.S_typed HO_4.out) (by decide)) (fun k_ hk => ⟨trivial, hk.2⟩))) (fun _ h_ => h_))); (case aB => exact (bw HB)); (case aF => exact (fun _ _ => trivial)); (case aO => exact (by (with_reducible repeat (first | apply Kd.S_alloc | apply Kd.S_drewN | apply Kd.S_drew)); exact Kd.S_mono HO_4.out (fun k_ hk => ⟨trivial, fun e_ => hk.2 e_⟩))); (case aS => exact (below_size (bw HB))); (case aL => have := LMc71.out; omega); intro v321 w76 ho hb hg hat; rw [← Ny320.out] at ho; have n0_ := am (blk_grown (g := gb305) (o := .cells #[.slice (some ad307) l0_0.length c0_0] 30 (0, 0)) (bp BK305) hg (Kd.S_ne HO_4.out BK305.out (by decide))); have n1_ := am (blk_grown (g := gb306) (o := .cells #[.int .i64 x307000_4, .int .i64 x307001_4, .int .i64 x307002_4] 84 (0, 0)) (bp BK306) hg (Kd.S_ne HO_4.out BK306.out (by decide))); have n2_ := am (blk_grown (g := gb308) (o := .cells #[.int .i64 ((rd_T100 l0_0 x26_2).f0), .int .i64 ((rd_T100 l0_0 x26_2).f1), .slice A307_2 ((rd_T100 l0_0 x26_2).f2).length c307_2] 100 (0, 0)) (bp BK308) hg (Kd.S_ne HO_4.out BK308.out (by decide))); have n3_ := am (hb); have n4_ := am (ho); clear BK305; clear BK306; clear BK308; clear HB; clear HO_4; clear HO317; have BK305 := n0_; have BK306 := n1_; have BK308 := n2_; have HB := n3_; have HO322 := n4_; clear n0_ n1_ n2_ n3_ n4_; clear ho hb hg hat))
                 go_roundg k4
                 case measure => have := HJ1.out; have := HK2.out; have := HJ17.out; have := HK4.out; omega
                 case rel => exact ⟨(y320), (wrap64 (x26_2 + 1)), (x307000_4), (x307001_4), (x307002_4), dr, H', ⟨by have := HJ1.out; have := HK2.out; have := HJ17.out; have := HK4.out; omega⟩, ⟨kS HO322⟩, ⟨bp BK305⟩, ⟨bp BK306⟩, ⟨bw HB⟩⟩
                ·rw [if_neg c71] at H
                 exact absurd H (by simp)
               ·rw [if_neg c70] at H
                have c70b0 : (t319 == 0) = false := beq_eq_false_iff_ne.mpr c70
                have c70b1 : (t319 != 0) = true := bne_iff_ne.mpr c70
                simp only [Option.some.injEq, Prod.mk.injEq] at H
                obtain ⟨rfl, rfl, rfl, rfl⟩ := H
                have hnb78 := NB305_306.out
                have hnc78 := NB306_305.out
                have hnb79 := NB305_308.out
                have hnc79 := NB308_305.out
                have hcz80_0 : wr.cell? ⟨gb305, 0, none⟩ = some (.slice (some ad307) l0_0.length c0_0) := (blk_cell BK305.out 0).trans rfl
                have hfz80_0 := blk_frozen BK305.out 0
                go_wp2_with (first | ((with_reducible refine gate_callee (f := 174) rfl ?_); refine goesL_ (some 72) rfl rfl Try.func174 (by kernel_rfl) rfl #[.agg #[.slice (some ad307) l0_0.length c0_0], .int .i64 x26_2] rfl gl ?_; (with_reducible refine (impl_heightsOf.calls k4 _ _ l0_0 x26_2 t315 t318 t319 _ ?side1 ?side2 A69.out).mono ?_); (case side1 => exact cc (Kd.C_below HR0_0.out HB.out)); (case side2 => exact HC0_0.out); rintro e w81 ⟨v316, rfl, ho0, hb⟩; refine ⟨_, rfl, ?_⟩; have n0_ := am (Kd.S_elder' (kS HO_4) (Kd.R_base ho0) hb); have n1_ := am (Kd.R_lower ho0 (below_size (bw HB))); have n2_ := am (blk_below (g := gb305) (o := .cells #[.slice (some ad307) l0_0.length c0_0] 30 (0, 0)) (bp BK305) hb); have n3_ := am (blk_below (g := gb306) (o := .cells #[.int .i64 x307000_4, .int .i64 x307001_4, .int .i64 x307002_4] 84 (0, 0)) (bp BK306) hb); have n4_ := am (blk_below (g := gb308) (o := .cells #[.int .i64 ((rd_T100 l0_0 x26_2).f0), .int .i64 ((rd_T100 l0_0 x26_2).f1), .slice A307_2 ((rd_T100 l0_0 x26_2).f2).length c307_2] 100 (0, 0)) (bp BK308) hb); have n5_ := am (below_step (bw HB) hb); clear HO_4; clear BK305; clear BK306; clear BK308; clear HB; have HO_4 := n0_; have HO317 := n1_; have BK305 := n2_; have BK306 := n3_; have BK308 := n4_; have HB := n5_; clear n0_ n1_ n2_ n3_ n4_ n5_; (try clear hb); (try clear hb2); (try clear hk); (try clear hi); (try clear ho0); have hnb82 := NB306_308.out; have hnc82 := NB308_306.out; have hcz83_0 : w81.cell? ⟨gb306, 0, none⟩ = some (.int .i64 x307000_4) := (blk_cell BK306.out 0).trans rfl; have hcz83_1 : w81.cell? ⟨gb306, 1, none⟩ = some (.int .i64 x307001_4) := (blk_cell BK306.out 1).trans rfl; have hcz83_2 : w81.cell? ⟨gb306, 2, none⟩ = some (.int .i64 x307002_4) := (blk_cell BK306.out 2).trans rfl; have hfz83_0 := blk_frozen BK306.out 0; have hfz83_1 := blk_frozen BK306.out 1; have hfz83_2 := blk_frozen BK306.out 2))
                refine bodyPost_ret (results_ct rfl _ _ gb306 84 #[.int .i64 x26_2, .int .i64 t318, .int .i64 t319] (0, 0) _ rfl (by (with_reducible repeat (first | apply dN | apply dW | apply dA)); refine blk_put (cs := #[.int .i64 x26_2, .int .i64 t318, .int .i64 x307002_4]) ?_ 2 _ rfl; (with_reducible repeat (first | apply dN | apply dW | apply dA)); refine blk_put (cs := #[.int .i64 x26_2, .int .i64 x307001_4, .int .i64 x307002_4]) ?_ 1 _ rfl; (with_reducible repeat (first | apply dN | apply dW | apply dA)); refine blk_put (cs := #[.int .i64 x307000_4, .int .i64 x307001_4, .int .i64 x307002_4]) ?_ 0 _ rfl; exact bp BK306) Try.underlying84 rfl (by kernel_rfl)) rfl ?_
                exact ⟨_, er, by first | exact Kd.S_nil _ _ _ _ _ | exact Kd.N_nil _ _ _ _ _ | exact Kd.V_nil _ _ _ _ _ | exact Kd.Q_nil _ _ _ _ _ | exact Kd.R_nil _ _ _ _ _, bw HB⟩
        ·rw [if_neg c17] at H
         exact absurd H (by simp)
       ·rw [if_neg c16] at H
        exact absurd H (by simp)
      ·rw [if_neg c15] at H
       have c15b0 : decide (x26_2 < (l0_0.length : Int)) = false := decide_eq_false c15
       clear c15
       simp only [Option.some.injEq, Prod.mk.injEq] at H
       obtain ⟨rfl, rfl, rfl, rfl⟩ := H
       have hnb84 := NB306_305.out
       have hnc84 := NB305_306.out
       have hcz85_0 : wr.cell? ⟨gb306, 0, none⟩ = some (.int .i64 x307000_2) := (blk_cell BK306.out 0).trans rfl
       have hcz85_1 : wr.cell? ⟨gb306, 1, none⟩ = some (.int .i64 x307001_2) := (blk_cell BK306.out 1).trans rfl
       have hcz85_2 : wr.cell? ⟨gb306, 2, none⟩ = some (.int .i64 x307002_2) := (blk_cell BK306.out 2).trans rfl
       have hfz85_0 := blk_frozen BK306.out 0
       have hfz85_1 := blk_frozen BK306.out 1
       have hfz85_2 := blk_frozen BK306.out 2
       go_wp2
       refine bodyPost_ret (results_ct rfl _ _ gb306 84 #[.int .i64 0, .int .i64 0, .int .i64 0] (0, 0) _ rfl (by (with_reducible repeat (first | apply dN | apply dW | apply dA)); refine blk_put (cs := #[.int .i64 0, .int .i64 0, .int .i64 x307002_2]) ?_ 2 _ rfl; (with_reducible repeat (first | apply dN | apply dW | apply dA)); refine blk_put (cs := #[.int .i64 0, .int .i64 x307001_2, .int .i64 x307002_2]) ?_ 1 _ rfl; (with_reducible repeat (first | apply dN | apply dW | apply dA)); refine blk_put (cs := #[.int .i64 x307000_2, .int .i64 x307001_2, .int .i64 x307002_2]) ?_ 0 _ rfl; exact bp BK306) Try.underlying84 rfl (by kernel_rfl)) rfl ?_
       exact ⟨_, er, by (with_reducible repeat (first | apply Kd.S_alloc | apply Kd.S_drewN | apply Kd.S_drew)); exact Kd.S_mono (Kd.S_far (p := ⟨gb306, 2, none⟩) (Kd.S_far (p := ⟨gb306, 1, none⟩) (Kd.S_far (p := ⟨gb306, 0, none⟩) (Kd.S_types HO_4.out BK306.out (by decide)) (fun _ hk => hk.2) (.int .i64 0)) (fun _ hk => hk.2) (.int .i64 0)) (fun _ hk => hk.2) (.int .i64 0)) (fun _ hk => trivial), bw HB⟩

/-! ### impl_known: function 66 -/
def impl_known.f (k : Nat) (l0_0 : List (S100)) : Option ((List (S100)) × (List (List Int)) × Bool) := (impl_verify.f k l0_0).bind fun bt324 => (some (l0_0, bt324.2.2.2, (bt324.2.2.1 == 0)))
theorem impl_known.mono : ∀ a0 k, LeO (impl_known.f k a0) (impl_known.f (k + 1) a0) := by
 intro a0 k
 unfold impl_known.f
 repeat' first
   | (with_reducible exact impl_verify.mono _ _)
   | (with_reducible exact LeO.refl _)
   | (with_reducible exact LeO.none _)
   | (with_reducible refine LeO.ite ?_ ?_)
   | (with_reducible refine LeO.bind ?_ (fun _ => ?_))
   | exact impl_verify.mono _ _
   | exact LeO.none _
   | refine LeO.ite ?_ ?_
   | refine LeO.bind ?_ (fun _ => ?_)
def impl_known.T2 : Bool × List (List Nat × List Nat) := (true, [([], []), ([], []), ([0, 1], [0, 1]), ([2], [2]), ([], []), ([4], [4]), ([5], [5]), ([3, 0, 1, 2, 3], [3]), ([6, 7, 0, 1, 2, 3, 4, 5, 6, 7], [6])])
def impl_known.B2 : List Nat := [0, 0, 3, 7, 0, 16, 48, 15, 255]
theorem impl_known.tab2 : rtab .any (opsOf Try.f66 2) = impl_known.T2 := by kernel_rfl
theorem impl_known.bits2 : waitsOk impl_known.T2.2 impl_known.B2 = true := by kernel_rfl
theorem impl_known.calls (k : Nat) (P0_0_ : Nat → Prop) (A0_0 : Option Addr) (c0_0 : Nat) (l0_0 : List (S100)) (r1 : List (S100)) (r2 : List (List Int)) (r3 : Bool) (w : World) (hs0_0 : Kd.V k100 100 w w.heap.size (fun k_ => P0_0_ k_) (.slice A0_0 l0_0.length c0_0) l0_0) (h : impl_known.f k l0_0 = some (r1, r2, r3)) :
  Calls Try.prog 66 #[.agg #[.slice A0_0 l0_0.length c0_0]] w fun e w' => ∃ v0_ v1_ : Value, ∃ g_ : Nat, e = .returned (.tuple #[.pointer (some ⟨g_, 0, none⟩), .bool r3]) ∧ Kd.V k100 100 w' w.heap.size (fun k_ => (P0_0_ k_ ∨ w.heap.size ≤ k_) ∧ some k_ ≠ (v1_ : Value).ownBlock) v0_ r1 ∧ Kd.S (Kd.slice 2 (Kd.int .i64)) 26 w' w.heap.size (fun k_ => (w.heap.size ≤ k_)) v1_ r2 ∧ w'.heap[g_]? = some (.cells #[v0_, v1_] 92 (0, 0)) ∧ w.heap.size ≤ g_ ∧ Below w.heap.size w w' := by
 have hu30 := Try.underlying30
 have hu84 := Try.underlying84
 have hu92 := Try.underlying92
 have HO0_0 := am (show Kd.V k100 100 w w.heap.size (fun k_ => (P0_0_ k_ ∨ w.heap.size ≤ k_)) (.slice A0_0 l0_0.length c0_0) l0_0 from Kd.V_mono hs0_0 (fun k_ hk => .inl hk))
 have HB := am (Below.refl w.heap.size w)
 have H : ((impl_verify.f k l0_0).bind fun bt324 => (some (l0_0, bt324.2.2.2, (bt324.2.2.1 == 0)))) = some (r1, r2, r3) := h
 clear h
 replace H := Option.bind_eq_some_iff.mp H
 obtain ⟨⟨t324, t325, t326, t327⟩, A20, H⟩ := H
 replace H : (some (l0_0, t327, (t326 == 0))) = some (r1, r2, r3) := H
 have A2 := am A20
 clear A20
 simp only [Option.some.injEq, Prod.mk.injEq] at H
 obtain ⟨rfl, rfl, rfl⟩ := H
 go_enter Try.func66, Try.ntmps66
 try go_wp2_with (first | ((with_reducible refine gate_dst (N := 1) rfl ?_); refine box_event ?hg (N := 1) ?hd (cs := #[.slice A0_0 l0_0.length c0_0]) (t := 30) ?hr ?_; (case hd => rfl); (case hg => rfl); (case hr => exact gs); intro gb323 hg w3 hbox hb; have n0_ := am (Kd.V_below (Kd.V_elderB (kV HO0_0) gb323 (Nat.le_of_eq hg.symm)) hb); have n1_ := am (below_step (bw HB) hb); have n2_ := am (hbox); have n3_ := am ((by rw [hg]; exact (below_size (bw HB)) : w.heap.size ≤ gb323)); have n4_ := am ((by rw [hg]; exact (below_size (bw HB)) : w.heap.size ≤ gb323)); clear HO0_0; clear HB; have HO0_0 := n0_; have HB := n1_; have BK323 := n2_; have GW323 := n3_; have GE323 := n4_; clear n0_ n1_ n2_ n3_ n4_; clear hb hbox hg; have hcz4_0 : w3.cell? ⟨gb323, 0, none⟩ = some (.slice A0_0 l0_0.length c0_0) := (blk_cell BK323.out 0).trans rfl; have hfz4_0 := blk_frozen BK323.out 0) | ((with_reducible refine gate_callee (f := 126) rfl ?_); refine goesL_ (some 8) rfl rfl Try.func126 (by kernel_rfl) rfl #[.agg #[.slice A0_0 l0_0.length c0_0]] rfl gl ?_; (with_reducible refine (impl_verify.calls k _ _ l0_0 t324 t325 t326 t327 _ ?side1 ?side2 A2.out).mono ?_); (case side1 => exact cc (Kd.V_reads' HO0_0.out).2.2); (case side2 => exact (Kd.V_reads' HO0_0.out).2.1); rintro e w5 ⟨v328, rfl, ho0, hb⟩; refine ⟨_, rfl, ?_⟩; have n0_ := am (Kd.V_elder' (kV HO0_0) (Kd.S_base ho0) hb); have n1_ := am (Kd.S_lower (Kd.S_newM (M := fun k_ => (w.heap.size ≤ k_)) ho0 (below_size (bw HB)) (fun k_ h_ => h_)) (below_size (bw HB))); have n2_ := am (blk_below (g := gb323) (o := .cells #[.slice A0_0 l0_0.length c0_0] 30 (0, 0)) (bp BK323) hb); have n3_ := am (below_step (bw HB) hb); clear HO0_0; clear BK323; clear HB; have HO0_0 := n0_; have HO329 := n1_; have BK323 := n2_; have HB := n3_; clear n0_ n1_ n2_ n3_; (try clear hb); (try clear hb2); (try clear hk); (try clear hi); (try clear ho0)) | ((with_reducible refine gate_dst (N := 4) rfl ?_); refine box_event ?hg (N := 4) ?hd (cs := #[.int .i64 0, .int .i64 0, .int .i64 0]) (t := 84) ?hr ?_; (case hd => rfl); (case hg => rfl); (case hr => exact gs); intro gb330 hg w6 hbox hb; have n0_ := am (Kd.V_below (Kd.V_elderB (kV HO0_0) gb330 (Nat.le_of_eq hg.symm)) hb); have n1_ := am (Kd.S_below (kS HO329) hb); have n2_ := am (blk_below (g := gb323) (o := .cells #[.slice A0_0 l0_0.length c0_0] 30 (0, 0)) (bp BK323) hb); have n3_ := am (below_step (bw HB) hb); have n4_ := am (hbox); have n5_ := am ((by rw [hg]; exact (below_size (bw HB)) : w.heap.size ≤ gb330)); have n6_ := am ((by rw [hg]; exact (below_size (bw HB)) : w.heap.size ≤ gb330)); have n7_ := am ((by rw [hg]; exact Nat.ne_of_lt (blk_lt (g := gb323) (o := .cells #[.slice A0_0 l0_0.length c0_0] 30 (0, 0)) (bp BK323)) : gb323 ≠ gb330)); have n8_ := am ((by rw [hg]; exact Nat.ne_of_gt (blk_lt (g := gb323) (o := .cells #[.slice A0_0 l0_0.length c0_0] 30 (0, 0)) (bp BK323)) : gb330 ≠ gb323)); clear HO0_0; clear HO329; clear BK323; clear HB; have HO0_0 := n0_; have HO329 := n1_; have BK323 := n2_; have HB := n3_; have BK330 := n4_; have GW330 := n5_; have GE330 := n6_; have NB323_330 := n7_; have NB330_323 := n8_; clear n0_ n1_ n2_ n3_ n4_ n5_ n6_ n7_ n8_; clear hb hbox hg; have hnb7 := NB330_323.out; have hnc7 := NB323_330.out; have hcz8_0 : w6.cell? ⟨gb330, 0, none⟩ = some (.int .i64 0) := (blk_cell BK330.out 0).trans rfl; have hcz8_1 : w6.cell? ⟨gb330, 1, none⟩ = some (.int .i64 0) := (blk_cell BK330.out 1).trans rfl; have hcz8_2 : w6.cell? ⟨gb330, 2, none⟩ = some (.int .i64 0) := (blk_cell BK330.out 2).trans rfl; have hfz8_0 := blk_frozen BK330.out 0; have hfz8_1 := blk_frozen BK330.out 1; have hfz8_2 := blk_frozen BK330.out 2))
 have n0_ : Aside0 (Kd.V k100 100 (((w6.setCell ⟨gb330, 0, none⟩ (.int .i64 t324)).setCell ⟨gb330, 1, none⟩ (.int .i64 t325)).setCell ⟨gb330, 2, none⟩ (.int .i64 t326)) w.heap.size (fun k_ => (P0_0_ k_ ∨ w.heap.size ≤ k_) ∧ some k_ ≠ (v328 : Value).ownBlock ∧ k_ ≠ gb323 ∧ k_ ≠ gb330) (.slice A0_0 l0_0.length c0_0) l0_0) := ⟨by (with_reducible repeat (first | apply Kd.V_alloc | apply Kd.V_drewN | apply Kd.V_drew)); exact Kd.V_mono (Kd.V_far (p := ⟨gb330, 2, none⟩) (Kd.V_far (p := ⟨gb330, 1, none⟩) (Kd.V_far (p := ⟨gb330, 0, none⟩) (Kd.V_mono HO0_0.out (fun k_ hk => (⟨hk, hk.2⟩ : _ ∧ k_ ≠ gb330))) (fun _ hk => hk.2) (.int .i64 t324)) (fun _ hk => hk.2) (.int .i64 t325)) (fun _ hk => hk.2) (.int .i64 t326)) (fun _ hk => ⟨hk.1.1.1.1, ⟨hk.1.1.2, ⟨hk.1.1.1.2, hk.1.2⟩⟩⟩)⟩
 have n1_ : Aside0 (Kd.S (Kd.slice 2 (Kd.int .i64)) 26 (((w6.setCell ⟨gb330, 0, none⟩ (.int .i64 t324)).setCell ⟨gb330, 1, none⟩ (.int .i64 t325)).setCell ⟨gb330, 2, none⟩ (.int .i64 t326)) w.heap.size (fun k_ => (w.heap.size ≤ k_)) v328 t327) := ⟨by (with_reducible repeat (first | apply Kd.S_alloc | apply Kd.S_drewN | apply Kd.S_drew)); exact Kd.S_mono (Kd.S_far (p := ⟨gb330, 2, none⟩) (Kd.S_far (p := ⟨gb330, 1, none⟩) (Kd.S_far (p := ⟨gb330, 0, none⟩) (Kd.S_types HO329.out BK330.out (by decide)) (fun _ hk => hk.2) (.int .i64 t324)) (fun _ hk => hk.2) (.int .i64 t325)) (fun _ hk => hk.2) (.int .i64 t326)) (fun _ hk => hk.1.1)⟩
 have n2_ : Aside0 ((((w6.setCell ⟨gb330, 0, none⟩ (.int .i64 t324)).setCell ⟨gb330, 1, none⟩ (.int .i64 t325)).setCell ⟨gb330, 2, none⟩ (.int .i64 t326)).heap[gb323]? = some (.cells #[.slice A0_0 l0_0.length c0_0] 30 (0, 0))) := ⟨by (with_reducible repeat (first | apply dN | apply dW | apply dA)); refine blk_far ?_ NB323_330.out _; (with_reducible repeat (first | apply dN | apply dW | apply dA)); refine blk_far ?_ NB323_330.out _; (with_reducible repeat (first | apply dN | apply dW | apply dA)); refine blk_far ?_ NB323_330.out _; exact bp BK323⟩
 have n3_ : Aside0 ((((w6.setCell ⟨gb330, 0, none⟩ (.int .i64 t324)).setCell ⟨gb330, 1, none⟩ (.int .i64 t325)).setCell ⟨gb330, 2, none⟩ (.int .i64 t326)).heap[gb330]? = some (.cells #[.int .i64 t324, .int .i64 t325, .int .i64 t326] 84 (0, 0))) := ⟨by (with_reducible repeat (first | apply dN | apply dW | apply dA)); refine blk_put (cs := #[.int .i64 t324, .int .i64 t325, .int .i64 0]) ?_ 2 _ rfl; (with_reducible repeat (first | apply dN | apply dW | apply dA)); refine blk_put (cs := #[.int .i64 t324, .int .i64 0, .int .i64 0]) ?_ 1 _ rfl; (with_reducible repeat (first | apply dN | apply dW | apply dA)); refine blk_put (cs := #[.int .i64 0, .int .i64 0, .int .i64 0]) ?_ 0 _ rfl; exact bp BK330⟩
 have n4_ : Aside0 (Below w.heap.size w (((w6.setCell ⟨gb330, 0, none⟩ (.int .i64 t324)).setCell ⟨gb330, 1, none⟩ (.int .i64 t325)).setCell ⟨gb330, 2, none⟩ (.int .i64 t326))) := ⟨bw HB⟩
 (try clear HO0_0)
 (try clear HO329)
 (try clear BK323)
 (try clear BK330)
 (try clear HB)
 generalize (((w6.setCell ⟨gb330, 0, none⟩ (.int .i64 t324)).setCell ⟨gb330, 1, none⟩ (.int .i64 t325)).setCell ⟨gb330, 2, none⟩ (.int .i64 t326)) = w9 at n0_ n1_ n2_ n3_ n4_ ⊢
 have HO0_0 := n0_
 have HO329 := n1_
 have BK323 := n2_
 have BK330 := n3_
 have HB := n4_
 clear n0_ n1_ n2_ n3_ n4_
 have n0_ := am (Kd.V_drew HO0_0.out)
 have n1_ := am (Kd.S_drew HO329.out)
 have n2_ := am (blk_drew BK323.out)
 have n3_ := am (blk_drew BK330.out)
 have n4_ := am (below_drew1 HB.out)
 clear HO0_0
 clear HO329
 clear BK323
 clear BK330
 clear HB
 have HO0_0 := n0_
 have HO329 := n1_
 have BK323 := n2_
 have BK330 := n3_
 have HB := n4_
 clear n0_ n1_ n2_ n3_ n4_
 obtain ⟨Ao11, co11, eo11⟩ := Kd.S_slice HO329.out
 (first | subst eo11 | (injection eo11 with f1_ f2_ f3_; have f4_ := f1_.symm; have f5_ := f3_.symm; clear f1_ f2_ f3_; subst f4_; subst f5_))
 refine start_ (n := 9) (S := fun w' => w'.cell? ⟨gb323, 0, none⟩ = some (.slice A0_0 l0_0.length c0_0) ∧ w'.cell? ⟨gb330, 0, none⟩ = some (.int .i64 t324) ∧ w'.cell? ⟨gb330, 1, none⟩ = some (.int .i64 t325) ∧ w'.cell? ⟨gb330, 2, none⟩ = some (.int .i64 t326)) (ds := []) #[false, false, false, false, false, false, false, false, false] (by kernel_rfl) rfl rfl ⟨(blk_cell BK323.out 0).trans rfl, (blk_cell BK330.out 0).trans rfl, (blk_cell BK330.out 1).trans rfl, (blk_cell BK330.out 2).trans rfl⟩ (fun hHeld => ?_); refine with_tabW impl_known.tab2 impl_known.bits2 (fun HT_ HW_ => ?_)
 generalize w9.drew = w10 at HO0_0 HO329 BK323 BK330 HB hHeld ⊢
 refine pure_ (i := 1) (N := some 12) (v := ?_) (a' := ?_) #[false, true, false, false, false, false, false, false, false] rfl rfl (any_of HT_.out (by kernel_rfl)) (fun _ _ _ h => h) (Or.inl ⟨by rfl, ?_⟩) ?_ ?_
 rotate_left
 ·intro w'
  go_simp
  with_reducible rfl
 rotate_left
 ·simp only [Act.put, sa, sz, ss, i64_w, i32_w]
  rfl
 refine pure_ (i := 4) (N := some 15) (v := ?_) (a' := ?_) #[false, true, false, false, true, false, false, false, false] rfl rfl (any_of HT_.out (by kernel_rfl)) (fun _ _ _ h => h) (Or.inl ⟨by rfl, ?_⟩) ?_ ?_
 rotate_left
 ·intro w'
  go_simp
  with_reducible rfl
 rotate_left
 ·simp only [Act.put, sa, sz, ss, i64_w, i32_w]
  rfl
 refine take_ (i := 0) (N := some 11) (v := ?_) (a' := ?_) #[true, true, false, false, true, false, false, false, false] rfl rfl (take_ofW HT_.out HW_.out (by kernel_rfl)) (fun _ _ _ h => h) (Or.inl ⟨by rfl, ?_⟩) hHeld ?_ ?_
 rotate_left
 ·rintro w' ⟨s0, s1, s2, s3⟩
  go_simp
  with_reducible rfl
 rotate_left
 ·simp only [Act.put, sa, sz, ss, i64_w, i32_w]
  rfl
 refine pure_ (i := 2) (N := some 13) (v := ?_) (a' := ?_) #[true, true, true, false, true, false, false, false, false] rfl rfl (any_of HT_.out (by kernel_rfl)) (fun _ _ _ h => h) (Or.inl ⟨by rfl, ?_⟩) ?_ ?_
 rotate_left
 ·intro w'
  go_simp
  with_reducible rfl
 rotate_left
 ·simp only [Act.put, sa, sz, ss, i64_w, i32_w]
  rfl
 refine take_ (i := 5) (N := some 16) (v := ?_) (a' := ?_) #[true, true, true, false, true, true, false, false, false] rfl rfl (take_ofW HT_.out HW_.out (by kernel_rfl)) (fun _ _ _ h => h) (Or.inl ⟨by rfl, ?_⟩) hHeld ?_ ?_
 rotate_left
 ·rintro w' ⟨s0, s1, s2, s3⟩
  go_simp
  with_reducible rfl
 rotate_left
 ·simp only [Act.put, sa, sz, ss, i64_w, i32_w]
  rfl
 refine pure_ (i := 6) (N := some 17) (v := ?_) (a' := ?_) #[true, true, true, false, true, true, true, false, false] rfl rfl (any_of HT_.out (by kernel_rfl)) (fun _ _ _ h => h) (Or.inl ⟨by rfl, ?_⟩) ?_ ?_
 rotate_left
 ·intro w'
  go_simp
  with_reducible rfl
 rotate_left
 ·simp only [Act.put, sa, sz, ss, i64_w, i32_w]
  rfl
 refine one_ (i := 3) (N := some 14) #[true, true, true, true, true, true, true, false, false] rfl rfl (one_of HT_.out (by kernel_rfl)) (by decide) (fun K hK => ?_)
 refine box_step ?hg (N := 14) ?hd (cs := #[.slice A0_0 l0_0.length c0_0, .slice Ao11 t327.length co11]) (t := 92) ?hr ?_; (case hd => rfl); (case hg => rfl); (case hr => exact gs)
 intro gb331 hg w12 hbox hb
 have n0_ := am (Kd.V_below (Kd.V_elderB (kV HO0_0) gb331 (Nat.le_of_eq hg.symm)) hb)
 have n1_ := am (Kd.S_below (kS HO329) hb)
 have n2_ := am (blk_below (g := gb323) (o := .cells #[.slice A0_0 l0_0.length c0_0] 30 (0, 0)) (bp BK323) hb)
 have n3_ := am (blk_below (g := gb330) (o := .cells #[.int .i64 t324, .int .i64 t325, .int .i64 t326] 84 (0, 0)) (bp BK330) hb)
 have n4_ := am (below_step (bw HB) hb)
 have n5_ := am (hbox)
 have n6_ := am ((by rw [hg]; exact (below_size (bw HB)) : w.heap.size ≤ gb331))
 have n7_ := am ((by rw [hg]; exact (below_size (bw HB)) : w.heap.size ≤ gb331))
 have n8_ := am ((by rw [hg]; exact Nat.ne_of_lt (blk_lt (g := gb323) (o := .cells #[.slice A0_0 l0_0.length c0_0] 30 (0, 0)) (bp BK323)) : gb323 ≠ gb331))
 have n9_ := am ((by rw [hg]; exact Nat.ne_of_gt (blk_lt (g := gb323) (o := .cells #[.slice A0_0 l0_0.length c0_0] 30 (0, 0)) (bp BK323)) : gb331 ≠ gb323))
 have n10_ := am ((by rw [hg]; exact Nat.ne_of_lt (blk_lt (g := gb330) (o := .cells #[.int .i64 t324, .int .i64 t325, .int .i64 t326] 84 (0, 0)) (bp BK330)) : gb330 ≠ gb331))
 have n11_ := am ((by rw [hg]; exact Nat.ne_of_gt (blk_lt (g := gb330) (o := .cells #[.int .i64 t324, .int .i64 t325, .int .i64 t326] 84 (0, 0)) (bp BK330)) : gb331 ≠ gb330))
 clear HO0_0
 clear HO329
 clear BK323
 clear BK330
 clear HB
 have HO0_0 := n0_
 have HO329 := n1_
 have BK323 := n2_
 have BK330 := n3_
 have HB := n4_
 have BK331 := n5_
 have GW331 := n6_
 have GE331 := n7_
 have NB323_331 := n8_
 have NB331_323 := n9_
 have NB330_331 := n10_
 have NB331_330 := n11_
 clear n0_ n1_ n2_ n3_ n4_ n5_ n6_ n7_ n8_ n9_ n10_ n11_
 clear hb hbox hg
 refine hK.out _ _ ⟨(blk_cell BK323.out 0).trans rfl, (blk_cell BK330.out 0).trans rfl, (blk_cell BK330.out 1).trans rfl, (blk_cell BK330.out 2).trans rfl⟩ (fun hHeld => ?_)
 clear hK K
 refine norm_ (a' := ?_) ?_ ?_
 rotate_left
 ·show Act.put _ (some 14) _ = _
  simp only [Act.put, sa, sz, ss, i64_w, i32_w]
  rfl
 refine pure_ (i := 7) (N := some 2) (v := ?_) (a' := ?_) #[true, true, true, true, true, true, true, true, false] rfl rfl (any_of HT_.out (by kernel_rfl)) (fun _ _ _ h => h) (Or.inl ⟨by rfl, ?_⟩) ?_ ?_
 rotate_left
 ·intro w'
  go_simp
  with_reducible rfl
 rotate_left
 ·simp only [Act.put, sa, sz, ss, i64_w, i32_w]
  rfl
 refine pure_ (i := 8) (N := some 3) (v := ?_) (a' := ?_) #[true, true, true, true, true, true, true, true, true] rfl rfl (any_of HT_.out (by kernel_rfl)) (fun _ _ _ h => h) (Or.inl ⟨by rfl, ?_⟩) ?_ ?_
 rotate_left
 ·intro w'
  go_simp
  with_reducible rfl
 rotate_left
 ·simp only [Act.put, sa, sz, ss, i64_w, i32_w]
  rfl
 refine done_ (done_of HT_.out (by kernel_rfl)) ?_
 try go_wp2
 go_ret2
 exact ⟨_, _, gb331, er, by (with_reducible repeat (first | apply Kd.V_alloc | apply Kd.V_drewN | apply Kd.V_drew)); exact Kd.V_mono HO0_0.out (fun _ hk => ⟨hk.1.1, hk.1.2.1⟩), kS HO329, (bp BK331), GW331.out, bw HB⟩

/-! ### impl_knownFunc: function 60 -/
def impl_knownFunc.f (k : Nat) (l0_0 : List (S100)) (a1 : Int) : Option ((List (S100)) × (List (List Int)) × Bool) := (impl_known.f k l0_0).bind fun bt333 => (if bt333.2.2 = true then ((impl_hasFunc.f l0_0 a1).bind fun t341 => (some (bt333.1, bt333.2.1, t341))) else (some (bt333.1, bt333.2.1, false)))
theorem impl_knownFunc.mono : ∀ a0 a1 k, LeO (impl_knownFunc.f k a0 a1) (impl_knownFunc.f (k + 1) a0 a1) := by
 intro a0 a1 k
 unfold impl_knownFunc.f
 repeat' first
   | (with_reducible exact impl_known.mono _ _)
   | (with_reducible exact LeO.refl _)
   | (with_reducible exact LeO.none _)
   | (with_reducible refine LeO.ite ?_ ?_)
   | (with_reducible refine LeO.bind ?_ (fun _ => ?_))
   | exact impl_known.mono _ _
   | exact LeO.none _
   | refine LeO.ite ?_ ?_
   | refine LeO.bind ?_ (fun _ => ?_)
theorem impl_knownFunc.calls (k : Nat) (P0_0_ : Nat → Prop) (A0_0 : Option Addr) (c0_0 : Nat) (l0_0 : List (S100)) (a1 : Int) (r1 : List (S100)) (r2 : List (List Int)) (r3 : Bool) (w : World) (hs0_0 : Kd.V k100 100 w w.heap.size (fun k_ => P0_0_ k_) (.slice A0_0 l0_0.length c0_0) l0_0) (h : impl_knownFunc.f k l0_0 a1 = some (r1, r2, r3)) :
  Calls Try.prog 60 #[.agg #[.slice A0_0 l0_0.length c0_0], .int .i64 a1] w fun e w' => ∃ v0_ v1_ : Value, ∃ g_ : Nat, e = .returned (.tuple #[.pointer (some ⟨g_, 0, none⟩), .bool r3]) ∧ Kd.V k100 100 w' w.heap.size (fun k_ => (P0_0_ k_ ∨ w.heap.size ≤ k_) ∧ some k_ ≠ (v1_ : Value).ownBlock) v0_ r1 ∧ Kd.S (Kd.slice 2 (Kd.int .i64)) 26 w' w.heap.size (fun k_ => (w.heap.size ≤ k_)) v1_ r2 ∧ w'.heap[g_]? = some (.cells #[v0_, v1_] 92 (0, 0)) ∧ w.heap.size ≤ g_ ∧ Below w.heap.size w w' := by
 have hu30 := Try.underlying30
 have HO0_0 := am (show Kd.V k100 100 w w.heap.size (fun k_ => (P0_0_ k_ ∨ w.heap.size ≤ k_)) (.slice A0_0 l0_0.length c0_0) l0_0 from Kd.V_mono hs0_0 (fun k_ hk => .inl hk))
 have HB := am (Below.refl w.heap.size w)
 have H : ((impl_known.f k l0_0).bind fun bt333 => (if bt333.2.2 = true then ((impl_hasFunc.f l0_0 a1).bind fun t341 => (some (bt333.1, bt333.2.1, t341))) else (some (bt333.1, bt333.2.1, false)))) = some (r1, r2, r3) := h
 clear h
 replace H := Option.bind_eq_some_iff.mp H
 obtain ⟨⟨t333, t336, t340⟩, A30, H⟩ := H
 replace H : (if t340 = true then ((impl_hasFunc.f l0_0 a1).bind fun t341 => (some (t333, t336, t341))) else (some (t333, t336, false))) = some (r1, r2, r3) := H
 have A3 := am A30
 clear A30
 by_cases c4 : t340 = true
 ·subst c4
  have H1 : ((impl_hasFunc.f l0_0 a1).bind fun t341 => (some (t333, t336, t341))) = some (r1, r2, r3) := by rw [if_pos rfl] at H; exact H
  clear H
  have H := H1
  clear H1
  replace H := Option.bind_eq_some_iff.mp H
  obtain ⟨t341, A50, H⟩ := H
  replace H : (some (t333, t336, t341)) = some (r1, r2, r3) := H
  have A5 := am A50
  clear A50
  simp only [Option.some.injEq, Prod.mk.injEq] at H
  obtain ⟨rfl, rfl, rfl⟩ := H
  go_enter Try.func60, Try.ntmps60
  go_wp2_with (first | ((with_reducible refine gate_dst (N := 2) rfl ?_); refine box_event ?hg (N := 2) ?hd (cs := #[.slice A0_0 l0_0.length c0_0]) (t := 30) ?hr ?_; (case hd => rfl); (case hg => rfl); (case hr => exact gs); intro gb332 hg w6 hbox hb; have n0_ := am (Kd.V_below (Kd.V_elderB (kV HO0_0) gb332 (Nat.le_of_eq hg.symm)) hb); have n1_ := am (below_step (bw HB) hb); have n2_ := am (hbox); have n3_ := am ((by rw [hg]; exact (below_size (bw HB)) : w.heap.size ≤ gb332)); have n4_ := am ((by rw [hg]; exact (below_size (bw HB)) : w.heap.size ≤ gb332)); clear HO0_0; clear HB; have HO0_0 := n0_; have HB := n1_; have BK332 := n2_; have GW332 := n3_; have GE332 := n4_; clear n0_ n1_ n2_ n3_ n4_; clear hb hbox hg; have hcz7_0 : w6.cell? ⟨gb332, 0, none⟩ = some (.slice A0_0 l0_0.length c0_0) := (blk_cell BK332.out 0).trans rfl; have hfz7_0 := blk_frozen BK332.out 0) | ((with_reducible refine gate_callee (f := 66) rfl ?_); refine goesL_ (some 10) rfl rfl Try.func66 (by kernel_rfl) rfl #[.agg #[.slice A0_0 l0_0.length c0_0]] rfl gl ?_; (with_reducible refine (impl_known.calls k (fun k_ => ((P0_0_ k_ ∨ w.heap.size ≤ k_) ∧ k_ ≠ gb332)) _ _ l0_0 t333 t336 true _ ?side1 A3.out).mono ?_); (case side1 => exact HO0_0.out); rintro e w8 ⟨v334, v337, gb339, rfl, ho0, ho1, hbx, hgx, hb⟩; refine ⟨_, rfl, ?_⟩; have n0_ := am (Kd.V_elder' (kV HO0_0) (Kd.S_base ho1) hb); have n1_ := am (Kd.V_lower (Kd.V_mono (ok' := fun k_ => (P0_0_ k_ ∨ w.heap.size ≤ k_) ∧ some k_ ≠ (v337 : Value).ownBlock ∧ k_ ≠ gb332) ho0 (fun k_ hk_ => ⟨Or.elim hk_.1 (fun hs_ => hs_.1) (fun hn_ => (.inr (Nat.le_trans (below_size (bw HB)) hn_))), hk_.2, Or.elim hk_.1 (fun hs_ => hs_.2) (fun hn_ => (Kd.freshB (g := gb332) (o := .cells #[.slice A0_0 l0_0.length c0_0] 30 (0, 0)) (bp BK332) k_ hn_))⟩)) (below_size (bw HB))); have n2_ := am (Kd.S_lower (Kd.S_newM (M := fun k_ => (w.heap.size ≤ k_)) (Kd.S_mono (ok' := fun k_ => True) ho1 (fun _ hk_ => trivial)) (below_size (bw HB)) (fun k_ h_ => h_)) (below_size (bw HB))); have n3_ := am (blk_below (g := gb332) (o := .cells #[.slice A0_0 l0_0.length c0_0] 30 (0, 0)) (bp BK332) hb); have n4_ := am (hbx); have n5_ := am ((Nat.le_trans (below_size (bw HB)) hgx)); have n6_ := am ((Nat.le_trans (below_size (bw HB)) hgx)); have n7_ := am ((Nat.ne_of_lt (Nat.lt_of_lt_of_le (blk_lt (g := gb332) (o := .cells #[.slice A0_0 l0_0.length c0_0] 30 (0, 0)) (bp BK332)) hgx) : gb332 ≠ gb339)); have n8_ := am ((Nat.ne_of_gt (Nat.lt_of_lt_of_le (blk_lt (g := gb332) (o := .cells #[.slice A0_0 l0_0.length c0_0] 30 (0, 0)) (bp BK332)) hgx) : gb339 ≠ gb332)); have n9_ := am (below_step (bw HB) hb); clear HO0_0; clear BK332; clear HB; have HO0_0 := n0_; have HO335 := n1_; have HO338 := n2_; have BK332 := n3_; have BK339 := n4_; have GW339 := n5_; have GE339 := n6_; have NB332_339 := n7_; have NB339_332 := n8_; have HB := n9_; clear n0_ n1_ n2_ n3_ n4_ n5_ n6_ n7_ n8_ n9_; (try clear hb); (try clear hb2); (try clear hk); (try clear hi); (try clear ho0); (try clear ho1); (try clear hbx); (try clear hgx); have hnb9 := NB332_339.out; have hnc9 := NB339_332.out; have hcz10_0 : w8.cell? ⟨gb332, 0, none⟩ = some (.slice A0_0 l0_0.length c0_0) := (blk_cell BK332.out 0).trans rfl; have hfz10_0 := blk_frozen BK332.out 0) | (go_at_call 121; (with_reducible refine (impl_hasFunc.calls _ _ l0_0 a1 t341 _ ?side1 ?side2 A5.out).mono ?_); (case side1 => exact cc (Kd.V_reads' HO0_0.out).2.2); (case side2 => exact (Kd.V_reads' HO0_0.out).2.1); rintro e w11 ⟨rfl, hb⟩; have n0_ := am (Kd.V_below (kV HO0_0) hb); have n1_ := am (Kd.V_below (kV HO335) hb); have n2_ := am (Kd.S_below (kS HO338) hb); have n3_ := am (blk_below (g := gb332) (o := .cells #[.slice A0_0 l0_0.length c0_0] 30 (0, 0)) (bp BK332) hb); have n4_ := am (blk_below (g := gb339) (o := .cells #[v334, v337] 92 (0, 0)) (bp BK339) hb); have n5_ := am (below_step (bw HB) hb); clear HO0_0; clear HO335; clear HO338; clear BK332; clear BK339; clear HB; have HO0_0 := n0_; have HO335 := n1_; have HO338 := n2_; have BK332 := n3_; have BK339 := n4_; have HB := n5_; clear n0_ n1_ n2_ n3_ n4_ n5_; (try clear hb); (try clear hb2); (try clear hk); (try clear hi)))
  go_ret2
  exact ⟨_, _, gb339, er, by (with_reducible repeat (first | apply Kd.V_alloc | apply Kd.V_drewN | apply Kd.V_drew)); exact Kd.V_mono HO335.out (fun _ hk => ⟨hk.1, hk.2.1⟩), by (with_reducible repeat (first | apply Kd.S_alloc | apply Kd.S_drewN | apply Kd.S_drew)); exact Kd.S_mono HO338.out (fun _ hk => hk.1), (bp BK339), GW339.out, bw HB⟩
 ·replace c4 := Bool.eq_false_iff.mpr c4
  subst c4
  have H1 : (some (t333, t336, false)) = some (r1, r2, r3) := by rw [if_neg (show ¬ (false = true) by decide)] at H; exact H
  clear H
  have H := H1
  clear H1
  simp only [Option.some.injEq, Prod.mk.injEq] at H
  obtain ⟨rfl, rfl, rfl⟩ := H
  go_enter Try.func60, Try.ntmps60
  go_wp2_with (first | ((with_reducible refine gate_dst (N := 2) rfl ?_); refine box_event ?hg (N := 2) ?hd (cs := #[.slice A0_0 l0_0.length c0_0]) (t := 30) ?hr ?_; (case hd => rfl); (case hg => rfl); (case hr => exact gs); intro gb332 hg w12 hbox hb; have n0_ := am (Kd.V_below (Kd.V_elderB (kV HO0_0) gb332 (Nat.le_of_eq hg.symm)) hb); have n1_ := am (below_step (bw HB) hb); have n2_ := am (hbox); have n3_ := am ((by rw [hg]; exact (below_size (bw HB)) : w.heap.size ≤ gb332)); have n4_ := am ((by rw [hg]; exact (below_size (bw HB)) : w.heap.size ≤ gb332)); clear HO0_0; clear HB; have HO0_0 := n0_; have HB := n1_; have BK332 := n2_; have GW332 := n3_; have GE332 := n4_; clear n0_ n1_ n2_ n3_ n4_; clear hb hbox hg; have hcz13_0 : w12.cell? ⟨gb332, 0, none⟩ = some (.slice A0_0 l0_0.length c0_0) := (blk_cell BK332.out 0).trans rfl; have hfz13_0 := blk_frozen BK332.out 0) | ((with_reducible refine gate_callee (f := 66) rfl ?_); refine goesL_ (some 10) rfl rfl Try.func66 (by kernel_rfl) rfl #[.agg #[.slice A0_0 l0_0.length c0_0]] rfl gl ?_; (with_reducible refine (impl_known.calls k (fun k_ => ((P0_0_ k_ ∨ w.heap.size ≤ k_) ∧ k_ ≠ gb332)) _ _ l0_0 t333 t336 false _ ?side1 A3.out).mono ?_); (case side1 => exact HO0_0.out); rintro e w14 ⟨v334, v337, gb339, rfl, ho0, ho1, hbx, hgx, hb⟩; refine ⟨_, rfl, ?_⟩; have n0_ := am (Kd.V_elder' (kV HO0_0) (Kd.S_base ho1) hb); have n1_ := am (Kd.V_lower (Kd.V_mono (ok' := fun k_ => (P0_0_ k_ ∨ w.heap.size ≤ k_) ∧ some k_ ≠ (v337 : Value).ownBlock ∧ k_ ≠ gb332) ho0 (fun k_ hk_ => ⟨Or.elim hk_.1 (fun hs_ => hs_.1) (fun hn_ => (.inr (Nat.le_trans (below_size (bw HB)) hn_))), hk_.2, Or.elim hk_.1 (fun hs_ => hs_.2) (fun hn_ => (Kd.freshB (g := gb332) (o := .cells #[.slice A0_0 l0_0.length c0_0] 30 (0, 0)) (bp BK332) k_ hn_))⟩)) (below_size (bw HB))); have n2_ := am (Kd.S_lower (Kd.S_newM (M := fun k_ => (w.heap.size ≤ k_)) (Kd.S_mono (ok' := fun k_ => True) ho1 (fun _ hk_ => trivial)) (below_size (bw HB)) (fun k_ h_ => h_)) (below_size (bw HB))); have n3_ := am (blk_below (g := gb332) (o := .cells #[.slice A0_0 l0_0.length c0_0] 30 (0, 0)) (bp BK332) hb); have n4_ := am (hbx); have n5_ := am ((Nat.le_trans (below_size (bw HB)) hgx)); have n6_ := am ((Nat.le_trans (below_size (bw HB)) hgx)); have n7_ := am ((Nat.ne_of_lt (Nat.lt_of_lt_of_le (blk_lt (g := gb332) (o := .cells #[.slice A0_0 l0_0.length c0_0] 30 (0, 0)) (bp BK332)) hgx) : gb332 ≠ gb339)); have n8_ := am ((Nat.ne_of_gt (Nat.lt_of_lt_of_le (blk_lt (g := gb332) (o := .cells #[.slice A0_0 l0_0.length c0_0] 30 (0, 0)) (bp BK332)) hgx) : gb339 ≠ gb332)); have n9_ := am (below_step (bw HB) hb); clear HO0_0; clear BK332; clear HB; have HO0_0 := n0_; have HO335 := n1_; have HO338 := n2_; have BK332 := n3_; have BK339 := n4_; have GW339 := n5_; have GE339 := n6_; have NB332_339 := n7_; have NB339_332 := n8_; have HB := n9_; clear n0_ n1_ n2_ n3_ n4_ n5_ n6_ n7_ n8_ n9_; (try clear hb); (try clear hb2); (try clear hk); (try clear hi); (try clear ho0); (try clear ho1); (try clear hbx); (try clear hgx)))
  go_ret2
  exact ⟨_, _, gb339, er, by (with_reducible repeat (first | apply Kd.V_alloc | apply Kd.V_drewN | apply Kd.V_drew)); exact Kd.V_mono HO335.out (fun _ hk => ⟨hk.1, hk.2.1⟩), by (with_reducible repeat (first | apply Kd.S_alloc | apply Kd.S_drewN | apply Kd.S_drew)); exact Kd.S_mono HO338.out (fun _ hk => hk.1), (bp BK339), GW339.out, bw HB⟩

/-! ### impl_Heights: function 17 -/
def impl_Heights.f (k : Nat) (l0_0 : List (S100)) (a1 : Int) : Option (List Int) := (impl_knownFunc.f k l0_0 a1).bind fun bt343 => (if bt343.2.2 = true then (if 0 ≤ a1 then (if a1 < (bt343.2.1.length : Int) then (some (rd_L9 bt343.2.1 a1)) else (none)) else (none)) else (some ([] : List Int)))
theorem impl_Heights.mono : ∀ a0 a1 k, LeO (impl_Heights.f k a0 a1) (impl_Heights.f (k + 1) a0 a1) := by
 intro a0 a1 k
 unfold impl_Heights.f
 repeat' first
   | (with_reducible exact impl_knownFunc.mono _ _ _)
   | (with_reducible exact LeO.refl _)
   | (with_reducible exact LeO.none _)
   | (with_reducible refine LeO.ite ?_ ?_)
   | (with_reducible refine LeO.bind ?_ (fun _ => ?_))
   | exact impl_knownFunc.mono _ _ _
   | exact LeO.none _
   | refine LeO.ite ?_ ?_
   | refine LeO.bind ?_ (fun _ => ?_)
theorem impl_Heights.calls (k : Nat) (A0_0 : Option Addr) (c0_0 : Nat) (l0_0 : List (S100)) (a1 : Int) (r : List Int) (w : World) (hr0_0 : Kd.C k100 w A0_0 l0_0.length l0_0) (hc0_0 : l0_0.length ≤ c0_0) (h : impl_Heights.f k l0_0 a1 = some r) :
  Calls Try.prog 17 #[.agg #[.slice A0_0 l0_0.length c0_0], .int .i64 a1] w fun e w' => ∃ v0_ : Value, e = .returned (v0_) ∧ Kd.R (Kd.int .i64) 2 w' w.heap.size (fun _ => True) v0_ r ∧ Below w.heap.size w w' := by
 have hu30 := Try.underlying30
 have HR0_0 := am hr0_0
 have HC0_0 := am hc0_0
 clear hr0_0 hc0_0
 have HB := am (Below.refl w.heap.size w)
 have H : ((impl_knownFunc.f k l0_0 a1).bind fun bt343 => (if bt343.2.2 = true then (if 0 ≤ a1 then (if a1 < (bt343.2.1.length : Int) then (some (rd_L9 bt343.2.1 a1)) else (none)) else (none)) else (some ([] : List Int)))) = some r := h
 clear h
 replace H := Option.bind_eq_some_iff.mp H
 obtain ⟨⟨t343, t346, t350⟩, A30, H⟩ := H
 replace H : (if t350 = true then (if 0 ≤ a1 then (if a1 < (t346.length : Int) then (some (rd_L9 t346 a1)) else (none)) else (none)) else (some ([] : List Int))) = some r := H
 have A3 := am A30
 clear A30
 by_cases c4 : t350 = true
 ·subst c4
  have H1 : (if 0 ≤ a1 then (if a1 < (t346.length : Int) then (some (rd_L9 t346 a1)) else (none)) else (none)) = some r := by rw [if_pos rfl] at H; exact H
  clear H
  have H := H1
  clear H1
  by_cases c5 : 0 ≤ a1
  ·rw [if_pos c5] at H
   have c5b0 : decide (0 ≤ a1) = true := decide_eq_true c5
   clear c5
   by_cases c6 : a1 < (t346.length : Int)
   ·rw [if_pos c6] at H
    have c6b0 : decide (a1 < (t346.length : Int)) = true := decide_eq_true c6
    clear c6
    obtain rfl := Option.some.inj H
    go_enter Try.func17, Try.ntmps17
    go_wp2_with (first | ((with_reducible refine gate_dst (N := 2) rfl ?_); refine box_event ?hg (N := 2) ?hd (cs := #[.slice A0_0 l0_0.length c0_0]) (t := 30) ?hr ?_; (case hd => rfl); (case hg => rfl); (case hr => exact gs); intro gb342 hg w7 hbox hb; have n0_ := am (below_step (bw HB) hb); have n1_ := am (hbox); have n2_ := am ((by rw [hg]; exact (below_size (bw HB)) : w.heap.size ≤ gb342)); have n3_ := am ((by rw [hg]; exact (below_size (bw HB)) : w.heap.size ≤ gb342)); clear HB; have HB := n0_; have BK342 := n1_; have GW342 := n2_; have GE342 := n3_; clear n0_ n1_ n2_ n3_; clear hb hbox hg; have hcz8_0 : w7.cell? ⟨gb342, 0, none⟩ = some (.slice A0_0 l0_0.length c0_0) := (blk_cell BK342.out 0).trans rfl; have hfz8_0 := blk_frozen BK342.out 0) | ((with_reducible refine gate_callee (f := 60) rfl ?_); refine goesL_ (some 10) rfl rfl Try.func60 (by kernel_rfl) rfl #[.agg #[.slice A0_0 l0_0.length c0_0], .int .i64 a1] rfl gl ?_; (with_reducible refine (impl_knownFunc.calls k (fun k_ => k_ < w.heap.size) _ _ l0_0 a1 t343 t346 true _ ?side1 A3.out).mono ?_); (case side1 => exact Kd.V_mk HC0_0.out (Kd.F_below (Kd.C_F k100_heap HR0_0.out) (bw HB))); rintro e w9 ⟨v344, v347, gb349, rfl, ho0, ho1, hbx, hgx, hb⟩; refine ⟨_, rfl, ?_⟩; have n0_ := am (Kd.V_lower (Kd.V_mono (ok' := fun k_ => some k_ ≠ (v347 : Value).ownBlock ∧ k_ ≠ gb342) ho0 (fun k_ hk_ => ⟨hk_.2, Or.elim hk_.1 (fun hs_ => fun e_ => Nat.not_le.2 hs_ (by rw [e_]; exact GW342.out)) (fun hn_ => (Kd.freshB (g := gb342) (o := .cells #[.slice A0_0 l0_0.length c0_0] 30 (0, 0)) (bp BK342) k_ hn_))⟩)) (below_size (bw HB))); have n1_ := am (Kd.S_lower (Kd.S_mono (ok' := fun k_ => True) ho1 (fun _ hk_ => trivial)) (below_size (bw HB))); have n2_ := am (blk_below (g := gb342) (o := .cells #[.slice A0_0 l0_0.length c0_0] 30 (0, 0)) (bp BK342) hb); have n3_ := am (hbx); have n4_ := am ((Nat.le_trans (below_size (bw HB)) hgx)); have n5_ := am ((Nat.le_trans (below_size (bw HB)) hgx)); have n6_ := am ((Nat.ne_of_lt (Nat.lt_of_lt_of_le (blk_lt (g := gb342) (o := .cells #[.slice A0_0 l0_0.length c0_0] 30 (0, 0)) (bp BK342)) hgx) : gb342 ≠ gb349)); have n7_ := am ((Nat.ne_of_gt (Nat.lt_of_lt_of_le (blk_lt (g := gb342) (o := .cells #[.slice A0_0 l0_0.length c0_0] 30 (0, 0)) (bp BK342)) hgx) : gb349 ≠ gb342)); have n8_ := am (below_step (bw HB) hb); clear BK342; clear HB; have HO345 := n0_; have HO348 := n1_; have BK342 := n2_; have BK349 := n3_; have GW349 := n4_; have GE349 := n5_; have NB342_349 := n6_; have NB349_342 := n7_; have HB := n8_; clear n0_ n1_ n2_ n3_ n4_ n5_ n6_ n7_ n8_; (try clear hb); (try clear hb2); (try clear hk); (try clear hi); (try clear ho0); (try clear ho1); (try clear hbx); (try clear hgx); have hnb10 := NB349_342.out; have hnc10 := NB342_349.out; have hcz11_0 : w9.cell? ⟨gb349, 0, none⟩ = some (v344) := (blk_cell BK349.out 0).trans rfl; have hcz11_1 : w9.cell? ⟨gb349, 1, none⟩ = some (v347) := (blk_cell BK349.out 1).trans rfl; have hfz11_0 := blk_frozen BK349.out 0; have hfz11_1 := blk_frozen BK349.out 1; obtain ⟨Ao12, co12, eo12⟩ := Kd.S_slice HO348.out; subst eo12; have p351 : 0 ≤ (a1 : Int) := of_decide_eq_true as1; have q351 : a1 < (t346.length : Int) := of_decide_eq_true as1; obtain ⟨ad351, A351_0, c351_0, e351, hx351_0, hl351_0, hi351_0⟩ := at_L9 (Kd.S_reads' HO348.out).2.2 a1 p351 q351; cases e351; obtain ⟨ce351, hce351, hMe351, hcc351⟩ := Kd.S_get HO348.out [] a1 p351 (by first | exact q351 | exact of_decide_eq_true as1 | (have e_ := (Kd.S_reads' HO348.out).1; omega)); obtain ⟨ve351_0, rfl, ge351_0⟩ := hMe351; have hv351_0 := hcc351 0 _ rfl; rw [Nat.add_zero, show ((Kd.slice 2 (Kd.int .i64))).sz = 1 from rfl, Nat.mul_one] at hv351_0; replace hv351_0 := Option.some.inj (hv351_0.symm.trans hx351_0); rw [hv351_0] at ge351_0; have HL351_0 := am (show Kd.R (Kd.int .i64) 2 _ _ _ _ (rd_L9 t346 a1) from ge351_0); clear hv351_0 ge351_0; clear hcc351 hce351; have HR351_0 := am hi351_0; have HC351_0 := am hl351_0; clear hi351_0 hl351_0; replace p351 := eq_true p351; replace q351 := eq_true q351))
    go_ret
    exact ⟨_, er, by (with_reducible repeat (first | apply Kd.R_alloc | apply Kd.R_drewN | apply Kd.R_drew)); exact Kd.R_mono HL351_0.out (fun _ hk => trivial), bw HB⟩
   ·rw [if_neg c6] at H
    exact absurd H (by simp)
  ·rw [if_neg c5] at H
   exact absurd H (by simp)
 ·replace c4 := Bool.eq_false_iff.mpr c4
  subst c4
  have H1 : (some ([] : List Int)) = some r := by rw [if_neg (show ¬ (false = true) by decide)] at H; exact H
  clear H
  have H := H1
  clear H1
  obtain rfl := Option.some.inj H
  go_enter Try.func17, Try.ntmps17
  go_wp2_with (first | ((with_reducible refine gate_dst (N := 2) rfl ?_); refine box_event ?hg (N := 2) ?hd (cs := #[.slice A0_0 l0_0.length c0_0]) (t := 30) ?hr ?_; (case hd => rfl); (case hg => rfl); (case hr => exact gs); intro gb342 hg w13 hbox hb; have n0_ := am (below_step (bw HB) hb); have n1_ := am (hbox); have n2_ := am ((by rw [hg]; exact (below_size (bw HB)) : w.heap.size ≤ gb342)); have n3_ := am ((by rw [hg]; exact (below_size (bw HB)) : w.heap.size ≤ gb342)); clear HB; have HB := n0_; have BK342 := n1_; have GW342 := n2_; have GE342 := n3_; clear n0_ n1_ n2_ n3_; clear hb hbox hg; have hcz14_0 : w13.cell? ⟨gb342, 0, none⟩ = some (.slice A0_0 l0_0.length c0_0) := (blk_cell BK342.out 0).trans rfl; have hfz14_0 := blk_frozen BK342.out 0) | ((with_reducible refine gate_callee (f := 60) rfl ?_); refine goesL_ (some 10) rfl rfl Try.func60 (by kernel_rfl) rfl #[.agg #[.slice A0_0 l0_0.length c0_0], .int .i64 a1] rfl gl ?_; (with_reducible refine (impl_knownFunc.calls k (fun k_ => k_ < w.heap.size) _ _ l0_0 a1 t343 t346 false _ ?side1 A3.out).mono ?_); (case side1 => exact Kd.V_mk HC0_0.out (Kd.F_below (Kd.C_F k100_heap HR0_0.out) (bw HB))); rintro e w15 ⟨v344, v347, gb349, rfl, ho0, ho1, hbx, hgx, hb⟩; refine ⟨_, rfl, ?_⟩; have n0_ := am (Kd.V_lower (Kd.V_mono (ok' := fun k_ => some k_ ≠ (v347 : Value).ownBlock ∧ k_ ≠ gb342) ho0 (fun k_ hk_ => ⟨hk_.2, Or.elim hk_.1 (fun hs_ => fun e_ => Nat.not_le.2 hs_ (by rw [e_]; exact GW342.out)) (fun hn_ => (Kd.freshB (g := gb342) (o := .cells #[.slice A0_0 l0_0.length c0_0] 30 (0, 0)) (bp BK342) k_ hn_))⟩)) (below_size (bw HB))); have n1_ := am (Kd.S_lower (Kd.S_mono (ok' := fun k_ => True) ho1 (fun _ hk_ => trivial)) (below_size (bw HB))); have n2_ := am (blk_below (g := gb342) (o := .cells #[.slice A0_0 l0_0.length c0_0] 30 (0, 0)) (bp BK342) hb); have n3_ := am (hbx); have n4_ := am ((Nat.le_trans (below_size (bw HB)) hgx)); have n5_ := am ((Nat.le_trans (below_size (bw HB)) hgx)); have n6_ := am ((Nat.ne_of_lt (Nat.lt_of_lt_of_le (blk_lt (g := gb342) (o := .cells #[.slice A0_0 l0_0.length c0_0] 30 (0, 0)) (bp BK342)) hgx) : gb342 ≠ gb349)); have n7_ := am ((Nat.ne_of_gt (Nat.lt_of_lt_of_le (blk_lt (g := gb342) (o := .cells #[.slice A0_0 l0_0.length c0_0] 30 (0, 0)) (bp BK342)) hgx) : gb349 ≠ gb342)); have n8_ := am (below_step (bw HB) hb); clear BK342; clear HB; have HO345 := n0_; have HO348 := n1_; have BK342 := n2_; have BK349 := n3_; have GW349 := n4_; have GE349 := n5_; have NB342_349 := n6_; have NB349_342 := n7_; have HB := n8_; clear n0_ n1_ n2_ n3_ n4_ n5_ n6_ n7_ n8_; (try clear hb); (try clear hb2); (try clear hk); (try clear hi); (try clear ho0); (try clear ho1); (try clear hbx); (try clear hgx)))
  go_ret
  exact ⟨_, er, by first | exact Kd.R_nil _ _ _ _ _ | exact Kd.N_nil _ _ _ _ _ | exact Kd.V_nil _ _ _ _ _ | exact Kd.Q_nil _ _ _ _ _ | exact Kd.S_nil _ _ _ _ _, bw HB⟩

end Go.Proofs.Ytbmjmaahcaoajaa.QFnExactHeights
