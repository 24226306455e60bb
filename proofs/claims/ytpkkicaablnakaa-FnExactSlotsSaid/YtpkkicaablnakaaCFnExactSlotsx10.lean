-- Written by this session's own program (wip/tools/xprint.py) on the seat's printed words. Lean checks it.
import Derived.Test.YtpkkicaablnakaaCFnExactSlotsx0
import Derived.Test.YtpkkicaablnakaaCFnExactSlotsx7
import Derived.Test.YtpkkicaablnakaaCFnExactSlotsx9
namespace Go.Proofs.Ytpkkicaablnakaa.QFnExactSlots
open Go.RowKit Go.Proofs.YtpkkicaablnakaaW.PrintWords Go.Proofs.YtpkkicaablnakaaW.PrintLast Go.Proofs.YtpkkicaablnakaaW.PrintMore Go.Proofs.YtpkkicaablnakaaW.PrintShort
attribute [local go_sem] max2_int min2_int max_two min_two max_three min_three max_four min_four   -- for this text's walks alone
set_option linter.unusedVariables false
set_option linter.unusedSimpArgs false

/-! ### impl_verify: function 158 -/
mutual
def impl_verify.j0 : Nat → Bool → List (S108) → Option (Int × Int × Int × (List (List Int)))
 | 0, _, _ => none
 | k + 1, x21, x321000 => if x21 = true then (some (0, 0, 1, ([] : List (List Int)))) else (impl_verify.l0 k ([] : List (List Int)) x321000 (x321000.length : Int) 0 x321000)
def impl_verify.l0 : Nat → List (List Int) → List (S108) → Int → Int → List (S108) → Option (Int × Int × Int × (List (List Int)))
 | 0, _, _, _, _, _ => none
 | k + 1, x4, x24, x25, x26, x321000 => if x26 < x25 then (if 0 ≤ x26 then (if x26 < (x24.length : Int) then ((impl_in.f ((rd_T108 x24 x26).f0) 0 4).bind fun t324 => (if t324 = true then ((impl_in.f ((rd_T108 x24 x26).f1) ((rd_T108 x24 x26).f0) 8).bind fun t325 => (if t325 = true then ((impl_in.f (((rd_T108 x24 x26).f2).length : Int) 1 60).bind fun t326 => (impl_verify.j2 k x4 x26 x24 x25 x26 (!t326) x321000 ((rd_T108 x24 x26).f0) ((rd_T108 x24 x26).f1) ((rd_T108 x24 x26).f2))) else (impl_verify.j2 k x4 x26 x24 x25 x26 true x321000 ((rd_T108 x24 x26).f0) ((rd_T108 x24 x26).f1) ((rd_T108 x24 x26).f2)))) else (impl_verify.j2 k x4 x26 x24 x25 x26 true x321000 ((rd_T108 x24 x26).f0) ((rd_T108 x24 x26).f1) ((rd_T108 x24 x26).f2)))) else (none)) else (none)) else (some (0, 0, 0, x4))
def impl_verify.j2 : Nat → List (List Int) → Int → List (S108) → Int → Int → Bool → List (S108) → Int → Int → List (S56) → Option (Int × Int × Int × (List (List Int)))
 | 0, _, _, _, _, _, _, _, _, _, _ => none
 | k + 1, x4, x5, x24, x25, x26, x49, x321000, x324000, x324001, x324002 => if x49 = true then (some (x5, 0, 1, ([] : List (List Int)))) else (impl_verify.l1 k x4 x5 x24 x25 x26 x324002 (x324002.length : Int) 0 x321000)
def impl_verify.l1 : Nat → List (List Int) → Int → List (S108) → Int → Int → List (S56) → Int → Int → List (S108) → Option (Int × Int × Int × (List (List Int)))
 | 0, _, _, _, _, _, _, _, _, _ => none
 | k + 1, x4, x5, x24, x25, x26, x53, x54, x55, x321000 => if x55 < x54 then (if 0 ≤ x55 then (if x55 < (x53.length : Int) then ((impl_InsRight.f k x321000 x5 ((rd_T56 x53 x55).f0) ((rd_T56 x53 x55).f1)).bind fun t329 => (if t329 = true then (impl_verify.l1 k x4 x5 x24 x25 x26 x53 x54 (wrap64 (x55 + 1)) x321000) else (some (x5, x55, 1, ([] : List (List Int)))))) else (none)) else (none)) else ((impl_heightsOf.f k x321000 x5).bind fun bt330 => (if bt330.2.2 = 0 then (if x4.length < 5864062014805 then (impl_verify.l0 k (x4 ++ [bt330.1]) x24 x25 (wrap64 (x26 + 1)) x321000) else (none)) else (some (x5, bt330.2.1, bt330.2.2, ([] : List (List Int))))))
end
def impl_verify.f (k : Nat) (l0_0 : List (S108)) : Option (Int × Int × Int × (List (List Int))) := if (l0_0.length : Int) < 1 then (impl_verify.j0 k true l0_0) else (impl_verify.j0 k (decide ((l0_0.length : Int) > 6)) l0_0)
theorem impl_verify.mono_l : ∀ k, (∀ y0 y1, LeO (impl_verify.j0 k y0 y1) (impl_verify.j0 (k + 1) y0 y1)) ∧ (∀ y0 y1 y2 y3 y4, LeO (impl_verify.l0 k y0 y1 y2 y3 y4) (impl_verify.l0 (k + 1) y0 y1 y2 y3 y4)) ∧ (∀ y0 y1 y2 y3 y4 y5 y6 y7 y8 y9, LeO (impl_verify.j2 k y0 y1 y2 y3 y4 y5 y6 y7 y8 y9) (impl_verify.j2 (k + 1) y0 y1 y2 y3 y4 y5 y6 y7 y8 y9)) ∧ (∀ y0 y1 y2 y3 y4 y5 y6 y7 y8, LeO (impl_verify.l1 k y0 y1 y2 y3 y4 y5 y6 y7 y8) (impl_verify.l1 (k + 1) y0 y1 y2 y3 y4 y5 y6 y7 y8))
 | 0 => ⟨fun _ _ r h => by simp [impl_verify.j0] at h, fun _ _ _ _ _ r h => by simp [impl_verify.l0] at h, fun _ _ _ _ _ _ _ _ _ _ r h => by simp [impl_verify.j2] at h, fun _ _ _ _ _ _ _ _ _ r h => by simp [impl_verify.l1] at h⟩
 | k + 1 => by
  obtain ⟨ih0, ih1, ih2, ih3⟩ := impl_verify.mono_l k
  refine ⟨?_, ?_, ?_, ?_⟩
  ·intro y0 y1
   unfold impl_verify.j0
   repeat' first
   | (with_reducible exact ih0 _ _)
   | (with_reducible exact ih1 _ _ _ _ _)
   | (with_reducible exact ih2 _ _ _ _ _ _ _ _ _ _)
   | (with_reducible exact ih3 _ _ _ _ _ _ _ _ _)
   | (with_reducible exact impl_InsRight.mono _ _ _ _ _)
   | (with_reducible exact impl_heightsOf.mono _ _ _)
   | (with_reducible exact LeO.refl _)
   | (with_reducible exact LeO.none _)
   | (with_reducible refine LeO.ite ?_ ?_)
   | (with_reducible refine LeO.bind ?_ (fun _ => ?_))
   | exact ih0 _ _
   | exact ih1 _ _ _ _ _
   | exact ih2 _ _ _ _ _ _ _ _ _ _
   | exact ih3 _ _ _ _ _ _ _ _ _
   | exact impl_InsRight.mono _ _ _ _ _
   | exact impl_heightsOf.mono _ _ _
   | exact LeO.none _
   | refine LeO.ite ?_ ?_
   | refine LeO.bind ?_ (fun _ => ?_)
  ·intro y0 y1 y2 y3 y4
   unfold impl_verify.l0
   repeat' first
   | (with_reducible exact ih0 _ _)
   | (with_reducible exact ih1 _ _ _ _ _)
   | (with_reducible exact ih2 _ _ _ _ _ _ _ _ _ _)
   | (with_reducible exact ih3 _ _ _ _ _ _ _ _ _)
   | (with_reducible exact impl_InsRight.mono _ _ _ _ _)
   | (with_reducible exact impl_heightsOf.mono _ _ _)
   | (with_reducible exact LeO.refl _)
   | (with_reducible exact LeO.none _)
   | (with_reducible refine LeO.ite ?_ ?_)
   | (with_reducible refine LeO.bind ?_ (fun _ => ?_))
   | exact ih0 _ _
   | exact ih1 _ _ _ _ _
   | exact ih2 _ _ _ _ _ _ _ _ _ _
   | exact ih3 _ _ _ _ _ _ _ _ _
   | exact impl_InsRight.mono _ _ _ _ _
   | exact impl_heightsOf.mono _ _ _
   | exact LeO.none _
   | refine LeO.ite ?_ ?_
   | refine LeO.bind ?_ (fun _ => ?_)
  ·intro y0 y1 y2 y3 y4 y5 y6 y7 y8 y9
   unfold impl_verify.j2
   repeat' first
   | (with_reducible exact ih0 _ _)
   | (with_reducible exact ih1 _ _ _ _ _)
   | (with_reducible exact ih2 _ _ _ _ _ _ _ _ _ _)
   | (with_reducible exact ih3 _ _ _ _ _ _ _ _ _)
   | (with_reducible exact impl_InsRight.mono _ _ _ _ _)
   | (with_reducible exact impl_heightsOf.mono _ _ _)
   | (with_reducible exact LeO.refl _)
   | (with_reducible exact LeO.none _)
   | (with_reducible refine LeO.ite ?_ ?_)
   | (with_reducible refine LeO.bind ?_ (fun _ => ?_))
   | exact ih0 _ _
   | exact ih1 _ _ _ _ _
   | exact ih2 _ _ _ _ _ _ _ _ _ _
   | exact ih3 _ _ _ _ _ _ _ _ _
   | exact impl_InsRight.mono _ _ _ _ _
   | exact impl_heightsOf.mono _ _ _
   | exact LeO.none _
   | refine LeO.ite ?_ ?_
   | refine LeO.bind ?_ (fun _ => ?_)
  ·intro y0 y1 y2 y3 y4 y5 y6 y7 y8
   unfold impl_verify.l1
   repeat' first
   | (with_reducible exact ih0 _ _)
   | (with_reducible exact ih1 _ _ _ _ _)
   | (with_reducible exact ih2 _ _ _ _ _ _ _ _ _ _)
   | (with_reducible exact ih3 _ _ _ _ _ _ _ _ _)
   | (with_reducible exact impl_InsRight.mono _ _ _ _ _)
   | (with_reducible exact impl_heightsOf.mono _ _ _)
   | (with_reducible exact LeO.refl _)
   | (with_reducible exact LeO.none _)
   | (with_reducible refine LeO.ite ?_ ?_)
   | (with_reducible refine LeO.bind ?_ (fun _ => ?_))
   | exact ih0 _ _
   | exact ih1 _ _ _ _ _
   | exact ih2 _ _ _ _ _ _ _ _ _ _
   | exact ih3 _ _ _ _ _ _ _ _ _
   | exact impl_InsRight.mono _ _ _ _ _
   | exact impl_heightsOf.mono _ _ _
   | exact LeO.none _
   | refine LeO.ite ?_ ?_
   | refine LeO.bind ?_ (fun _ => ?_)
theorem impl_verify.mono : ∀ a0 k, LeO (impl_verify.f k a0) (impl_verify.f (k + 1) a0) := by
 intro a0 k
 obtain ⟨ih0, ih1, ih2, ih3⟩ := impl_verify.mono_l k
 unfold impl_verify.f
 repeat' first
   | (with_reducible exact ih0 _ _)
   | (with_reducible exact ih1 _ _ _ _ _)
   | (with_reducible exact ih2 _ _ _ _ _ _ _ _ _ _)
   | (with_reducible exact ih3 _ _ _ _ _ _ _ _ _)
   | (with_reducible exact impl_InsRight.mono _ _ _ _ _)
   | (with_reducible exact impl_heightsOf.mono _ _ _)
   | (with_reducible exact LeO.refl _)
   | (with_reducible exact LeO.none _)
   | (with_reducible refine LeO.ite ?_ ?_)
   | (with_reducible refine LeO.bind ?_ (fun _ => ?_))
   | exact ih0 _ _
   | exact ih1 _ _ _ _ _
   | exact ih2 _ _ _ _ _ _ _ _ _ _
   | exact ih3 _ _ _ _ _ _ _ _ _
   | exact impl_InsRight.mono _ _ _ _ _
   | exact impl_heightsOf.mono _ _ _
   | exact LeO.none _
   | refine LeO.ite ?_ ?_
   | refine LeO.bind ?_ (fun _ => ?_)
set_option maxHeartbeats 8000000 in
set_option maxRecDepth 100000 in
theorem impl_verify.calls (k : Nat) (A0_0 : Option Addr) (c0_0 : Nat) (l0_0 : List (S108)) (r1 : Int) (r2 : Int) (r3 : Int) (r4 : List (List Int)) (w : World) (hr0_0 : Kd.C k108 w A0_0 l0_0.length l0_0) (hc0_0 : l0_0.length ≤ c0_0) (h : impl_verify.f k l0_0 = some (r1, r2, r3, r4)) :
  Calls Try.prog 158 #[.agg #[.slice A0_0 l0_0.length c0_0]] w fun e w' => ∃ v3_ : Value, e = .returned (.tuple #[.agg #[.int .i64 r1, .int .i64 r2, .int .i64 r3], v3_]) ∧ Kd.S (Kd.slice 2 (Kd.int .i64)) 28 w' w.heap.size (fun _ => True) v3_ r4 ∧ Below w.heap.size w w' := by
 have hu25 := Try.underlying25
 have hu157 := Try.underlying157
 have hu108 := Try.underlying108
 have hu56 := Try.underlying56
 have HR0_0 := Aside0.mk hr0_0
 have HC0_0 := Aside0.mk hc0_0
 clear hr0_0 hc0_0
 have HB := Aside0.mk (Below.refl w.heap.size w)
 have H : (if (l0_0.length : Int) < 1 then (impl_verify.j0 k true l0_0) else (impl_verify.j0 k (decide ((l0_0.length : Int) > 6)) l0_0)) = some (r1, r2, r3, r4) := h
 clear h
 have HC2 := Aside0.mk H
 clear H
 go_enter Try.func158, Try.ntmps158
 go_upto_region 1 with (first | ((with_reducible refine gate_dst (N := 1) rfl ?_); (try (refine gate_guard (by rfl) ?_; dsimp only)); refine box_event ?hg (N := 1) ?hd (cs := #[.slice A0_0 l0_0.length c0_0]) (t := 25) ?hr ?_; (case hd => rfl); (case hg => rfl); (case hr => first | (go_simp; done) | (go_simp; rfl)); intro gb320 hg w3 hbox hb; have n0_ := Aside0.mk (below_step (bw HB) hb); have n1_ := Aside0.mk (hbox); have n2_ := Aside0.mk ((by rw [hg]; exact (below_size (bw HB)) : w.heap.size ≤ gb320)); have n3_ := Aside0.mk ((by rw [hg]; exact (below_size (bw HB)) : w.heap.size ≤ gb320)); clear HB; have HB := n0_; have BK320 := n1_; have GW320 := n2_; have GE320 := n3_; clear n0_ n1_ n2_ n3_; clear hb hbox hg) | ((with_reducible refine gate_dst (N := 2) rfl ?_); (try (refine gate_guard (by rfl) ?_; dsimp only)); refine box_event ?hg (N := 2) ?hd (cs := #[.int .i64 0, .int .i64 0, .int .i64 0]) (t := 157) ?hr ?_; (case hd => rfl); (case hg => rfl); (case hr => first | (go_simp; done) | (go_simp; rfl)); intro gb321 hg w4 hbox hb; have n0_ := Aside0.mk (blk_below (g := gb320) (o := .cells #[.slice A0_0 l0_0.length c0_0] 25 (0, 0)) (bp BK320) hb); have n1_ := Aside0.mk (below_step (bw HB) hb); have n2_ := Aside0.mk (hbox); have n3_ := Aside0.mk ((by rw [hg]; exact (below_size (bw HB)) : w.heap.size ≤ gb321)); have n4_ := Aside0.mk ((by rw [hg]; exact (below_size (bw HB)) : w.heap.size ≤ gb321)); have n5_ := Aside0.mk ((by rw [hg]; exact Nat.ne_of_lt (blk_lt (g := gb320) (o := .cells #[.slice A0_0 l0_0.length c0_0] 25 (0, 0)) (bp BK320)) : gb320 ≠ gb321)); have n6_ := Aside0.mk ((by rw [hg]; exact Nat.ne_of_gt (blk_lt (g := gb320) (o := .cells #[.slice A0_0 l0_0.length c0_0] 25 (0, 0)) (bp BK320)) : gb321 ≠ gb320)); clear BK320; clear HB; have BK320 := n0_; have HB := n1_; have BK321 := n2_; have GW321 := n3_; have GE321 := n4_; have NB320_321 := n5_; have NB321_320 := n6_; clear n0_ n1_ n2_ n3_ n4_ n5_ n6_; clear hb hbox hg))
 (try simp only [Act.put, List.setIfInBounds_toArray, List.set_cons_zero, List.set_cons_succ])
 go_cut [21] (fun v21 wc => ∃ (kq : Nat) (x21_1 : Bool), v21 = .bool x21_1 ∧ Aside0 (impl_verify.j0 kq x21_1 l0_0 = some (r1, r2, r3, r4)) ∧ Aside0 (kq ≤ k) ∧ Aside0 (wc.heap[gb320]? = some (.cells #[(.slice A0_0 l0_0.length c0_0)] 25 (0, 0))) ∧ Aside0 (wc.heap[gb321]? = some (.cells #[.int .i64 0, .int .i64 0, .int .i64 0] 157 (0, 0))) ∧ Aside0 (Below w.heap.size w wc))
 case first =>
  have H := HC2.out
  clear HC2
  by_cases c5 : (l0_0.length : Int) < 1
  ·rw [if_pos c5] at H
   have c5b0 : decide ((l0_0.length : Int) < 1) = true := decide_eq_true c5
   have c5b1 : decide (l0_0.length < 1) = true := decide_eq_true (by omega)
   clear c5
   (first | rw [c5b0] | (simp only [i64_w, i32_w]; rw [c5b0]) | skip)
   have H' := Aside0.mk H
   clear H
   have hnb6 := NB320_321.out
   have hnc6 := NB321_320.out
   have hcz7_0 : w4.cell? ⟨gb320, 0, none⟩ = some (.slice A0_0 l0_0.length c0_0) := (blk_cell BK320.out 0).trans rfl
   have hfz7_0 := blk_frozen BK320.out 0
   go_wp2
   go_meet
   case rel => exact ⟨_, (true), dr, H', ⟨by first | omega | exact Nat.le_refl _⟩, ⟨bp BK320⟩, ⟨bp BK321⟩, ⟨bw HB⟩⟩
  ·rw [if_neg c5] at H
   have c5b0 : decide ((l0_0.length : Int) < 1) = false := decide_eq_false c5
   have c5b1 : decide (l0_0.length < 1) = false := decide_eq_false (by omega)
   clear c5
   (first | rw [c5b0] | (simp only [i64_w, i32_w]; rw [c5b0]) | skip)
   have H' := Aside0.mk H
   clear H
   have hnb8 := NB320_321.out
   have hnc8 := NB321_320.out
   have hcz9_0 : w4.cell? ⟨gb320, 0, none⟩ = some (.slice A0_0 l0_0.length c0_0) := (blk_cell BK320.out 0).trans rfl
   have hfz9_0 := blk_frozen BK320.out 0
   go_wp2
   go_meet
   case rel => exact ⟨_, (decide ((l0_0.length : Int) > 6)), dr, H', ⟨by first | omega | exact Nat.le_refl _⟩, ⟨bp BK320⟩, ⟨bp BK321⟩, ⟨bw HB⟩⟩
 case rest =>
  clear HC2
  (try clear c1); (try clear p2); (try clear c5); (try clear c5b0); (try clear c5b1); (try clear c6); (try clear c8); (try clear hcz7_0); (try clear hcz9_0); (try clear hfz7_0); (try clear hfz9_0)
  obtain ⟨kq, x21_1, rfl, HA, HJ1, BK320, BK321, HB⟩ := hcut
  cases kq with
  | zero => exact absurd HA.out (by simp [impl_verify.j0])
  | succ kj1 =>
   have H := HA.out
   clear HA
   simp only [impl_verify.j0] at H
   by_cases c10 : x21_1 = true
   ·subst c10
    have H1 : (some (0, 0, 1, ([] : List (List Int)))) = some (r1, r2, r3, r4) := by rw [if_pos rfl] at H; exact H
    clear H
    have H := H1
    clear H1
    simp only [Option.some.injEq, Prod.mk.injEq] at H
    obtain ⟨rfl, rfl, rfl, rfl⟩ := H
    have hnb11 := NB321_320.out
    have hnc11 := NB320_321.out
    have hcz12_0 : wc.cell? ⟨gb321, 0, none⟩ = some (.int .i64 0) := (blk_cell BK321.out 0).trans rfl
    have hcz12_1 : wc.cell? ⟨gb321, 1, none⟩ = some (.int .i64 0) := (blk_cell BK321.out 1).trans rfl
    have hcz12_2 : wc.cell? ⟨gb321, 2, none⟩ = some (.int .i64 0) := (blk_cell BK321.out 2).trans rfl
    have hfz12_0 := blk_frozen BK321.out 0
    have hfz12_1 := blk_frozen BK321.out 1
    have hfz12_2 := blk_frozen BK321.out 2
    go_wp2
    refine bodyPost_ret (results_ct rfl _ _ gb321 157 #[.int .i64 0, .int .i64 0, .int .i64 1] (0, 0) _ rfl (by (with_reducible repeat (first | refine blk_drewN ?_ _ | refine blk_drew ?_ | refine blk_alloc ?_ _)); refine blk_put (cs := #[.int .i64 0, .int .i64 0, .int .i64 0]) ?_ 2 _ rfl; (with_reducible repeat (first | refine blk_drewN ?_ _ | refine blk_drew ?_ | refine blk_alloc ?_ _)); refine blk_put (cs := #[.int .i64 0, .int .i64 0, .int .i64 0]) ?_ 1 _ rfl; (with_reducible repeat (first | refine blk_drewN ?_ _ | refine blk_drew ?_ | refine blk_alloc ?_ _)); refine blk_put (cs := #[.int .i64 0, .int .i64 0, .int .i64 0]) ?_ 0 _ rfl; exact bp BK321) Try.underlying157 rfl (by kernel_rfl)) rfl ?_
    exact ⟨_, by first | rfl | (simp [errW_none, errW_some] <;> rfl) | (simp [*, errW_none, errW_some] <;> rfl), by first | exact Kd.S_nil _ _ _ _ _ | exact Kd.N_nil _ _ _ _ _ | exact Kd.V_nil _ _ _ _ _ | exact Kd.Q_nil _ _ _ _ _ | exact Kd.R_nil _ _ _ _ _, bw HB⟩
   ·replace c10 := Bool.eq_false_iff.mpr c10
    subst c10
    have H1 : (impl_verify.l0 kj1 ([] : List (List Int)) l0_0 (l0_0.length : Int) 0 l0_0) = some (r1, r2, r3, r4) := by rw [if_neg (show ¬ (false = true) by decide)] at H; exact H
    clear H
    have H := H1
    clear H1
    have H' := Aside0.mk H
    clear H
    have hnb13 := NB320_321.out
    have hnc13 := NB321_320.out
    have hcz14_0 : wc.cell? ⟨gb320, 0, none⟩ = some (.slice A0_0 l0_0.length c0_0) := (blk_cell BK320.out 0).trans rfl
    have hfz14_0 := blk_frozen BK320.out 0
    go_wp2
    go_loopg [4, 26] kj1 (fun kq v4 v26 w' => ∃ (x4_2 : List (List Int)) (x26_2 : Int) (x322000_2 : Int) (x322001_2 : Int) (x322002_2 : Int), v26 = .int .i64 x26_2 ∧ Aside0 (impl_verify.l0 kq x4_2 l0_0 (l0_0.length : Int) x26_2 l0_0 = some (r1, r2, r3, r4)) ∧ Aside0 (kq ≤ kj1) ∧ Aside0 (Kd.S (Kd.slice 2 (Kd.int .i64)) 28 w' w.heap.size (fun _ => True) v4 x4_2) ∧ Aside0 (w'.heap[gb320]? = some (.cells #[(.slice A0_0 l0_0.length c0_0)] 25 (0, 0))) ∧ Aside0 (w'.heap[gb321]? = some (.cells #[.int .i64 x322000_2, .int .i64 x322001_2, .int .i64 x322002_2] 157 (0, 0))) ∧ Aside0 (Below w.heap.size w w'))
    case atStart => exact ⟨(([] : List (List Int))), (0), (0), (0), (0), dr, H', ⟨Nat.le_refl _⟩, ⟨by first | exact Kd.S_nil _ _ _ _ _ | exact Kd.N_nil _ _ _ _ _ | exact Kd.V_nil _ _ _ _ _ | exact Kd.Q_nil _ _ _ _ _ | exact Kd.R_nil _ _ _ _ _⟩, ⟨bp BK320⟩, ⟨bp BK321⟩, ⟨bw HB⟩⟩
    case round =>
     clear H'
     (try clear c1); (try clear p2); (try clear c5); (try clear c5b0); (try clear c5b1); (try clear c6); (try clear c8); (try clear c10); (try clear c11); (try clear c13); (try clear hcz12_0); (try clear hcz12_1); (try clear hcz12_2); (try clear hcz14_0); (try clear hcz7_0); (try clear hcz9_0); (try clear hfz12_0); (try clear hfz12_1); (try clear hfz12_2); (try clear hfz14_0); (try clear hfz7_0); (try clear hfz9_0); (try clear p2)
     obtain ⟨x4_2, x26_2, x322000_2, x322001_2, x322002_2, rfl, HA, HK2, HO_4, BK320, BK321, HB⟩ := hrel
     cases gk with
     | zero => exact absurd HA.out (by simp [impl_verify.l0])
     | succ k2 =>
      have H := HA.out
      clear HA
      simp only [impl_verify.l0] at H
      by_cases c15 : x26_2 < (l0_0.length : Int)
      ·rw [if_pos c15] at H
       have c15b0 : decide (x26_2 < (l0_0.length : Int)) = true := decide_eq_true c15
       clear c15
       by_cases c16 : 0 ≤ x26_2
       ·rw [if_pos c16] at H
        have c16b0 : decide (0 ≤ x26_2) = true := decide_eq_true c16
        clear c16
        by_cases c17 : x26_2 < (l0_0.length : Int)
        ·rw [if_pos c17] at H
         have c17b0 : decide (x26_2 < (l0_0.length : Int)) = true := decide_eq_true c17
         clear c17
         have HC18 := Aside0.mk H
         clear H
         have p322 : 0 ≤ (x26_2 : Int) := of_decide_eq_true as1
         have q322 : x26_2 < (l0_0.length : Int) := of_decide_eq_true as1
         obtain ⟨ad322, A322_2, c322_2, e322, hx322_0, hx322_1, hx322_2, hl322_2, hi322_2⟩ := at_T108 HR0_0.out x26_2 p322 q322
         cases e322
         replace hx322_0 := (HB.out.cell (World.block_lt_of_cell? w _ hx322_0)).trans hx322_0
         replace hx322_1 := (HB.out.cell (World.block_lt_of_cell? w _ hx322_1)).trans hx322_1
         replace hx322_2 := (HB.out.cell (World.block_lt_of_cell? w _ hx322_2)).trans hx322_2
         have HR322_2 := Aside0.mk hi322_2
         have HC322_2 := Aside0.mk hl322_2
         clear hi322_2 hl322_2
         replace p322 := eq_true p322
         replace q322 := eq_true q322
         go_upto_region 7 with (first | ((with_reducible refine gate_dst (N := 6) rfl ?_); (try (refine gate_guard (by rfl) ?_; dsimp only)); refine box_event ?hg (N := 6) ?hd (cs := #[.int .i64 0, .int .i64 0, .slice none 0 0]) (t := 108) ?hr ?_; (case hd => rfl); (case hg => rfl); (case hr => first | (go_simp; done) | (go_simp; rfl)); intro gb323 hg w19 hbox hb; have n0_ := Aside0.mk (Kd.S_below (kS HO_4) hb); have n1_ := Aside0.mk (blk_below (g := gb320) (o := .cells #[.slice (some ad322) l0_0.length c0_0] 25 (0, 0)) (bp BK320) hb); have n2_ := Aside0.mk (blk_below (g := gb321) (o := .cells #[.int .i64 x322000_2, .int .i64 x322001_2, .int .i64 x322002_2] 157 (0, 0)) (bp BK321) hb); have n3_ := Aside0.mk (below_step (bw HB) hb); have n4_ := Aside0.mk (hbox); have n5_ := Aside0.mk ((by rw [hg]; exact (below_size (bw HB)) : w.heap.size ≤ gb323)); have n6_ := Aside0.mk ((by rw [hg]; exact (below_size (bw HB)) : w.heap.size ≤ gb323)); have n7_ := Aside0.mk ((by rw [hg]; exact Nat.ne_of_lt (blk_lt (g := gb320) (o := .cells #[.slice (some ad322) l0_0.length c0_0] 25 (0, 0)) (bp BK320)) : gb320 ≠ gb323)); have n8_ := Aside0.mk ((by rw [hg]; exact Nat.ne_of_gt (blk_lt (g := gb320) (o := .cells #[.slice (some ad322) l0_0.length c0_0] 25 (0, 0)) (bp BK320)) : gb323 ≠ gb320)); have n9_ := Aside0.mk ((by rw [hg]; exact Nat.ne_of_lt (blk_lt (g := gb321) (o := .cells #[.int .i64 x322000_2, .int .i64 x322001_2, .int .i64 x322002_2] 157 (0, 0)) (bp BK321)) : gb321 ≠ gb323)); have n10_ := Aside0.mk ((by rw [hg]; exact Nat.ne_of_gt (blk_lt (g := gb321) (o := .cells #[.int .i64 x322000_2, .int .i64 x322001_2, .int .i64 x322002_2] 157 (0, 0)) (bp BK321)) : gb323 ≠ gb321)); clear HO_4; clear BK320; clear BK321; clear HB; have HO_4 := n0_; have BK320 := n1_; have BK321 := n2_; have HB := n3_; have BK323 := n4_; have GW323 := n5_; have GE323 := n6_; have NB320_323 := n7_; have NB323_320 := n8_; have NB321_323 := n9_; have NB323_321 := n10_; clear n0_ n1_ n2_ n3_ n4_ n5_ n6_ n7_ n8_ n9_ n10_; clear hb hbox hg; have hnb20 := NB323_320.out; have hnc20 := NB320_323.out; have hnb21 := NB323_321.out; have hnc21 := NB321_323.out; have hcz22_0 : w19.cell? ⟨gb323, 0, none⟩ = some (.int .i64 0) := (blk_cell BK323.out 0).trans rfl; have hcz22_1 : w19.cell? ⟨gb323, 1, none⟩ = some (.int .i64 0) := (blk_cell BK323.out 1).trans rfl; have hcz22_2 : w19.cell? ⟨gb323, 2, none⟩ = some (.slice none 0 0) := (blk_cell BK323.out 2).trans rfl; have hfz22_0 := blk_frozen BK323.out 0; have hfz22_1 := blk_frozen BK323.out 1; have hfz22_2 := blk_frozen BK323.out 2))
         (try simp only [Act.put, List.setIfInBounds_toArray, List.set_cons_zero, List.set_cons_succ])
         go_cut [49] (fun v49 wc => ∃ (kq : Nat) (x49_17 : Bool), v49 = .bool x49_17 ∧ Aside0 (impl_verify.j2 kq x4_2 x26_2 l0_0 (l0_0.length : Int) x26_2 x49_17 l0_0 ((rd_T108 l0_0 x26_2).f0) ((rd_T108 l0_0 x26_2).f1) ((rd_T108 l0_0 x26_2).f2) = some (r1, r2, r3, r4)) ∧ Aside0 (kq ≤ k2) ∧ Aside0 (Kd.S (Kd.slice 2 (Kd.int .i64)) 28 wc w.heap.size (fun _ => True) u4 x4_2) ∧ Aside0 (wc.heap[gb320]? = some (.cells #[(.slice (some ad322) l0_0.length c0_0)] 25 (0, 0))) ∧ Aside0 (wc.heap[gb321]? = some (.cells #[.int .i64 x322000_2, .int .i64 x322001_2, .int .i64 x322002_2] 157 (0, 0))) ∧ Aside0 (wc.heap[gb323]? = some (.cells #[.int .i64 ((rd_T108 l0_0 x26_2).f0), .int .i64 ((rd_T108 l0_0 x26_2).f1), (.slice A322_2 ((rd_T108 l0_0 x26_2).f2).length c322_2)] 108 (0, 0))) ∧ Aside0 (Below w.heap.size w wc))
         case first =>
          have H := HC18.out
          clear HC18
          replace H := Option.bind_eq_some_iff.mp H
          obtain ⟨t324, A230, H⟩ := H
          replace H : (if t324 = true then ((impl_in.f ((rd_T108 l0_0 x26_2).f1) ((rd_T108 l0_0 x26_2).f0) 8).bind fun t325 => (if t325 = true then ((impl_in.f (((rd_T108 l0_0 x26_2).f2).length : Int) 1 60).bind fun t326 => (impl_verify.j2 k2 x4_2 x26_2 l0_0 (l0_0.length : Int) x26_2 (!t326) l0_0 ((rd_T108 l0_0 x26_2).f0) ((rd_T108 l0_0 x26_2).f1) ((rd_T108 l0_0 x26_2).f2))) else (impl_verify.j2 k2 x4_2 x26_2 l0_0 (l0_0.length : Int) x26_2 true l0_0 ((rd_T108 l0_0 x26_2).f0) ((rd_T108 l0_0 x26_2).f1) ((rd_T108 l0_0 x26_2).f2)))) else (impl_verify.j2 k2 x4_2 x26_2 l0_0 (l0_0.length : Int) x26_2 true l0_0 ((rd_T108 l0_0 x26_2).f0) ((rd_T108 l0_0 x26_2).f1) ((rd_T108 l0_0 x26_2).f2))) = some (r1, r2, r3, r4) := H
          have A23 := Aside0.mk A230
          clear A230
          by_cases c24 : t324 = true
          ·subst c24
           have H1 : ((impl_in.f ((rd_T108 l0_0 x26_2).f1) ((rd_T108 l0_0 x26_2).f0) 8).bind fun t325 => (if t325 = true then ((impl_in.f (((rd_T108 l0_0 x26_2).f2).length : Int) 1 60).bind fun t326 => (impl_verify.j2 k2 x4_2 x26_2 l0_0 (l0_0.length : Int) x26_2 (!t326) l0_0 ((rd_T108 l0_0 x26_2).f0) ((rd_T108 l0_0 x26_2).f1) ((rd_T108 l0_0 x26_2).f2))) else (impl_verify.j2 k2 x4_2 x26_2 l0_0 (l0_0.length : Int) x26_2 true l0_0 ((rd_T108 l0_0 x26_2).f0) ((rd_T108 l0_0 x26_2).f1) ((rd_T108 l0_0 x26_2).f2)))) = some (r1, r2, r3, r4) := by rw [if_pos rfl] at H; exact H
           clear H
           have H := H1
           clear H1
           replace H := Option.bind_eq_some_iff.mp H
           obtain ⟨t325, A250, H⟩ := H
           replace H : (if t325 = true then ((impl_in.f (((rd_T108 l0_0 x26_2).f2).length : Int) 1 60).bind fun t326 => (impl_verify.j2 k2 x4_2 x26_2 l0_0 (l0_0.length : Int) x26_2 (!t326) l0_0 ((rd_T108 l0_0 x26_2).f0) ((rd_T108 l0_0 x26_2).f1) ((rd_T108 l0_0 x26_2).f2))) else (impl_verify.j2 k2 x4_2 x26_2 l0_0 (l0_0.length : Int) x26_2 true l0_0 ((rd_T108 l0_0 x26_2).f0) ((rd_T108 l0_0 x26_2).f1) ((rd_T108 l0_0 x26_2).f2))) = some (r1, r2, r3, r4) := H
           have A25 := Aside0.mk A250
           clear A250
           by_cases c26 : t325 = true
           ·subst c26
            have H1 : ((impl_in.f (((rd_T108 l0_0 x26_2).f2).length : Int) 1 60).bind fun t326 => (impl_verify.j2 k2 x4_2 x26_2 l0_0 (l0_0.length : Int) x26_2 (!t326) l0_0 ((rd_T108 l0_0 x26_2).f0) ((rd_T108 l0_0 x26_2).f1) ((rd_T108 l0_0 x26_2).f2))) = some (r1, r2, r3, r4) := by rw [if_pos rfl] at H; exact H
            clear H
            have H := H1
            clear H1
            replace H := Option.bind_eq_some_iff.mp H
            obtain ⟨t326, A270, H⟩ := H
            replace H : (impl_verify.j2 k2 x4_2 x26_2 l0_0 (l0_0.length : Int) x26_2 (!t326) l0_0 ((rd_T108 l0_0 x26_2).f0) ((rd_T108 l0_0 x26_2).f1) ((rd_T108 l0_0 x26_2).f2)) = some (r1, r2, r3, r4) := H
            have A27 := Aside0.mk A270
            clear A270
            have H' := Aside0.mk H
            clear H
            have hnb28 := NB323_320.out
            have hnc28 := NB320_323.out
            have hnb29 := NB323_321.out
            have hnc29 := NB321_323.out
            have hcz30_0 : w19.cell? ⟨gb323, 0, none⟩ = some (.int .i64 0) := (blk_cell BK323.out 0).trans rfl
            have hcz30_1 : w19.cell? ⟨gb323, 1, none⟩ = some (.int .i64 0) := (blk_cell BK323.out 1).trans rfl
            have hcz30_2 : w19.cell? ⟨gb323, 2, none⟩ = some (.slice none 0 0) := (blk_cell BK323.out 2).trans rfl
            have hfz30_0 := blk_frozen BK323.out 0
            have hfz30_1 := blk_frozen BK323.out 1
            have hfz30_2 := blk_frozen BK323.out 2
            go_wp2_with (first | ((with_reducible refine gate_callee (f := 70) rfl ?_); refine goesL_ (some 33) rfl rfl Try.func70 (by kernel_rfl) rfl #[.int .i64 ((rd_T108 l0_0 x26_2).f0), .int .i64 0, .int .i64 4] rfl gl ?_; (with_reducible refine (impl_in.calls ((rd_T108 l0_0 x26_2).f0) 0 4 true _ A23.out).mono ?_); rintro e w' ⟨rfl, ⟨nd, rfl⟩⟩; refine ⟨_, rfl, ?_⟩) | (go_at_call 70; (with_reducible refine (impl_in.calls ((rd_T108 l0_0 x26_2).f1) ((rd_T108 l0_0 x26_2).f0) 8 true _ A25.out).mono ?_); rintro e w' ⟨rfl, ⟨nd, rfl⟩⟩) | (go_at_call 70; (with_reducible refine (impl_in.calls (((rd_T108 l0_0 x26_2).f2).length : Int) 1 60 t326 _ A27.out).mono ?_); rintro e w' ⟨rfl, ⟨nd, rfl⟩⟩))
            go_meet
            case rel => exact ⟨_, (!t326), dr, H', ⟨by have := HJ1.out; have := HK2.out; first | omega | exact Nat.le_refl _⟩, ⟨by (with_reducible repeat (first | apply Kd.S_alloc | apply Kd.S_drewN | apply Kd.S_drew)); exact Kd.S_mono (Kd.S_far (p := ⟨gb323, 2, none⟩) (Kd.S_far (p := ⟨gb323, 1, none⟩) (Kd.S_far (p := ⟨gb323, 0, none⟩) (Kd.S_types HO_4.out BK323.out (by decide)) (fun _ hk => hk.2) (.int .i64 ((rd_T108 l0_0 x26_2).f0))) (fun _ hk => hk.2) (.int .i64 ((rd_T108 l0_0 x26_2).f1))) (fun _ hk => hk.2) (.slice A322_2 ((rd_T108 l0_0 x26_2).f2).length c322_2)) (fun _ hk => trivial)⟩, ⟨by (with_reducible repeat (first | refine blk_drewN ?_ _ | refine blk_drew ?_ | refine blk_alloc ?_ _)); refine blk_far ?_ NB320_323.out _; (with_reducible repeat (first | refine blk_drewN ?_ _ | refine blk_drew ?_ | refine blk_alloc ?_ _)); refine blk_far ?_ NB320_323.out _; (with_reducible repeat (first | refine blk_drewN ?_ _ | refine blk_drew ?_ | refine blk_alloc ?_ _)); refine blk_far ?_ NB320_323.out _; exact bp BK320⟩, ⟨by (with_reducible repeat (first | refine blk_drewN ?_ _ | refine blk_drew ?_ | refine blk_alloc ?_ _)); refine blk_far ?_ NB321_323.out _; (with_reducible repeat (first | refine blk_drewN ?_ _ | refine blk_drew ?_ | refine blk_alloc ?_ _)); refine blk_far ?_ NB321_323.out _; (with_reducible repeat (first | refine blk_drewN ?_ _ | refine blk_drew ?_ | refine blk_alloc ?_ _)); refine blk_far ?_ NB321_323.out _; exact bp BK321⟩, ⟨by (with_reducible repeat (first | refine blk_drewN ?_ _ | refine blk_drew ?_ | refine blk_alloc ?_ _)); refine blk_put (cs := #[.int .i64 ((rd_T108 l0_0 x26_2).f0), .int .i64 ((rd_T108 l0_0 x26_2).f1), .slice none 0 0]) ?_ 2 _ rfl; (with_reducible repeat (first | refine blk_drewN ?_ _ | refine blk_drew ?_ | refine blk_alloc ?_ _)); refine blk_put (cs := #[.int .i64 ((rd_T108 l0_0 x26_2).f0), .int .i64 0, .slice none 0 0]) ?_ 1 _ rfl; (with_reducible repeat (first | refine blk_drewN ?_ _ | refine blk_drew ?_ | refine blk_alloc ?_ _)); refine blk_put (cs := #[.int .i64 0, .int .i64 0, .slice none 0 0]) ?_ 0 _ rfl; exact bp BK323⟩, ⟨bw HB⟩⟩
           ·replace c26 := Bool.eq_false_iff.mpr c26
            subst c26
            have H1 : (impl_verify.j2 k2 x4_2 x26_2 l0_0 (l0_0.length : Int) x26_2 true l0_0 ((rd_T108 l0_0 x26_2).f0) ((rd_T108 l0_0 x26_2).f1) ((rd_T108 l0_0 x26_2).f2)) = some (r1, r2, r3, r4) := by rw [if_neg (show ¬ (false = true) by decide)] at H; exact H
            clear H
            have H := H1
            clear H1
            have H' := Aside0.mk H
            clear H
            have hnb31 := NB323_320.out
            have hnc31 := NB320_323.out
            have hnb32 := NB323_321.out
            have hnc32 := NB321_323.out
            have hcz33_0 : w19.cell? ⟨gb323, 0, none⟩ = some (.int .i64 0) := (blk_cell BK323.out 0).trans rfl
            have hcz33_1 : w19.cell? ⟨gb323, 1, none⟩ = some (.int .i64 0) := (blk_cell BK323.out 1).trans rfl
            have hcz33_2 : w19.cell? ⟨gb323, 2, none⟩ = some (.slice none 0 0) := (blk_cell BK323.out 2).trans rfl
            have hfz33_0 := blk_frozen BK323.out 0
            have hfz33_1 := blk_frozen BK323.out 1
            have hfz33_2 := blk_frozen BK323.out 2
            go_wp2_with (first | ((with_reducible refine gate_callee (f := 70) rfl ?_); refine goesL_ (some 33) rfl rfl Try.func70 (by kernel_rfl) rfl #[.int .i64 ((rd_T108 l0_0 x26_2).f0), .int .i64 0, .int .i64 4] rfl gl ?_; (with_reducible refine (impl_in.calls ((rd_T108 l0_0 x26_2).f0) 0 4 true _ A23.out).mono ?_); rintro e w' ⟨rfl, ⟨nd, rfl⟩⟩; refine ⟨_, rfl, ?_⟩) | (go_at_call 70; (with_reducible refine (impl_in.calls ((rd_T108 l0_0 x26_2).f1) ((rd_T108 l0_0 x26_2).f0) 8 false _ A25.out).mono ?_); rintro e w' ⟨rfl, ⟨nd, rfl⟩⟩))
            go_meet
            case rel => exact ⟨_, (true), dr, H', ⟨by have := HJ1.out; have := HK2.out; first | omega | exact Nat.le_refl _⟩, ⟨by (with_reducible repeat (first | apply Kd.S_alloc | apply Kd.S_drewN | apply Kd.S_drew)); exact Kd.S_mono (Kd.S_far (p := ⟨gb323, 2, none⟩) (Kd.S_far (p := ⟨gb323, 1, none⟩) (Kd.S_far (p := ⟨gb323, 0, none⟩) (Kd.S_types HO_4.out BK323.out (by decide)) (fun _ hk => hk.2) (.int .i64 ((rd_T108 l0_0 x26_2).f0))) (fun _ hk => hk.2) (.int .i64 ((rd_T108 l0_0 x26_2).f1))) (fun _ hk => hk.2) (.slice A322_2 ((rd_T108 l0_0 x26_2).f2).length c322_2)) (fun _ hk => trivial)⟩, ⟨by (with_reducible repeat (first | refine blk_drewN ?_ _ | refine blk_drew ?_ | refine blk_alloc ?_ _)); refine blk_far ?_ NB320_323.out _; (with_reducible repeat (first | refine blk_drewN ?_ _ | refine blk_drew ?_ | refine blk_alloc ?_ _)); refine blk_far ?_ NB320_323.out _; (with_reducible repeat (first | refine blk_drewN ?_ _ | refine blk_drew ?_ | refine blk_alloc ?_ _)); refine blk_far ?_ NB320_323.out _; exact bp BK320⟩, ⟨by (with_reducible repeat (first | refine blk_drewN ?_ _ | refine blk_drew ?_ | refine blk_alloc ?_ _)); refine blk_far ?_ NB321_323.out _; (with_reducible repeat (first | refine blk_drewN ?_ _ | refine blk_drew ?_ | refine blk_alloc ?_ _)); refine blk_far ?_ NB321_323.out _; (with_reducible repeat (first | refine blk_drewN ?_ _ | refine blk_drew ?_ | refine blk_alloc ?_ _)); refine blk_far ?_ NB321_323.out _; exact bp BK321⟩, ⟨by (with_reducible repeat (first | refine blk_drewN ?_ _ | refine blk_drew ?_ | refine blk_alloc ?_ _)); refine blk_put (cs := #[.int .i64 ((rd_T108 l0_0 x26_2).f0), .int .i64 ((rd_T108 l0_0 x26_2).f1), .slice none 0 0]) ?_ 2 _ rfl; (with_reducible repeat (first | refine blk_drewN ?_ _ | refine blk_drew ?_ | refine blk_alloc ?_ _)); refine blk_put (cs := #[.int .i64 ((rd_T108 l0_0 x26_2).f0), .int .i64 0, .slice none 0 0]) ?_ 1 _ rfl; (with_reducible repeat (first | refine blk_drewN ?_ _ | refine blk_drew ?_ | refine blk_alloc ?_ _)); refine blk_put (cs := #[.int .i64 0, .int .i64 0, .slice none 0 0]) ?_ 0 _ rfl; exact bp BK323⟩, ⟨bw HB⟩⟩
          ·replace c24 := Bool.eq_false_iff.mpr c24
           subst c24
           have H1 : (impl_verify.j2 k2 x4_2 x26_2 l0_0 (l0_0.length : Int) x26_2 true l0_0 ((rd_T108 l0_0 x26_2).f0) ((rd_T108 l0_0 x26_2).f1) ((rd_T108 l0_0 x26_2).f2)) = some (r1, r2, r3, r4) := by rw [if_neg (show ¬ (false = true) by decide)] at H; exact H
           clear H
           have H := H1
           clear H1
           have H' := Aside0.mk H
           clear H
           have hnb34 := NB323_320.out
           have hnc34 := NB320_323.out
           have hnb35 := NB323_321.out
           have hnc35 := NB321_323.out
           have hcz36_0 : w19.cell? ⟨gb323, 0, none⟩ = some (.int .i64 0) := (blk_cell BK323.out 0).trans rfl
           have hcz36_1 : w19.cell? ⟨gb323, 1, none⟩ = some (.int .i64 0) := (blk_cell BK323.out 1).trans rfl
           have hcz36_2 : w19.cell? ⟨gb323, 2, none⟩ = some (.slice none 0 0) := (blk_cell BK323.out 2).trans rfl
           have hfz36_0 := blk_frozen BK323.out 0
           have hfz36_1 := blk_frozen BK323.out 1
           have hfz36_2 := blk_frozen BK323.out 2
           go_wp2_with (first | ((with_reducible refine gate_callee (f := 70) rfl ?_); refine goesL_ (some 33) rfl rfl Try.func70 (by kernel_rfl) rfl #[.int .i64 ((rd_T108 l0_0 x26_2).f0), .int .i64 0, .int .i64 4] rfl gl ?_; (with_reducible refine (impl_in.calls ((rd_T108 l0_0 x26_2).f0) 0 4 false _ A23.out).mono ?_); rintro e w' ⟨rfl, ⟨nd, rfl⟩⟩; refine ⟨_, rfl, ?_⟩))
           go_meet
           case rel => exact ⟨_, (true), dr, H', ⟨by have := HJ1.out; have := HK2.out; first | omega | exact Nat.le_refl _⟩, ⟨by (with_reducible repeat (first | apply Kd.S_alloc | apply Kd.S_drewN | apply Kd.S_drew)); exact Kd.S_mono (Kd.S_far (p := ⟨gb323, 2, none⟩) (Kd.S_far (p := ⟨gb323, 1, none⟩) (Kd.S_far (p := ⟨gb323, 0, none⟩) (Kd.S_types HO_4.out BK323.out (by decide)) (fun _ hk => hk.2) (.int .i64 ((rd_T108 l0_0 x26_2).f0))) (fun _ hk => hk.2) (.int .i64 ((rd_T108 l0_0 x26_2).f1))) (fun _ hk => hk.2) (.slice A322_2 ((rd_T108 l0_0 x26_2).f2).length c322_2)) (fun _ hk => trivial)⟩, ⟨by (with_reducible repeat (first | refine blk_drewN ?_ _ | refine blk_drew ?_ | refine blk_alloc ?_ _)); refine blk_far ?_ NB320_323.out _; (with_reducible repeat (first | refine blk_drewN ?_ _ | refine blk_drew ?_ | refine blk_alloc ?_ _)); refine blk_far ?_ NB320_323.out _; (with_reducible repeat (first | refine blk_drewN ?_ _ | refine blk_drew ?_ | refine blk_alloc ?_ _)); refine blk_far ?_ NB320_323.out _; exact bp BK320⟩, ⟨by (with_reducible repeat (first | refine blk_drewN ?_ _ | refine blk_drew ?_ | refine blk_alloc ?_ _)); refine blk_far ?_ NB321_323.out _; (with_reducible repeat (first | refine blk_drewN ?_ _ | refine blk_drew ?_ | refine blk_alloc ?_ _)); refine blk_far ?_ NB321_323.out _; (with_reducible repeat (first | refine blk_drewN ?_ _ | refine blk_drew ?_ | refine blk_alloc ?_ _)); refine blk_far ?_ NB321_323.out _; exact bp BK321⟩, ⟨by (with_reducible repeat (first | refine blk_drewN ?_ _ | refine blk_drew ?_ | refine blk_alloc ?_ _)); refine blk_put (cs := #[.int .i64 ((rd_T108 l0_0 x26_2).f0), .int .i64 ((rd_T108 l0_0 x26_2).f1), .slice none 0 0]) ?_ 2 _ rfl; (with_reducible repeat (first | refine blk_drewN ?_ _ | refine blk_drew ?_ | refine blk_alloc ?_ _)); refine blk_put (cs := #[.int .i64 ((rd_T108 l0_0 x26_2).f0), .int .i64 0, .slice none 0 0]) ?_ 1 _ rfl; (with_reducible repeat (first | refine blk_drewN ?_ _ | refine blk_drew ?_ | refine blk_alloc ?_ _)); refine blk_put (cs := #[.int .i64 0, .int .i64 0, .slice none 0 0]) ?_ 0 _ rfl; exact bp BK323⟩, ⟨bw HB⟩⟩
         case rest =>
          clear HC18
          (try clear c1); (try clear c2); (try clear p2); (try clear c3); (try clear p3); (try clear q3); (try clear hx3); (try clear c5); (try clear c5b0); (try clear c5b1); (try clear c6); (try clear c7); (try clear c8); (try clear c10); (try clear c11); (try clear c13); (try clear c15); (try clear c15b0); (try clear c16); (try clear c16b0); (try clear c17); (try clear c17b0); (try clear c20); (try clear c21); (try clear c24); (try clear c26); (try clear c28); (try clear c29); (try clear c31); (try clear c32); (try clear p32); (try clear q32); (try clear hx32); (try clear c34); (try clear c35); (try clear hcz12_0); (try clear hcz12_1); (try clear hcz12_2); (try clear hcz14_0); (try clear hcz22_0); (try clear hcz22_1); (try clear hcz22_2); (try clear hcz30_0); (try clear hcz30_1); (try clear hcz30_2); (try clear hcz33_0); (try clear hcz33_1); (try clear hcz33_2); (try clear hcz36_0); (try clear hcz36_1); (try clear hcz36_2); (try clear hcz7_0); (try clear hcz9_0); (try clear hfz12_0); (try clear hfz12_1); (try clear hfz12_2); (try clear hfz14_0); (try clear hfz22_0); (try clear hfz22_1); (try clear hfz22_2); (try clear hfz30_0); (try clear hfz30_1); (try clear hfz30_2); (try clear hfz33_0); (try clear hfz33_1); (try clear hfz33_2); (try clear hfz36_0); (try clear hfz36_1); (try clear hfz36_2); (try clear hfz7_0); (try clear hfz9_0); (try clear hx322_0); (try clear hx322_1); (try clear hx322_2); (try clear p2); (try clear p322); (try clear q322)
          obtain ⟨kq, x49_17, rfl, HA, HJ17, HO_4, BK320, BK321, BK323, HB⟩ := hcut
          cases kq with
          | zero => exact absurd HA.out (by simp [impl_verify.j2])
          | succ kj17 =>
           have H := HA.out
           clear HA
           simp only [impl_verify.j2] at H
           by_cases c37 : x49_17 = true
           ·subst c37
            have H1 : (some (x26_2, 0, 1, ([] : List (List Int)))) = some (r1, r2, r3, r4) := by rw [if_pos rfl] at H; exact H
            clear H
            have H := H1
            clear H1
            simp only [Option.some.injEq, Prod.mk.injEq] at H
            obtain ⟨rfl, rfl, rfl, rfl⟩ := H
            have hnb38 := NB321_320.out
            have hnc38 := NB320_321.out
            have hnb39 := NB321_323.out
            have hnc39 := NB323_321.out
            have hcz40_0 : wc.cell? ⟨gb321, 0, none⟩ = some (.int .i64 x322000_2) := (blk_cell BK321.out 0).trans rfl
            have hcz40_1 : wc.cell? ⟨gb321, 1, none⟩ = some (.int .i64 x322001_2) := (blk_cell BK321.out 1).trans rfl
            have hcz40_2 : wc.cell? ⟨gb321, 2, none⟩ = some (.int .i64 x322002_2) := (blk_cell BK321.out 2).trans rfl
            have hfz40_0 := blk_frozen BK321.out 0
            have hfz40_1 := blk_frozen BK321.out 1
            have hfz40_2 := blk_frozen BK321.out 2
            go_wp2
            refine bodyPost_ret (results_ct rfl _ _ gb321 157 #[.int .i64 x26_2, .int .i64 0, .int .i64 1] (0, 0) _ rfl (by (with_reducible repeat (first | refine blk_drewN ?_ _ | refine blk_drew ?_ | refine blk_alloc ?_ _)); refine blk_put (cs := #[.int .i64 x26_2, .int .i64 0, .int .i64 x322002_2]) ?_ 2 _ rfl; (with_reducible repeat (first | refine blk_drewN ?_ _ | refine blk_drew ?_ | refine blk_alloc ?_ _)); refine blk_put (cs := #[.int .i64 x26_2, .int .i64 x322001_2, .int .i64 x322002_2]) ?_ 1 _ rfl; (with_reducible repeat (first | refine blk_drewN ?_ _ | refine blk_drew ?_ | refine blk_alloc ?_ _)); refine blk_put (cs := #[.int .i64 x322000_2, .int .i64 x322001_2, .int .i64 x322002_2]) ?_ 0 _ rfl; exact bp BK321) Try.underlying157 rfl (by kernel_rfl)) rfl ?_
            exact ⟨_, by first | rfl | (simp [errW_none, errW_some] <;> rfl) | (simp [*, errW_none, errW_some] <;> rfl), by first | exact Kd.S_nil _ _ _ _ _ | exact Kd.N_nil _ _ _ _ _ | exact Kd.V_nil _ _ _ _ _ | exact Kd.Q_nil _ _ _ _ _ | exact Kd.R_nil _ _ _ _ _, bw HB⟩
           ·replace c37 := Bool.eq_false_iff.mpr c37
            subst c37
            have H1 : (impl_verify.l1 kj17 x4_2 x26_2 l0_0 (l0_0.length : Int) x26_2 ((rd_T108 l0_0 x26_2).f2) (((rd_T108 l0_0 x26_2).f2).length : Int) 0 l0_0) = some (r1, r2, r3, r4) := by rw [if_neg (show ¬ (false = true) by decide)] at H; exact H
            clear H
            have H := H1
            clear H1
            have H' := Aside0.mk H
            clear H
            have hnb41 := NB323_320.out
            have hnc41 := NB320_323.out
            have hnb42 := NB323_321.out
            have hnc42 := NB321_323.out
            have hcz43_0 : wc.cell? ⟨gb323, 0, none⟩ = some (.int .i64 ((rd_T108 l0_0 x26_2).f0)) := (blk_cell BK323.out 0).trans rfl
            have hcz43_1 : wc.cell? ⟨gb323, 1, none⟩ = some (.int .i64 ((rd_T108 l0_0 x26_2).f1)) := (blk_cell BK323.out 1).trans rfl
            have hcz43_2 : wc.cell? ⟨gb323, 2, none⟩ = some (.slice A322_2 ((rd_T108 l0_0 x26_2).f2).length c322_2) := (blk_cell BK323.out 2).trans rfl
            have hfz43_0 := blk_frozen BK323.out 0
            have hfz43_1 := blk_frozen BK323.out 1
            have hfz43_2 := blk_frozen BK323.out 2
            go_wp2
            go_loopg [55] kj17 (fun kq v55 w' => ∃ (x55_4 : Int) (x322000_4 : Int) (x322001_4 : Int) (x322002_4 : Int), v55 = .int .i64 x55_4 ∧ Aside0 (impl_verify.l1 kq x4_2 x26_2 l0_0 (l0_0.length : Int) x26_2 ((rd_T108 l0_0 x26_2).f2) (((rd_T108 l0_0 x26_2).f2).length : Int) x55_4 l0_0 = some (r1, r2, r3, r4)) ∧ Aside0 (kq ≤ kj17) ∧ Aside0 (Kd.S (Kd.slice 2 (Kd.int .i64)) 28 w' w.heap.size (fun _ => True) u4 x4_2) ∧ Aside0 (w'.heap[gb320]? = some (.cells #[(.slice (some ad322) l0_0.length c0_0)] 25 (0, 0))) ∧ Aside0 (w'.heap[gb321]? = some (.cells #[.int .i64 x322000_4, .int .i64 x322001_4, .int .i64 x322002_4] 157 (0, 0))) ∧ Aside0 (w'.heap[gb323]? = some (.cells #[.int .i64 ((rd_T108 l0_0 x26_2).f0), .int .i64 ((rd_T108 l0_0 x26_2).f1), (.slice A322_2 ((rd_T108 l0_0 x26_2).f2).length c322_2)] 108 (0, 0))) ∧ Aside0 (Below w.heap.size w w'))
            case atStart => exact ⟨(0), (x322000_2), (x322001_2), (x322002_2), dr, H', ⟨Nat.le_refl _⟩, ⟨kS HO_4⟩, ⟨bp BK320⟩, ⟨bp BK321⟩, ⟨bp BK323⟩, ⟨bw HB⟩⟩
            case round =>
             clear H'
             (try clear c1); (try clear c2); (try clear p2); (try clear c3); (try clear p3); (try clear q3); (try clear hx3); (try clear c4); (try clear c5); (try clear c5b0); (try clear c5b1); (try clear c6); (try clear c7); (try clear c8); (try clear c10); (try clear c11); (try clear c13); (try clear c15); (try clear c15b0); (try clear c16); (try clear c16b0); (try clear c17); (try clear c17b0); (try clear c20); (try clear c21); (try clear c24); (try clear c26); (try clear c28); (try clear c29); (try clear c31); (try clear c32); (try clear p32); (try clear q32); (try clear hx32); (try clear c34); (try clear c35); (try clear c37); (try clear c38); (try clear c39); (try clear c41); (try clear c42); (try clear hcz12_0); (try clear hcz12_1); (try clear hcz12_2); (try clear hcz14_0); (try clear hcz22_0); (try clear hcz22_1); (try clear hcz22_2); (try clear hcz30_0); (try clear hcz30_1); (try clear hcz30_2); (try clear hcz33_0); (try clear hcz33_1); (try clear hcz33_2); (try clear hcz36_0); (try clear hcz36_1); (try clear hcz36_2); (try clear hcz40_0); (try clear hcz40_1); (try clear hcz40_2); (try clear hcz43_0); (try clear hcz43_1); (try clear hcz43_2); (try clear hcz7_0); (try clear hcz9_0); (try clear hfz12_0); (try clear hfz12_1); (try clear hfz12_2); (try clear hfz14_0); (try clear hfz22_0); (try clear hfz22_1); (try clear hfz22_2); (try clear hfz30_0); (try clear hfz30_1); (try clear hfz30_2); (try clear hfz33_0); (try clear hfz33_1); (try clear hfz33_2); (try clear hfz36_0); (try clear hfz36_1); (try clear hfz36_2); (try clear hfz40_0); (try clear hfz40_1); (try clear hfz40_2); (try clear hfz43_0); (try clear hfz43_1); (try clear hfz43_2); (try clear hfz7_0); (try clear hfz9_0); (try clear hx322_0); (try clear hx322_1); (try clear hx322_2); (try clear p2); (try clear p3); (try clear p32); (try clear p322); (try clear q3); (try clear q32); (try clear q322)
             obtain ⟨x55_4, x322000_4, x322001_4, x322002_4, rfl, HA, HK4, HO_4, BK320, BK321, BK323, HB⟩ := hrel
             cases gk with
             | zero => exact absurd HA.out (by simp [impl_verify.l1])
             | succ k4 =>
              have H := HA.out
              clear HA
              simp only [impl_verify.l1] at H
              by_cases c44 : x55_4 < (((rd_T108 l0_0 x26_2).f2).length : Int)
              ·rw [if_pos c44] at H
               have c44b0 : decide (x55_4 < (((rd_T108 l0_0 x26_2).f2).length : Int)) = true := decide_eq_true c44
               clear c44
               by_cases c45 : 0 ≤ x55_4
               ·rw [if_pos c45] at H
                have c45b0 : decide (0 ≤ x55_4) = true := decide_eq_true c45
                clear c45
                by_cases c46 : x55_4 < (((rd_T108 l0_0 x26_2).f2).length : Int)
                ·rw [if_pos c46] at H
                 have c46b0 : decide (x55_4 < (((rd_T108 l0_0 x26_2).f2).length : Int)) = true := decide_eq_true c46
                 clear c46
                 replace H := Option.bind_eq_some_iff.mp H
                 obtain ⟨t329, A470, H⟩ := H
                 replace H : (if t329 = true then (impl_verify.l1 k4 x4_2 x26_2 l0_0 (l0_0.length : Int) x26_2 ((rd_T108 l0_0 x26_2).f2) (((rd_T108 l0_0 x26_2).f2).length : Int) (wrap64 (x55_4 + 1)) l0_0) else (some (x26_2, x55_4, 1, ([] : List (List Int))))) = some (r1, r2, r3, r4) := H
                 have A47 := Aside0.mk A470
                 clear A470
                 by_cases c48 : t329 = true
                 ·subst c48
                  have H1 : (impl_verify.l1 k4 x4_2 x26_2 l0_0 (l0_0.length : Int) x26_2 ((rd_T108 l0_0 x26_2).f2) (((rd_T108 l0_0 x26_2).f2).length : Int) (wrap64 (x55_4 + 1)) l0_0) = some (r1, r2, r3, r4) := by rw [if_pos rfl] at H; exact H
                  clear H
                  have H := H1
                  clear H1
                  have H' := Aside0.mk H
                  clear H
                  have p327 : 0 ≤ (x55_4 : Int) := of_decide_eq_true as1
                  have q327 : x55_4 < (((rd_T108 l0_0 x26_2).f2).length : Int) := of_decide_eq_true as1
                  obtain ⟨ad327, e327, hx327_0, hx327_1⟩ := at_T56 HR322_2.out x55_4 p327 q327
                  cases e327
                  replace hx327_0 := (HB.out.cell (World.block_lt_of_cell? w _ hx327_0)).trans hx327_0
                  replace hx327_1 := (HB.out.cell (World.block_lt_of_cell? w _ hx327_1)).trans hx327_1
                  replace p327 := eq_true p327
                  replace q327 := eq_true q327
                  go_wp2_with (first | ((with_reducible refine gate_dst (N := 8) rfl ?_); (try (refine gate_guard (by rfl) ?_; dsimp only)); refine box_event ?hg (N := 8) ?hd (cs := #[.int .i64 0, .int .i64 0]) (t := 56) ?hr ?_; (case hd => rfl); (case hg => rfl); (case hr => first | (go_simp; done) | (go_simp; rfl)); intro gb328 hg w49 hbox hb; have n0_ := Aside0.mk (Kd.S_below (kS HO_4) hb); have n1_ := Aside0.mk (blk_below (g := gb320) (o := .cells #[.slice (some ad322) l0_0.length c0_0] 25 (0, 0)) (bp BK320) hb); have n2_ := Aside0.mk (blk_below (g := gb321) (o := .cells #[.int .i64 x322000_4, .int .i64 x322001_4, .int .i64 x322002_4] 157 (0, 0)) (bp BK321) hb); have n3_ := Aside0.mk (blk_below (g := gb323) (o := .cells #[.int .i64 ((rd_T108 l0_0 x26_2).f0), .int .i64 ((rd_T108 l0_0 x26_2).f1), .slice (some ad327) ((rd_T108 l0_0 x26_2).f2).length c322_2] 108 (0, 0)) (bp BK323) hb); have n4_ := Aside0.mk (below_step (bw HB) hb); have n5_ := Aside0.mk (hbox); have n6_ := Aside0.mk ((by rw [hg]; exact (below_size (bw HB)) : w.heap.size ≤ gb328)); have n7_ := Aside0.mk ((by rw [hg]; exact (below_size (bw HB)) : w.heap.size ≤ gb328)); have n8_ := Aside0.mk ((by rw [hg]; exact Nat.ne_of_lt (blk_lt (g := gb320) (o := .cells #[.slice (some ad322) l0_0.length c0_0] 25 (0, 0)) (bp BK320)) : gb320 ≠ gb328)); have n9_ := Aside0.mk ((by rw [hg]; exact Nat.ne_of_gt (blk_lt (g := gb320) (o := .cells #[.slice (some ad322) l0_0.length c0_0] 25 (0, 0)) (bp BK320)) : gb328 ≠ gb320)); have n10_ := Aside0.mk ((by rw [hg]; exact Nat.ne_of_lt (blk_lt (g := gb321) (o := .cells #[.int .i64 x322000_4, .int .i64 x322001_4, .int .i64 x322002_4] 157 (0, 0)) (bp BK321)) : gb321 ≠ gb328)); have n11_ := Aside0.mk ((by rw [hg]; exact Nat.ne_of_gt (blk_lt (g := gb321) (o := .cells #[.int .i64 x322000_4, .int .i64 x322001_4, .int .i64 x322002_4] 157 (0, 0)) (bp BK321)) : gb328 ≠ gb321)); have n12_ := Aside0.mk ((by rw [hg]; exact Nat.ne_of_lt (blk_lt (g := gb323) (o := .cells #[.int .i64 ((rd_T108 l0_0 x26_2).f0), .int .i64 ((rd_T108 l0_0 x26_2).f1), .slice (some ad327) ((rd_T108 l0_0 x26_2).f2).length c322_2] 108 (0, 0)) (bp BK323)) : gb323 ≠ gb328)); have n13_ := Aside0.mk ((by rw [hg]; exact Nat.ne_of_gt (blk_lt (g := gb323) (o := .cells #[.int .i64 ((rd_T108 l0_0 x26_2).f0), .int .i64 ((rd_T108 l0_0 x26_2).f1), .slice (some ad327) ((rd_T108 l0_0 x26_2).f2).length c322_2] 108 (0, 0)) (bp BK323)) : gb328 ≠ gb323)); clear HO_4; clear BK320; clear BK321; clear BK323; clear HB; have HO_4 := n0_; have BK320 := n1_; have BK321 := n2_; have BK323 := n3_; have HB := n4_; have BK328 := n5_; have GW328 := n6_; have GE328 := n7_; have NB320_328 := n8_; have NB328_320 := n9_; have NB321_328 := n10_; have NB328_321 := n11_; have NB323_328 := n12_; have NB328_323 := n13_; clear n0_ n1_ n2_ n3_ n4_ n5_ n6_ n7_ n8_ n9_ n10_ n11_ n12_ n13_; clear hb hbox hg; have hnb50 := NB328_320.out; have hnc50 := NB320_328.out; have hnb51 := NB328_321.out; have hnc51 := NB321_328.out; have hnb52 := NB328_323.out; have hnc52 := NB323_328.out; have hcz53_0 : w49.cell? ⟨gb328, 0, none⟩ = some (.int .i64 0) := (blk_cell BK328.out 0).trans rfl; have hcz53_1 : w49.cell? ⟨gb328, 1, none⟩ = some (.int .i64 0) := (blk_cell BK328.out 1).trans rfl; have hfz53_0 := blk_frozen BK328.out 0; have hfz53_1 := blk_frozen BK328.out 1; have hnb54 := NB320_321.out; have hnc54 := NB321_320.out; have hnb55 := NB320_323.out; have hnc55 := NB323_320.out; have hcz56_0 : w49.cell? ⟨gb320, 0, none⟩ = some (.slice (some ad322) l0_0.length c0_0) := (blk_cell BK320.out 0).trans rfl; have hfz56_0 := blk_frozen BK320.out 0) | ((with_reducible refine gate_callee (f := 42) rfl ?_); refine goesL_ (some 63) rfl rfl Try.func42 (by kernel_rfl) rfl #[.agg #[.slice (some ad322) l0_0.length c0_0], .int .i64 x26_2, .agg #[.int .i64 ((rd_T56 ((rd_T108 l0_0 x26_2).f2) x55_4).f0), .int .i64 ((rd_T56 ((rd_T108 l0_0 x26_2).f2) x55_4).f1)]] rfl gl ?_; (with_reducible refine (impl_InsRight.calls k4 _ _ l0_0 x26_2 ((rd_T56 ((rd_T108 l0_0 x26_2).f2) x55_4).f0) ((rd_T56 ((rd_T108 l0_0 x26_2).f2) x55_4).f1) true _ ?side1 ?side2 A47.out).mono ?_); (case side1 => exact Kd.C_below HR0_0.out (bw HB)); (case side2 => exact HC0_0.out); rintro e w57 ⟨rfl, hb⟩; refine ⟨_, rfl, ?_⟩; have n0_ := Aside0.mk (Kd.S_below (by (with_reducible repeat (first | apply Kd.S_alloc | apply Kd.S_drewN | apply Kd.S_drew)); exact (Kd.S_mono (Kd.S_far (p := ⟨gb328, 1, none⟩) (Kd.S_far (p := ⟨gb328, 0, none⟩) (Kd.S_types HO_4.out BK328.out (by decide)) (fun _ hk => hk.2) (.int .i64 ((rd_T56 ((rd_T108 l0_0 x26_2).f2) x55_4).f0))) (fun _ hk => hk.2) (.int .i64 ((rd_T56 ((rd_T108 l0_0 x26_2).f2) x55_4).f1))) (fun _ h_ => h_.1))) hb); have n1_ := Aside0.mk (blk_below (g := gb320) (o := .cells #[.slice (some ad322) l0_0.length c0_0] 25 (0, 0)) (by (with_reducible repeat (first | refine blk_drewN ?_ _ | refine blk_drew ?_ | refine blk_alloc ?_ _)); refine blk_far ?_ NB320_328.out _; (with_reducible repeat (first | refine blk_drewN ?_ _ | refine blk_drew ?_ | refine blk_alloc ?_ _)); refine blk_far ?_ NB320_328.out _; exact bp BK320) hb); have n2_ := Aside0.mk (blk_below (g := gb321) (o := .cells #[.int .i64 x322000_4, .int .i64 x322001_4, .int .i64 x322002_4] 157 (0, 0)) (by (with_reducible repeat (first | refine blk_drewN ?_ _ | refine blk_drew ?_ | refine blk_alloc ?_ _)); refine blk_far ?_ NB321_328.out _; (with_reducible repeat (first | refine blk_drewN ?_ _ | refine blk_drew ?_ | refine blk_alloc ?_ _)); refine blk_far ?_ NB321_328.out _; exact bp BK321) hb); have n3_ := Aside0.mk (blk_below (g := gb323) (o := .cells #[.int .i64 ((rd_T108 l0_0 x26_2).f0), .int .i64 ((rd_T108 l0_0 x26_2).f1), .slice (some ad327) ((rd_T108 l0_0 x26_2).f2).length c322_2] 108 (0, 0)) (by (with_reducible repeat (first | refine blk_drewN ?_ _ | refine blk_drew ?_ | refine blk_alloc ?_ _)); refine blk_far ?_ NB323_328.out _; (with_reducible repeat (first | refine blk_drewN ?_ _ | refine blk_drew ?_ | refine blk_alloc ?_ _)); refine blk_far ?_ NB323_328.out _; exact bp BK323) hb); have n4_ := Aside0.mk (blk_below (g := gb328) (o := .cells #[.int .i64 ((rd_T56 ((rd_T108 l0_0 x26_2).f2) x55_4).f0), .int .i64 ((rd_T56 ((rd_T108 l0_0 x26_2).f2) x55_4).f1)] 56 (0, 0)) (by (with_reducible repeat (first | refine blk_drewN ?_ _ | refine blk_drew ?_ | refine blk_alloc ?_ _)); refine blk_put (cs := #[.int .i64 ((rd_T56 ((rd_T108 l0_0 x26_2).f2) x55_4).f0), .int .i64 0]) ?_ 1 _ rfl; (with_reducible repeat (first | refine blk_drewN ?_ _ | refine blk_drew ?_ | refine blk_alloc ?_ _)); refine blk_put (cs := #[.int .i64 0, .int .i64 0]) ?_ 0 _ rfl; exact bp BK328) hb); have n5_ := Aside0.mk (below_step (bw HB) hb); clear HO_4; clear BK320; clear BK321; clear BK323; clear BK328; clear HB; have HO_4 := n0_; have BK320 := n1_; have BK321 := n2_; have BK323 := n3_; have BK328 := n4_; have HB := n5_; clear n0_ n1_ n2_ n3_ n4_ n5_; (try clear hb); (try clear hb2); (try clear hk); (try clear hi)))
                  go_roundg k4
                  case measure => have := HJ1.out; have := HK2.out; have := HJ17.out; have := HK4.out; omega
                  case rel => exact ⟨(wrap64 (x55_4 + 1)), (x322000_4), (x322001_4), (x322002_4), dr, H', ⟨by have := HJ1.out; have := HK2.out; have := HJ17.out; have := HK4.out; omega⟩, ⟨kS HO_4⟩, ⟨bp BK320⟩, ⟨bp BK321⟩, ⟨bp BK323⟩, ⟨bw HB⟩⟩
                 ·replace c48 := Bool.eq_false_iff.mpr c48
                  subst c48
                  have H1 : (some (x26_2, x55_4, 1, ([] : List (List Int)))) = some (r1, r2, r3, r4) := by rw [if_neg (show ¬ (false = true) by decide)] at H; exact H
                  clear H
                  have H := H1
                  clear H1
                  simp only [Option.some.injEq, Prod.mk.injEq] at H
                  obtain ⟨rfl, rfl, rfl, rfl⟩ := H
                  have p327 : 0 ≤ (x55_4 : Int) := of_decide_eq_true as1
                  have q327 : x55_4 < (((rd_T108 l0_0 x26_2).f2).length : Int) := of_decide_eq_true as1
                  obtain ⟨ad327, e327, hx327_0, hx327_1⟩ := at_T56 HR322_2.out x55_4 p327 q327
                  cases e327
                  replace hx327_0 := (HB.out.cell (World.block_lt_of_cell? w _ hx327_0)).trans hx327_0
                  replace hx327_1 := (HB.out.cell (World.block_lt_of_cell? w _ hx327_1)).trans hx327_1
                  replace p327 := eq_true p327
                  replace q327 := eq_true q327
                  go_wp2_with (first | ((with_reducible refine gate_dst (N := 8) rfl ?_); (try (refine gate_guard (by rfl) ?_; dsimp only)); refine box_event ?hg (N := 8) ?hd (cs := #[.int .i64 0, .int .i64 0]) (t := 56) ?hr ?_; (case hd => rfl); (case hg => rfl); (case hr => first | (go_simp; done) | (go_simp; rfl)); intro gb328 hg w58 hbox hb; have n0_ := Aside0.mk (Kd.S_below (kS HO_4) hb); have n1_ := Aside0.mk (blk_below (g := gb320) (o := .cells #[.slice (some ad322) l0_0.length c0_0] 25 (0, 0)) (bp BK320) hb); have n2_ := Aside0.mk (blk_below (g := gb321) (o := .cells #[.int .i64 x322000_4, .int .i64 x322001_4, .int .i64 x322002_4] 157 (0, 0)) (bp BK321) hb); have n3_ := Aside0.mk (blk_below (g := gb323) (o := .cells #[.int .i64 ((rd_T108 l0_0 x26_2).f0), .int .i64 ((rd_T108 l0_0 x26_2).f1), .slice (some ad327) ((rd_T108 l0_0 x26_2).f2).length c322_2] 108 (0, 0)) (bp BK323) hb); have n4_ := Aside0.mk (below_step (bw HB) hb); have n5_ := Aside0.mk (hbox); have n6_ := Aside0.mk ((by rw [hg]; exact (below_size (bw HB)) : w.heap.size ≤ gb328)); have n7_ := Aside0.mk ((by rw [hg]; exact (below_size (bw HB)) : w.heap.size ≤ gb328)); have n8_ := Aside0.mk ((by rw [hg]; exact Nat.ne_of_lt (blk_lt (g := gb320) (o := .cells #[.slice (some ad322) l0_0.length c0_0] 25 (0, 0)) (bp BK320)) : gb320 ≠ gb328)); have n9_ := Aside0.mk ((by rw [hg]; exact Nat.ne_of_gt (blk_lt (g := gb320) (o := .cells #[.slice (some ad322) l0_0.length c0_0] 25 (0, 0)) (bp BK320)) : gb328 ≠ gb320)); have n10_ := Aside0.mk ((by rw [hg]; exact Nat.ne_of_lt (blk_lt (g := gb321) (o := .cells #[.int .i64 x322000_4, .int .i64 x322001_4, .int .i64 x322002_4] 157 (0, 0)) (bp BK321)) : gb321 ≠ gb328)); have n11_ := Aside0.mk ((by rw [hg]; exact Nat.ne_of_gt (blk_lt (g := gb321) (o := .cells #[.int .i64 x322000_4, .int .i64 x322001_4, .int .i64 x322002_4] 157 (0, 0)) (bp BK321)) : gb328 ≠ gb321)); have n12_ := Aside0.mk ((by rw [hg]; exact Nat.ne_of_lt (blk_lt (g := gb323) (o := .cells #[.int .i64 ((rd_T108 l0_0 x26_2).f0), .int .i64 ((rd_T108 l0_0 x26_2).f1), .slice (some ad327) ((rd_T108 l0_0 x26_2).f2).length c322_2] 108 (0, 0)) (bp BK323)) : gb323 ≠ gb328)); have n13_ := Aside0.mk ((by rw [hg]; exact Nat.ne_of_gt (blk_lt (g := gb323) (o := .cells #[.int .i64 ((rd_T108 l0_0 x26_2).f0), .int .i64 ((rd_T108 l0_0 x26_2).f1), .slice (some ad327) ((rd_T108 l0_0 x26_2).f2).length c322_2] 108 (0, 0)) (bp BK323)) : gb328 ≠ gb323)); clear HO_4; clear BK320; clear BK321; clear BK323; clear HB; have HO_4 := n0_; have BK320 := n1_; have BK321 := n2_; have BK323 := n3_; have HB := n4_; have BK328 := n5_; have GW328 := n6_; have GE328 := n7_; have NB320_328 := n8_; have NB328_320 := n9_; have NB321_328 := n10_; have NB328_321 := n11_; have NB323_328 := n12_; have NB328_323 := n13_; clear n0_ n1_ n2_ n3_ n4_ n5_ n6_ n7_ n8_ n9_ n10_ n11_ n12_ n13_; clear hb hbox hg; have hnb59 := NB328_320.out; have hnc59 := NB320_328.out; have hnb60 := NB328_321.out; have hnc60 := NB321_328.out; have hnb61 := NB328_323.out; have hnc61 := NB323_328.out; have hcz62_0 : w58.cell? ⟨gb328, 0, none⟩ = some (.int .i64 0) := (blk_cell BK328.out 0).trans rfl; have hcz62_1 : w58.cell? ⟨gb328, 1, none⟩ = some (.int .i64 0) := (blk_cell BK328.out 1).trans rfl; have hfz62_0 := blk_frozen BK328.out 0; have hfz62_1 := blk_frozen BK328.out 1; have hnb63 := NB320_321.out; have hnc63 := NB321_320.out; have hnb64 := NB320_323.out; have hnc64 := NB323_320.out; have hcz65_0 : w58.cell? ⟨gb320, 0, none⟩ = some (.slice (some ad322) l0_0.length c0_0) := (blk_cell BK320.out 0).trans rfl; have hfz65_0 := blk_frozen BK320.out 0) | ((with_reducible refine gate_callee (f := 42) rfl ?_); refine goesL_ (some 63) rfl rfl Try.func42 (by kernel_rfl) rfl #[.agg #[.slice (some ad322) l0_0.length c0_0], .int .i64 x26_2, .agg #[.int .i64 ((rd_T56 ((rd_T108 l0_0 x26_2).f2) x55_4).f0), .int .i64 ((rd_T56 ((rd_T108 l0_0 x26_2).f2) x55_4).f1)]] rfl gl ?_; (with_reducible refine (impl_InsRight.calls k4 _ _ l0_0 x26_2 ((rd_T56 ((rd_T108 l0_0 x26_2).f2) x55_4).f0) ((rd_T56 ((rd_T108 l0_0 x26_2).f2) x55_4).f1) false _ ?side1 ?side2 A47.out).mono ?_); (case side1 => exact Kd.C_below HR0_0.out (bw HB)); (case side2 => exact HC0_0.out); rintro e w66 ⟨rfl, hb⟩; refine ⟨_, rfl, ?_⟩; have n0_ := Aside0.mk (Kd.S_below (by (with_reducible repeat (first | apply Kd.S_alloc | apply Kd.S_drewN | apply Kd.S_drew)); exact (Kd.S_mono (Kd.S_far (p := ⟨gb328, 1, none⟩) (Kd.S_far (p := ⟨gb328, 0, none⟩) (Kd.S_types HO_4.out BK328.out (by decide)) (fun _ hk => hk.2) (.int .i64 ((rd_T56 ((rd_T108 l0_0 x26_2).f2) x55_4).f0))) (fun _ hk => hk.2) (.int .i64 ((rd_T56 ((rd_T108 l0_0 x26_2).f2) x55_4).f1))) (fun _ h_ => h_.1))) hb); have n1_ := Aside0.mk (blk_below (g := gb320) (o := .cells #[.slice (some ad322) l0_0.length c0_0] 25 (0, 0)) (by (with_reducible repeat (first | refine blk_drewN ?_ _ | refine blk_drew ?_ | refine blk_alloc ?_ _)); refine blk_far ?_ NB320_328.out _; (with_reducible repeat (first | refine blk_drewN ?_ _ | refine blk_drew ?_ | refine blk_alloc ?_ _)); refine blk_far ?_ NB320_328.out _; exact bp BK320) hb); have n2_ := Aside0.mk (blk_below (g := gb321) (o := .cells #[.int .i64 x322000_4, .int .i64 x322001_4, .int .i64 x322002_4] 157 (0, 0)) (by (with_reducible repeat (first | refine blk_drewN ?_ _ | refine blk_drew ?_ | refine blk_alloc ?_ _)); refine blk_far ?_ NB321_328.out _; (with_reducible repeat (first | refine blk_drewN ?_ _ | refine blk_drew ?_ | refine blk_alloc ?_ _)); refine blk_far ?_ NB321_328.out _; exact bp BK321) hb); have n3_ := Aside0.mk (blk_below (g := gb323) (o := .cells #[.int .i64 ((rd_T108 l0_0 x26_2).f0), .int .i64 ((rd_T108 l0_0 x26_2).f1), .slice (some ad327) ((rd_T108 l0_0 x26_2).f2).length c322_2] 108 (0, 0)) (by (with_reducible repeat (first | refine blk_drewN ?_ _ | refine blk_drew ?_ | refine blk_alloc ?_ _)); refine blk_far ?_ NB323_328.out _; (with_reducible repeat (first | refine blk_drewN ?_ _ | refine blk_drew ?_ | refine blk_alloc ?_ _)); refine blk_far ?_ NB323_328.out _; exact bp BK323) hb); have n4_ := Aside0.mk (blk_below (g := gb328) (o := .cells #[.int .i64 ((rd_T56 ((rd_T108 l0_0 x26_2).f2) x55_4).f0), .int .i64 ((rd_T56 ((rd_T108 l0_0 x26_2).f2) x55_4).f1)] 56 (0, 0)) (by (with_reducible repeat (first | refine blk_drewN ?_ _ | refine blk_drew ?_ | refine blk_alloc ?_ _)); refine blk_put (cs := #[.int .i64 ((rd_T56 ((rd_T108 l0_0 x26_2).f2) x55_4).f0), .int .i64 0]) ?_ 1 _ rfl; (with_reducible repeat (first | refine blk_drewN ?_ _ | refine blk_drew ?_ | refine blk_alloc ?_ _)); refine blk_put (cs := #[.int .i64 0, .int .i64 0]) ?_ 0 _ rfl; exact bp BK328) hb); have n5_ := Aside0.mk (below_step (bw HB) hb); clear HO_4; clear BK320; clear BK321; clear BK323; clear BK328; clear HB; have HO_4 := n0_; have BK320 := n1_; have BK321 := n2_; have BK323 := n3_; have BK328 := n4_; have HB := n5_; clear n0_ n1_ n2_ n3_ n4_ n5_; (try clear hb); (try clear hb2); (try clear hk); (try clear hi); have hnb67 := NB321_323.out; have hnc67 := NB323_321.out; have hcz68_0 : w66.cell? ⟨gb321, 0, none⟩ = some (.int .i64 x322000_4) := (blk_cell BK321.out 0).trans rfl; have hcz68_1 : w66.cell? ⟨gb321, 1, none⟩ = some (.int .i64 x322001_4) := (blk_cell BK321.out 1).trans rfl; have hcz68_2 : w66.cell? ⟨gb321, 2, none⟩ = some (.int .i64 x322002_4) := (blk_cell BK321.out 2).trans rfl; have hfz68_0 := blk_frozen BK321.out 0; have hfz68_1 := blk_frozen BK321.out 1; have hfz68_2 := blk_frozen BK321.out 2))
                  refine bodyPost_ret (results_ct rfl _ _ gb321 157 #[.int .i64 x26_2, .int .i64 x55_4, .int .i64 1] (0, 0) _ rfl (by (with_reducible repeat (first | refine blk_drewN ?_ _ | refine blk_drew ?_ | refine blk_alloc ?_ _)); refine blk_put (cs := #[.int .i64 x26_2, .int .i64 x55_4, .int .i64 x322002_4]) ?_ 2 _ rfl; (with_reducible repeat (first | refine blk_drewN ?_ _ | refine blk_drew ?_ | refine blk_alloc ?_ _)); refine blk_put (cs := #[.int .i64 x26_2, .int .i64 x322001_4, .int .i64 x322002_4]) ?_ 1 _ rfl; (with_reducible repeat (first | refine blk_drewN ?_ _ | refine blk_drew ?_ | refine blk_alloc ?_ _)); refine blk_put (cs := #[.int .i64 x322000_4, .int .i64 x322001_4, .int .i64 x322002_4]) ?_ 0 _ rfl; exact bp BK321) Try.underlying157 rfl (by kernel_rfl)) rfl ?_
                  exact ⟨_, by first | rfl | (simp [errW_none, errW_some] <;> rfl) | (simp [*, errW_none, errW_some] <;> rfl), by first | exact Kd.S_nil _ _ _ _ _ | exact Kd.N_nil _ _ _ _ _ | exact Kd.V_nil _ _ _ _ _ | exact Kd.Q_nil _ _ _ _ _ | exact Kd.R_nil _ _ _ _ _, bw HB⟩
                ·rw [if_neg c46] at H
                 exact absurd H (by simp)
               ·rw [if_neg c45] at H
                exact absurd H (by simp)
              ·rw [if_neg c44] at H
               have c44b0 : decide (x55_4 < (((rd_T108 l0_0 x26_2).f2).length : Int)) = false := decide_eq_false c44
               clear c44
               replace H := Option.bind_eq_some_iff.mp H
               obtain ⟨⟨t330, t333, t334⟩, A690, H⟩ := H
               replace H : (if t334 = 0 then (if x4_2.length < 5864062014805 then (impl_verify.l0 k4 (x4_2 ++ [t330]) l0_0 (l0_0.length : Int) (wrap64 (x26_2 + 1)) l0_0) else (none)) else (some (x26_2, t333, t334, ([] : List (List Int))))) = some (r1, r2, r3, r4) := H
               have A69 := Aside0.mk A690
               clear A690
               by_cases c70 : t334 = 0
               ·rw [if_pos c70] at H
                have c70b0 : (t334 == 0) = true := beq_iff_eq.mpr c70
                have c70b1 : (t334 != 0) = false := bne_eq_false_iff_eq.mpr c70
                clear c70
                by_cases c71 : x4_2.length < 5864062014805
                ·rw [if_pos c71] at H
                 have LMc71 := Aside0.mk c71
                 clear c71
                 obtain ⟨y335, hy335⟩ : ∃ y_ : List (List Int), y_ = (x4_2 ++ [t330]) := ⟨_, rfl⟩
                 replace H : (impl_verify.l0 k4 y335 l0_0 (l0_0.length : Int) (wrap64 (x26_2 + 1)) l0_0) = some (r1, r2, r3, r4) := by first | (rw [hy335]; with_reducible exact H) | (have H2_ := (Option.bind_some _ _).symm.trans H; rw [hy335]; with_reducible exact H2_) | (have H2_ := (Option.bind_some _ _).symm.trans H; with_reducible exact H2_) | with_reducible exact H | (rw [hy335]; exact H) | exact H
                 have Ny335 := Aside0.mk hy335
                 clear hy335
                 have H' := Aside0.mk H
                 clear H
                 have hnb72 := NB320_321.out
                 have hnc72 := NB321_320.out
                 have hnb73 := NB320_323.out
                 have hnc73 := NB323_320.out
                 have hcz74_0 : wr.cell? ⟨gb320, 0, none⟩ = some (.slice (some ad322) l0_0.length c0_0) := (blk_cell BK320.out 0).trans rfl
                 have hfz74_0 := blk_frozen BK320.out 0
                 go_wp2_with (first | ((with_reducible refine gate_callee (f := 182) rfl ?_); refine goesL_ (some 72) rfl rfl Try.func182 (by kernel_rfl) rfl #[.agg #[.slice (some ad322) l0_0.length c0_0], .int .i64 x26_2] rfl gl ?_; (with_reducible refine (impl_heightsOf.calls k4 _ _ l0_0 x26_2 t330 t333 t334 _ ?side1 ?side2 A69.out).mono ?_); (case side1 => exact cc (Kd.C_below HR0_0.out HB.out)); (case side2 => exact HC0_0.out); rintro e w75 ⟨v331, rfl, ho0, hb⟩; refine ⟨_, rfl, ?_⟩; have n0_ := Aside0.mk (Kd.S_elder' (kS HO_4) (Kd.R_base ho0) hb); have n1_ := Aside0.mk (Kd.R_lower ho0 (below_size (bw HB))); have n2_ := Aside0.mk (blk_below (g := gb320) (o := .cells #[.slice (some ad322) l0_0.length c0_0] 25 (0, 0)) (bp BK320) hb); have n3_ := Aside0.mk (blk_below (g := gb321) (o := .cells #[.int .i64 x322000_4, .int .i64 x322001_4, .int .i64 x322002_4] 157 (0, 0)) (bp BK321) hb); have n4_ := Aside0.mk (blk_below (g := gb323) (o := .cells #[.int .i64 ((rd_T108 l0_0 x26_2).f0), .int .i64 ((rd_T108 l0_0 x26_2).f1), .slice A322_2 ((rd_T108 l0_0 x26_2).f2).length c322_2] 108 (0, 0)) (bp BK323) hb); have n5_ := Aside0.mk (below_step (bw HB) hb); clear HO_4; clear BK320; clear BK321; clear BK323; clear HB; have HO_4 := n0_; have HO332 := n1_; have BK320 := n2_; have BK321 := n3_; have BK323 := n4_; have HB := n5_; clear n0_ n1_ n2_ n3_ n4_ n5_; (try clear hb); (try clear hb2); (try clear hk); (try clear hi); (try clear ho0); obtain ⟨Ao77, co77, eo77⟩ := Kd.R_slice HO332.out; subst eo77) | ((with_reducible refine gate_builtin (b := .append) (xs := #[.tmp 82, .tmp 84]) rfl ?_); (try (refine gate_guard (by rfl) ?_; dsimp only)); at_builtin; refine Kd.S_append (Kd.slice 2 (Kd.int .i64)) (w0 := w) w.heap.size rfl (.tmp 82) (.tmp 84) 77 28 (.slice none 0 0) 24 rfl Try.underlying77 info28 rfl (by decide) (by omega) u4 x4_2 t330 [.slice Ao77 t330.length co77] (fun _ => True) (fun k_ => some k_ = (.slice Ao77 t330.length co77 : Value).ownBlock) rfl rfl ?aP (fun k_ hk_ => ((Kd.R_mono (ok' := fun k_ => ((fun _ => True)) k_ ∧ some k_ ≠ (u4 : Value).ownBlock) (Kd.R_apart' (HO332.out) (Kd.S_typed HO_4.out) (by decide)) (fun k_ hk => ⟨trivial, hk.2⟩))).1 k_ hk_.symm) ?aF ?aO ?aB ?aS ?aL ?_; (case aP => exact Kd.M_row (Kd.R_mono (Kd.R_tight rfl (Kd.R_mono (ok' := fun k_ => ((fun _ => True)) k_ ∧ some k_ ≠ (u4 : Value).ownBlock) (Kd.R_apart' (HO332.out) (Kd.S_typed HO_4.out) (by decide)) (fun k_ hk => ⟨trivial, hk.2⟩))) (fun _ h_ => h_))); (case aB => exact (bw HB)); (case aF => exact (fun _ _ => trivial)); (case aO => exact (by (with_reducible repeat (first | apply Kd.S_alloc | apply Kd.S_drewN | apply Kd.S_drew)); exact Kd.S_mono HO_4.out (fun k_ hk => ⟨trivial, fun e_ => hk.2 e_⟩))); (case aS => exact (below_size (bw HB))); (case aL => have := LMc71.out; omega); intro v336 w76 ho hb hg hat; rw [← Ny335.out] at ho; have n0_ := Aside0.mk (blk_grown (g := gb320) (o := .cells #[.slice (some ad322) l0_0.length c0_0] 25 (0, 0)) (bp BK320) hg (Kd.S_ne HO_4.out BK320.out (by decide))); have n1_ := Aside0.mk (blk_grown (g := gb321) (o := .cells #[.int .i64 x322000_4, .int .i64 x322001_4, .int .i64 x322002_4] 157 (0, 0)) (bp BK321) hg (Kd.S_ne HO_4.out BK321.out (by decide))); have n2_ := Aside0.mk (blk_grown (g := gb323) (o := .cells #[.int .i64 ((rd_T108 l0_0 x26_2).f0), .int .i64 ((rd_T108 l0_0 x26_2).f1), .slice A322_2 ((rd_T108 l0_0 x26_2).f2).length c322_2] 108 (0, 0)) (bp BK323) hg (Kd.S_ne HO_4.out BK323.out (by decide))); have n3_ := Aside0.mk (hb); have n4_ := Aside0.mk (ho); clear BK320; clear BK321; clear BK323; clear HB; clear HO_4; clear HO332; have BK320 := n0_; have BK321 := n1_; have BK323 := n2_; have HB := n3_; have HO337 := n4_; clear n0_ n1_ n2_ n3_ n4_; clear ho hb hg hat))
                 go_roundg k4
                 case measure => have := HJ1.out; have := HK2.out; have := HJ17.out; have := HK4.out; omega
                 case rel => exact ⟨(y335), (wrap64 (x26_2 + 1)), (x322000_4), (x322001_4), (x322002_4), dr, H', ⟨by have := HJ1.out; have := HK2.out; have := HJ17.out; have := HK4.out; omega⟩, ⟨kS HO337⟩, ⟨bp BK320⟩, ⟨bp BK321⟩, ⟨bw HB⟩⟩
                ·rw [if_neg c71] at H
                 exact absurd H (by simp)
               ·rw [if_neg c70] at H
                have c70b0 : (t334 == 0) = false := beq_eq_false_iff_ne.mpr c70
                have c70b1 : (t334 != 0) = true := bne_iff_ne.mpr c70
                simp only [Option.some.injEq, Prod.mk.injEq] at H
                obtain ⟨rfl, rfl, rfl, rfl⟩ := H
                have hnb78 := NB320_321.out
                have hnc78 := NB321_320.out
                have hnb79 := NB320_323.out
                have hnc79 := NB323_320.out
                have hcz80_0 : wr.cell? ⟨gb320, 0, none⟩ = some (.slice (some ad322) l0_0.length c0_0) := (blk_cell BK320.out 0).trans rfl
                have hfz80_0 := blk_frozen BK320.out 0
                go_wp2_with (first | ((with_reducible refine gate_callee (f := 182) rfl ?_); refine goesL_ (some 72) rfl rfl Try.func182 (by kernel_rfl) rfl #[.agg #[.slice (some ad322) l0_0.length c0_0], .int .i64 x26_2] rfl gl ?_; (with_reducible refine (impl_heightsOf.calls k4 _ _ l0_0 x26_2 t330 t333 t334 _ ?side1 ?side2 A69.out).mono ?_); (case side1 => exact cc (Kd.C_below HR0_0.out HB.out)); (case side2 => exact HC0_0.out); rintro e w81 ⟨v331, rfl, ho0, hb⟩; refine ⟨_, rfl, ?_⟩; have n0_ := Aside0.mk (Kd.S_elder' (kS HO_4) (Kd.R_base ho0) hb); have n1_ := Aside0.mk (Kd.R_lower ho0 (below_size (bw HB))); have n2_ := Aside0.mk (blk_below (g := gb320) (o := .cells #[.slice (some ad322) l0_0.length c0_0] 25 (0, 0)) (bp BK320) hb); have n3_ := Aside0.mk (blk_below (g := gb321) (o := .cells #[.int .i64 x322000_4, .int .i64 x322001_4, .int .i64 x322002_4] 157 (0, 0)) (bp BK321) hb); have n4_ := Aside0.mk (blk_below (g := gb323) (o := .cells #[.int .i64 ((rd_T108 l0_0 x26_2).f0), .int .i64 ((rd_T108 l0_0 x26_2).f1), .slice A322_2 ((rd_T108 l0_0 x26_2).f2).length c322_2] 108 (0, 0)) (bp BK323) hb); have n5_ := Aside0.mk (below_step (bw HB) hb); clear HO_4; clear BK320; clear BK321; clear BK323; clear HB; have HO_4 := n0_; have HO332 := n1_; have BK320 := n2_; have BK321 := n3_; have BK323 := n4_; have HB := n5_; clear n0_ n1_ n2_ n3_ n4_ n5_; (try clear hb); (try clear hb2); (try clear hk); (try clear hi); (try clear ho0); have hnb82 := NB321_323.out; have hnc82 := NB323_321.out; have hcz83_0 : w81.cell? ⟨gb321, 0, none⟩ = some (.int .i64 x322000_4) := (blk_cell BK321.out 0).trans rfl; have hcz83_1 : w81.cell? ⟨gb321, 1, none⟩ = some (.int .i64 x322001_4) := (blk_cell BK321.out 1).trans rfl; have hcz83_2 : w81.cell? ⟨gb321, 2, none⟩ = some (.int .i64 x322002_4) := (blk_cell BK321.out 2).trans rfl; have hfz83_0 := blk_frozen BK321.out 0; have hfz83_1 := blk_frozen BK321.out 1; have hfz83_2 := blk_frozen BK321.out 2))
                refine bodyPost_ret (results_ct rfl _ _ gb321 157 #[.int .i64 x26_2, .int .i64 t333, .int .i64 t334] (0, 0) _ rfl (by (with_reducible repeat (first | refine blk_drewN ?_ _ | refine blk_drew ?_ | refine blk_alloc ?_ _)); refine blk_put (cs := #[.int .i64 x26_2, .int .i64 t333, .int .i64 x322002_4]) ?_ 2 _ rfl; (with_reducible repeat (first | refine blk_drewN ?_ _ | refine blk_drew ?_ | refine blk_alloc ?_ _)); refine blk_put (cs := #[.int .i64 x26_2, .int .i64 x322001_4, .int .i64 x322002_4]) ?_ 1 _ rfl; (with_reducible repeat (first | refine blk_drewN ?_ _ | refine blk_drew ?_ | refine blk_alloc ?_ _)); refine blk_put (cs := #[.int .i64 x322000_4, .int .i64 x322001_4, .int .i64 x322002_4]) ?_ 0 _ rfl; exact bp BK321) Try.underlying157 rfl (by kernel_rfl)) rfl ?_
                exact ⟨_, by first | rfl | (simp [errW_none, errW_some] <;> rfl) | (simp [*, errW_none, errW_some] <;> rfl), by first | exact Kd.S_nil _ _ _ _ _ | exact Kd.N_nil _ _ _ _ _ | exact Kd.V_nil _ _ _ _ _ | exact Kd.Q_nil _ _ _ _ _ | exact Kd.R_nil _ _ _ _ _, bw HB⟩
        ·rw [if_neg c17] at H
         exact absurd H (by simp)
       ·rw [if_neg c16] at H
        exact absurd H (by simp)
      ·rw [if_neg c15] at H
       have c15b0 : decide (x26_2 < (l0_0.length : Int)) = false := decide_eq_false c15
       clear c15
       simp only [Option.some.injEq, Prod.mk.injEq] at H
       obtain ⟨rfl, rfl, rfl, rfl⟩ := H
       have hnb84 := NB321_320.out
       have hnc84 := NB320_321.out
       have hcz85_0 : wr.cell? ⟨gb321, 0, none⟩ = some (.int .i64 x322000_2) := (blk_cell BK321.out 0).trans rfl
       have hcz85_1 : wr.cell? ⟨gb321, 1, none⟩ = some (.int .i64 x322001_2) := (blk_cell BK321.out 1).trans rfl
       have hcz85_2 : wr.cell? ⟨gb321, 2, none⟩ = some (.int .i64 x322002_2) := (blk_cell BK321.out 2).trans rfl
       have hfz85_0 := blk_frozen BK321.out 0
       have hfz85_1 := blk_frozen BK321.out 1
       have hfz85_2 := blk_frozen BK321.out 2
       go_wp2
       refine bodyPost_ret (results_ct rfl _ _ gb321 157 #[.int .i64 0, .int .i64 0, .int .i64 0] (0, 0) _ rfl (by (with_reducible repeat (first | refine blk_drewN ?_ _ | refine blk_drew ?_ | refine blk_alloc ?_ _)); refine blk_put (cs := #[.int .i64 0, .int .i64 0, .int .i64 x322002_2]) ?_ 2 _ rfl; (with_reducible repeat (first | refine blk_drewN ?_ _ | refine blk_drew ?_ | refine blk_alloc ?_ _)); refine blk_put (cs := #[.int .i64 0, .int .i64 x322001_2, .int .i64 x322002_2]) ?_ 1 _ rfl; (with_reducible repeat (first | refine blk_drewN ?_ _ | refine blk_drew ?_ | refine blk_alloc ?_ _)); refine blk_put (cs := #[.int .i64 x322000_2, .int .i64 x322001_2, .int .i64 x322002_2]) ?_ 0 _ rfl; exact bp BK321) Try.underlying157 rfl (by kernel_rfl)) rfl ?_
       exact ⟨_, by first | rfl | (simp [errW_none, errW_some] <;> rfl) | (simp [*, errW_none, errW_some] <;> rfl), by (with_reducible repeat (first | apply Kd.S_alloc | apply Kd.S_drewN | apply Kd.S_drew)); exact Kd.S_mono (Kd.S_far (p := ⟨gb321, 2, none⟩) (Kd.S_far (p := ⟨gb321, 1, none⟩) (Kd.S_far (p := ⟨gb321, 0, none⟩) (Kd.S_types HO_4.out BK321.out (by decide)) (fun _ hk => hk.2) (.int .i64 0)) (fun _ hk => hk.2) (.int .i64 0)) (fun _ hk => hk.2) (.int .i64 0)) (fun _ hk => trivial), bw HB⟩

/-! ### impl_known: function 122 -/
def impl_known.f (k : Nat) (l0_0 : List (S108)) : Option ((List (S108)) × (List (List Int)) × Bool) := (impl_verify.f k l0_0).bind fun bt339 => (some (l0_0, bt339.2.2.2, (bt339.2.2.1 == 0)))
theorem impl_known.mono : ∀ a0 k, LeO (impl_known.f k a0) (impl_known.f (k + 1) a0) := by
 intro a0 k
 unfold impl_known.f
 repeat' first
   | (with_reducible exact impl_verify.mono _ _)
   | (with_reducible exact LeO.refl _)
   | (with_reducible exact LeO.none _)
   | (with_reducible refine LeO.ite ?_ ?_)
   | (with_reducible refine LeO.bind ?_ (fun _ => ?_))
   | exact impl_verify.mono _ _
   | exact LeO.none _
   | refine LeO.ite ?_ ?_
   | refine LeO.bind ?_ (fun _ => ?_)
def impl_known.T2 : Bool × List (List Nat × List Nat) := (true, [([], []), ([], []), ([0, 1], [0, 1]), ([2], [2]), ([], []), ([4], [4]), ([5], [5]), ([3, 0, 1, 2, 3], [3]), ([6, 7, 0, 1, 2, 3, 4, 5, 6, 7], [6])])
def impl_known.B2 : List Nat := [0, 0, 3, 7, 0, 16, 48, 15, 255]
theorem impl_known.tab2 : rtab .any (opsOf Try.f122 2) = impl_known.T2 := by kernel_rfl
theorem impl_known.bits2 : waitsOk impl_known.T2.2 impl_known.B2 = true := by kernel_rfl
set_option maxHeartbeats 8000000 in
set_option maxRecDepth 100000 in
theorem impl_known.calls (k : Nat) (P0_0_ : Nat → Prop) (A0_0 : Option Addr) (c0_0 : Nat) (l0_0 : List (S108)) (r1 : List (S108)) (r2 : List (List Int)) (r3 : Bool) (w : World) (hs0_0 : Kd.V k108 108 w w.heap.size (fun k_ => P0_0_ k_) (.slice A0_0 l0_0.length c0_0) l0_0) (h : impl_known.f k l0_0 = some (r1, r2, r3)) :
  Calls Try.prog 122 #[.agg #[.slice A0_0 l0_0.length c0_0]] w fun e w' => ∃ v0_ v1_ : Value, ∃ g_ : Nat, e = .returned (.tuple #[.pointer (some ⟨g_, 0, none⟩), .bool r3]) ∧ Kd.V k108 108 w' w.heap.size (fun k_ => (P0_0_ k_ ∨ w.heap.size ≤ k_) ∧ some k_ ≠ (v1_ : Value).ownBlock) v0_ r1 ∧ Kd.S (Kd.slice 2 (Kd.int .i64)) 28 w' w.heap.size (fun k_ => (w.heap.size ≤ k_)) v1_ r2 ∧ w'.heap[g_]? = some (.cells #[v0_, v1_] 110 (0, 0)) ∧ w.heap.size ≤ g_ ∧ Below w.heap.size w w' := by
 have hu25 := Try.underlying25
 have hu157 := Try.underlying157
 have hu110 := Try.underlying110
 have HO0_0 := Aside0.mk (show Kd.V k108 108 w w.heap.size (fun k_ => (P0_0_ k_ ∨ w.heap.size ≤ k_)) (.slice A0_0 l0_0.length c0_0) l0_0 from Kd.V_mono hs0_0 (fun k_ hk => .inl hk))
 have HB := Aside0.mk (Below.refl w.heap.size w)
 have H : ((impl_verify.f k l0_0).bind fun bt339 => (some (l0_0, bt339.2.2.2, (bt339.2.2.1 == 0)))) = some (r1, r2, r3) := h
 clear h
 replace H := Option.bind_eq_some_iff.mp H
 obtain ⟨⟨t339, t340, t341, t342⟩, A20, H⟩ := H
 replace H : (some (l0_0, t342, (t341 == 0))) = some (r1, r2, r3) := H
 have A2 := Aside0.mk A20
 clear A20
 simp only [Option.some.injEq, Prod.mk.injEq] at H
 obtain ⟨rfl, rfl, rfl⟩ := H
 go_enter Try.func122, Try.ntmps122
 try go_wp2_with (first | ((with_reducible refine gate_dst (N := 1) rfl ?_); refine box_event ?hg (N := 1) ?hd (cs := #[.slice A0_0 l0_0.length c0_0]) (t := 25) ?hr ?_; (case hd => rfl); (case hg => rfl); (case hr => first | (go_simp; done) | (go_simp; rfl)); intro gb338 hg w3 hbox hb; have n0_ := Aside0.mk (Kd.V_below (Kd.V_elderB (kV HO0_0) gb338 (Nat.le_of_eq hg.symm)) hb); have n1_ := Aside0.mk (below_step (bw HB) hb); have n2_ := Aside0.mk (hbox); have n3_ := Aside0.mk ((by rw [hg]; exact (below_size (bw HB)) : w.heap.size ≤ gb338)); have n4_ := Aside0.mk ((by rw [hg]; exact (below_size (bw HB)) : w.heap.size ≤ gb338)); clear HO0_0; clear HB; have HO0_0 := n0_; have HB := n1_; have BK338 := n2_; have GW338 := n3_; have GE338 := n4_; clear n0_ n1_ n2_ n3_ n4_; clear hb hbox hg; have hcz4_0 : w3.cell? ⟨gb338, 0, none⟩ = some (.slice A0_0 l0_0.length c0_0) := (blk_cell BK338.out 0).trans rfl; have hfz4_0 := blk_frozen BK338.out 0) | ((with_reducible refine gate_callee (f := 158) rfl ?_); refine goesL_ (some 8) rfl rfl Try.func158 (by kernel_rfl) rfl #[.agg #[.slice A0_0 l0_0.length c0_0]] rfl gl ?_; (with_reducible refine (impl_verify.calls k _ _ l0_0 t339 t340 t341 t342 _ ?side1 ?side2 A2.out).mono ?_); (case side1 => exact cc (Kd.V_reads' HO0_0.out).2.2); (case side2 => exact (Kd.V_reads' HO0_0.out).2.1); rintro e w5 ⟨v343, rfl, ho0, hb⟩; refine ⟨_, rfl, ?_⟩; have n0_ := Aside0.mk (Kd.V_elder' (kV HO0_0) (Kd.S_base ho0) hb); have n1_ := Aside0.mk (Kd.S_lower (Kd.S_newM (M := fun k_ => (w.heap.size ≤ k_)) ho0 (below_size (bw HB)) (fun k_ h_ => h_)) (below_size (bw HB))); have n2_ := Aside0.mk (blk_below (g := gb338) (o := .cells #[.slice A0_0 l0_0.length c0_0] 25 (0, 0)) (bp BK338) hb); have n3_ := Aside0.mk (below_step (bw HB) hb); clear HO0_0; clear BK338; clear HB; have HO0_0 := n0_; have HO344 := n1_; have BK338 := n2_; have HB := n3_; clear n0_ n1_ n2_ n3_; (try clear hb); (try clear hb2); (try clear hk); (try clear hi); (try clear ho0)) | ((with_reducible refine gate_dst (N := 4) rfl ?_); refine box_event ?hg (N := 4) ?hd (cs := #[.int .i64 0, .int .i64 0, .int .i64 0]) (t := 157) ?hr ?_; (case hd => rfl); (case hg => rfl); (case hr => first | (go_simp; done) | (go_simp; rfl)); intro gb345 hg w6 hbox hb; have n0_ := Aside0.mk (Kd.V_below (Kd.V_elderB (kV HO0_0) gb345 (Nat.le_of_eq hg.symm)) hb); have n1_ := Aside0.mk (Kd.S_below (kS HO344) hb); have n2_ := Aside0.mk (blk_below (g := gb338) (o := .cells #[.slice A0_0 l0_0.length c0_0] 25 (0, 0)) (bp BK338) hb); have n3_ := Aside0.mk (below_step (bw HB) hb); have n4_ := Aside0.mk (hbox); have n5_ := Aside0.mk ((by rw [hg]; exact (below_size (bw HB)) : w.heap.size ≤ gb345)); have n6_ := Aside0.mk ((by rw [hg]; exact (below_size (bw HB)) : w.heap.size ≤ gb345)); have n7_ := Aside0.mk ((by rw [hg]; exact Nat.ne_of_lt (blk_lt (g := gb338) (o := .cells #[.slice A0_0 l0_0.length c0_0] 25 (0, 0)) (bp BK338)) : gb338 ≠ gb345)); have n8_ := Aside0.mk ((by rw [hg]; exact Nat.ne_of_gt (blk_lt (g := gb338) (o := .cells #[.slice A0_0 l0_0.length c0_0] 25 (0, 0)) (bp BK338)) : gb345 ≠ gb338)); clear HO0_0; clear HO344; clear BK338; clear HB; have HO0_0 := n0_; have HO344 := n1_; have BK338 := n2_; have HB := n3_; have BK345 := n4_; have GW345 := n5_; have GE345 := n6_; have NB338_345 := n7_; have NB345_338 := n8_; clear n0_ n1_ n2_ n3_ n4_ n5_ n6_ n7_ n8_; clear hb hbox hg; have hnb7 := NB345_338.out; have hnc7 := NB338_345.out; have hcz8_0 : w6.cell? ⟨gb345, 0, none⟩ = some (.int .i64 0) := (blk_cell BK345.out 0).trans rfl; have hcz8_1 : w6.cell? ⟨gb345, 1, none⟩ = some (.int .i64 0) := (blk_cell BK345.out 1).trans rfl; have hcz8_2 : w6.cell? ⟨gb345, 2, none⟩ = some (.int .i64 0) := (blk_cell BK345.out 2).trans rfl; have hfz8_0 := blk_frozen BK345.out 0; have hfz8_1 := blk_frozen BK345.out 1; have hfz8_2 := blk_frozen BK345.out 2))
 have n0_ : Aside0 (Kd.V k108 108 (((w6.setCell ⟨gb345, 0, none⟩ (.int .i64 t339)).setCell ⟨gb345, 1, none⟩ (.int .i64 t340)).setCell ⟨gb345, 2, none⟩ (.int .i64 t341)) w.heap.size (fun k_ => (P0_0_ k_ ∨ w.heap.size ≤ k_) ∧ some k_ ≠ (v343 : Value).ownBlock ∧ k_ ≠ gb338 ∧ k_ ≠ gb345) (.slice A0_0 l0_0.length c0_0) l0_0) := ⟨by (with_reducible repeat (first | apply Kd.V_alloc | apply Kd.V_drewN | apply Kd.V_drew)); exact Kd.V_mono (Kd.V_far (p := ⟨gb345, 2, none⟩) (Kd.V_far (p := ⟨gb345, 1, none⟩) (Kd.V_far (p := ⟨gb345, 0, none⟩) (Kd.V_mono HO0_0.out (fun k_ hk => (⟨hk, hk.2⟩ : _ ∧ k_ ≠ gb345))) (fun _ hk => hk.2) (.int .i64 t339)) (fun _ hk => hk.2) (.int .i64 t340)) (fun _ hk => hk.2) (.int .i64 t341)) (fun _ hk => ⟨hk.1.1.1.1, ⟨hk.1.1.2, ⟨hk.1.1.1.2, hk.1.2⟩⟩⟩)⟩
 have n1_ : Aside0 (Kd.S (Kd.slice 2 (Kd.int .i64)) 28 (((w6.setCell ⟨gb345, 0, none⟩ (.int .i64 t339)).setCell ⟨gb345, 1, none⟩ (.int .i64 t340)).setCell ⟨gb345, 2, none⟩ (.int .i64 t341)) w.heap.size (fun k_ => (w.heap.size ≤ k_)) v343 t342) := ⟨by (with_reducible repeat (first | apply Kd.S_alloc | apply Kd.S_drewN | apply Kd.S_drew)); exact Kd.S_mono (Kd.S_far (p := ⟨gb345, 2, none⟩) (Kd.S_far (p := ⟨gb345, 1, none⟩) (Kd.S_far (p := ⟨gb345, 0, none⟩) (Kd.S_types HO344.out BK345.out (by decide)) (fun _ hk => hk.2) (.int .i64 t339)) (fun _ hk => hk.2) (.int .i64 t340)) (fun _ hk => hk.2) (.int .i64 t341)) (fun _ hk => hk.1.1)⟩
 have n2_ : Aside0 ((((w6.setCell ⟨gb345, 0, none⟩ (.int .i64 t339)).setCell ⟨gb345, 1, none⟩ (.int .i64 t340)).setCell ⟨gb345, 2, none⟩ (.int .i64 t341)).heap[gb338]? = some (.cells #[.slice A0_0 l0_0.length c0_0] 25 (0, 0))) := ⟨by (with_reducible repeat (first | refine blk_drewN ?_ _ | refine blk_drew ?_ | refine blk_alloc ?_ _)); refine blk_far ?_ NB338_345.out _; (with_reducible repeat (first | refine blk_drewN ?_ _ | refine blk_drew ?_ | refine blk_alloc ?_ _)); refine blk_far ?_ NB338_345.out _; (with_reducible repeat (first | refine blk_drewN ?_ _ | refine blk_drew ?_ | refine blk_alloc ?_ _)); refine blk_far ?_ NB338_345.out _; exact bp BK338⟩
 have n3_ : Aside0 ((((w6.setCell ⟨gb345, 0, none⟩ (.int .i64 t339)).setCell ⟨gb345, 1, none⟩ (.int .i64 t340)).setCell ⟨gb345, 2, none⟩ (.int .i64 t341)).heap[gb345]? = some (.cells #[.int .i64 t339, .int .i64 t340, .int .i64 t341] 157 (0, 0))) := ⟨by (with_reducible repeat (first | refine blk_drewN ?_ _ | refine blk_drew ?_ | refine blk_alloc ?_ _)); refine blk_put (cs := #[.int .i64 t339, .int .i64 t340, .int .i64 0]) ?_ 2 _ rfl; (with_reducible repeat (first | refine blk_drewN ?_ _ | refine blk_drew ?_ | refine blk_alloc ?_ _)); refine blk_put (cs := #[.int .i64 t339, .int .i64 0, .int .i64 0]) ?_ 1 _ rfl; (with_reducible repeat (first | refine blk_drewN ?_ _ | refine blk_drew ?_ | refine blk_alloc ?_ _)); refine blk_put (cs := #[.int .i64 0, .int .i64 0, .int .i64 0]) ?_ 0 _ rfl; exact bp BK345⟩
 have n4_ : Aside0 (Below w.heap.size w (((w6.setCell ⟨gb345, 0, none⟩ (.int .i64 t339)).setCell ⟨gb345, 1, none⟩ (.int .i64 t340)).setCell ⟨gb345, 2, none⟩ (.int .i64 t341))) := ⟨bw HB⟩
 (try clear HO0_0)
 (try clear HO344)
 (try clear BK338)
 (try clear BK345)
 (try clear HB)
 generalize (((w6.setCell ⟨gb345, 0, none⟩ (.int .i64 t339)).setCell ⟨gb345, 1, none⟩ (.int .i64 t340)).setCell ⟨gb345, 2, none⟩ (.int .i64 t341)) = w9 at n0_ n1_ n2_ n3_ n4_ ⊢
 have HO0_0 := n0_
 have HO344 := n1_
 have BK338 := n2_
 have BK345 := n3_
 have HB := n4_
 clear n0_ n1_ n2_ n3_ n4_
 have n0_ := Aside0.mk (Kd.V_drew HO0_0.out)
 have n1_ := Aside0.mk (Kd.S_drew HO344.out)
 have n2_ := Aside0.mk (blk_drew BK338.out)
 have n3_ := Aside0.mk (blk_drew BK345.out)
 have n4_ := Aside0.mk (below_drew1 HB.out)
 clear HO0_0
 clear HO344
 clear BK338
 clear BK345
 clear HB
 have HO0_0 := n0_
 have HO344 := n1_
 have BK338 := n2_
 have BK345 := n3_
 have HB := n4_
 clear n0_ n1_ n2_ n3_ n4_
 obtain ⟨Ao11, co11, eo11⟩ := Kd.S_slice HO344.out
 (first | subst eo11 | (injection eo11 with f1_ f2_ f3_; have f4_ := f1_.symm; have f5_ := f3_.symm; clear f1_ f2_ f3_; subst f4_; subst f5_))
 refine start_ (n := 9) (S := fun w' => w'.cell? ⟨gb338, 0, none⟩ = some (.slice A0_0 l0_0.length c0_0) ∧ w'.cell? ⟨gb345, 0, none⟩ = some (.int .i64 t339) ∧ w'.cell? ⟨gb345, 1, none⟩ = some (.int .i64 t340) ∧ w'.cell? ⟨gb345, 2, none⟩ = some (.int .i64 t341)) (ds := []) #[false, false, false, false, false, false, false, false, false] (by kernel_rfl) rfl rfl ⟨(blk_cell BK338.out 0).trans rfl, (blk_cell BK345.out 0).trans rfl, (blk_cell BK345.out 1).trans rfl, (blk_cell BK345.out 2).trans rfl⟩ (fun hHeld => ?_); refine with_tabW impl_known.tab2 impl_known.bits2 (fun HT_ HW_ => ?_)
 generalize w9.drew = w10 at HO0_0 HO344 BK338 BK345 HB hHeld ⊢
 refine pure_ (i := 1) (N := some 12) (v := ?_) (a' := ?_) #[false, true, false, false, false, false, false, false, false] rfl rfl (any_of HT_.out (by kernel_rfl)) (fun _ _ _ h => h) (Or.inl ⟨by rfl, ?_⟩) ?_ ?_
 rotate_left
 ·intro w'
  go_simp
  with_reducible rfl
 rotate_left
 ·simp only [Act.put, List.setIfInBounds_toArray, List.set_cons_zero, List.set_cons_succ, i64_w, i32_w]
  rfl
 refine pure_ (i := 4) (N := some 15) (v := ?_) (a' := ?_) #[false, true, false, false, true, false, false, false, false] rfl rfl (any_of HT_.out (by kernel_rfl)) (fun _ _ _ h => h) (Or.inl ⟨by rfl, ?_⟩) ?_ ?_
 rotate_left
 ·intro w'
  go_simp
  with_reducible rfl
 rotate_left
 ·simp only [Act.put, List.setIfInBounds_toArray, List.set_cons_zero, List.set_cons_succ, i64_w, i32_w]
  rfl
 refine take_ (i := 0) (N := some 11) (v := ?_) (a' := ?_) #[true, true, false, false, true, false, false, false, false] rfl rfl (take_ofW HT_.out HW_.out (by kernel_rfl)) (fun _ _ _ h => h) (Or.inl ⟨by rfl, ?_⟩) hHeld ?_ ?_
 rotate_left
 ·rintro w' ⟨s0, s1, s2, s3⟩
  go_simp
  with_reducible rfl
 rotate_left
 ·simp only [Act.put, List.setIfInBounds_toArray, List.set_cons_zero, List.set_cons_succ, i64_w, i32_w]
  rfl
 refine pure_ (i := 2) (N := some 13) (v := ?_) (a' := ?_) #[true, true, true, false, true, false, false, false, false] rfl rfl (any_of HT_.out (by kernel_rfl)) (fun _ _ _ h => h) (Or.inl ⟨by rfl, ?_⟩) ?_ ?_
 rotate_left
 ·intro w'
  go_simp
  with_reducible rfl
 rotate_left
 ·simp only [Act.put, List.setIfInBounds_toArray, List.set_cons_zero, List.set_cons_succ, i64_w, i32_w]
  rfl
 refine take_ (i := 5) (N := some 16) (v := ?_) (a' := ?_) #[true, true, true, false, true, true, false, false, false] rfl rfl (take_ofW HT_.out HW_.out (by kernel_rfl)) (fun _ _ _ h => h) (Or.inl ⟨by rfl, ?_⟩) hHeld ?_ ?_
 rotate_left
 ·rintro w' ⟨s0, s1, s2, s3⟩
  go_simp
  with_reducible rfl
 rotate_left
 ·simp only [Act.put, List.setIfInBounds_toArray, List.set_cons_zero, List.set_cons_succ, i64_w, i32_w]
  rfl
 refine pure_ (i := 6) (N := some 17) (v := ?_) (a' := ?_) #[true, true, true, false, true, true, true, false, false] rfl rfl (any_of HT_.out (by kernel_rfl)) (fun _ _ _ h => h) (Or.inl ⟨by rfl, ?_⟩) ?_ ?_
 rotate_left
 ·intro w'
  go_simp
  with_reducible rfl
 rotate_left
 ·simp only [Act.put, List.setIfInBounds_toArray, List.set_cons_zero, List.set_cons_succ, i64_w, i32_w]
  rfl
 refine one_ (i := 3) (N := some 14) #[true, true, true, true, true, true, true, false, false] rfl rfl (one_of HT_.out (by kernel_rfl)) (by decide) (fun K hK => ?_)
 refine box_step ?hg (N := 14) ?hd (cs := #[.slice A0_0 l0_0.length c0_0, .slice Ao11 t342.length co11]) (t := 110) ?hr ?_; (case hd => rfl); (case hg => rfl); (case hr => first | (go_simp; done) | (go_simp; rfl))
 intro gb346 hg w12 hbox hb
 have n0_ := Aside0.mk (Kd.V_below (Kd.V_elderB (kV HO0_0) gb346 (Nat.le_of_eq hg.symm)) hb)
 have n1_ := Aside0.mk (Kd.S_below (kS HO344) hb)
 have n2_ := Aside0.mk (blk_below (g := gb338) (o := .cells #[.slice A0_0 l0_0.length c0_0] 25 (0, 0)) (bp BK338) hb)
 have n3_ := Aside0.mk (blk_below (g := gb345) (o := .cells #[.int .i64 t339, .int .i64 t340, .int .i64 t341] 157 (0, 0)) (bp BK345) hb)
 have n4_ := Aside0.mk (below_step (bw HB) hb)
 have n5_ := Aside0.mk (hbox)
 have n6_ := Aside0.mk ((by rw [hg]; exact (below_size (bw HB)) : w.heap.size ≤ gb346))
 have n7_ := Aside0.mk ((by rw [hg]; exact (below_size (bw HB)) : w.heap.size ≤ gb346))
 have n8_ := Aside0.mk ((by rw [hg]; exact Nat.ne_of_lt (blk_lt (g := gb338) (o := .cells #[.slice A0_0 l0_0.length c0_0] 25 (0, 0)) (bp BK338)) : gb338 ≠ gb346))
 have n9_ := Aside0.mk ((by rw [hg]; exact Nat.ne_of_gt (blk_lt (g := gb338) (o := .cells #[.slice A0_0 l0_0.length c0_0] 25 (0, 0)) (bp BK338)) : gb346 ≠ gb338))
 have n10_ := Aside0.mk ((by rw [hg]; exact Nat.ne_of_lt (blk_lt (g := gb345) (o := .cells #[.int .i64 t339, .int .i64 t340, .int .i64 t341] 157 (0, 0)) (bp BK345)) : gb345 ≠ gb346))
 have n11_ := Aside0.mk ((by rw [hg]; exact Nat.ne_of_gt (blk_lt (g := gb345) (o := .cells #[.int .i64 t339, .int .i64 t340, .int .i64 t341] 157 (0, 0)) (bp BK345)) : gb346 ≠ gb345))
 clear HO0_0
 clear HO344
 clear BK338
 clear BK345
 clear HB
 have HO0_0 := n0_
 have HO344 := n1_
 have BK338 := n2_
 have BK345 := n3_
 have HB := n4_
 have BK346 := n5_
 have GW346 := n6_
 have GE346 := n7_
 have NB338_346 := n8_
 have NB346_338 := n9_
 have NB345_346 := n10_
 have NB346_345 := n11_
 clear n0_ n1_ n2_ n3_ n4_ n5_ n6_ n7_ n8_ n9_ n10_ n11_
 clear hb hbox hg
 refine hK.out _ _ ⟨(blk_cell BK338.out 0).trans rfl, (blk_cell BK345.out 0).trans rfl, (blk_cell BK345.out 1).trans rfl, (blk_cell BK345.out 2).trans rfl⟩ (fun hHeld => ?_)
 clear hK K
 refine norm_ (a' := ?_) ?_ ?_
 rotate_left
 ·show Act.put _ (some 14) _ = _
  simp only [Act.put, List.setIfInBounds_toArray, List.set_cons_zero, List.set_cons_succ, i64_w, i32_w]
  rfl
 refine pure_ (i := 7) (N := some 2) (v := ?_) (a' := ?_) #[true, true, true, true, true, true, true, true, false] rfl rfl (any_of HT_.out (by kernel_rfl)) (fun _ _ _ h => h) (Or.inl ⟨by rfl, ?_⟩) ?_ ?_
 rotate_left
 ·intro w'
  go_simp
  with_reducible rfl
 rotate_left
 ·simp only [Act.put, List.setIfInBounds_toArray, List.set_cons_zero, List.set_cons_succ, i64_w, i32_w]
  rfl
 refine pure_ (i := 8) (N := some 3) (v := ?_) (a' := ?_) #[true, true, true, true, true, true, true, true, true] rfl rfl (any_of HT_.out (by kernel_rfl)) (fun _ _ _ h => h) (Or.inl ⟨by rfl, ?_⟩) ?_ ?_
 rotate_left
 ·intro w'
  go_simp
  with_reducible rfl
 rotate_left
 ·simp only [Act.put, List.setIfInBounds_toArray, List.set_cons_zero, List.set_cons_succ, i64_w, i32_w]
  rfl
 refine done_ (done_of HT_.out (by kernel_rfl)) ?_
 try go_wp2
 go_ret2
 exact ⟨_, _, gb346, by first | rfl | (simp [errW_none, errW_some] <;> rfl) | (simp [*, errW_none, errW_some] <;> rfl), by (with_reducible repeat (first | apply Kd.V_alloc | apply Kd.V_drewN | apply Kd.V_drew)); exact Kd.V_mono HO0_0.out (fun _ hk => ⟨hk.1.1, hk.1.2.1⟩), kS HO344, (bp BK346), GW346.out, bw HB⟩

/-! ### impl_prog_reached: function 123 -/
def impl_prog_reached.f (l0_0 : List (S108)) (l0_1 : List (List Int)) (a1 : Int) (a2 : Int) : Option (Bool) := (impl_hasFunc.f l0_0 a1).bind fun t347 => (if t347 = true then (if a2 ≥ 0 then (if 0 ≤ a1 then (if a1 < (l0_1.length : Int) then (if a2 < ((rd_L9 l0_1 a1).length : Int) then (if 0 ≤ a2 then (some (decide ((rd (rd_L9 l0_1 a1) a2) ≥ 0))) else (none)) else (some false)) else (none)) else (none)) else (some false)) else (some false))
set_option maxHeartbeats 8000000 in
set_option maxRecDepth 100000 in
theorem impl_prog_reached.calls (g0_ : Nat) (A0_0 : Option Addr) (c0_0 : Nat) (l0_0 : List (S108)) (A0_1 : Option Addr) (c0_1 : Nat) (l0_1 : List (List Int)) (a1 : Int) (a2 : Int) (r : Bool) (w : World) (hp0 : w.heap[g0_]? = some (.cells #[.slice A0_0 l0_0.length c0_0, .slice A0_1 l0_1.length c0_1] 110 (0, 0))) (hr0_0 : Kd.C k108 w A0_0 l0_0.length l0_0) (hc0_0 : l0_0.length ≤ c0_0) (hr0_1 : Kd.C (Kd.slice 2 (Kd.int .i64)) w A0_1 l0_1.length l0_1) (hc0_1 : l0_1.length ≤ c0_1) (h : impl_prog_reached.f l0_0 l0_1 a1 a2 = some r) :
  Calls Try.prog 123 #[.pointer (some ⟨g0_, 0, none⟩), .int .i64 a1, .int .i64 a2] w fun e w' => e = .returned (.bool r) ∧ Below w.heap.size w w' := by
 have hu25 := Try.underlying25
 have HP0_ := Aside0.mk hp0
 clear hp0
 have HR0_0 := Aside0.mk hr0_0
 have HC0_0 := Aside0.mk hc0_0
 clear hr0_0 hc0_0
 have HR0_1 := Aside0.mk hr0_1
 have HC0_1 := Aside0.mk hc0_1
 clear hr0_1 hc0_1
 have HB := Aside0.mk (Below.refl w.heap.size w)
 have H : ((impl_hasFunc.f l0_0 a1).bind fun t347 => (if t347 = true then (if a2 ≥ 0 then (if 0 ≤ a1 then (if a1 < (l0_1.length : Int) then (if a2 < ((rd_L9 l0_1 a1).length : Int) then (if 0 ≤ a2 then (some (decide ((rd (rd_L9 l0_1 a1) a2) ≥ 0))) else (none)) else (some false)) else (none)) else (none)) else (some false)) else (some false))) = some r := h
 clear h
 replace H := Option.bind_eq_some_iff.mp H
 obtain ⟨t347, A40, H⟩ := H
 replace H : (if t347 = true then (if a2 ≥ 0 then (if 0 ≤ a1 then (if a1 < (l0_1.length : Int) then (if a2 < ((rd_L9 l0_1 a1).length : Int) then (if 0 ≤ a2 then (some (decide ((rd (rd_L9 l0_1 a1) a2) ≥ 0))) else (none)) else (some false)) else (none)) else (none)) else (some false)) else (some false)) = some r := H
 have A4 := Aside0.mk A40
 clear A40
 by_cases c5 : t347 = true
 ·subst c5
  have H1 : (if a2 ≥ 0 then (if 0 ≤ a1 then (if a1 < (l0_1.length : Int) then (if a2 < ((rd_L9 l0_1 a1).length : Int) then (if 0 ≤ a2 then (some (decide ((rd (rd_L9 l0_1 a1) a2) ≥ 0))) else (none)) else (some false)) else (none)) else (none)) else (some false)) = some r := by rw [if_pos rfl] at H; exact H
  clear H
  have H := H1
  clear H1
  by_cases c6 : a2 ≥ 0
  ·rw [if_pos c6] at H
   have c6b0 : decide (0 ≤ a2) = true := decide_eq_true c6
   clear c6
   by_cases c7 : 0 ≤ a1
   ·rw [if_pos c7] at H
    have c7b0 : decide (0 ≤ a1) = true := decide_eq_true c7
    clear c7
    by_cases c8 : a1 < (l0_1.length : Int)
    ·rw [if_pos c8] at H
     have c8b0 : decide (a1 < (l0_1.length : Int)) = true := decide_eq_true c8
     clear c8
     by_cases c9 : a2 < ((rd_L9 l0_1 a1).length : Int)
     ·rw [if_pos c9] at H
      have c9b0 : decide (a2 < ((rd_L9 l0_1 a1).length : Int)) = true := decide_eq_true c9
      clear c9
      by_cases c10 : 0 ≤ a2
      ·rw [if_pos c10] at H
       have c10b0 : decide (0 ≤ a2) = true := decide_eq_true c10
       clear c10
       obtain rfl := Option.some.inj H
       have hcz11_0 : w.cell? ⟨g0_, 0, none⟩ = some (.slice A0_0 l0_0.length c0_0) := (blk_cell HP0_.out 0).trans rfl
       have hcz11_1 : w.cell? ⟨g0_, 1, none⟩ = some (.slice A0_1 l0_1.length c0_1) := (blk_cell HP0_.out 1).trans rfl
       have hfz11_0 := blk_frozen HP0_.out 0
       have hfz11_1 := blk_frozen HP0_.out 1
       go_enter Try.func123, Try.ntmps123
       go_wp2_with (first | ((with_reducible refine gate_callee (f := 89) rfl ?_); refine goesL_ (some 12) rfl rfl Try.func89 (by kernel_rfl) rfl #[.agg #[.slice A0_0 l0_0.length c0_0], .int .i64 a1] rfl gl ?_; (with_reducible refine (impl_hasFunc.calls _ _ l0_0 a1 true _ ?side1 ?side2 A4.out).mono ?_); (case side1 => repeat (first | exact HR0_0.out | (with_reducible refine Kd.C_alloc ?_ _) | (with_reducible refine Kd.C_drewN ?_ _) | (with_reducible refine Kd.C_drew ?_))); (case side2 => exact HC0_0.out); rintro e w12 ⟨rfl, hb⟩; refine ⟨_, rfl, ?_⟩; have n0_ := Aside0.mk (blk_below (g := g0_) (o := .cells #[.slice A0_0 l0_0.length c0_0, .slice A0_1 l0_1.length c0_1] 110 (0, 0)) (bp HP0_) hb); have n1_ := Aside0.mk (below_step (bw HB) hb); clear HP0_; clear HB; have HP0_ := n0_; have HB := n1_; clear n0_ n1_; (try clear hb); (try clear hb2); (try clear hk); (try clear hi); have hcz13_0 : w12.cell? ⟨g0_, 0, none⟩ = some (.slice A0_0 l0_0.length c0_0) := (blk_cell HP0_.out 0).trans rfl; have hcz13_1 : w12.cell? ⟨g0_, 1, none⟩ = some (.slice A0_1 l0_1.length c0_1) := (blk_cell HP0_.out 1).trans rfl; have hfz13_0 := blk_frozen HP0_.out 0; have hfz13_1 := blk_frozen HP0_.out 1; have p348 : 0 ≤ (a1 : Int) := of_decide_eq_true as1; have q348 : a1 < (l0_1.length : Int) := of_decide_eq_true as1; obtain ⟨ad348, A348_0, c348_0, e348, hx348_0, hl348_0, hi348_0⟩ := at_L9 HR0_1.out a1 p348 q348; cases e348; replace hx348_0 := (HB.out.cell (World.block_lt_of_cell? w _ hx348_0)).trans hx348_0; have HR348_0 := Aside0.mk hi348_0; have HC348_0 := Aside0.mk hl348_0; clear hi348_0 hl348_0; replace p348 := eq_true p348; replace q348 := eq_true q348; have p349 : 0 ≤ (a1 : Int) := of_decide_eq_true as1; have q349 : a1 < (l0_1.length : Int) := of_decide_eq_true as1; obtain ⟨ad349, A349_0, c349_0, e349, hx349_0, hl349_0, hi349_0⟩ := at_L9 HR0_1.out a1 p349 q349; obtain rfl : ad348 = ad349 := (by injection e349); replace hx349_0 := (HB.out.cell (World.block_lt_of_cell? w _ hx349_0)).trans hx349_0; have HR349_0 := Aside0.mk hi349_0; have HC349_0 := Aside0.mk hl349_0; clear hi349_0 hl349_0; replace p349 := eq_true p349; replace q349 := eq_true q349; have ea_ := Option.some.inj (hx348_0.symm.trans hx349_0); injection ea_ with ea_ en_ ec_; subst ea_; subst ec_; clear en_; have p350 : 0 ≤ (a2 : Int) := of_decide_eq_true as1; have q350 : a2 < ((rd_L9 l0_1 a1).length : Int) := of_decide_eq_true as1; obtain ⟨ad350, e350, hx350_0⟩ := Kd.at_int HR349_0.out a2 p350 q350; cases e350; replace hx350_0 := (HB.out.cell (World.block_lt_of_cell? w _ hx350_0)).trans hx350_0; replace p350 := eq_true p350; replace q350 := eq_true q350))
       go_ret
       exact ⟨by first | rfl | (simp [errW_none, errW_some] <;> rfl) | (simp [*, errW_none, errW_some] <;> rfl), bw HB⟩
      ·rw [if_neg c10] at H
       exact absurd H (by simp)
     ·rw [if_neg c9] at H
      have c9b0 : decide (a2 < ((rd_L9 l0_1 a1).length : Int)) = false := decide_eq_false c9
      clear c9
      obtain rfl := Option.some.inj H
      have hcz14_0 : w.cell? ⟨g0_, 0, none⟩ = some (.slice A0_0 l0_0.length c0_0) := (blk_cell HP0_.out 0).trans rfl
      have hcz14_1 : w.cell? ⟨g0_, 1, none⟩ = some (.slice A0_1 l0_1.length c0_1) := (blk_cell HP0_.out 1).trans rfl
      have hfz14_0 := blk_frozen HP0_.out 0
      have hfz14_1 := blk_frozen HP0_.out 1
      go_enter Try.func123, Try.ntmps123
      go_wp2_with (first | ((with_reducible refine gate_callee (f := 89) rfl ?_); refine goesL_ (some 12) rfl rfl Try.func89 (by kernel_rfl) rfl #[.agg #[.slice A0_0 l0_0.length c0_0], .int .i64 a1] rfl gl ?_; (with_reducible refine (impl_hasFunc.calls _ _ l0_0 a1 true _ ?side1 ?side2 A4.out).mono ?_); (case side1 => repeat (first | exact HR0_0.out | (with_reducible refine Kd.C_alloc ?_ _) | (with_reducible refine Kd.C_drewN ?_ _) | (with_reducible refine Kd.C_drew ?_))); (case side2 => exact HC0_0.out); rintro e w15 ⟨rfl, hb⟩; refine ⟨_, rfl, ?_⟩; have n0_ := Aside0.mk (blk_below (g := g0_) (o := .cells #[.slice A0_0 l0_0.length c0_0, .slice A0_1 l0_1.length c0_1] 110 (0, 0)) (bp HP0_) hb); have n1_ := Aside0.mk (below_step (bw HB) hb); clear HP0_; clear HB; have HP0_ := n0_; have HB := n1_; clear n0_ n1_; (try clear hb); (try clear hb2); (try clear hk); (try clear hi); have hcz16_0 : w15.cell? ⟨g0_, 0, none⟩ = some (.slice A0_0 l0_0.length c0_0) := (blk_cell HP0_.out 0).trans rfl; have hcz16_1 : w15.cell? ⟨g0_, 1, none⟩ = some (.slice A0_1 l0_1.length c0_1) := (blk_cell HP0_.out 1).trans rfl; have hfz16_0 := blk_frozen HP0_.out 0; have hfz16_1 := blk_frozen HP0_.out 1; have p348 : 0 ≤ (a1 : Int) := of_decide_eq_true as1; have q348 : a1 < (l0_1.length : Int) := of_decide_eq_true as1; obtain ⟨ad348, A348_0, c348_0, e348, hx348_0, hl348_0, hi348_0⟩ := at_L9 HR0_1.out a1 p348 q348; cases e348; replace hx348_0 := (HB.out.cell (World.block_lt_of_cell? w _ hx348_0)).trans hx348_0; have HR348_0 := Aside0.mk hi348_0; have HC348_0 := Aside0.mk hl348_0; clear hi348_0 hl348_0; replace p348 := eq_true p348; replace q348 := eq_true q348))
      go_ret
      exact ⟨by first | rfl | (simp [errW_none, errW_some] <;> rfl) | (simp [*, errW_none, errW_some] <;> rfl), bw HB⟩
    ·rw [if_neg c8] at H
     exact absurd H (by simp)
   ·rw [if_neg c7] at H
    exact absurd H (by simp)
  ·rw [if_neg c6] at H
   have c6b0 : decide (0 ≤ a2) = false := decide_eq_false c6
   clear c6
   obtain rfl := Option.some.inj H
   have hcz17_0 : w.cell? ⟨g0_, 0, none⟩ = some (.slice A0_0 l0_0.length c0_0) := (blk_cell HP0_.out 0).trans rfl
   have hcz17_1 : w.cell? ⟨g0_, 1, none⟩ = some (.slice A0_1 l0_1.length c0_1) := (blk_cell HP0_.out 1).trans rfl
   have hfz17_0 := blk_frozen HP0_.out 0
   have hfz17_1 := blk_frozen HP0_.out 1
   go_enter Try.func123, Try.ntmps123
   go_wp2_with (first | ((with_reducible refine gate_callee (f := 89) rfl ?_); refine goesL_ (some 12) rfl rfl Try.func89 (by kernel_rfl) rfl #[.agg #[.slice A0_0 l0_0.length c0_0], .int .i64 a1] rfl gl ?_; (with_reducible refine (impl_hasFunc.calls _ _ l0_0 a1 true _ ?side1 ?side2 A4.out).mono ?_); (case side1 => repeat (first | exact HR0_0.out | (with_reducible refine Kd.C_alloc ?_ _) | (with_reducible refine Kd.C_drewN ?_ _) | (with_reducible refine Kd.C_drew ?_))); (case side2 => exact HC0_0.out); rintro e w18 ⟨rfl, hb⟩; refine ⟨_, rfl, ?_⟩; have n0_ := Aside0.mk (blk_below (g := g0_) (o := .cells #[.slice A0_0 l0_0.length c0_0, .slice A0_1 l0_1.length c0_1] 110 (0, 0)) (bp HP0_) hb); have n1_ := Aside0.mk (below_step (bw HB) hb); clear HP0_; clear HB; have HP0_ := n0_; have HB := n1_; clear n0_ n1_; (try clear hb); (try clear hb2); (try clear hk); (try clear hi)))
   go_ret
   exact ⟨by first | rfl | (simp [errW_none, errW_some] <;> rfl) | (simp [*, errW_none, errW_some] <;> rfl), bw HB⟩
 ·replace c5 := Bool.eq_false_iff.mpr c5
  subst c5
  have H1 : (some false) = some r := by rw [if_neg (show ¬ (false = true) by decide)] at H; exact H
  clear H
  have H := H1
  clear H1
  obtain rfl := Option.some.inj H
  have hcz19_0 : w.cell? ⟨g0_, 0, none⟩ = some (.slice A0_0 l0_0.length c0_0) := (blk_cell HP0_.out 0).trans rfl
  have hcz19_1 : w.cell? ⟨g0_, 1, none⟩ = some (.slice A0_1 l0_1.length c0_1) := (blk_cell HP0_.out 1).trans rfl
  have hfz19_0 := blk_frozen HP0_.out 0
  have hfz19_1 := blk_frozen HP0_.out 1
  go_enter Try.func123, Try.ntmps123
  go_wp2_with (first | ((with_reducible refine gate_callee (f := 89) rfl ?_); refine goesL_ (some 12) rfl rfl Try.func89 (by kernel_rfl) rfl #[.agg #[.slice A0_0 l0_0.length c0_0], .int .i64 a1] rfl gl ?_; (with_reducible refine (impl_hasFunc.calls _ _ l0_0 a1 false _ ?side1 ?side2 A4.out).mono ?_); (case side1 => repeat (first | exact HR0_0.out | (with_reducible refine Kd.C_alloc ?_ _) | (with_reducible refine Kd.C_drewN ?_ _) | (with_reducible refine Kd.C_drew ?_))); (case side2 => exact HC0_0.out); rintro e w20 ⟨rfl, hb⟩; refine ⟨_, rfl, ?_⟩; have n0_ := Aside0.mk (blk_below (g := g0_) (o := .cells #[.slice A0_0 l0_0.length c0_0, .slice A0_1 l0_1.length c0_1] 110 (0, 0)) (bp HP0_) hb); have n1_ := Aside0.mk (below_step (bw HB) hb); clear HP0_; clear HB; have HP0_ := n0_; have HB := n1_; clear n0_ n1_; (try clear hb); (try clear hb2); (try clear hk); (try clear hi)))
  go_ret
  exact ⟨by first | rfl | (simp [errW_none, errW_some] <;> rfl) | (simp [*, errW_none, errW_some] <;> rfl), bw HB⟩

end Go.Proofs.Ytpkkicaablnakaa.QFnExactSlots
