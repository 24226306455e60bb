import Derived.Test.YtopaefhfjioecaaCFnFileCutx0
import Derived.Test.YtopaefhfjioecaaCFnFileCutx11
namespace Go.Proofs.Ytopaefhfjioecaa.QFnFileCut
open Go.RowKit Go.Proofs.YtopaefhfjioecaaW
open PrintWords PrintLast PrintMore PrintShort
attribute [local go_sem] max2_int min2_int max_two min_two max_three min_three max_four min_four   -- for this text's walks alone
set_option linter.unusedVariables false
set_option maxHeartbeats 8000000
set_option maxRecDepth 100000
set_option linter.unusedSimpArgs false

mutual
def impl_getNum.l0 : Nat → ByteArray → Int → Int → Int → Option (Int × Int × Int)
 | 0, _, _, _, _ => none
 | k + 1, x0, x1, x5, x6 => if x1 ≥ (x0.size : Int) then (impl_getNum.j1 k x0 x1 x5 x6 true) else (impl_getNum.j1 k x0 x1 x5 x6 (decide ((wrap64 (x1 + x6)) ≥ (x0.size : Int))))
def impl_getNum.j1 : Nat → ByteArray → Int → Int → Int → Bool → Option (Int × Int × Int)
 | 0, _, _, _, _, _ => none
 | k + 1, x0, x1, x5, x6, x25 => if x25 = true then (some (0, 0, 4)) else (if 0 ≤ (wrap64 (x1 + x6)) then (if (wrap64 (x1 + x6)) < (x0.size : Int) then (if x6 = 9 then (if (bt x0 (wrap64 (x1 + x6))) > 1 then (impl_getNum.j2 k x0 x1 x5 x6 (bt x0 (wrap64 (x1 + x6))) true) else (if x6 > 0 then (impl_getNum.j2 k x0 x1 x5 x6 (bt x0 (wrap64 (x1 + x6))) ((bt x0 (wrap64 (x1 + x6))) == 0)) else (impl_getNum.j2 k x0 x1 x5 x6 (bt x0 (wrap64 (x1 + x6))) false))) else (if x6 > 0 then (impl_getNum.j2 k x0 x1 x5 x6 (bt x0 (wrap64 (x1 + x6))) ((bt x0 (wrap64 (x1 + x6))) == 0)) else (impl_getNum.j2 k x0 x1 x5 x6 (bt x0 (wrap64 (x1 + x6))) false))) else (none)) else (none))
def impl_getNum.j2 : Nat → ByteArray → Int → Int → Int → Int → Bool → Option (Int × Int × Int)
 | 0, _, _, _, _, _, _ => none
 | k + 1, x0, x1, x5, x6, x7, x45 => if x45 = true then (some (0, 0, 3)) else (if 0 ≤ (wrap64 (7 * x6)) then (if x7 < 128 then (if (Go.bits .and .u64 (Go.bits .or .u64 x5 (shl .u64 (IntKind.u64.wrap (Go.bits .and .u8 x7 127)) (wrap64 (7 * x6)))) 1) = 1 then (some (Go.bits .xor .i64 (-1) (wrap64 ((Go.bits .or .u64 x5 (shl .u64 (IntKind.u64.wrap (Go.bits .and .u8 x7 127)) (wrap64 (7 * x6)))) / 2)), wrap64 ((wrap64 (x1 + x6)) + 1), 0)) else (some (wrap64 ((Go.bits .or .u64 x5 (shl .u64 (IntKind.u64.wrap (Go.bits .and .u8 x7 127)) (wrap64 (7 * x6)))) / 2), wrap64 ((wrap64 (x1 + x6)) + 1), 0))) else (impl_getNum.l0 k x0 x1 (Go.bits .or .u64 x5 (shl .u64 (IntKind.u64.wrap (Go.bits .and .u8 x7 127)) (wrap64 (7 * x6)))) (wrap64 (x6 + 1)))) else (none))
end
def impl_getNum.f (k : Nat) (a0 : ByteArray) (a1 : Int) : Option (Int × Int × Int) := if a1 < 0 then (some (0, 0, 1)) else (impl_getNum.l0 k a0 a1 0 0)
theorem impl_getNum.mono_l : ∀ k, (∀ y0 y1 y2 y3, LeO (impl_getNum.l0 k y0 y1 y2 y3) (impl_getNum.l0 (k + 1) y0 y1 y2 y3)) ∧ (∀ y0 y1 y2 y3 y4, LeO (impl_getNum.j1 k y0 y1 y2 y3 y4) (impl_getNum.j1 (k + 1) y0 y1 y2 y3 y4)) ∧ (∀ y0 y1 y2 y3 y4 y5, LeO (impl_getNum.j2 k y0 y1 y2 y3 y4 y5) (impl_getNum.j2 (k + 1) y0 y1 y2 y3 y4 y5))
 | 0 => ⟨fun _ _ _ _ r h => by simp [impl_getNum.l0] at h, fun _ _ _ _ _ r h => by simp [impl_getNum.j1] at h, fun _ _ _ _ _ _ r h => by simp [impl_getNum.j2] at h⟩
 | k + 1 => by
  obtain ⟨ih0, ih1, ih2⟩ := impl_getNum.mono_l k
  refine ⟨?_, ?_, ?_⟩
  ·intro y0 y1 y2 y3
   unfold impl_getNum.l0
   with_reducible repeat' first | exact ih0 .. | exact ih1 .. | exact ih2 .. | exact LeO.refl _ | exact LeO.none _ | refine LeO.ite ?_ ?_ | refine LeO.bind ?_ (fun _ => ?_)
  ·intro y0 y1 y2 y3 y4
   unfold impl_getNum.j1
   with_reducible repeat' first | exact ih0 .. | exact ih1 .. | exact ih2 .. | exact LeO.refl _ | exact LeO.none _ | refine LeO.ite ?_ ?_ | refine LeO.bind ?_ (fun _ => ?_)
  ·intro y0 y1 y2 y3 y4 y5
   unfold impl_getNum.j2
   with_reducible repeat' first | exact ih0 .. | exact ih1 .. | exact ih2 .. | exact LeO.refl _ | exact LeO.none _ | refine LeO.ite ?_ ?_ | refine LeO.bind ?_ (fun _ => ?_)
theorem impl_getNum.mono : ∀ a0 a1 k, LeO (impl_getNum.f k a0 a1) (impl_getNum.f (k + 1) a0 a1) := by
 intro a0 a1 k
 obtain ⟨ih0, ih1, ih2⟩ := impl_getNum.mono_l k
 unfold impl_getNum.f
 with_reducible repeat' first | exact ih0 .. | exact ih1 .. | exact ih2 .. | exact LeO.refl _ | exact LeO.none _ | refine LeO.ite ?_ ?_ | refine LeO.bind ?_ (fun _ => ?_)
theorem impl_getNum.calls (k : Nat) (a0 : ByteArray) (a1 : Int) (r1 : Int) (r2 : Int) (r3 : Int) (w : World) (h : impl_getNum.f k a0 a1 = some (r1, r2, r3)) :
  Calls Try.prog 84 #[.string a0, .int .i64 a1] w fun e w' => e = .returned (.agg #[.int .i64 r1, .int .i64 r2, .int .i64 r3]) ∧ Below w.heap.size w w' := by
 have hu115 := Try.underlying115
 have HB := am (Below.refl w.heap.size w)
 have H : (if a1 < 0 then (some (0, 0, 1)) else (impl_getNum.l0 k a0 a1 0 0)) = some (r1, r2, r3) := h
 clear h
 have HC3 := am H
 clear H
 go_enter Try.func84, Try.ntmps84
 go_upto_if 10 with (first | ((with_reducible refine gate_dst (N := 4) rfl ?_); (try (refine gate_guard (by rfl) ?_; dsimp only)); refine box_event ?hg (N := 4) ?hd (cs := #[.int .i64 0, .int .i64 0, .int .i64 0]) (t := 115) ?hr ?_; (case hd => rfl); (case hg => rfl); (case hr => exact gs); intro gb393 hg w4 hbox hb; have BK393 := am (hbox); have GW393 := gw hg HB; replace HB := bs HB hb; clear hb hbox hg))
 (try simp only [Act.put, sa, sz, ss])
 have H := HC3.out
 clear HC3
 by_cases c5 : a1 < 0
 ·rw [if_pos c5] at H
  have c5b0 := decide_eq_true c5
  clear c5
  (first | rw [c5b0] | (simp only [i64_w, i32_w]; rw [c5b0]) | skip)
  simp only [Option.some.injEq, Prod.mk.injEq] at H
  obtain ⟨rfl, rfl, rfl⟩ := H
  have hcz6 := bK w4 BK393
  have hfz6 := bF BK393
  go_wp2
  refine bodyPost_ret (results_cell_row rfl _ _ gb393 115 #[.int .i64 0, .int .i64 0, .int .i64 1] (0, 0) _ rfl (bt BK393) Try.underlying115 rfl (by kernel_rfl)) rfl ?_
  exact ⟨er, bw HB⟩
 rw [if_neg c5] at H
 have c5b0 := decide_eq_false c5
 clear c5
 (first | rw [c5b0] | (simp only [i64_w, i32_w]; rw [c5b0]) | skip)
 have H' := am H
 clear H
 go_wp2
 go_loopg [5, 6] k (fun kq v5 v6 w' => ∃ (x5_1 : Int) (x6_1 : Int) (x394000_1 : Int) (x394001_1 : Int) (x394002_1 : Int), v5 = .int .u64 x5_1 ∧ v6 = .int .i64 x6_1 ∧ Aside0 (impl_getNum.l0 kq a0 a1 x5_1 x6_1 = some (r1, r2, r3)) ∧ Aside0 (kq ≤ k) ∧ Aside0 (w'.heap[gb393]? = some (.cells #[.int .i64 x394000_1, .int .i64 x394001_1, .int .i64 x394002_1] 115 (0, 0))) ∧ Aside0 (Below w.heap.size w w'))
 case atStart => exact ⟨(0), (0), (0), (0), (0), dr, dr, H', ⟨Nat.le_refl _⟩, ⟨bp BK393⟩, ⟨bw HB⟩⟩
 clear H'
 (try clear p2); (try clear c5); (try clear c5b0); (try clear hcz6); (try clear hfz6)
 obtain ⟨x5_1, x6_1, x394000_1, x394001_1, x394002_1, rfl, rfl, HA, HK1, BK393, HB⟩ := hrel
 rcases gk with _ | k1
 ·exact absurd HA.out (by simp [impl_getNum.l0])
 have H := HA.out
 clear HA
 simp only [impl_getNum.l0] at H
 have HC7 := am H
 clear H
 go_upto_region 6 with (fail)
 go_cut [25] (fun v25 wc => ∃ (kq : Nat) (x25_6 : Bool), v25 = .bool x25_6 ∧ Aside0 (impl_getNum.j1 kq a0 a1 x5_1 x6_1 x25_6 = some (r1, r2, r3)) ∧ Aside0 (kq ≤ k1) ∧ Aside0 (wc.heap[gb393]? = some (.cells #[.int .i64 x394000_1, .int .i64 x394001_1, .int .i64 x394002_1] 115 (0, 0))) ∧ Aside0 (Below w.heap.size w wc))
 case first =>
  have H := HC7.out
  clear HC7
  refine qL H ?_ ?_ <;> clear H <;> intro c8b0 H
  ·(first | rw [c8b0] | (simp only [i64_w, i32_w]; rw [c8b0]) | skip)
   have H' := am H
   clear H
   go_wp2
   go_meet
   case rel => exact ⟨_, (true), dr, H', ⟨lk1 HK1⟩, ⟨bp BK393⟩, ⟨bw HB⟩⟩
  (first | rw [c8b0] | (simp only [i64_w, i32_w]; rw [c8b0]) | skip)
  have H' := am H
  clear H
  go_wp2
  go_meet
  case rel => exact ⟨_, (decide ((wrap64 (a1 + x6_1)) ≥ (a0.size : Int))), dr, H', ⟨lk1 HK1⟩, ⟨bp BK393⟩, ⟨bw HB⟩⟩
 clear HC7
 (try clear p6); (try clear c8); (try clear c8b0)
 obtain ⟨kq, x25_6, rfl, HA, HJ6, BK393, HB⟩ := hcut
 rcases kq with _ | kj6
 ·exact absurd HA.out (by simp [impl_getNum.j1])
 have H := HA.out
 clear HA
 simp only [impl_getNum.j1] at H
 refine qT H ?_ ?_ <;> clear H <;> intro c9 H <;> subst c9
 ·simp only [Option.some.injEq, Prod.mk.injEq] at H
  obtain ⟨rfl, rfl, rfl⟩ := H
  have hcz10 := bK wc BK393
  have hfz10 := bF BK393
  go_wp2
  refine bodyPost_ret (results_cell_row rfl _ _ gb393 115 #[.int .i64 0, .int .i64 0, .int .i64 4] (0, 0) _ rfl (bt BK393) Try.underlying115 rfl (by kernel_rfl)) rfl ?_
  exact ⟨er, bw HB⟩
 obtain ⟨ji11, hji11⟩ : ∃ j_ : Int, (wrap64 (a1 + x6_1)) = j_ := ⟨_, rfl⟩
 replace H : (if 0 ≤ (ji11) then (if (ji11) < (a0.size : Int) then (if x6_1 = 9 then (if (bt a0 (ji11)) > 1 then (impl_getNum.j2 kj6 a0 a1 x5_1 x6_1 (bt a0 (ji11)) true) else (if x6_1 > 0 then (impl_getNum.j2 kj6 a0 a1 x5_1 x6_1 (bt a0 (ji11)) ((bt a0 (ji11)) == 0)) else (impl_getNum.j2 kj6 a0 a1 x5_1 x6_1 (bt a0 (ji11)) false))) else (if x6_1 > 0 then (impl_getNum.j2 kj6 a0 a1 x5_1 x6_1 (bt a0 (ji11)) ((bt a0 (ji11)) == 0)) else (impl_getNum.j2 kj6 a0 a1 x5_1 x6_1 (bt a0 (ji11)) false))) else (none)) else (none)) = some (r1, r2, r3) := by first | (rw [hji11] at H; exact H) | (simp only [hji11] at H ⊢; exact H)
 have hji11w : (IntKind.i64.wrap (a1 + x6_1)) = ji11 := (i64_w _).trans hji11
 refine iN H ?_; clear H; intro c12 H
 have c12b0 := decide_eq_true c12
 clear c12
 refine iN H ?_; clear H; intro c13 H
 have c13b0 := decide_eq_true c13
 clear c13
 have HC15 := am H
 clear H
 have p14 : 0 ≤ ((ji11) : Int) := of_decide_eq_true as1
 have q14 : (ji11) < (a0.size : Int) := of_decide_eq_true as1
 have hx14 := bt_at a0 (ji11)
 replace p14 := eq_true p14
 replace q14 := eq_true q14
 go_upto_region 9 with (fail)
 go_cut [45] (fun v45 wc => ∃ (kq : Nat) (x45_14 : Bool), v45 = .bool x45_14 ∧ Aside0 (impl_getNum.j2 kq a0 a1 x5_1 x6_1 (bt a0 (ji11)) x45_14 = some (r1, r2, r3)) ∧ Aside0 (kq ≤ kj6) ∧ Aside0 (wc.heap[gb393]? = some (.cells #[.int .i64 x394000_1, .int .i64 x394001_1, .int .i64 x394002_1] 115 (0, 0))) ∧ Aside0 (Below w.heap.size w wc))
 case first =>
  have H := HC15.out
  clear HC15
  refine qE H ?_ ?_ <;> clear H
  ·intro c16b0 c16b1 H
   (first | rw [c16b0] | (simp only [i64_w, i32_w]; rw [c16b0]) | skip)
   refine qG H ?_ ?_ <;> clear H <;> intro c17b0 H
   ·have H' := am H
    clear H
    go_wp2
    go_meet
    case rel => exact ⟨_, (true), dr, H', ⟨lk2 HK1 HJ6⟩, ⟨bp BK393⟩, ⟨bw HB⟩⟩
   refine qG H ?_ ?_ <;> clear H <;> intro c18b0 H
   ·have H' := am H
    clear H
    go_wp2
    go_meet
    case rel => exact ⟨_, (((bt a0 (ji11)) == 0)), (by first | rfl | (simp; done) | (simp only [← hji11] <;> (first | rfl | simp)) | (simp [*]; done)), H', ⟨lk2 HK1 HJ6⟩, ⟨bp BK393⟩, ⟨bw HB⟩⟩
   have H' := am H
   clear H
   go_wp2
   go_meet
   case rel => exact ⟨_, (false), dr, H', ⟨lk2 HK1 HJ6⟩, ⟨bp BK393⟩, ⟨bw HB⟩⟩
  intro c16 c16b0 c16b1 H
  (first | rw [c16b0] | (simp only [i64_w, i32_w]; rw [c16b0]) | skip)
  refine qG H ?_ ?_ <;> clear H <;> intro c19b0 H
  ·have H' := am H
   clear H
   go_wp2
   go_meet
   case rel => exact ⟨_, (((bt a0 (ji11)) == 0)), (by first | rfl | (simp; done) | (simp only [← hji11] <;> (first | rfl | simp)) | (simp [*]; done)), H', ⟨lk2 HK1 HJ6⟩, ⟨bp BK393⟩, ⟨bw HB⟩⟩
  have H' := am H
  clear H
  go_wp2
  go_meet
  case rel => exact ⟨_, (false), dr, H', ⟨lk2 HK1 HJ6⟩, ⟨bp BK393⟩, ⟨bw HB⟩⟩
 clear HC15
 (try clear c1); (try clear p1); (try clear q1); (try clear hx1); (try clear c9); (try clear c12); (try clear c12b0); (try clear c13); (try clear c13b0); (try clear p14); (try clear q14); (try clear hx14); (try clear c16); (try clear c16b0); (try clear c16b1); (try clear c17); (try clear c17b0); (try clear c18); (try clear c18b0); (try clear c19); (try clear c19b0); (try clear hcz10); (try clear hfz10); (try clear p14); (try clear q14)
 obtain ⟨kq, x45_14, rfl, HA, HJ14, BK393, HB⟩ := hcut
 rcases kq with _ | kj14
 ·exact absurd HA.out (by simp [impl_getNum.j2])
 have H := HA.out
 clear HA
 simp only [impl_getNum.j2] at H
 refine qT H ?_ ?_ <;> clear H <;> intro c20 H <;> subst c20
 ·simp only [Option.some.injEq, Prod.mk.injEq] at H
  obtain ⟨rfl, rfl, rfl⟩ := H
  have hcz21 := bK wc BK393
  have hfz21 := bF BK393
  go_wp2
  refine bodyPost_ret (results_cell_row rfl _ _ gb393 115 #[.int .i64 0, .int .i64 0, .int .i64 3] (0, 0) _ rfl (bt BK393) Try.underlying115 rfl (by kernel_rfl)) rfl ?_
  exact ⟨by first | rfl | (simp [errW_none, errW_some] <;> rfl) | (simp only [← hji11]; first | rfl | (simp [errW_none, errW_some] <;> rfl)) | (simp [*, errW_none, errW_some] <;> rfl), bw HB⟩
 obtain ⟨ji22, hji22⟩ : ∃ j_ : Int, (wrap64 (7 * x6_1)) = j_ := ⟨_, rfl⟩
 replace H : (if 0 ≤ (ji22) then (if (bt a0 (ji11)) < 128 then (if (Go.bits .and .u64 (Go.bits .or .u64 x5_1 (shl .u64 (IntKind.u64.wrap (Go.bits .and .u8 (bt a0 (ji11)) 127)) (ji22))) 1) = 1 then (some (Go.bits .xor .i64 (-1) (wrap64 ((Go.bits .or .u64 x5_1 (shl .u64 (IntKind.u64.wrap (Go.bits .and .u8 (bt a0 (ji11)) 127)) (ji22))) / 2)), wrap64 ((wrap64 (a1 + x6_1)) + 1), 0)) else (some (wrap64 ((Go.bits .or .u64 x5_1 (shl .u64 (IntKind.u64.wrap (Go.bits .and .u8 (bt a0 (ji11)) 127)) (ji22))) / 2), wrap64 ((wrap64 (a1 + x6_1)) + 1), 0))) else (impl_getNum.l0 kj14 a0 a1 (Go.bits .or .u64 x5_1 (shl .u64 (IntKind.u64.wrap (Go.bits .and .u8 (bt a0 (ji11)) 127)) (ji22))) (wrap64 (x6_1 + 1)))) else (none)) = some (r1, r2, r3) := by first | (rw [hji22] at H; exact H) | (simp only [hji22] at H ⊢; exact H)
 have hji22w : (IntKind.i64.wrap (7 * x6_1)) = ji22 := (i64_w _).trans hji22
 refine iN H ?_; clear H; intro c23 H
 have c23b0 := eq_true c23
 have c23b1 := decide_eq_true c23
 clear c23
 obtain ⟨ji24, hji24⟩ : ∃ j_ : Int, (shl .u64 (IntKind.u64.wrap (Go.bits .and .u8 (bt a0 (ji11)) 127)) (ji22)) = j_ := ⟨_, rfl⟩
 replace H : (if (bt a0 (ji11)) < 128 then (if (Go.bits .and .u64 (Go.bits .or .u64 x5_1 (ji24)) 1) = 1 then (some (Go.bits .xor .i64 (-1) (wrap64 ((Go.bits .or .u64 x5_1 (ji24)) / 2)), wrap64 ((wrap64 (a1 + x6_1)) + 1), 0)) else (some (wrap64 ((Go.bits .or .u64 x5_1 (ji24)) / 2), wrap64 ((wrap64 (a1 + x6_1)) + 1), 0))) else (impl_getNum.l0 kj14 a0 a1 (Go.bits .or .u64 x5_1 (ji24)) (wrap64 (x6_1 + 1)))) = some (r1, r2, r3) := by first | (rw [hji24] at H; exact H) | (simp only [hji24] at H ⊢; exact H)
 have hji24_ : (IntKind.u64.wrap ((IntKind.u64.wrap (Go.bits .and .u8 (bt a0 (ji11)) 127)) * 2 ^ min (ji22).toNat 64)) = ji24 := hji24
 have hji24z : (ji22) ≤ 64 → (IntKind.u64.wrap ((IntKind.u64.wrap (Go.bits .and .u8 (bt a0 (ji11)) 127)) * 2 ^ (ji22).toNat)) = ji24 := shl_small hji24
 refine qI H ?_ ?_ <;> clear H <;> intro c25b0 H
 ·refine qE H ?_ ?_ <;> clear H
  ·intro c26b0 c26b1 H
   simp only [Option.some.injEq, Prod.mk.injEq] at H
   obtain ⟨rfl, rfl, rfl⟩ := H
   have hcz27 := bK wc BK393
   have hfz27 := bF BK393
   go_wp2
   subst hji11
   refine bodyPost_ret (results_cell_row rfl _ _ gb393 115 #[.int .i64 (Go.bits .xor .i64 (-1) (wrap64 ((Go.bits .or .u64 x5_1 (ji24)) / 2))), .int .i64 (wrap64 ((wrap64 (a1 + x6_1)) + 1)), .int .i64 0] (0, 0) _ rfl (bt BK393) Try.underlying115 rfl (by kernel_rfl)) rfl ?_
   exact ⟨by first | rfl | (simp [errW_none, errW_some] <;> rfl) | (simp only [← hji11, ← hji22, ← hji24]; first | rfl | (simp [errW_none, errW_some] <;> rfl)) | (simp [*, errW_none, errW_some] <;> rfl), bw HB⟩
  intro c26 c26b0 c26b1 H
  simp only [Option.some.injEq, Prod.mk.injEq] at H
  obtain ⟨rfl, rfl, rfl⟩ := H
  have hcz28 := bK wc BK393
  have hfz28 := bF BK393
  go_wp2
  subst hji11
  refine bodyPost_ret (results_cell_row rfl _ _ gb393 115 #[.int .i64 (wrap64 ((Go.bits .or .u64 x5_1 (ji24)) / 2)), .int .i64 (wrap64 ((wrap64 (a1 + x6_1)) + 1)), .int .i64 0] (0, 0) _ rfl (bt BK393) Try.underlying115 rfl (by kernel_rfl)) rfl ?_
  exact ⟨by first | rfl | (simp [errW_none, errW_some] <;> rfl) | (simp only [← hji11, ← hji22, ← hji24]; first | rfl | (simp [errW_none, errW_some] <;> rfl)) | (simp [*, errW_none, errW_some] <;> rfl), bw HB⟩
 have H' := am H
 clear H
 go_wp2
 go_roundg kj14
 case measure => have := HK1.out; have := HJ6.out; have := HJ14.out; omega
 case rel => exact ⟨(Go.bits .or .u64 x5_1 (ji24)), (wrap64 (x6_1 + 1)), (x394000_1), (x394001_1), (x394002_1), (by first | rfl | (simp; done) | (simp only [← hji24] <;> (first | rfl | simp)) | (simp [*]; done)), dr, H', ⟨by have := HK1.out; have := HJ6.out; have := HJ14.out; omega⟩, ⟨bp BK393⟩, ⟨bw HB⟩⟩

-- NOT PRINTED: function 47 (impl_reader_num)

-- NOT PRINTED: function 46 (impl_reader_count)

def impl_sum.l0 : Nat → ByteArray → Int → Int → Int → Option (Int)
 | 0, _, _, _, _ => none
 | k + 1, x0, x3, x6, x7 => if x7 < x6 then (if 0 ≤ x7 then (if x7 < (x0.size : Int) then (impl_sum.l0 k x0 (Int.tmod (wrap64 ((wrap64 (257 * x3)) + (wrap64 (bt x0 x7)))) 4294967291) x6 (wrap64 (x7 + 1))) else (none)) else (none)) else (some x3)
def impl_sum.f (k : Nat) (a0 : ByteArray) : Option (Int) := impl_sum.l0 k a0 7 (a0.size : Int) 0
theorem impl_sum.mono_l : ∀ k, (∀ y0 y1 y2 y3, LeO (impl_sum.l0 k y0 y1 y2 y3) (impl_sum.l0 (k + 1) y0 y1 y2 y3))
 | 0 => fun _ _ _ _ r h => by simp [impl_sum.l0] at h
 | k + 1 => by
  have ih0 := impl_sum.mono_l k
  ·intro y0 y1 y2 y3
   unfold impl_sum.l0
   with_reducible repeat' first | exact ih0 .. | exact LeO.refl _ | exact LeO.none _ | refine LeO.ite ?_ ?_ | refine LeO.bind ?_ (fun _ => ?_)
theorem impl_sum.mono : ∀ a0 k, LeO (impl_sum.f k a0) (impl_sum.f (k + 1) a0) := by
 intro a0 k
 have ih0 := impl_sum.mono_l k
 unfold impl_sum.f
 with_reducible repeat' first | exact ih0 .. | exact LeO.refl _ | exact LeO.none _ | refine LeO.ite ?_ ?_ | refine LeO.bind ?_ (fun _ => ?_)
theorem impl_sum.calls (k : Nat) (a0 : ByteArray) (r : Int) (w : World) (h : impl_sum.f k a0 = some r) :
  Calls Try.prog 48 #[.string a0] w fun e w' => e = .returned (.int .i64 r) ∧ Drawn0 w w' := by
 have H : (impl_sum.l0 k a0 7 (a0.size : Int) 0) = some r := h
 clear h
 have H' := am H
 clear H
 go_enter Try.func48, Try.ntmps48
 go_wp2
 go_loopg [3, 7] k (fun kq v3 v7 w' => ∃ (x3_1 : Int) (x7_1 : Int), v3 = .int .i64 x3_1 ∧ v7 = .int .i64 x7_1 ∧ Aside0 (impl_sum.l0 kq a0 x3_1 (a0.size : Int) x7_1 = some r) ∧ Aside0 (kq ≤ k) ∧ Drawn0 w w')
 case atStart => exact ⟨(7), (0), dr, dr, H', ⟨Nat.le_refl _⟩, by repeat (first | exact Drawn0.refl _ | apply Drawn0.step)⟩
 clear H'
 obtain ⟨x3_1, x7_1, rfl, rfl, HA, HK1, ⟨m1, rfl⟩⟩ := hrel
 rcases gk with _ | k1
 ·exact absurd HA.out (by simp [impl_sum.l0])
 have H := HA.out
 clear HA
 simp only [impl_sum.l0] at H
 refine qI H ?_ ?_ <;> clear H <;> intro c2b0 H
 ·refine iM H ?_; clear H; intro c3b0 H
  refine iM H ?_; clear H; intro c4b0 H
  have H' := am H
  clear H
  have p5 : 0 ≤ (x7_1 : Int) := of_decide_eq_true as1
  have q5 : x7_1 < (a0.size : Int) := of_decide_eq_true as1
  have hx5 := bt_at a0 x7_1
  replace p5 := eq_true p5
  replace q5 := eq_true q5
  go_wp2
  go_roundg k1
  case measure => have := HK1.out; omega
  case rel => exact ⟨(Int.tmod (wrap64 ((wrap64 (257 * x3_1)) + (wrap64 (bt a0 x7_1)))) 4294967291), (wrap64 (x7_1 + 1)), dr, dr, H', ⟨by have := HK1.out; omega⟩, by repeat (first | exact Drawn0.refl _ | apply Drawn0.step)⟩
 obtain rfl := Option.some.inj H
 go_wp2
 go_ret
 exact ⟨by first | rfl | (simp; done) | (simp [*]; done), by repeat (first | exact Drawn0.refl _ | apply Drawn0.step)⟩

def impl_reader_end.f (s0_0 : ByteArray) (s0_1 : Int) (s0_2 : Int) (s0_3 : Int) : Option (ByteArray × Int × Int × Int) := if s0_3 = 0 then (if s0_1 = (s0_0.size : Int) then (some (s0_0, s0_1, s0_2, s0_3)) else ((impl_reader_fault.f s0_0 s0_1 s0_2 s0_3 s0_1 3).bind fun bt402 => (some (bt402.1, bt402.2.1, bt402.2.2.1, bt402.2.2.2)))) else (some (s0_0, s0_1, s0_2, s0_3))
theorem impl_reader_end.calls (g : Nat) (s0_0 : ByteArray) (s0_1 : Int) (s0_2 : Int) (s0_3 : Int) (r1 : ByteArray) (r2 : Int) (r3 : Int) (r4 : Int) (w0 w : World) (hI : IsS79 w0 w g s0_0 s0_1 s0_2 s0_3) (hB : Below w0.heap.size w0 w) (h : impl_reader_end.f s0_0 s0_1 s0_2 s0_3 = some (r1, r2, r3, r4)) :
  Calls Try.prog 50 #[.pointer (some ⟨g, 0, none⟩)] w fun e w' => e = .returned (.tuple #[]) ∧ IsS79 w0 w' g r1 r2 r3 r4 ∧ Below w0.heap.size w0 w' ∧ KeepBut w w' g none := by
 have HI0 := am hI
 have HK := am (KeepBut.refl w g none)
 have HL := am hB.size
 clear hI
 have HW0 := am hB.size
 have HB := am hB
 clear hB
 have H : (if s0_3 = 0 then (if s0_1 = (s0_0.size : Int) then (some (s0_0, s0_1, s0_2, s0_3)) else ((impl_reader_fault.f s0_0 s0_1 s0_2 s0_3 s0_1 3).bind fun bt402 => (some (bt402.1, bt402.2.1, bt402.2.2.1, bt402.2.2.2)))) else (some (s0_0, s0_1, s0_2, s0_3))) = some (r1, r2, r3, r4) := h
 clear h
 refine qE H ?_ ?_ <;> clear H
 ·intro c2b0 c2b1 H
  refine qE H ?_ ?_ <;> clear H
  ·intro c3b0 c3b1 H
   simp only [Option.some.injEq, Prod.mk.injEq] at H
   obtain ⟨rfl, rfl, rfl, rfl⟩ := H
   obtain ⟨HGz4, hgz4⟩ := HI0.out
   have hcz4_0 := cellS79_0 HGz4
   have hcz4_1 := cellS79_1 HGz4
   have hcz4_2 := cellS79_2 HGz4
   have hcz4_3 := cellS79_3 HGz4
   have hfz4_0 := blk_frozen HGz4 0
   have hfz4_1 := blk_frozen HGz4 1
   have hfz4_2 := blk_frozen HGz4 2
   have hfz4_3 := blk_frozen HGz4 3
   clear HGz4 hgz4
   go_enter Try.func50, Try.ntmps50
   go_wp2
   repeat (go_quiet (fail); try go_wp2)
   first | go_end0 | ((try simp only [Exit.inBlock, Exit.then]); refine bodyPost_ret (results_none rfl _ _ _) rfl ?_)
   exact ⟨er, by repeat (first | (with_reducible first | exact HI0.out | apply IsS79.alloc | apply IsS79.drewN | apply IsS79.drew | apply IsS79.set_0 | apply IsS79.set_1 | apply IsS79.set_2 | apply IsS79.set_3) | exact HI0.out), by repeat (first | (with_reducible first | exact HB.out | apply below_alloc | apply pw_below_drewN | apply below_drew1 | refine below_set ?_ (IsS79.ge HI0.out)) | exact HB.out), by repeat (first | (with_reducible first | exact HK.out | apply KeepBut.set_ | apply keep_drewN | apply keep_drew | apply keep_alloc) | exact HK.out)⟩
  intro c3 c3b0 c3b1 H
  replace H := Option.bind_eq_some_iff.mp H
  obtain ⟨⟨t402, t403, t404, t405⟩, A50, H⟩ := H
  replace H : (some (t402, t403, t404, t405)) = some (r1, r2, r3, r4) := H
  have A5 := am A50
  clear A50
  simp only [Option.some.injEq, Prod.mk.injEq] at H
  obtain ⟨rfl, rfl, rfl, rfl⟩ := H
  obtain ⟨HGz6, hgz6⟩ := HI0.out
  have hcz6_0 := cellS79_0 HGz6
  have hcz6_1 := cellS79_1 HGz6
  have hcz6_2 := cellS79_2 HGz6
  have hcz6_3 := cellS79_3 HGz6
  have hfz6_0 := blk_frozen HGz6 0
  have hfz6_1 := blk_frozen HGz6 1
  have hfz6_2 := blk_frozen HGz6 2
  have hfz6_3 := blk_frozen HGz6 3
  clear HGz6 hgz6
  go_enter Try.func50, Try.ntmps50
  go_wp2_with (first | (go_at_call 49; refine (impl_reader_fault.calls g s0_0 s0_1 s0_2 s0_3 s0_1 3 t402 t403 t404 t405 w0 _ (by repeat (first | (with_reducible first | exact HI0.out | apply IsS79.alloc | apply IsS79.drewN | apply IsS79.drew | apply IsS79.set_0 | apply IsS79.set_1 | apply IsS79.set_2 | apply IsS79.set_3) | exact HI0.out)) (by repeat (first | (with_reducible first | exact HB.out | apply below_alloc | apply pw_below_drewN | apply below_drew1 | refine below_set ?_ (IsS79.ge HI0.out)) | exact HB.out)) A5.out).mono ?_; rintro e w7 ⟨rfl, hi, hb, hk⟩; replace HK := am (KeepBut.trans (by repeat (first | (with_reducible first | exact HK.out | apply KeepBut.set_ | apply keep_drewN | apply keep_drew | apply keep_alloc) | exact HK.out)) hk (.inl rfl)); replace HB := am (hb); replace HI0 := am (hi); clear hb hk hi))
  repeat (go_quiet (first | (go_at_call 49; refine (impl_reader_fault.calls g s0_0 s0_1 s0_2 s0_3 s0_1 3 t402 t403 t404 t405 w0 _ (by repeat (first | (with_reducible first | exact HI0.out | apply IsS79.alloc | apply IsS79.drewN | apply IsS79.drew | apply IsS79.set_0 | apply IsS79.set_1 | apply IsS79.set_2 | apply IsS79.set_3) | exact HI0.out)) (by repeat (first | (with_reducible first | exact HB.out | apply below_alloc | apply pw_below_drewN | apply below_drew1 | refine below_set ?_ (IsS79.ge HI0.out)) | exact HB.out)) A5.out).mono ?_; rintro e w7 ⟨rfl, hi, hb, hk⟩; replace HK := am (KeepBut.trans (by repeat (first | (with_reducible first | exact HK.out | apply KeepBut.set_ | apply keep_drewN | apply keep_drew | apply keep_alloc) | exact HK.out)) hk (.inl rfl)); replace HB := am (hb); replace HI0 := am (hi); clear hb hk hi)); try go_wp2_with (first | (go_at_call 49; refine (impl_reader_fault.calls g s0_0 s0_1 s0_2 s0_3 s0_1 3 t402 t403 t404 t405 w0 _ (by repeat (first | (with_reducible first | exact HI0.out | apply IsS79.alloc | apply IsS79.drewN | apply IsS79.drew | apply IsS79.set_0 | apply IsS79.set_1 | apply IsS79.set_2 | apply IsS79.set_3) | exact HI0.out)) (by repeat (first | (with_reducible first | exact HB.out | apply below_alloc | apply pw_below_drewN | apply below_drew1 | refine below_set ?_ (IsS79.ge HI0.out)) | exact HB.out)) A5.out).mono ?_; rintro e w7 ⟨rfl, hi, hb, hk⟩; replace HK := am (KeepBut.trans (by repeat (first | (with_reducible first | exact HK.out | apply KeepBut.set_ | apply keep_drewN | apply keep_drew | apply keep_alloc) | exact HK.out)) hk (.inl rfl)); replace HB := am (hb); replace HI0 := am (hi); clear hb hk hi)))
  first | go_end0 | ((try simp only [Exit.inBlock, Exit.then]); refine bodyPost_ret (results_none rfl _ _ _) rfl ?_)
  exact ⟨er, by repeat (first | (with_reducible first | exact HI0.out | apply IsS79.alloc | apply IsS79.drewN | apply IsS79.drew | apply IsS79.set_0 | apply IsS79.set_1 | apply IsS79.set_2 | apply IsS79.set_3) | exact HI0.out), by repeat (first | (with_reducible first | exact HB.out | apply below_alloc | apply pw_below_drewN | apply below_drew1 | refine below_set ?_ (IsS79.ge HI0.out)) | exact HB.out), by repeat (first | (with_reducible first | exact HK.out | apply KeepBut.set_ | apply keep_drewN | apply keep_drew | apply keep_alloc) | exact HK.out)⟩
 intro c2 c2b0 c2b1 H
 simp only [Option.some.injEq, Prod.mk.injEq] at H
 obtain ⟨rfl, rfl, rfl, rfl⟩ := H
 obtain ⟨HGz8, hgz8⟩ := HI0.out
 have hcz8_0 := cellS79_0 HGz8
 have hcz8_1 := cellS79_1 HGz8
 have hcz8_2 := cellS79_2 HGz8
 have hcz8_3 := cellS79_3 HGz8
 have hfz8_0 := blk_frozen HGz8 0
 have hfz8_1 := blk_frozen HGz8 1
 have hfz8_2 := blk_frozen HGz8 2
 have hfz8_3 := blk_frozen HGz8 3
 clear HGz8 hgz8
 go_enter Try.func50, Try.ntmps50
 go_wp2
 repeat (go_quiet (fail); try go_wp2)
 first | go_end0 | ((try simp only [Exit.inBlock, Exit.then]); refine bodyPost_ret (results_none rfl _ _ _) rfl ?_)
 exact ⟨er, by repeat (first | (with_reducible first | exact HI0.out | apply IsS79.alloc | apply IsS79.drewN | apply IsS79.drew | apply IsS79.set_0 | apply IsS79.set_1 | apply IsS79.set_2 | apply IsS79.set_3) | exact HI0.out), by repeat (first | (with_reducible first | exact HB.out | apply below_alloc | apply pw_below_drewN | apply below_drew1 | refine below_set ?_ (IsS79.ge HI0.out)) | exact HB.out), by repeat (first | (with_reducible first | exact HK.out | apply KeepBut.set_ | apply keep_drewN | apply keep_drew | apply keep_alloc) | exact HK.out)⟩

-- NOT PRINTED: function 18 (impl_FileRead)

-- NOT PRINTED: function 4 (laws_FnFileCut)

end Go.Proofs.Ytopaefhfjioecaa.QFnFileCut
