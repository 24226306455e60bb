import Derived.Test.YtcdohkilplgmjaaCFnExactPlainx0
import Derived.Test.YtcdohkilplgmjaaCFnExactPlainx9
namespace Go.Proofs.Ytcdohkilplgmjaa.QFnExactPlain
open Go.RowKit Go.Proofs.YtcdohkilplgmjaaW
open PrintWords PrintLast PrintMore PrintShort PrintIsh
attribute [local go_sem] max2_int min2_int max_two min_two max_three min_three max_four min_four   -- for this text's walks alone
set_option linter.unusedVariables false
set_option maxHeartbeats 8000000
set_option maxRecDepth 100000
set_option linter.unusedSimpArgs false

mutual
def impl_heightsOf.l0 : Nat → List (S59) → List Int → List Bool → Int → Int → List (S53) → Option (List Int × Int × Int)
 | 0, _, _, _, _, _, _ => none
 | k + 1, x7, x8, x9, x30, x31, x341000 => if x31 < x30 then (if 0 ≤ x31 then (if x31 < (x8.length : Int) then (impl_heightsOf.l0 k x7 (x8.set (x31 : Int).toNat (-1)) x9 x30 (wrap64 (x31 + 1)) x341000) else (none)) else (none)) else (if 0 < (x8.length : Int) then (if 0 < (x9.length : Int) then (impl_heightsOf.l1 k x7 (x8.set (0 : Int).toNat 0) (x9.set (0 : Int).toNat true) 0 x341000) else (none)) else (none))
def impl_heightsOf.l1 : Nat → List (S59) → List Int → List Bool → Int → List (S53) → Option (List Int × Int × Int)
 | 0, _, _, _, _, _ => none
 | k + 1, x7, x8, x9, x11, x341000 => if x11 < (x7.length : Int) then (if 0 ≤ x11 then (if x11 < (x9.length : Int) then (if rdOf false x9 x11 = true then ((some (x9.set (x11 : Int).toNat false : List Bool)).bind fun y352 => (if x11 < (x8.length : Int) then ((impl_Takes.f k x341000 ((rd_T59 x7 x11).f0) ((rd_T59 x7 x11).f1)).bind fun t356 => (if (wrap64 ((rd x8 x11) - t356)) < 0 then (impl_heightsOf.j2 k x7 x8 y352 x11 (wrap64 ((rd x8 x11) - t356)) true x341000 ((rd_T59 x7 x11).f0) ((rd_T59 x7 x11).f1)) else ((impl_Puts.f k ((rd_T59 x7 x11).f0) ((rd_T59 x7 x11).f1)).bind fun t357 => (impl_heightsOf.j2 k x7 x8 y352 x11 (wrap64 ((rd x8 x11) - t356)) (decide ((wrap64 ((wrap64 ((rd x8 x11) - t356)) + t357)) > 8)) x341000 ((rd_T59 x7 x11).f0) ((rd_T59 x7 x11).f1))))) else (none))) else (impl_heightsOf.l1 k x7 x8 x9 (wrap64 (x11 + 1)) x341000)) else (none)) else (none)) else (some (x8, 0, 0))
def impl_heightsOf.j2 : Nat → List (S59) → List Int → List Bool → Int → Int → Bool → List (S53) → Int → Int → Option (List Int × Int × Int)
 | 0, _, _, _, _, _, _, _, _, _ => none
 | k + 1, x7, x8, x9, x11, x13, x76, x341000, x355000, x355001 => if x76 = true then (some (x8, x11, 5)) else ((impl_next.f x355000 x355001 x11).bind fun t358 => (impl_heightsOf.l2 k x7 x8 x9 x11 x13 x11 t358 (t358.length : Int) 0 x341000 x355000 x355001))
def impl_heightsOf.l2 : Nat → List (S59) → List Int → List Bool → Int → Int → Int → List Int → Int → Int → List (S53) → Int → Int → Option (List Int × Int × Int)
 | 0, _, _, _, _, _, _, _, _, _, _, _, _ => none
 | k + 1, x7, x8, x9, x11, x13, x14, x82, x83, x84, x341000, x355000, x355001 => if x84 < x83 then (if 0 ≤ x84 then (if x84 < (x82.length : Int) then (if (rd x82 x84) = (x7.length : Int) then (some (x8, x11, 6)) else (if 0 ≤ (rd x82 x84) then (if (rd x82 x84) < (x8.length : Int) then (if (rd x8 (rd x82 x84)) ≥ 0 then ((impl_Puts.f k x355000 x355001).bind fun t364 => (impl_heightsOf.j4 k x7 x8 x9 x11 x13 x14 (rd x82 x84) x82 x83 x84 ((rd x8 (rd x82 x84)) != (wrap64 (x13 + t364))) x341000 x355000 x355001)) else (impl_heightsOf.j4 k x7 x8 x9 x11 x13 x14 (rd x82 x84) x82 x83 x84 false x341000 x355000 x355001)) else (none)) else (none))) else (none)) else (none)) else (impl_heightsOf.l1 k x7 x8 x9 x14 x341000)
def impl_heightsOf.j4 : Nat → List (S59) → List Int → List Bool → Int → Int → Int → Int → List Int → Int → Int → Bool → List (S53) → Int → Int → Option (List Int × Int × Int)
 | 0, _, _, _, _, _, _, _, _, _, _, _, _, _, _ => none
 | k + 1, x7, x8, x9, x11, x13, x14, x16, x82, x83, x84, x109, x341000, x355000, x355001 => if x109 = true then (some (x8, x11, 5)) else (if 0 ≤ x16 then (if x16 < (x8.length : Int) then (if (rd x8 x16) < 0 then ((impl_Puts.f k x355000 x355001).bind fun t366 => (if x16 < (x9.length : Int) then (impl_heightsOf.l2 k x7 (x8.set (x16 : Int).toNat (wrap64 (x13 + t366))) (x9.set (x16 : Int).toNat true) x11 x13 (mn x14 x16) x82 x83 (wrap64 (x84 + 1)) x341000 x355000 x355001) else (none))) else (impl_heightsOf.l2 k x7 x8 x9 x11 x13 x14 x82 x83 (wrap64 (x84 + 1)) x341000 x355000 x355001)) else (none)) else (none))
end
def impl_heightsOf.f (k : Nat) (l0_0 : List (S53)) (a1 : Int) : Option (List Int × Int × Int) := if 0 ≤ a1 then (if a1 < (l0_0.length : Int) then (if 0 ≤ (((rd_T53 l0_0 a1).f2).length : Int) then (if ((((rd_T53 l0_0 a1).f2).length : Int) : Int).toNat ≤ 35184372088832 then ((some (List.replicate ((((rd_T53 l0_0 a1).f2).length : Int) : Int).toNat 0 : List Int)).bind fun y342 => (if ((((rd_T53 l0_0 a1).f2).length : Int) : Int).toNat ≤ 281474976710656 then (impl_heightsOf.l0 k ((rd_T53 l0_0 a1).f2) y342 (List.replicate ((((rd_T53 l0_0 a1).f2).length : Int) : Int).toNat false) (y342.length : Int) 0 l0_0) else (none))) else (none)) else (none)) else (none)) else (none)
theorem impl_heightsOf.mono_l : ∀ k, (∀ y0 y1 y2 y3 y4 y5, LeO (impl_heightsOf.l0 k y0 y1 y2 y3 y4 y5) (impl_heightsOf.l0 (k + 1) y0 y1 y2 y3 y4 y5)) ∧ (∀ y0 y1 y2 y3 y4, LeO (impl_heightsOf.l1 k y0 y1 y2 y3 y4) (impl_heightsOf.l1 (k + 1) y0 y1 y2 y3 y4)) ∧ (∀ y0 y1 y2 y3 y4 y5 y6 y7 y8, LeO (impl_heightsOf.j2 k y0 y1 y2 y3 y4 y5 y6 y7 y8) (impl_heightsOf.j2 (k + 1) y0 y1 y2 y3 y4 y5 y6 y7 y8)) ∧ (∀ y0 y1 y2 y3 y4 y5 y6 y7 y8 y9 y10 y11, LeO (impl_heightsOf.l2 k y0 y1 y2 y3 y4 y5 y6 y7 y8 y9 y10 y11) (impl_heightsOf.l2 (k + 1) y0 y1 y2 y3 y4 y5 y6 y7 y8 y9 y10 y11)) ∧ (∀ y0 y1 y2 y3 y4 y5 y6 y7 y8 y9 y10 y11 y12 y13, LeO (impl_heightsOf.j4 k y0 y1 y2 y3 y4 y5 y6 y7 y8 y9 y10 y11 y12 y13) (impl_heightsOf.j4 (k + 1) y0 y1 y2 y3 y4 y5 y6 y7 y8 y9 y10 y11 y12 y13))
 | 0 => ⟨fun _ _ _ _ _ _ r h => by simp [impl_heightsOf.l0] at h, fun _ _ _ _ _ r h => by simp [impl_heightsOf.l1] at h, fun _ _ _ _ _ _ _ _ _ r h => by simp [impl_heightsOf.j2] at h, fun _ _ _ _ _ _ _ _ _ _ _ _ r h => by simp [impl_heightsOf.l2] at h, fun _ _ _ _ _ _ _ _ _ _ _ _ _ _ r h => by simp [impl_heightsOf.j4] at h⟩
 | k + 1 => by
  obtain ⟨ih0, ih1, ih2, ih3, ih4⟩ := impl_heightsOf.mono_l k
  refine ⟨?_, ?_, ?_, ?_, ?_⟩
  ·intro y0 y1 y2 y3 y4 y5
   unfold impl_heightsOf.l0
   with_reducible repeat' first | exact ih0 .. | exact ih1 .. | exact ih2 .. | exact ih3 .. | exact ih4 .. | exact impl_Puts.mono .. | exact impl_Takes.mono .. | exact LeO.refl _ | exact LeO.none _ | refine LeO.ite ?_ ?_ | refine LeO.bind ?_ (fun _ => ?_)
  ·intro y0 y1 y2 y3 y4
   unfold impl_heightsOf.l1
   with_reducible repeat' first | exact ih0 .. | exact ih1 .. | exact ih2 .. | exact ih3 .. | exact ih4 .. | exact impl_Puts.mono .. | exact impl_Takes.mono .. | exact LeO.refl _ | exact LeO.none _ | refine LeO.ite ?_ ?_ | refine LeO.bind ?_ (fun _ => ?_)
  ·intro y0 y1 y2 y3 y4 y5 y6 y7 y8
   unfold impl_heightsOf.j2
   with_reducible repeat' first | exact ih0 .. | exact ih1 .. | exact ih2 .. | exact ih3 .. | exact ih4 .. | exact impl_Puts.mono .. | exact impl_Takes.mono .. | exact LeO.refl _ | exact LeO.none _ | refine LeO.ite ?_ ?_ | refine LeO.bind ?_ (fun _ => ?_)
  ·intro y0 y1 y2 y3 y4 y5 y6 y7 y8 y9 y10 y11
   unfold impl_heightsOf.l2
   with_reducible repeat' first | exact ih0 .. | exact ih1 .. | exact ih2 .. | exact ih3 .. | exact ih4 .. | exact impl_Puts.mono .. | exact impl_Takes.mono .. | exact LeO.refl _ | exact LeO.none _ | refine LeO.ite ?_ ?_ | refine LeO.bind ?_ (fun _ => ?_)
  ·intro y0 y1 y2 y3 y4 y5 y6 y7 y8 y9 y10 y11 y12 y13
   unfold impl_heightsOf.j4
   with_reducible repeat' first | exact ih0 .. | exact ih1 .. | exact ih2 .. | exact ih3 .. | exact ih4 .. | exact impl_Puts.mono .. | exact impl_Takes.mono .. | exact LeO.refl _ | exact LeO.none _ | refine LeO.ite ?_ ?_ | refine LeO.bind ?_ (fun _ => ?_)
theorem impl_heightsOf.mono : ∀ a0 a1 k, LeO (impl_heightsOf.f k a0 a1) (impl_heightsOf.f (k + 1) a0 a1) := by
 intro a0 a1 k
 obtain ⟨ih0, ih1, ih2, ih3, ih4⟩ := impl_heightsOf.mono_l k
 unfold impl_heightsOf.f
 with_reducible repeat' first | exact ih0 .. | exact ih1 .. | exact ih2 .. | exact ih3 .. | exact ih4 .. | exact impl_Puts.mono .. | exact impl_Takes.mono .. | exact LeO.refl _ | exact LeO.none _ | refine LeO.ite ?_ ?_ | refine LeO.bind ?_ (fun _ => ?_)
def impl_heightsOf.T17 : Bool × List (List Nat × List Nat) := (true, [([], []), ([], []), ([0, 1], [0, 1]), ([2], [2]), ([], []), ([], []), ([4, 5], [4, 5]), ([3, 6], [3, 6]), ([7, 6, 0, 1, 2, 3, 4, 5, 6, 7], [7])])
def impl_heightsOf.B17 : List Nat := [0, 0, 3, 7, 0, 0, 48, 127, 255]
theorem impl_heightsOf.tab17 : rtab .any (opsOf Try.f72 17) = impl_heightsOf.T17 := by kernel_rfl
theorem impl_heightsOf.bits17 : waitsOk impl_heightsOf.T17.2 impl_heightsOf.B17 = true := by kernel_rfl
def impl_heightsOf.T26 : Bool × List (List Nat × List Nat) := (true, [([], []), ([], []), ([0, 1], [0, 1]), ([2], [2]), ([3], [3]), ([4], [4]), ([5], [5]), ([5], [5]), ([6, 7, 5], [5, 6, 7]), ([8, 5], [5, 8]), ([5], [5]), ([5], [5]), ([11, 5, 5], [5, 11]), ([10, 12, 5], [5, 10, 12]), ([9, 13, 5], [5, 9, 13]), ([5, 14], [5, 14])])
def impl_heightsOf.B26 : List Nat := [0, 0, 3, 7, 15, 31, 63, 63, 255, 511, 63, 63, 2111, 7231, 16383, 32767]
theorem impl_heightsOf.tab26 : rtab .any (opsOf Try.f72 26) = impl_heightsOf.T26 := by kernel_rfl
theorem impl_heightsOf.bits26 : waitsOk impl_heightsOf.T26.2 impl_heightsOf.B26 = true := by kernel_rfl
theorem impl_heightsOf.calls (k : Nat) (A0_0 : Option Addr) (c0_0 : Nat) (l0_0 : List (S53)) (a1 : Int) (r1 : List Int) (r2 : Int) (r3 : Int) (w : World) (hr0_0 : Kd.C k53 w A0_0 l0_0.length l0_0) (hc0_0 : l0_0.length ≤ c0_0) (h : impl_heightsOf.f k l0_0 a1 = some (r1, r2, r3)) :
  Calls Try.prog 72 #[.agg #[.slice A0_0 l0_0.length c0_0], .int .i64 a1] w fun e w' => ∃ v0_ : Value, e = .returned (.tuple #[v0_, .int .i64 r2, .int .i64 r3]) ∧ Kd.R (Kd.int .i64) 2 w' w.heap.size (fun _ => True) v0_ r1 ∧ Below w.heap.size w w' := by
 have hu33 := Try.underlying33
 have hu59 := Try.underlying59
 have HR0_0 := am hr0_0
 have HC0_0 := am hc0_0
 clear hr0_0 hc0_0
 have HB := am (Below.refl w.heap.size w)
 have H : (if 0 ≤ a1 then (if a1 < (l0_0.length : Int) then (if 0 ≤ (((rd_T53 l0_0 a1).f2).length : Int) then (if ((((rd_T53 l0_0 a1).f2).length : Int) : Int).toNat ≤ 35184372088832 then ((some (List.replicate ((((rd_T53 l0_0 a1).f2).length : Int) : Int).toNat 0 : List Int)).bind fun y342 => (if ((((rd_T53 l0_0 a1).f2).length : Int) : Int).toNat ≤ 281474976710656 then (impl_heightsOf.l0 k ((rd_T53 l0_0 a1).f2) y342 (List.replicate ((((rd_T53 l0_0 a1).f2).length : Int) : Int).toNat false) (y342.length : Int) 0 l0_0) else (none))) else (none)) else (none)) else (none)) else (none)) = some (r1, r2, r3) := h
 clear h
 refine iN H ?_; clear H; intro c3 H
 have c3b0 := decide_eq_true c3
 clear c3
 refine iN H ?_; clear H; intro c4 H
 have c4b0 := decide_eq_true c4
 clear c4
 refine iN H ?_; clear H; intro c5 H
 have c5b0 := eq_true c5
 have c5b1 := decide_eq_true c5
 clear c5
 refine iN H ?_; clear H; intro c6 H
 have c6b0 := eq_true c6
 have c6b1 := decide_eq_true c6
 clear c6
 obtain ⟨y342, hy342⟩ : ∃ y_ : List Int, y_ = (List.replicate ((((rd_T53 l0_0 a1).f2).length : Int) : Int).toNat 0) := ⟨_, rfl⟩
 replace H : (if ((((rd_T53 l0_0 a1).f2).length : Int) : Int).toNat ≤ 281474976710656 then (impl_heightsOf.l0 k ((rd_T53 l0_0 a1).f2) y342 (List.replicate ((((rd_T53 l0_0 a1).f2).length : Int) : Int).toNat false) (y342.length : Int) 0 l0_0) else (none)) = some (r1, r2, r3) := by first | (rw [hy342]; with_reducible exact H) | (have H2_ := (Option.bind_some _ _).symm.trans H; rw [hy342]; with_reducible exact H2_) | (have H2_ := (Option.bind_some _ _).symm.trans H; with_reducible exact H2_) | with_reducible exact H | (rw [hy342]; exact H) | exact H
 have Ny342 := am hy342
 clear hy342
 refine iN H ?_; clear H; intro c7 H
 have c7b0 := eq_true c7
 have c7b1 := decide_eq_true c7
 clear c7
 obtain ⟨y345, hy345⟩ : ∃ y_ : List Bool, y_ = (List.replicate ((((rd_T53 l0_0 a1).f2).length : Int) : Int).toNat false) := ⟨_, rfl⟩
 replace H : (impl_heightsOf.l0 k ((rd_T53 l0_0 a1).f2) y342 y345 (y342.length : Int) 0 l0_0) = some (r1, r2, r3) := by first | (rw [hy345]; with_reducible exact H) | (have H2_ := (Option.bind_some _ _).symm.trans H; rw [hy345]; with_reducible exact H2_) | (have H2_ := (Option.bind_some _ _).symm.trans H; with_reducible exact H2_) | with_reducible exact H | (rw [hy345]; exact H) | exact H
 have Ny345 := am hy345
 clear hy345
 have H' := am H
 clear H
 go_enter Try.func72, Try.ntmps72
 go_wp2_with (first | ((with_reducible refine gd 2 rfl ?_); refine bX 2 #[.slice A0_0 l0_0.length c0_0] 33 HB ?_; clear HB; intro gb340 w8 hg hb BK340 GW340 HB; clear hb hg; have hcz9 := bK w8 BK340; have hfz9 := bF BK340; have p341 : 0 ≤ (a1 : Int) := of_decide_eq_true as1; have q341 : a1 < (l0_0.length : Int) := of_decide_eq_true as1; obtain ⟨ad341, A341_2, c341_2, e341, hx341_0, hx341_1, hx341_2, hl341_2, hi341_2⟩ := at_T53 HR0_0.out a1 p341 q341; cases e341; replace hx341_0 := cl HB hx341_0; replace hx341_1 := cl HB hx341_1; replace hx341_2 := cl HB hx341_2; have HR341_2 := am hi341_2; have HC341_2 := am hl341_2; clear hi341_2 hl341_2; replace p341 := eq_true p341; replace q341 := eq_true q341) | ((with_reducible refine gate_dst (N := 25) rfl ?_); refine Kd.R_make (Kd.int .i64) _ 2 rfl (N := 25) rfl 42 _ _ rfl (((rd_T53 l0_0 a1).f2).length : Int) rfl rfl Try.underlying42 (.int .i64 0) 8 info2 rfl (by decide) (by omega) 0 (ok := fun _ => True) (okp := fun _ => True) rfl (fun _ hk => hk) trivial (of_decide_eq_true as1) (Nat.le_trans (Nat.mul_le_mul_right _ (of_decide_eq_true as1 : (((rd_T53 l0_0 a1).f2).length : Int).toNat ≤ 35184372088832)) (by omega)) (Below.refl _ _) (Nat.le_refl _) ?_; intro v343 w10 ho11 hb hg_ hnew_; clear hg_ hnew_; (first | rw [← Ny342.out] at ho11 | (simp only [Int.reduceToNat] at ho11; rw [← Ny342.out] at ho11)); have HO344 := am (Kd.R_lower ho11 (below_size (bw HB))); replace BK340 := bb BK340 hb; replace HB := bs HB hb; clear hb ho11) | ((with_reducible refine gate_dst (N := 28) rfl ?_); refine Kd.R_make Kd.bool _ 4 rfl (N := 28) rfl 76 _ _ rfl (((rd_T53 l0_0 a1).f2).length : Int) rfl rfl Try.underlying76 (.bool false) 1 info4 rfl (by decide) (by omega) false (ok := fun _ => True) (okp := fun _ => True) rfl (fun _ hk => hk) trivial (of_decide_eq_true as1) (Nat.le_trans (Nat.mul_le_mul_right _ (of_decide_eq_true as1 : (((rd_T53 l0_0 a1).f2).length : Int).toNat ≤ 281474976710656)) (by omega)) (Below.refl _ _) (Nat.le_refl _) ?_; intro v346 w12 ho13 hb hg_ hnew_; clear hg_ hnew_; (first | rw [← Ny345.out] at ho13 | (simp only [Int.reduceToNat] at ho13; rw [← Ny345.out] at ho13)); replace HO344 := am (Kd.R_below (kR HO344) hb); have HO347 := am (Kd.R_lower ho13 (below_size (bw HB))); replace BK340 := bb BK340 hb; replace HB := bs HB hb; clear hb ho13; obtain ⟨Ao14, co14, eo14⟩ := Kd.R_slice HO344.out; subst eo14))
 go_loopg [31] k (fun kq v31 w' => ∃ (x8_1 : List Int) (x31_1 : Int), v31 = .int .i64 x31_1 ∧ Aside0 (impl_heightsOf.l0 kq ((rd_T53 l0_0 a1).f2) x8_1 y345 (y342.length : Int) x31_1 l0_0 = some (r1, r2, r3)) ∧ Aside0 (kq ≤ k) ∧ Aside0 (Kd.R (Kd.int .i64) 2 w' w.heap.size (fun _ => True) (.slice Ao14 y342.length co14) x8_1) ∧ Aside0 (Kd.R Kd.bool 4 w' w.heap.size (fun _ => True) v346 y345) ∧ Aside0 (w'.heap[gb340]? = some (.cells #[(.slice (some ad341) l0_0.length c0_0)] 33 (0, 0))) ∧ Aside0 (Below w.heap.size w w'))
 case atStart => exact ⟨(y342), (0), dr, H', ⟨Nat.le_refl _⟩, ⟨kR HO344⟩, ⟨kR HO347⟩, ⟨bp BK340⟩, ⟨bw HB⟩⟩
 clear H'
 (try clear p2); (try clear c3); (try clear c3b0); (try clear p3); (try clear q3); (try clear hx3); (try clear c4); (try clear c4b0); (try clear c5); (try clear c5b0); (try clear c5b1); (try clear c6); (try clear c6b0); (try clear c6b1); (try clear c7); (try clear c7b0); (try clear c7b1); (try clear hcz9); (try clear hfz9); (try clear hx341_0); (try clear hx341_1); (try clear hx341_2); (try clear p341); (try clear q341)
 obtain ⟨x8_1, x31_1, rfl, HA, HK1, HO_8, HO_9, BK340, HB⟩ := hrel
 have hl8_1 := (Kd.R_reads' HO_8.out).1
 rw [hl8_1] at HO_8
 (try simp only [hl8_1])
 (try simp only [hl8_1] at BK340)
 (try simp only [hl8_1] at HO_9)
 rcases gk with _ | k1
 ·exact absurd HA.out (by simp [impl_heightsOf.l0])
 have H := HA.out
 clear HA
 simp only [impl_heightsOf.l0] at H
 by_cases c15 : x31_1 < (y342.length : Int)
 ·rw [if_pos c15] at H
  have c15b0 := decide_eq_true c15
  (try (have c15b0hl8_1 := c15b0; rw [hl8_1] at c15b0hl8_1))
  clear c15
  refine iM H ?_; clear H; intro c16b0 H
  refine iM H ?_; clear H; intro c17b0 H
  obtain ⟨y348, hy348⟩ : ∃ y_ : List Int, y_ = (x8_1.set (x31_1 : Int).toNat (-1)) := ⟨_, rfl⟩
  replace H : (impl_heightsOf.l0 k1 ((rd_T53 l0_0 a1).f2) y348 y345 (y342.length : Int) (wrap64 (x31_1 + 1)) l0_0) = some (r1, r2, r3) := by first | (rw [hy348]; with_reducible exact H) | (have H2_ := (Option.bind_some _ _).symm.trans H; rw [hy348]; with_reducible exact H2_) | (have H2_ := (Option.bind_some _ _).symm.trans H; with_reducible exact H2_) | with_reducible exact H | (rw [hy348]; exact H) | exact H
  have Ny348 := am hy348
  clear hy348
  have H' := am H
  clear H
  have p18 : 0 ≤ (x31_1 : Int) := of_decide_eq_true as1
  have q18 : (x31_1 : Int) < ((x8_1.length : Int) : Int) := of_decide_eq_true as1
  obtain ⟨go18, co18, eo18, gb18, gl18, cl18, HG18⟩ := Kd.R_form HO_8.out (by omega)
  (first | cases eo18 | (injection eo18 with ea_ en_ ec_; (first | subst ea_ | (injection ea_ with ea_; subst ea_)); subst ec_; clear en_))
  have GB18 := am gb18
  have GG18 := am HG18
  clear gb18 gl18 HG18
  obtain ⟨hx18_0, hf18_0⟩ := Kd.R_celln 0 HO_8.out (x31_1 : Int) p18 q18
  replace p18 := eq_true p18
  replace q18 := eq_true q18
  have HP19 := Kd.R_putg HO_8.out (x31_1 : Int) (-1)
  go_wp2_with (first | ((with_reducible refine gt 2 36 rfl ?_); refine sE 2 36 (wr.setCell ⟨go18, (x31_1 : Int).toNat, none⟩ (.int .i64 (-1))) ?_; intro w20 hw; have hg : wr.grownBy w20 (some go18) := (by rw [hw]; exact HP19.2); have hp_ : Kd.R (Kd.int .i64) 2 w20 w.heap.size (fun _ => True) (.slice (some ⟨go18, 0, none⟩) x8_1.length co14) y348 := (by rw [hw, Ny348.out]; exact HP19.1); clear HP19; replace HO_9 := am (Kd.R_over' (v := (.slice (some ⟨go18, 0, none⟩) x8_1.length co14)) (kR HO_9) (Kd.R_typed HO_8.out) (by decide) hg); replace BK340 := bg BK340 hg (Kd.R_ne HO_8.out BK340.out (by decide)); replace HO_8 := am (hp_); replace HB := am ((by rw [hw]; exact below_set (HB.out) GB18.out : Below w.heap.size w w20)); clear hg hw hp_))
  (try simp only [← hl8_1])
  go_roundg k1
  case measure => have := HK1.out; omega
  case rel => exact ⟨(y348), (wrap64 (x31_1 + 1)), dr, H', ⟨by have := HK1.out; omega⟩, ⟨by (try simp only [hl8_1]); exact kR HO_8⟩, ⟨by (try simp only [hl8_1]); exact kR HO_9⟩, ⟨by (try simp only [hl8_1]); exact bp BK340⟩, ⟨bw HB⟩⟩
 rw [if_neg c15] at H
 have c15b0 := decide_eq_false c15
 (try (have c15b0hl8_1 := c15b0; rw [hl8_1] at c15b0hl8_1))
 clear c15
 refine iN H ?_; clear H; intro c21 H
 have c21b0 := decide_eq_true c21
 have c21b1 : decide (0 < x8_1.length) = true := decide_eq_true (by omega)
 clear c21
 obtain ⟨y349, hy349⟩ : ∃ y_ : List Int, y_ = (x8_1.set (0 : Int).toNat 0) := ⟨_, rfl⟩
 replace H : (if 0 < (y345.length : Int) then (impl_heightsOf.l1 k1 ((rd_T53 l0_0 a1).f2) y349 (y345.set (0 : Int).toNat true) 0 l0_0) else (none)) = some (r1, r2, r3) := by first | (rw [hy349]; with_reducible exact H) | (have H2_ := (Option.bind_some _ _).symm.trans H; rw [hy349]; with_reducible exact H2_) | (have H2_ := (Option.bind_some _ _).symm.trans H; with_reducible exact H2_) | with_reducible exact H | (rw [hy349]; exact H) | exact H
 have Ny349 := am hy349
 clear hy349
 refine iN H ?_; clear H; intro c23 H
 have c23b0 := decide_eq_true c23
 have c23b1 : decide (0 < y345.length) = true := decide_eq_true (by omega)
 clear c23
 obtain ⟨y350, hy350⟩ : ∃ y_ : List Bool, y_ = (y345.set (0 : Int).toNat true) := ⟨_, rfl⟩
 replace H : (impl_heightsOf.l1 k1 ((rd_T53 l0_0 a1).f2) y349 y350 0 l0_0) = some (r1, r2, r3) := by first | (rw [hy350]; with_reducible exact H) | (have H2_ := (Option.bind_some _ _).symm.trans H; rw [hy350]; with_reducible exact H2_) | (have H2_ := (Option.bind_some _ _).symm.trans H; with_reducible exact H2_) | with_reducible exact H | (rw [hy350]; exact H) | exact H
 have Ny350 := am hy350
 clear hy350
 have H' := am H
 clear H
 have p22 : 0 ≤ (0 : Int) := (by omega)
 have q22 : (0 : Int) < ((x8_1.length : Int) : Int) := of_decide_eq_true as1
 have qi22 : (0 < x8_1.length) = True := eq_true (by omega)
 obtain ⟨go22, co22, eo22, gb22, gl22, cl22, HG22⟩ := Kd.R_form HO_8.out (by omega)
 (first | cases eo22 | (injection eo22 with ea_ en_ ec_; (first | subst ea_ | (injection ea_ with ea_; subst ea_)); subst ec_; clear en_))
 have GB22 := am gb22
 have GG22 := am HG22
 clear gb22 gl22 HG22
 obtain ⟨hx22_0, hf22_0⟩ := Kd.R_celln 0 HO_8.out (0 : Int) p22 q22
 (try rw [show ((0 : Int)).toNat = 0 from rfl] at hx22_0)
 (try simp only [Nat.reduceMul, Nat.zero_mul, Nat.zero_add, Nat.reduceAdd] at hx22_0)
 (try rw [show ((0 : Int)).toNat = 0 from rfl] at hf22_0)
 (try simp only [Nat.reduceMul, Nat.zero_mul, Nat.zero_add, Nat.reduceAdd] at hf22_0)
 replace p22 := eq_true p22
 replace q22 := eq_true q22
 have HP25 := Kd.R_putg HO_8.out (0 : Int) 0
 go_wp2_with (first | ((with_reducible refine gt 2 39 rfl ?_); refine sE 2 39 (wr.setCell ⟨go22, (0 : Int).toNat, none⟩ (.int .i64 0)) ?_; intro w26 hw; have hg : wr.grownBy w26 (some go22) := (by rw [hw]; exact HP25.2); have hp_ : Kd.R (Kd.int .i64) 2 w26 w.heap.size (fun _ => True) (.slice (some ⟨go22, 0, none⟩) x8_1.length co14) y349 := (by rw [hw, Ny349.out]; exact HP25.1); clear HP25; replace HO_9 := am (Kd.R_over' (v := (.slice (some ⟨go22, 0, none⟩) x8_1.length co14)) (kR HO_9) (Kd.R_typed HO_8.out) (by decide) hg); replace BK340 := bg BK340 hg (Kd.R_ne HO_8.out BK340.out (by decide)); replace HO_8 := am (hp_); replace HB := am ((by rw [hw]; exact below_set (HB.out) GB22.out : Below w.heap.size w w26)); clear hg hw hp_; have p24 : 0 ≤ (0 : Int) := (by omega); have q24 : (0 : Int) < ((y345.length : Int) : Int) := of_decide_eq_true as1; have qi24 : (0 < y345.length) = True := eq_true (by omega); obtain ⟨go24, co24, eo24, gb24, gl24, cl24, HG24⟩ := Kd.R_form HO_9.out (by omega); (first | cases eo24 | (injection eo24 with ea_ en_ ec_; (first | subst ea_ | (injection ea_ with ea_; subst ea_)); subst ec_; clear en_)); have GB24 := am gb24; have GG24 := am HG24; clear gb24 gl24 HG24; obtain ⟨hx24_0, hf24_0⟩ := Kd.R_celln false HO_9.out (0 : Int) p24 q24; (try rw [show ((0 : Int)).toNat = 0 from rfl] at hx24_0); (try simp only [Nat.reduceMul, Nat.zero_mul, Nat.zero_add, Nat.reduceAdd] at hx24_0); (try rw [show ((0 : Int)).toNat = 0 from rfl] at hf24_0); (try simp only [Nat.reduceMul, Nat.zero_mul, Nat.zero_add, Nat.reduceAdd] at hf24_0); replace p24 := eq_true p24; replace q24 := eq_true q24; obtain ⟨hy27_, hz27_⟩ := Kd.R_celln false HO_9.out (0 : Int) (by omega) (of_decide_eq_true as1); (try simp only [Int.reduceToNat, Int.toNat_zero, Int.toNat_ofNat, Nat.reduceMul, Nat.zero_mul, Nat.zero_add] at hy27_ hz27_); (try rw [show ((0 : Int)).toNat = 0 from rfl] at hy27_); (try rw [show ((0 : Int)).toNat = 0 from rfl] at hz27_); have HP27 := Kd.R_putg HO_9.out (0 : Int) true) | ((with_reducible refine gt 4 41 rfl ?_); refine sE 4 41 (w26.setCell ⟨go24, (0 : Int).toNat, none⟩ (.bool true)) ?_; intro w28 hw; have hg : w26.grownBy w28 (some go24) := (by rw [hw]; exact HP27.2); have hp_ : Kd.R Kd.bool 4 w28 w.heap.size (fun _ => True) (.slice (some ⟨go24, 0, none⟩) y345.length co24) y350 := (by rw [hw, Ny350.out]; exact HP27.1); clear HP27; replace HO_8 := am (Kd.R_over' (v := (.slice (some ⟨go24, 0, none⟩) y345.length co24)) (kR HO_8) (Kd.R_typed HO_9.out) (by decide) hg); replace BK340 := bg BK340 hg (Kd.R_ne HO_9.out BK340.out (by decide)); replace HO_9 := am (hp_); replace HB := am ((by rw [hw]; exact below_set (HB.out) GB24.out : Below w.heap.size w w28)); clear hg hw hp_))
 go_loopg [11] k1 (fun kq v11 w' => ∃ (x8_2 : List Int) (x9_2 : List Bool) (x11_2 : Int), v11 = .int .i64 x11_2 ∧ Aside0 (impl_heightsOf.l1 kq ((rd_T53 l0_0 a1).f2) x8_2 x9_2 x11_2 l0_0 = some (r1, r2, r3)) ∧ Aside0 (kq ≤ k1) ∧ Aside0 (Kd.R (Kd.int .i64) 2 w' w.heap.size (fun _ => True) (.slice (some ⟨go22, 0, none⟩) x8_1.length co14) x8_2) ∧ Aside0 (Kd.R Kd.bool 4 w' w.heap.size (fun _ => True) (.slice (some ⟨go24, 0, none⟩) y345.length co24) x9_2) ∧ Aside0 (w'.heap[gb340]? = some (.cells #[(.slice (some ad341) l0_0.length c0_0)] 33 (0, 0))) ∧ Aside0 (Below w.heap.size w w'))
 case atStart => exact ⟨(y349), (y350), (0), dr, H', ⟨Nat.le_refl _⟩, ⟨by (try simp only [hl8_1]); exact kR HO_8⟩, ⟨by (try simp only [hl8_1]); exact kR HO_9⟩, ⟨by (try simp only [hl8_1]); exact bp BK340⟩, ⟨bw HB⟩⟩
 clear H'
 (try clear c1); (try clear p1); (try clear q1); (try clear hx1); (try clear c2); (try clear q2); (try clear hx2); (try clear qi2); (try clear hf2); (try clear p6); (try clear c15); (try clear c15b0); (try clear c16); (try clear c16b0); (try clear c17); (try clear c17b0); (try clear p18); (try clear q18); (try clear hx18); (try clear hf18); (try clear c21); (try clear c21b0); (try clear c21b1); (try clear p22); (try clear q22); (try clear hx22); (try clear qi22); (try clear hf22); (try clear c23); (try clear c23b0); (try clear c23b1); (try clear p24); (try clear q24); (try clear hx24); (try clear qi24); (try clear hf24); (try clear hx18_0); (try clear hx22_0); (try clear hx24_0); (try clear p18); (try clear p22); (try clear p24); (try clear q18); (try clear q22); (try clear q24)
 obtain ⟨x8_2, x9_2, x11_2, rfl, HA, HK2, HO_8, HO_9, BK340, HB⟩ := hrel
 have hl8_2 := (Kd.R_reads' HO_8.out).1
 rw [hl8_2] at HO_8
 (try simp only [hl8_2])
 (try simp only [hl8_2] at BK340)
 (try simp only [hl8_2] at HO_9)
 have hl9_2 := (Kd.R_reads' HO_9.out).1
 rw [hl9_2] at HO_9
 (try simp only [hl9_2])
 (try simp only [hl9_2] at BK340)
 (try simp only [hl9_2] at HO_8)
 rcases gk with _ | k2
 ·exact absurd HA.out (by simp [impl_heightsOf.l1])
 have H := HA.out
 clear HA
 simp only [impl_heightsOf.l1] at H
 by_cases c29 : x11_2 < (((rd_T53 l0_0 a1).f2).length : Int)
 ·rw [if_pos c29] at H
  have c29b0 := decide_eq_true c29
  clear c29
  refine iN H ?_; clear H; intro c30 H
  have c30b0 := decide_eq_true c30
  clear c30
  refine iN H ?_; clear H; intro c31 H
  have c31b0 := decide_eq_true c31
  clear c31
  obtain ⟨bq32, hbq32⟩ : ∃ b_ : Bool, b_ = (rdOf false x9_2 x11_2) := ⟨_, rfl⟩
  replace H : (if bq32 = true then ((some (x9_2.set (x11_2 : Int).toNat false : List Bool)).bind fun y352 => (if x11_2 < (x8_2.length : Int) then ((impl_Takes.f k2 l0_0 ((rd_T59 ((rd_T53 l0_0 a1).f2) x11_2).f0) ((rd_T59 ((rd_T53 l0_0 a1).f2) x11_2).f1)).bind fun t356 => (if (wrap64 ((rd x8_2 x11_2) - t356)) < 0 then (impl_heightsOf.j2 k2 ((rd_T53 l0_0 a1).f2) x8_2 y352 x11_2 (wrap64 ((rd x8_2 x11_2) - t356)) true l0_0 ((rd_T59 ((rd_T53 l0_0 a1).f2) x11_2).f0) ((rd_T59 ((rd_T53 l0_0 a1).f2) x11_2).f1)) else ((impl_Puts.f k2 ((rd_T59 ((rd_T53 l0_0 a1).f2) x11_2).f0) ((rd_T59 ((rd_T53 l0_0 a1).f2) x11_2).f1)).bind fun t357 => (impl_heightsOf.j2 k2 ((rd_T53 l0_0 a1).f2) x8_2 y352 x11_2 (wrap64 ((rd x8_2 x11_2) - t356)) (decide ((wrap64 ((wrap64 ((rd x8_2 x11_2) - t356)) + t357)) > 8)) l0_0 ((rd_T59 ((rd_T53 l0_0 a1).f2) x11_2).f0) ((rd_T59 ((rd_T53 l0_0 a1).f2) x11_2).f1))))) else (none))) else (impl_heightsOf.l1 k2 ((rd_T53 l0_0 a1).f2) x8_2 x9_2 (wrap64 (x11_2 + 1)) l0_0)) = some (r1, r2, r3) := by rw [← hbq32] at H; exact H
  have Nbq32 := am hbq32
  clear hbq32
  refine qT H ?_ ?_ <;> clear H <;> intro c33 H <;> subst c33
  ·obtain ⟨y352, hy352⟩ : ∃ y_ : List Bool, y_ = (x9_2.set (x11_2 : Int).toNat false) := ⟨_, rfl⟩
   replace H : (if x11_2 < (x8_2.length : Int) then ((impl_Takes.f k2 l0_0 ((rd_T59 ((rd_T53 l0_0 a1).f2) x11_2).f0) ((rd_T59 ((rd_T53 l0_0 a1).f2) x11_2).f1)).bind fun t356 => (if (wrap64 ((rd x8_2 x11_2) - t356)) < 0 then (impl_heightsOf.j2 k2 ((rd_T53 l0_0 a1).f2) x8_2 y352 x11_2 (wrap64 ((rd x8_2 x11_2) - t356)) true l0_0 ((rd_T59 ((rd_T53 l0_0 a1).f2) x11_2).f0) ((rd_T59 ((rd_T53 l0_0 a1).f2) x11_2).f1)) else ((impl_Puts.f k2 ((rd_T59 ((rd_T53 l0_0 a1).f2) x11_2).f0) ((rd_T59 ((rd_T53 l0_0 a1).f2) x11_2).f1)).bind fun t357 => (impl_heightsOf.j2 k2 ((rd_T53 l0_0 a1).f2) x8_2 y352 x11_2 (wrap64 ((rd x8_2 x11_2) - t356)) (decide ((wrap64 ((wrap64 ((rd x8_2 x11_2) - t356)) + t357)) > 8)) l0_0 ((rd_T59 ((rd_T53 l0_0 a1).f2) x11_2).f0) ((rd_T59 ((rd_T53 l0_0 a1).f2) x11_2).f1))))) else (none)) = some (r1, r2, r3) := by first | (rw [hy352]; with_reducible exact H) | (have H2_ := (Option.bind_some _ _).symm.trans H; rw [hy352]; with_reducible exact H2_) | (have H2_ := (Option.bind_some _ _).symm.trans H; with_reducible exact H2_) | with_reducible exact H | (rw [hy352]; exact H) | exact H
   have Ny352 := am hy352
   clear hy352
   refine iN H ?_; clear H; intro c35 H
   have c35b0 := decide_eq_true c35
   (try (have c35b0hl8_2 := c35b0; rw [hl8_2] at c35b0hl8_2))
   clear c35
   refine be H ?_; clear H; intro t356 A36 H
   have HC37 := am H
   clear H
   have p351 : 0 ≤ (x11_2 : Int) := of_decide_eq_true as1
   have q351 : x11_2 < (x9_2.length : Int) := of_decide_eq_true as1
   obtain ⟨ad351, e351, hx351_0⟩ := Kd.at_bool (Kd.R_reads' HO_9.out).2.2 x11_2 p351 q351
   (try rw [← Nbq32.out] at hx351_0)
   obtain rfl : (⟨go24, 0, none⟩ : Addr) = ad351 := (by injection e351)
   (first | simp only [add_plain] at hx351_0 | simp only [add_at] at hx351_0 | simp only [Addr.add, Nat.zero_add] at hx351_0 | skip)
   replace p351 := eq_true p351
   replace q351 := eq_true q351
   have p34 : 0 ≤ (x11_2 : Int) := of_decide_eq_true as1
   have q34 : (x11_2 : Int) < ((x9_2.length : Int) : Int) := of_decide_eq_true as1
   obtain ⟨hx34_0, hf34_0⟩ := Kd.R_celln false HO_9.out (x11_2 : Int) p34 q34
   replace p34 := eq_true p34
   replace q34 := eq_true q34
   have HP38 := Kd.R_putg HO_9.out (x11_2 : Int) false
   try go_wp2_with (first | ((with_reducible refine gt 4 55 rfl ?_); refine sE 4 55 (wr.setCell ⟨go24, (x11_2 : Int).toNat, none⟩ (.bool false)) ?_; intro w39 hw; have hg : wr.grownBy w39 (some go24) := (by rw [hw]; exact HP38.2); have hp_ : Kd.R Kd.bool 4 w39 w.heap.size (fun _ => True) (.slice (some ⟨go24, 0, none⟩) x9_2.length co24) y352 := (by rw [hw, Ny352.out]; exact HP38.1); clear HP38; replace HO_8 := am (Kd.R_over' (v := (.slice (some ⟨go24, 0, none⟩) x9_2.length co24)) (kR HO_8) (Kd.R_typed HO_9.out) (by decide) hg); replace BK340 := bg BK340 hg (Kd.R_ne HO_9.out BK340.out (by decide)); replace HO_9 := am (hp_); replace HB := am ((by rw [hw]; exact below_set (HB.out) GB24.out : Below w.heap.size w w39)); clear hg hw hp_; have p353 : 0 ≤ (x11_2 : Int) := of_decide_eq_true as1; have q353 : x11_2 < (((rd_T53 l0_0 a1).f2).length : Int) := of_decide_eq_true as1; obtain ⟨ad353, e353, hx353_0, hx353_1⟩ := at_T59 HR341_2.out x11_2 p353 q353; cases e353; replace hx353_0 := cl HB hx353_0; replace hx353_1 := cl HB hx353_1; replace p353 := eq_true p353; replace q353 := eq_true q353) | ((with_reducible refine gd 12 rfl ?_); refine bX 12 #[.int .i64 0, .int .i64 0] 59 HB ?_; clear HB; intro gb354 w40 hg hb BK354 GW354 HB; replace HO_8 := am (Kd.R_below (kR HO_8) hb); replace HO_9 := am (Kd.R_below (kR HO_9) hb); obtain ⟨NB340_354, NB354_340, BK340⟩ := b3 hg BK340 hb; clear hb hg; have hnb41 := NB354_340.out; have hnc41 := NB340_354.out; have hcz42 := bK w40 BK354; have hfz42 := bF BK354))
   replace HO_8 : Aside0 (Kd.R (Kd.int .i64) 2 ((w40.setCell ⟨gb354, 0, none⟩ (.int .i64 ((rd_T59 ((rd_T53 l0_0 a1).f2) x11_2).f0))).setCell ⟨gb354, 1, none⟩ (.int .i64 ((rd_T59 ((rd_T53 l0_0 a1).f2) x11_2).f1))) w.heap.size (fun _ => True) (.slice (some ⟨go22, 0, none⟩) x8_2.length co14) x8_2) := ⟨by (with_reducible repeat (first | apply Kd.R_alloc | apply Kd.R_drewN | apply Kd.R_drew)); exact Kd.R_mono (Kd.R_far (p := ⟨gb354, 1, none⟩) (Kd.R_far (p := ⟨gb354, 0, none⟩) (Kd.R_types HO_8.out BK354.out (by decide)) (fun _ hk => hk.2) (.int .i64 ((rd_T59 ((rd_T53 l0_0 a1).f2) x11_2).f0))) (fun _ hk => hk.2) (.int .i64 ((rd_T59 ((rd_T53 l0_0 a1).f2) x11_2).f1))) (fun _ hk => trivial)⟩
   replace HO_9 : Aside0 (Kd.R Kd.bool 4 ((w40.setCell ⟨gb354, 0, none⟩ (.int .i64 ((rd_T59 ((rd_T53 l0_0 a1).f2) x11_2).f0))).setCell ⟨gb354, 1, none⟩ (.int .i64 ((rd_T59 ((rd_T53 l0_0 a1).f2) x11_2).f1))) w.heap.size (fun _ => True) (.slice (some ⟨go24, 0, none⟩) x9_2.length co24) y352) := ⟨by (with_reducible repeat (first | apply Kd.R_alloc | apply Kd.R_drewN | apply Kd.R_drew)); exact Kd.R_mono (Kd.R_far (p := ⟨gb354, 1, none⟩) (Kd.R_far (p := ⟨gb354, 0, none⟩) (Kd.R_types HO_9.out BK354.out (by decide)) (fun _ hk => hk.2) (.int .i64 ((rd_T59 ((rd_T53 l0_0 a1).f2) x11_2).f0))) (fun _ hk => hk.2) (.int .i64 ((rd_T59 ((rd_T53 l0_0 a1).f2) x11_2).f1))) (fun _ hk => trivial)⟩
   replace BK340 : Aside0 (((w40.setCell ⟨gb354, 0, none⟩ (.int .i64 ((rd_T59 ((rd_T53 l0_0 a1).f2) x11_2).f0))).setCell ⟨gb354, 1, none⟩ (.int .i64 ((rd_T59 ((rd_T53 l0_0 a1).f2) x11_2).f1))).heap[gb340]? = some (.cells #[.slice (some ad341) l0_0.length c0_0] 33 (0, 0))) := ⟨by (with_reducible repeat (first | apply dN | apply dW | apply dA)); refine blk_far ?_ NB340_354.out _; (with_reducible repeat (first | apply dN | apply dW | apply dA)); refine blk_far ?_ NB340_354.out _; exact bp BK340⟩
   replace BK354 : Aside0 (((w40.setCell ⟨gb354, 0, none⟩ (.int .i64 ((rd_T59 ((rd_T53 l0_0 a1).f2) x11_2).f0))).setCell ⟨gb354, 1, none⟩ (.int .i64 ((rd_T59 ((rd_T53 l0_0 a1).f2) x11_2).f1))).heap[gb354]? = some (.cells #[.int .i64 ((rd_T59 ((rd_T53 l0_0 a1).f2) x11_2).f0), .int .i64 ((rd_T59 ((rd_T53 l0_0 a1).f2) x11_2).f1)] 59 (0, 0))) := ⟨by (with_reducible repeat (first | apply dN | apply dW | apply dA)); refine blk_put (cs := #[.int .i64 ((rd_T59 ((rd_T53 l0_0 a1).f2) x11_2).f0), .int .i64 0]) ?_ 1 _ rfl; (with_reducible repeat (first | apply dN | apply dW | apply dA)); refine blk_put (cs := #[.int .i64 0, .int .i64 0]) ?_ 0 _ rfl; exact bp BK354⟩
   replace HB : Aside0 (Below w.heap.size w ((w40.setCell ⟨gb354, 0, none⟩ (.int .i64 ((rd_T59 ((rd_T53 l0_0 a1).f2) x11_2).f0))).setCell ⟨gb354, 1, none⟩ (.int .i64 ((rd_T59 ((rd_T53 l0_0 a1).f2) x11_2).f1)))) := ⟨bw HB⟩
   generalize ((w40.setCell ⟨gb354, 0, none⟩ (.int .i64 ((rd_T59 ((rd_T53 l0_0 a1).f2) x11_2).f0))).setCell ⟨gb354, 1, none⟩ (.int .i64 ((rd_T59 ((rd_T53 l0_0 a1).f2) x11_2).f1))) = w43 at HO_8 HO_9 BK340 BK354 HB ⊢
   replace HO_8 := am (Kd.R_drew HO_8.out)
   replace HO_9 := am (Kd.R_drew HO_9.out)
   replace BK340 := am (blk_drew BK340.out)
   replace BK354 := am (blk_drew BK354.out)
   replace HB := am (below_drew1 HB.out)
   obtain ⟨p355, q355, hx355_0⟩ := aR HO_8 x11_2
   refine start_ (n := 9) (S := fun w' => w'.cell? ⟨gb340, 0, none⟩ = some (.slice (some ad341) l0_0.length c0_0) ∧ w'.cell? ⟨gb354, 0, none⟩ = some (.int .i64 ((rd_T59 ((rd_T53 l0_0 a1).f2) x11_2).f0)) ∧ w'.cell? ⟨gb354, 1, none⟩ = some (.int .i64 ((rd_T59 ((rd_T53 l0_0 a1).f2) x11_2).f1)) ∧ w'.cell? ⟨go22, (x11_2).toNat, none⟩ = some (.int .i64 (rd x8_2 x11_2))) (ds := []) (bv 9 0) (by kernel_rfl) rfl (by kernel_rfl) ⟨bc BK340 0, bc BK354 0, bc BK354 1, hx355_0⟩ (fun hHeld => ?_); refine with_tabW impl_heightsOf.tab17 impl_heightsOf.bits17 (fun HT_ HW_ => ?_)
   generalize w43.drew = w44 at HO_8 HO_9 BK340 BK354 HB hx355_0 hHeld ⊢
   refine pu 0 60 9 1 HT_ ?_
   refine pu 1 61 9 3 HT_ ?_
   refine pu 2 62 9 7 HT_ ?_
   refine tk 3 63 9 15 HT_ HW_ hHeld ?_
   refine tk 4 64 9 31 HT_ HW_ hHeld ?_
   refine tk 5 65 9 63 HT_ HW_ hHeld ?_
   refine on 6 (some 66) 9 127 HT_ fun K hK => ?_
   refine goes_ Try.func41 (by kernel_rfl) rfl #[.agg #[.slice (some ad341) l0_0.length c0_0], .agg #[.int .i64 ((rd_T59 ((rd_T53 l0_0 a1).f2) x11_2).f0), .int .i64 ((rd_T59 ((rd_T53 l0_0 a1).f2) x11_2).f1)]] (by rfl) rfl rfl gl ?_
   with_reducible refine (impl_Takes.calls k2 _ _ l0_0 ((rd_T59 ((rd_T53 l0_0 a1).f2) x11_2).f0) ((rd_T59 ((rd_T53 l0_0 a1).f2) x11_2).f1) t356 _ ?side1 ?side2 A36.out).mono ?_
   (case side1 => exact cc (Kd.C_below HR0_0.out HB.out))
   (case side2 => exact HC0_0.out)
   rintro e w45 ⟨rfl, hb⟩
   have HS3_ := (hb.cell (World.block_lt_of_cell? _ _ (hHeld.2.2.2))).trans (hHeld.2.2.2)
   refine ⟨_, rfl, ?_⟩
   replace HO_8 := am (Kd.R_below (kR HO_8) hb)
   replace HO_9 := am (Kd.R_below (kR HO_9) hb)
   replace BK340 := bb BK340 hb
   replace BK354 := bb BK354 hb
   replace HB := am (below_step (bw HB) hb)
   clear hb
   refine hK.out _ _ ⟨bc BK340 0, bc BK354 0, bc BK354 1, HS3_⟩ (fun hHeld => ?_)
   clear hK K
   refine nm (some 66) ?_
   refine pu 7 67 9 255 HT_ ?_
   refine pu 8 13 9 511 HT_ ?_
   refine done_ (done_of HT_.out (by kernel_rfl)) ?_
   go_upto_region 18 with (fail)
   go_cut [76] (fun v76 wc => ∃ (kq : Nat) (x76_36 : Bool), v76 = .bool x76_36 ∧ Aside0 (impl_heightsOf.j2 kq ((rd_T53 l0_0 a1).f2) x8_2 y352 x11_2 (wrap64 ((rd x8_2 x11_2) - t356)) x76_36 l0_0 ((rd_T59 ((rd_T53 l0_0 a1).f2) x11_2).f0) ((rd_T59 ((rd_T53 l0_0 a1).f2) x11_2).f1) = some (r1, r2, r3)) ∧ Aside0 (kq ≤ k2) ∧ Aside0 (Kd.R (Kd.int .i64) 2 wc w.heap.size (fun _ => True) (.slice (some ⟨go22, 0, none⟩) x8_2.length co14) x8_2) ∧ Aside0 (Kd.R Kd.bool 4 wc w.heap.size (fun _ => True) (.slice (some ⟨go24, 0, none⟩) x9_2.length co24) y352) ∧ Aside0 (wc.heap[gb340]? = some (.cells #[(.slice (some ad341) l0_0.length c0_0)] 33 (0, 0))) ∧ Aside0 (wc.heap[gb354]? = some (.cells #[.int .i64 ((rd_T59 ((rd_T53 l0_0 a1).f2) x11_2).f0), .int .i64 ((rd_T59 ((rd_T53 l0_0 a1).f2) x11_2).f1)] 59 (0, 0))) ∧ Aside0 (Below w.heap.size w wc))
   case first =>
    have H := HC37.out
    clear HC37
    refine qI H ?_ ?_ <;> clear H <;> intro c46b0 H
    ·(first | rw [c46b0] | (simp only [i64_w, i32_w]; rw [c46b0]) | skip)
     have H' := am H
     clear H
     go_wp2
     go_meet
     case rel => exact ⟨_, (true), dr, H', ⟨lk2 HK1 HK2⟩, ⟨by (try simp only [hl8_1]); (try simp only [hl8_2]); (try simp only [hl9_2]); exact kR HO_8⟩, ⟨by (try simp only [hl8_1]); (try simp only [hl8_2]); (try simp only [hl9_2]); exact kR HO_9⟩, ⟨by (try simp only [hl8_1]); (try simp only [hl8_2]); (try simp only [hl9_2]); exact bp BK340⟩, ⟨by (try simp only [hl8_1]); (try simp only [hl8_2]); (try simp only [hl9_2]); exact bp BK354⟩, ⟨bw HB⟩⟩
    (first | rw [c46b0] | (simp only [i64_w, i32_w]; rw [c46b0]) | skip)
    refine be H ?_; clear H; intro t357 A47 H
    have H' := am H
    clear H
    have hnb48 := NB354_340.out
    have hnc48 := NB340_354.out
    have hcz49 := bK w45 BK354
    have hfz49 := bF BK354
    go_wp2_with (first | (go_at_call 47; (with_reducible refine (impl_Puts.calls k2 ((rd_T59 ((rd_T53 l0_0 a1).f2) x11_2).f0) ((rd_T59 ((rd_T53 l0_0 a1).f2) x11_2).f1) t357 _ A47.out).mono ?_); rintro e w50 ⟨rfl, hb⟩; replace HO_8 := am (Kd.R_below (kR HO_8) hb); replace HO_9 := am (Kd.R_below (kR HO_9) hb); replace BK340 := bb BK340 hb; replace BK354 := bb BK354 hb; replace HB := bs HB hb; clear hb))
    go_meet
    case rel => exact ⟨_, (decide ((wrap64 ((wrap64 ((rd x8_2 x11_2) - t356)) + t357)) > 8)), dr, H', ⟨lk2 HK1 HK2⟩, ⟨by (try simp only [hl8_1]); (try simp only [hl8_2]); (try simp only [hl9_2]); exact kR HO_8⟩, ⟨by (try simp only [hl8_1]); (try simp only [hl8_2]); (try simp only [hl9_2]); exact kR HO_9⟩, ⟨by (try simp only [hl8_1]); (try simp only [hl8_2]); (try simp only [hl9_2]); exact bp BK340⟩, ⟨by (try simp only [hl8_1]); (try simp only [hl8_2]); (try simp only [hl9_2]); exact bp BK354⟩, ⟨bw HB⟩⟩
   clear HC37
   (try clear hf3); (try clear c29); (try clear c29b0); (try clear c30); (try clear c30b0); (try clear c31); (try clear c31b0); (try clear q32); (try clear c33); (try clear c34); (try clear p34); (try clear q34); (try clear hx34); (try clear hf34); (try clear c35); (try clear c35b0); (try clear p35); (try clear q35); (try clear hx35); (try clear c41); (try clear c46); (try clear c46b0); (try clear c48); (try clear hcz42); (try clear hcz49); (try clear hfz42); (try clear hfz49); (try clear hx34_0); (try clear hx351_0); (try clear hx353_0); (try clear hx353_1); (try clear hx355_0); (try clear p34); (try clear p351); (try clear p353); (try clear p355); (try clear q34); (try clear q351); (try clear q353); (try clear q355)
   obtain ⟨kq, x76_36, rfl, HA, HJ36, HO_8, HO_9, BK340, BK354, HB⟩ := hcut
   have hl9_36 := (Kd.R_reads' HO_9.out).1
   rw [hl9_36] at HO_9
   (try simp only [hl9_36])
   (try simp only [hl9_36] at BK340)
   (try simp only [hl9_36] at BK354)
   (try simp only [hl9_36] at HO_8)
   rcases kq with _ | kj36
   ·exact absurd HA.out (by simp [impl_heightsOf.j2])
   have H := HA.out
   clear HA
   simp only [impl_heightsOf.j2] at H
   refine qT H ?_ ?_ <;> clear H <;> intro c51 H <;> subst c51
   ·simp only [Option.some.injEq, Prod.mk.injEq] at H
    obtain ⟨rfl, rfl, rfl⟩ := H
    go_wp2
    go_ret3
    exact ⟨_, er, kR HO_8, bw HB⟩
   refine be H ?_; clear H; intro t358 A52 H
   have H' := am H
   clear H
   have hnb53 := NB354_340.out
   have hnc53 := NB340_354.out
   have hcz54 := bK wc BK354
   have hfz54 := bF BK354
   go_wp2_with (first | ((with_reducible refine gate_callee (f := 77) rfl ?_); refine goesL_ (some 82) rfl rfl Try.func77 (by kernel_rfl) rfl #[.agg #[.int .i64 ((rd_T59 ((rd_T53 l0_0 a1).f2) x11_2).f0), .int .i64 ((rd_T59 ((rd_T53 l0_0 a1).f2) x11_2).f1)], .int .i64 x11_2] rfl gl ?_; (with_reducible refine (impl_next.calls ((rd_T59 ((rd_T53 l0_0 a1).f2) x11_2).f0) ((rd_T59 ((rd_T53 l0_0 a1).f2) x11_2).f1) x11_2 t358 _ A52.out).mono ?_); rintro e w55 ⟨v359, rfl, ho0, hb⟩; refine ⟨_, rfl, ?_⟩; replace HO_9 := am (Kd.R_below (kR HO_9) hb); have HO360 := am (Kd.R_lower (Kd.R_new' ho0 (Kd.R_lt (kR HO_8))) (below_size (bw HB))); replace HO_8 := am (Kd.R_elder' (kR HO_8) (Kd.R_base ho0) hb); replace BK340 := bb BK340 hb; replace BK354 := bb BK354 hb; replace HB := bs HB hb; clear hb; (try clear ho0); obtain ⟨Ao56, co56, eo56⟩ := Kd.R_slice HO360.out; subst eo56))
   go_loopg [14, 84] kj36 (fun kq v14 v84 w' => ∃ (x8_4 : List Int) (x9_4 : List Bool) (x14_4 : Int) (x84_4 : Int), v14 = .int .i64 x14_4 ∧ v84 = .int .i64 x84_4 ∧ Aside0 (impl_heightsOf.l2 kq ((rd_T53 l0_0 a1).f2) x8_4 x9_4 x11_2 (wrap64 ((rd x8_2 x11_2) - t356)) x14_4 t358 (t358.length : Int) x84_4 l0_0 ((rd_T59 ((rd_T53 l0_0 a1).f2) x11_2).f0) ((rd_T59 ((rd_T53 l0_0 a1).f2) x11_2).f1) = some (r1, r2, r3)) ∧ Aside0 (kq ≤ kj36) ∧ Aside0 (Kd.R (Kd.int .i64) 2 w' w.heap.size (fun k_ => some k_ ≠ ((.slice Ao56 t358.length co56) : Value).ownBlock) (.slice (some ⟨go22, 0, none⟩) x8_2.length co14) x8_4) ∧ Aside0 (Kd.R Kd.bool 4 w' w.heap.size (fun _ => True) (.slice (some ⟨go24, 0, none⟩) y352.length co24) x9_4) ∧ Aside0 (Kd.R (Kd.int .i64) 2 w' w.heap.size (fun k_ => some k_ ≠ ((.slice (some ⟨go22, 0, none⟩) x8_2.length co14) : Value).ownBlock) (.slice Ao56 t358.length co56) t358) ∧ Aside0 (w'.heap[gb340]? = some (.cells #[(.slice (some ad341) l0_0.length c0_0)] 33 (0, 0))) ∧ Aside0 (w'.heap[gb354]? = some (.cells #[.int .i64 ((rd_T59 ((rd_T53 l0_0 a1).f2) x11_2).f0), .int .i64 ((rd_T59 ((rd_T53 l0_0 a1).f2) x11_2).f1)] 59 (0, 0))) ∧ Aside0 (Below w.heap.size w w'))
   case atStart => exact ⟨(x8_2), (y352), (x11_2), (0), dr, dr, H', ⟨Nat.le_refl _⟩, ⟨by (try simp only [hl8_1]); (try simp only [hl8_2]); (try simp only [hl9_2]); (try simp only [hl9_36]); (with_reducible repeat (first | apply Kd.R_alloc | apply Kd.R_drewN | apply Kd.R_drew)); exact Kd.R_mono HO_8.out (fun _ hk => hk.2)⟩, ⟨by (try simp only [hl8_1]); (try simp only [hl8_2]); (try simp only [hl9_2]); (try simp only [hl9_36]); exact kR HO_9⟩, ⟨by (try simp only [hl8_1]); (try simp only [hl8_2]); (try simp only [hl9_2]); (try simp only [hl9_36]); (with_reducible repeat (first | apply Kd.R_alloc | apply Kd.R_drewN | apply Kd.R_drew)); exact Kd.R_mono HO360.out (fun _ hk => hk.2)⟩, ⟨by (try simp only [hl8_1]); (try simp only [hl8_2]); (try simp only [hl9_2]); (try simp only [hl9_36]); exact bp BK340⟩, ⟨by (try simp only [hl8_1]); (try simp only [hl8_2]); (try simp only [hl9_2]); (try simp only [hl9_36]); exact bp BK354⟩, ⟨bw HB⟩⟩
   clear H'
   (try clear c51); (try clear c53); (try clear hcz54); (try clear hfz54)
   obtain ⟨x8_4, x9_4, x14_4, x84_4, rfl, rfl, HA, HK4, HO_8, HO_9, HO_82, BK340, BK354, HB⟩ := hrel
   have hl8_4 := (Kd.R_reads' HO_8.out).1
   rw [hl8_4] at HO_8
   (try simp only [hl8_4])
   (try simp only [hl8_4] at BK340)
   (try simp only [hl8_4] at BK354)
   (try simp only [hl8_4] at HO_9)
   (try simp only [hl8_4] at HO_82)
   have hl9_4 := (Kd.R_reads' HO_9.out).1
   rw [hl9_4] at HO_9
   (try simp only [hl9_4])
   (try simp only [hl9_4] at BK340)
   (try simp only [hl9_4] at BK354)
   (try simp only [hl9_4] at HO_8)
   (try simp only [hl9_4] at HO_82)
   rcases gk with _ | k4
   ·exact absurd HA.out (by simp [impl_heightsOf.l2])
   have H := HA.out
   clear HA
   simp only [impl_heightsOf.l2] at H
   by_cases c57 : x84_4 < (t358.length : Int)
   ·rw [if_pos c57] at H
    have c57b0 := decide_eq_true c57
    (try (have c57b0hl9_36 := c57b0; rw [hl9_36] at c57b0hl9_36))
    clear c57
    refine iN H ?_; clear H; intro c58 H
    have c58b0 := decide_eq_true c58
    clear c58
    refine iN H ?_; clear H; intro c59 H
    have c59b0 := decide_eq_true c59
    (try (have c59b0hl9_36 := c59b0; rw [hl9_36] at c59b0hl9_36))
    clear c59
    by_cases c60 : (rd t358 x84_4) = (((rd_T53 l0_0 a1).f2).length : Int)
    ·rw [if_pos c60] at H
     have c60b0 : ((rd t358 x84_4) == (((rd_T53 l0_0 a1).f2).length : Int)) = true := beq_iff_eq.mpr c60
     have c60b1 : ((rd t358 x84_4) != (((rd_T53 l0_0 a1).f2).length : Int)) = false := bne_eq_false_iff_eq.mpr c60
     (try (have c60b0hl9_36 := c60b0; rw [hl9_36] at c60b0hl9_36))
     (try (have c60b1hl9_36 := c60b1; rw [hl9_36] at c60b1hl9_36))
     clear c60
     simp only [Option.some.injEq, Prod.mk.injEq] at H
     obtain ⟨rfl, rfl, rfl⟩ := H
     have p361 : 0 ≤ (x84_4 : Int) := of_decide_eq_true as1
     have q361 : x84_4 < (t358.length : Int) := of_decide_eq_true as1
     obtain ⟨ad361, e361, hx361_0⟩ := Kd.at_int (Kd.R_reads' HO_82.out).2.2 x84_4 p361 q361
     cases e361
     replace p361 := eq_true p361
     replace q361 := eq_true q361
     go_wp2
     go_ret3
     exact ⟨_, er, by (with_reducible repeat (first | apply Kd.R_alloc | apply Kd.R_drewN | apply Kd.R_drew)); exact Kd.R_mono HO_8.out (fun _ hk => trivial), bw HB⟩
    rw [if_neg c60] at H
    have c60b0 : ((rd t358 x84_4) == (((rd_T53 l0_0 a1).f2).length : Int)) = false := beq_eq_false_iff_ne.mpr c60
    have c60b1 : ((rd t358 x84_4) != (((rd_T53 l0_0 a1).f2).length : Int)) = true := bne_iff_ne.mpr c60
    (try (have c60b0hl9_36 := c60b0; rw [hl9_36] at c60b0hl9_36))
    (try (have c60b1hl9_36 := c60b1; rw [hl9_36] at c60b1hl9_36))
    have HC61 := am H
    clear H
    have p361 : 0 ≤ (x84_4 : Int) := of_decide_eq_true as1
    have q361 : x84_4 < (t358.length : Int) := of_decide_eq_true as1
    obtain ⟨ad361, e361, hx361_0⟩ := Kd.at_int (Kd.R_reads' HO_82.out).2.2 x84_4 p361 q361
    cases e361
    replace p361 := eq_true p361
    replace q361 := eq_true q361
    go_upto_region 26 with (fail)
    go_cut [109] (fun v109 wc => ∃ (kq : Nat) (x109_60 : Bool), v109 = .bool x109_60 ∧ Aside0 (impl_heightsOf.j4 kq ((rd_T53 l0_0 a1).f2) x8_4 x9_4 x11_2 (wrap64 ((rd x8_2 x11_2) - t356)) x14_4 (rd t358 x84_4) t358 (t358.length : Int) x84_4 x109_60 l0_0 ((rd_T59 ((rd_T53 l0_0 a1).f2) x11_2).f0) ((rd_T59 ((rd_T53 l0_0 a1).f2) x11_2).f1) = some (r1, r2, r3)) ∧ Aside0 (kq ≤ k4) ∧ Aside0 (Kd.R (Kd.int .i64) 2 wc w.heap.size (fun k_ => some k_ ≠ ((.slice (some ad361) t358.length co56) : Value).ownBlock) (.slice (some ⟨go22, 0, none⟩) x8_4.length co14) x8_4) ∧ Aside0 (Kd.R Kd.bool 4 wc w.heap.size (fun _ => True) (.slice (some ⟨go24, 0, none⟩) x9_4.length co24) x9_4) ∧ Aside0 (Kd.R (Kd.int .i64) 2 wc w.heap.size (fun k_ => some k_ ≠ ((.slice (some ⟨go22, 0, none⟩) x8_4.length co14) : Value).ownBlock) (.slice (some ad361) t358.length co56) t358) ∧ Aside0 (wc.heap[gb340]? = some (.cells #[(.slice (some ad341) l0_0.length c0_0)] 33 (0, 0))) ∧ Aside0 (wc.heap[gb354]? = some (.cells #[.int .i64 ((rd_T59 ((rd_T53 l0_0 a1).f2) x11_2).f0), .int .i64 ((rd_T59 ((rd_T53 l0_0 a1).f2) x11_2).f1)] 59 (0, 0))) ∧ Aside0 (Below w.heap.size w wc))
    case first =>
     have H := HC61.out
     clear HC61
     refine iM H ?_; clear H; intro c62b0 H
     (first | rw [c62b0] | (simp only [i64_w, i32_w]; rw [c62b0]) | skip)
     refine iM H ?_; clear H; intro c63b0 H
     (try (have c63b0hl9_36 := c63b0; rw [hl9_36] at c63b0hl9_36))
     (try (have c63b0hl8_4 := c63b0; rw [hl8_4] at c63b0hl8_4))
     refine qL H ?_ ?_ <;> clear H <;> intro c64b0 H
     ·refine be H ?_; clear H; intro t364 A65 H
      have H' := am H
      clear H
      try go_wp2
      replace HO_8 := am (Kd.R_drew HO_8.out)
      replace HO_9 := am (Kd.R_drew HO_9.out)
      replace HO_82 := am (Kd.R_drew HO_82.out)
      replace BK340 := am (blk_drew BK340.out)
      replace BK354 := am (blk_drew BK354.out)
      replace HB := am (below_drew1 HB.out)
      obtain ⟨p362, q362, hx362_0⟩ := aR HO_8 (rd t358 x84_4)
      obtain ⟨p363, q363, hx363_0⟩ := aR HO_8 (rd t358 x84_4)
      refine start_ (n := 16) (S := fun w' => w'.cell? ⟨gb354, 0, none⟩ = some (.int .i64 ((rd_T59 ((rd_T53 l0_0 a1).f2) x11_2).f0)) ∧ w'.cell? ⟨gb354, 1, none⟩ = some (.int .i64 ((rd_T59 ((rd_T53 l0_0 a1).f2) x11_2).f1)) ∧ w'.cell? ⟨go22, ((rd t358 x84_4)).toNat, none⟩ = some (.int .i64 (rd x8_4 (rd t358 x84_4))) ∧ w'.cell? ⟨go22, ((rd t358 x84_4)).toNat, none⟩ = some (.int .i64 (rd x8_4 (rd t358 x84_4)))) (ds := []) (bv 16 0) (by kernel_rfl) rfl (by kernel_rfl) ⟨bc BK354 0, bc BK354 1, hx362_0, hx363_0⟩ (fun hHeld => ?_); refine with_tabW impl_heightsOf.tab26 impl_heightsOf.bits26 (fun HT_ HW_ => ?_)
      generalize wr.drew = w66 at HO_8 HO_9 HO_82 BK340 BK354 HB hx362_0 hx363_0 hHeld ⊢
      refine pu 0 94 16 1 HT_ ?_
      refine pu 1 95 16 3 HT_ ?_
      refine pu 2 96 16 7 HT_ ?_
      refine tk 3 97 16 15 HT_ HW_ hHeld ?_
      refine pu 4 98 16 31 HT_ ?_
      refine pu 5 99 16 63 HT_ ?_
      refine pu 6 100 16 127 HT_ ?_
      refine pu 7 101 16 255 HT_ ?_
      refine pu 8 102 16 511 HT_ ?_
      refine pu 10 104 16 1535 HT_ ?_
      refine tk 9 103 16 2047 HT_ HW_ hHeld ?_
      refine tk 11 105 16 4095 HT_ HW_ hHeld ?_
      refine on 12 (some 106) 16 8191 HT_ fun K hK => ?_
      refine goes_ Try.func47 (by kernel_rfl) rfl #[.agg #[.int .i64 ((rd_T59 ((rd_T53 l0_0 a1).f2) x11_2).f0), .int .i64 ((rd_T59 ((rd_T53 l0_0 a1).f2) x11_2).f1)]] (by rfl) rfl rfl gl ?_
      with_reducible refine (impl_Puts.calls k4 ((rd_T59 ((rd_T53 l0_0 a1).f2) x11_2).f0) ((rd_T59 ((rd_T53 l0_0 a1).f2) x11_2).f1) t364 _ A65.out).mono ?_
      rintro e w67 ⟨rfl, hb⟩
      have HS2_ := (hb.cell (World.block_lt_of_cell? _ _ (hHeld.2.2.1))).trans (hHeld.2.2.1)
      have HS3_ := (hb.cell (World.block_lt_of_cell? _ _ (hHeld.2.2.2))).trans (hHeld.2.2.2)
      refine ⟨_, rfl, ?_⟩
      replace HO_8 := am (Kd.R_below (kR HO_8) hb)
      replace HO_9 := am (Kd.R_below (kR HO_9) hb)
      replace HO_82 := am (Kd.R_below (kR HO_82) hb)
      replace BK340 := bb BK340 hb
      replace BK354 := bb BK354 hb
      replace HB := am (below_step (bw HB) hb)
      clear hb
      refine hK.out _ _ ⟨bc BK354 0, bc BK354 1, HS2_, HS3_⟩ (fun hHeld => ?_)
      clear hK K
      refine nm (some 106) ?_
      refine pu 13 107 16 16383 HT_ ?_
      refine pu 14 108 16 32767 HT_ ?_
      refine pu 15 109 16 65535 HT_ ?_
      refine done_ (done_of HT_.out (by kernel_rfl)) ?_
      try go_wp2
      go_meet
      case rel => exact ⟨_, (((rd x8_4 (rd t358 x84_4)) != (wrap64 ((wrap64 ((rd x8_2 x11_2) - t356)) + t364)))), dr, H', ⟨lk4 HK1 HK2 HJ36 HK4⟩, ⟨by (try simp only [hl8_1]); (try simp only [hl8_2]); (try simp only [hl9_2]); (try simp only [hl9_36]); (try simp only [hl8_4]); (try simp only [hl9_4]); exact kR HO_8⟩, ⟨by (try simp only [hl8_1]); (try simp only [hl8_2]); (try simp only [hl9_2]); (try simp only [hl9_36]); (try simp only [hl8_4]); (try simp only [hl9_4]); exact kR HO_9⟩, ⟨by (try simp only [hl8_1]); (try simp only [hl8_2]); (try simp only [hl9_2]); (try simp only [hl9_36]); (try simp only [hl8_4]); (try simp only [hl9_4]); exact kR HO_82⟩, ⟨by (try simp only [hl8_1]); (try simp only [hl8_2]); (try simp only [hl9_2]); (try simp only [hl9_36]); (try simp only [hl8_4]); (try simp only [hl9_4]); exact bp BK340⟩, ⟨by (try simp only [hl8_1]); (try simp only [hl8_2]); (try simp only [hl9_2]); (try simp only [hl9_36]); (try simp only [hl8_4]); (try simp only [hl9_4]); exact bp BK354⟩, ⟨bw HB⟩⟩
     have H' := am H
     clear H
     try go_wp2
     replace HO_8 := am (Kd.R_drew HO_8.out)
     replace HO_9 := am (Kd.R_drew HO_9.out)
     replace HO_82 := am (Kd.R_drew HO_82.out)
     replace BK340 := am (blk_drew BK340.out)
     replace BK354 := am (blk_drew BK354.out)
     replace HB := am (below_drew1 HB.out)
     obtain ⟨p362, q362, hx362_0⟩ := aR HO_8 (rd t358 x84_4)
     refine start_ (n := 16) (S := fun w' => w'.cell? ⟨go22, ((rd t358 x84_4)).toNat, none⟩ = some (.int .i64 (rd x8_4 (rd t358 x84_4)))) (ds := []) (bv 16 0) (by kernel_rfl) rfl (by kernel_rfl) (hx362_0) (fun hHeld => ?_); refine with_tabW impl_heightsOf.tab26 impl_heightsOf.bits26 (fun HT_ HW_ => ?_)
     generalize wr.drew = w68 at HO_8 HO_9 HO_82 BK340 BK354 HB hx362_0 hHeld ⊢
     refine pu 0 94 16 1 HT_ ?_
     refine pu 1 95 16 3 HT_ ?_
     refine pu 2 96 16 7 HT_ ?_
     refine tk 3 97 16 15 HT_ HW_ hHeld ?_
     refine pu 4 98 16 31 HT_ ?_
     refine pu 5 99 16 63 HT_ ?_
     refine pn 6 100 16 127 HT_ ?_
     refine pn 7 101 16 255 HT_ ?_
     refine pn 8 102 16 511 HT_ ?_
     refine pn 9 103 16 1023 HT_ ?_
     refine pn 10 104 16 2047 HT_ ?_
     refine pn 11 105 16 4095 HT_ ?_
     refine pn 12 106 16 8191 HT_ ?_
     refine pn 13 107 16 16383 HT_ ?_
     refine pn 14 108 16 32767 HT_ ?_
     refine pu 15 109 16 65535 HT_ ?_
     refine done_ (done_of HT_.out (by kernel_rfl)) ?_
     try go_wp2
     go_meet
     case rel => exact ⟨_, (false), dr, H', ⟨lk4 HK1 HK2 HJ36 HK4⟩, ⟨by (try simp only [hl8_1]); (try simp only [hl8_2]); (try simp only [hl9_2]); (try simp only [hl9_36]); (try simp only [hl8_4]); (try simp only [hl9_4]); exact kR HO_8⟩, ⟨by (try simp only [hl8_1]); (try simp only [hl8_2]); (try simp only [hl9_2]); (try simp only [hl9_36]); (try simp only [hl8_4]); (try simp only [hl9_4]); exact kR HO_9⟩, ⟨by (try simp only [hl8_1]); (try simp only [hl8_2]); (try simp only [hl9_2]); (try simp only [hl9_36]); (try simp only [hl8_4]); (try simp only [hl9_4]); exact kR HO_82⟩, ⟨by (try simp only [hl8_1]); (try simp only [hl8_2]); (try simp only [hl9_2]); (try simp only [hl9_36]); (try simp only [hl8_4]); (try simp only [hl9_4]); exact bp BK340⟩, ⟨by (try simp only [hl8_1]); (try simp only [hl8_2]); (try simp only [hl9_2]); (try simp only [hl9_36]); (try simp only [hl8_4]); (try simp only [hl9_4]); exact bp BK354⟩, ⟨bw HB⟩⟩
    clear HC61
    (try clear p36); (try clear q36); (try clear hx36); (try clear c47); (try clear c57); (try clear c57b0); (try clear c58); (try clear c58b0); (try clear c59); (try clear c59b0); (try clear c60); (try clear c60b0); (try clear c60b1); (try clear c62); (try clear c62b0); (try clear c63); (try clear c63b0); (try clear c64); (try clear c64b0); (try clear p64); (try clear hx361_0); (try clear hx362_0); (try clear hx363_0); (try clear p361); (try clear p362); (try clear p363); (try clear q361); (try clear q362); (try clear q363)
    obtain ⟨kq, x109_60, rfl, HA, HJ60, HO_8, HO_9, HO_82, BK340, BK354, HB⟩ := hcut
    rcases kq with _ | kj60
    ·exact absurd HA.out (by simp [impl_heightsOf.j4])
    have H := HA.out
    clear HA
    simp only [impl_heightsOf.j4] at H
    refine qT H ?_ ?_ <;> clear H <;> intro c69 H <;> subst c69
    ·simp only [Option.some.injEq, Prod.mk.injEq] at H
     obtain ⟨rfl, rfl, rfl⟩ := H
     go_wp2
     go_ret3
     exact ⟨_, er, by (with_reducible repeat (first | apply Kd.R_alloc | apply Kd.R_drewN | apply Kd.R_drew)); exact Kd.R_mono HO_8.out (fun _ hk => trivial), bw HB⟩
    refine iM H ?_; clear H; intro c70b0 H
    refine iM H ?_; clear H; intro c71b0 H
    (try (have c71b0hl9_36 := c71b0; rw [hl9_36] at c71b0hl9_36))
    (try (have c71b0hl8_4 := c71b0; rw [hl8_4] at c71b0hl8_4))
    refine qI H ?_ ?_ <;> clear H <;> intro c72b0 H
    ·refine be H ?_; clear H; intro t366 A73 H
     obtain ⟨y367, hy367⟩ : ∃ y_ : List Int, y_ = (x8_4.set ((rd t358 x84_4) : Int).toNat (wrap64 ((wrap64 ((rd x8_2 x11_2) - t356)) + t366))) := ⟨_, rfl⟩
     replace H : (if (rd t358 x84_4) < (x9_4.length : Int) then (impl_heightsOf.l2 kj60 ((rd_T53 l0_0 a1).f2) y367 (x9_4.set ((rd t358 x84_4) : Int).toNat true) x11_2 (wrap64 ((rd x8_2 x11_2) - t356)) (mn x14_4 (rd t358 x84_4)) t358 (t358.length : Int) (wrap64 (x84_4 + 1)) l0_0 ((rd_T59 ((rd_T53 l0_0 a1).f2) x11_2).f0) ((rd_T59 ((rd_T53 l0_0 a1).f2) x11_2).f1)) else (none)) = some (r1, r2, r3) := by first | (rw [hy367]; with_reducible exact H) | (have H2_ := (Option.bind_some _ _).symm.trans H; rw [hy367]; with_reducible exact H2_) | (have H2_ := (Option.bind_some _ _).symm.trans H; with_reducible exact H2_) | with_reducible exact H | (rw [hy367]; exact H) | exact H
     have Ny367 := am hy367
     clear hy367
     refine iM H ?_; clear H; intro c75b0 H
     (try (have c75b0hl9_36 := c75b0; rw [hl9_36] at c75b0hl9_36))
     (try (have c75b0hl9_4 := c75b0; rw [hl9_4] at c75b0hl9_4))
     obtain ⟨y368, hy368⟩ : ∃ y_ : List Bool, y_ = (x9_4.set ((rd t358 x84_4) : Int).toNat true) := ⟨_, rfl⟩
     replace H : (impl_heightsOf.l2 kj60 ((rd_T53 l0_0 a1).f2) y367 y368 x11_2 (wrap64 ((rd x8_2 x11_2) - t356)) (mn x14_4 (rd t358 x84_4)) t358 (t358.length : Int) (wrap64 (x84_4 + 1)) l0_0 ((rd_T59 ((rd_T53 l0_0 a1).f2) x11_2).f0) ((rd_T59 ((rd_T53 l0_0 a1).f2) x11_2).f1)) = some (r1, r2, r3) := by first | (rw [hy368]; with_reducible exact H) | (have H2_ := (Option.bind_some _ _).symm.trans H; rw [hy368]; with_reducible exact H2_) | (have H2_ := (Option.bind_some _ _).symm.trans H; with_reducible exact H2_) | with_reducible exact H | (rw [hy368]; exact H) | exact H
     have Ny368 := am hy368
     clear hy368
     obtain ⟨ji77, hji77⟩ : ∃ j_ : Int, (mn x14_4 (rd t358 x84_4)) = j_ := ⟨_, rfl⟩
     replace H : (impl_heightsOf.l2 kj60 ((rd_T53 l0_0 a1).f2) y367 y368 x11_2 (wrap64 ((rd x8_2 x11_2) - t356)) ji77 t358 (t358.length : Int) (wrap64 (x84_4 + 1)) l0_0 ((rd_T59 ((rd_T53 l0_0 a1).f2) x11_2).f0) ((rd_T59 ((rd_T53 l0_0 a1).f2) x11_2).f1)) = some (r1, r2, r3) := by first | (rw [hji77] at H; exact H) | (simp only [hji77] at H ⊢; exact H)
     (try rw [hji77] at A73)
     have hji77_ : (if (rd t358 x84_4) < x14_4 then (rd t358 x84_4) else x14_4) = ji77 := hji77
     have H' := am H
     clear H
     obtain ⟨p365, q365, hx365_0⟩ := aR HO_8 (rd t358 x84_4)
     have hnb78 := NB354_340.out
     have hnc78 := NB340_354.out
     have hcz79 := bK wc BK354
     have hfz79 := bF BK354
     go_wp2_with (first | ((with_reducible refine gate_callee (f := 47) rfl ?_); refine goesL_ (some 121) rfl rfl Try.func47 (by kernel_rfl) rfl #[.agg #[.int .i64 ((rd_T59 ((rd_T53 l0_0 a1).f2) x11_2).f0), .int .i64 ((rd_T59 ((rd_T53 l0_0 a1).f2) x11_2).f1)]] rfl gl ?_; (with_reducible refine (impl_Puts.calls kj60 ((rd_T59 ((rd_T53 l0_0 a1).f2) x11_2).f0) ((rd_T59 ((rd_T53 l0_0 a1).f2) x11_2).f1) t366 _ A73.out).mono ?_); rintro e w80 ⟨rfl, hb⟩; refine ⟨_, rfl, ?_⟩; replace HO_8 := am (Kd.R_below (kR HO_8) hb); replace HO_9 := am (Kd.R_below (kR HO_9) hb); replace HO_82 := am (Kd.R_below (kR HO_82) hb); replace BK340 := bb BK340 hb; replace BK354 := bb BK354 hb; replace HB := bs HB hb; clear hb; have p74 : 0 ≤ ((rd t358 x84_4) : Int) := of_decide_eq_true as1; have q74 : ((rd t358 x84_4) : Int) < ((x8_4.length : Int) : Int) := of_decide_eq_true as1; obtain ⟨hx74_0, hf74_0⟩ := Kd.R_celln 0 HO_8.out ((rd t358 x84_4) : Int) p74 q74; replace p74 := eq_true p74; replace q74 := eq_true q74; obtain ⟨hy81_, hz81_⟩ := Kd.R_celln 0 HO_8.out ((rd t358 x84_4) : Int) (of_decide_eq_true as1) (of_decide_eq_true as1); have HP81 := Kd.R_putg HO_8.out ((rd t358 x84_4) : Int) (wrap64 ((wrap64 ((rd x8_2 x11_2) - t356)) + t366))) | ((with_reducible refine gt 2 123 rfl ?_); refine sE 2 123 (w80.setCell ⟨go22, ((rd t358 x84_4) : Int).toNat, none⟩ (.int .i64 (wrap64 ((wrap64 ((rd x8_2 x11_2) - t356)) + t366)))) ?_; intro w82 hw; have hg : w80.grownBy w82 (some go22) := (by rw [hw]; exact HP81.2); have hp_ : Kd.R (Kd.int .i64) 2 w82 w.heap.size (fun k_ => some k_ ≠ (.slice (some ad361) t358.length co56 : Value).ownBlock) (.slice (some ⟨go22, 0, none⟩) x8_4.length co14) y367 := (by rw [hw, Ny367.out]; exact HP81.1); clear HP81; replace HO_9 := am (Kd.R_over' (v := (.slice (some ⟨go22, 0, none⟩) x8_4.length co14)) (kR HO_9) (Kd.R_typed HO_8.out) (by decide) hg); replace HO_82 := am (Kd.R_after (v := (.slice (some ⟨go22, 0, none⟩) x8_4.length co14)) (v1 := (.slice (some ⟨go22, 0, none⟩) x8_4.length co14)) (ok := (fun _ => True)) (by (with_reducible repeat (first | apply Kd.R_alloc | apply Kd.R_drewN | apply Kd.R_drew)); exact Kd.R_mono HO_82.out (fun _ hk => ⟨trivial, hk⟩)) hg (.inl rfl)); replace BK340 := bg BK340 hg (Kd.R_ne HO_8.out BK340.out (by decide)); replace BK354 := bg BK354 hg (Kd.R_ne HO_8.out BK354.out (by decide)); replace HO_8 := am (hp_); replace HB := am ((by rw [hw]; exact below_set (HB.out) GB22.out : Below w.heap.size w w82)); clear hg hw hp_; have p76 : 0 ≤ ((rd t358 x84_4) : Int) := of_decide_eq_true as1; have q76 : ((rd t358 x84_4) : Int) < ((x9_4.length : Int) : Int) := of_decide_eq_true as1; obtain ⟨hx76_0, hf76_0⟩ := Kd.R_celln false HO_9.out ((rd t358 x84_4) : Int) p76 q76; replace p76 := eq_true p76; replace q76 := eq_true q76; obtain ⟨hy83_, hz83_⟩ := Kd.R_celln false HO_9.out ((rd t358 x84_4) : Int) (of_decide_eq_true as1) (of_decide_eq_true as1); have HP83 := Kd.R_putg HO_9.out ((rd t358 x84_4) : Int) true) | ((with_reducible refine gt 4 126 rfl ?_); refine sE 4 126 (w82.setCell ⟨go24, ((rd t358 x84_4) : Int).toNat, none⟩ (.bool true)) ?_; intro w84 hw; have hg : w82.grownBy w84 (some go24) := (by rw [hw]; exact HP83.2); have hp_ : Kd.R Kd.bool 4 w84 w.heap.size (fun _ => True) (.slice (some ⟨go24, 0, none⟩) x9_4.length co24) y368 := (by rw [hw, Ny368.out]; exact HP83.1); clear HP83; replace HO_8 := am (Kd.R_over' (v := (.slice (some ⟨go24, 0, none⟩) x9_4.length co24)) (kR HO_8) (Kd.R_typed HO_9.out) (by decide) hg); replace HO_82 := am (Kd.R_over' (v := (.slice (some ⟨go24, 0, none⟩) x9_4.length co24)) (kR HO_82) (Kd.R_typed HO_9.out) (by decide) hg); replace BK340 := bg BK340 hg (Kd.R_ne HO_9.out BK340.out (by decide)); replace BK354 := bg BK354 hg (Kd.R_ne HO_9.out BK354.out (by decide)); replace HO_9 := am (hp_); replace HB := am ((by rw [hw]; exact below_set (HB.out) GB24.out : Below w.heap.size w w84)); clear hg hw hp_))
     (try simp only [← hl8_4, ← hl9_4])
     go_roundg kj60
     case measure => have := HK1.out; have := HK2.out; have := HJ36.out; have := HK4.out; have := HJ60.out; omega
     case rel => exact ⟨(y367), (y368), (ji77), (wrap64 (x84_4 + 1)), (by first | rfl | (simp; done) | (simp only [← hji77] <;> (first | rfl | simp)) | (simp [*]; done)), dr, H', ⟨by have := HK1.out; have := HK2.out; have := HJ36.out; have := HK4.out; have := HJ60.out; omega⟩, ⟨by (try simp only [hl8_1]); (try simp only [hl8_2]); (try simp only [hl9_2]); (try simp only [hl9_36]); (try simp only [hl8_4]); (try simp only [hl9_4]); exact kR HO_8⟩, ⟨by (try simp only [hl8_1]); (try simp only [hl8_2]); (try simp only [hl9_2]); (try simp only [hl9_36]); (try simp only [hl8_4]); (try simp only [hl9_4]); exact kR HO_9⟩, ⟨by (try simp only [hl8_1]); (try simp only [hl8_2]); (try simp only [hl9_2]); (try simp only [hl9_36]); (try simp only [hl8_4]); (try simp only [hl9_4]); (with_reducible repeat (first | apply Kd.R_alloc | apply Kd.R_drewN | apply Kd.R_drew)); exact Kd.R_mono HO_82.out (fun _ hk => hk.2)⟩, ⟨by (try simp only [hl8_1]); (try simp only [hl8_2]); (try simp only [hl9_2]); (try simp only [hl9_36]); (try simp only [hl8_4]); (try simp only [hl9_4]); exact bp BK340⟩, ⟨by (try simp only [hl8_1]); (try simp only [hl8_2]); (try simp only [hl9_2]); (try simp only [hl9_36]); (try simp only [hl8_4]); (try simp only [hl9_4]); exact bp BK354⟩, ⟨bw HB⟩⟩
    have H' := am H
    clear H
    obtain ⟨p365, q365, hx365_0⟩ := aR HO_8 (rd t358 x84_4)
    go_wp2
    (try simp only [← hl8_4, ← hl9_4])
    go_roundg kj60
    case measure => have := HK1.out; have := HK2.out; have := HJ36.out; have := HK4.out; have := HJ60.out; omega
    case rel => exact ⟨(x8_4), (x9_4), (x14_4), (wrap64 (x84_4 + 1)), dr, dr, H', ⟨by have := HK1.out; have := HK2.out; have := HJ36.out; have := HK4.out; have := HJ60.out; omega⟩, ⟨by (try simp only [hl8_1]); (try simp only [hl8_2]); (try simp only [hl9_2]); (try simp only [hl9_36]); (try simp only [hl8_4]); (try simp only [hl9_4]); exact kR HO_8⟩, ⟨by (try simp only [hl8_1]); (try simp only [hl8_2]); (try simp only [hl9_2]); (try simp only [hl9_36]); (try simp only [hl8_4]); (try simp only [hl9_4]); exact kR HO_9⟩, ⟨by (try simp only [hl8_1]); (try simp only [hl8_2]); (try simp only [hl9_2]); (try simp only [hl9_36]); (try simp only [hl8_4]); (try simp only [hl9_4]); exact kR HO_82⟩, ⟨by (try simp only [hl8_1]); (try simp only [hl8_2]); (try simp only [hl9_2]); (try simp only [hl9_36]); (try simp only [hl8_4]); (try simp only [hl9_4]); exact bp BK340⟩, ⟨by (try simp only [hl8_1]); (try simp only [hl8_2]); (try simp only [hl9_2]); (try simp only [hl9_36]); (try simp only [hl8_4]); (try simp only [hl9_4]); exact bp BK354⟩, ⟨bw HB⟩⟩
   rw [if_neg c57] at H
   have c57b0 := decide_eq_false c57
   (try (have c57b0hl9_36 := c57b0; rw [hl9_36] at c57b0hl9_36))
   clear c57
   have H' := am H
   clear H
   go_wp2
   (try simp only [← hl8_2, ← hl9_2, ← hl9_36, ← hl8_4, ← hl9_4])
   go_roundg k4
   case measure => have := HK1.out; have := HK2.out; have := HJ36.out; have := HK4.out; omega
   case rel => exact ⟨(x8_4), (x9_4), (x14_4), dr, H', ⟨by have := HK1.out; have := HK2.out; have := HJ36.out; have := HK4.out; omega⟩, ⟨by (try simp only [hl8_1]); (try simp only [hl8_2]); (try simp only [hl9_2]); (try simp only [hl9_36]); (try simp only [hl8_4]); (try simp only [hl9_4]); (with_reducible repeat (first | apply Kd.R_alloc | apply Kd.R_drewN | apply Kd.R_drew)); exact Kd.R_mono HO_8.out (fun _ hk => trivial)⟩, ⟨by (try simp only [hl8_1]); (try simp only [hl8_2]); (try simp only [hl9_2]); (try simp only [hl9_36]); (try simp only [hl8_4]); (try simp only [hl9_4]); exact kR HO_9⟩, ⟨by (try simp only [hl8_1]); (try simp only [hl8_2]); (try simp only [hl9_2]); (try simp only [hl9_36]); (try simp only [hl8_4]); (try simp only [hl9_4]); exact bp BK340⟩, ⟨bw HB⟩⟩
  have H' := am H
  clear H
  have p351 : 0 ≤ (x11_2 : Int) := of_decide_eq_true as1
  have q351 : x11_2 < (x9_2.length : Int) := of_decide_eq_true as1
  obtain ⟨ad351, e351, hx351_0⟩ := Kd.at_bool (Kd.R_reads' HO_9.out).2.2 x11_2 p351 q351
  (try rw [← Nbq32.out] at hx351_0)
  obtain rfl : (⟨go24, 0, none⟩ : Addr) = ad351 := (by injection e351)
  (first | simp only [add_plain] at hx351_0 | simp only [add_at] at hx351_0 | simp only [Addr.add, Nat.zero_add] at hx351_0 | skip)
  replace p351 := eq_true p351
  replace q351 := eq_true q351
  go_wp2
  (try simp only [← hl8_2, ← hl9_2])
  go_roundg k2
  case measure => have := HK1.out; have := HK2.out; omega
  case rel => exact ⟨(x8_2), (x9_2), (wrap64 (x11_2 + 1)), dr, H', ⟨by have := HK1.out; have := HK2.out; omega⟩, ⟨by (try simp only [hl8_1]); (try simp only [hl8_2]); (try simp only [hl9_2]); exact kR HO_8⟩, ⟨by (try simp only [hl8_1]); (try simp only [hl8_2]); (try simp only [hl9_2]); exact kR HO_9⟩, ⟨by (try simp only [hl8_1]); (try simp only [hl8_2]); (try simp only [hl9_2]); exact bp BK340⟩, ⟨bw HB⟩⟩
 rw [if_neg c29] at H
 have c29b0 := decide_eq_false c29
 clear c29
 simp only [Option.some.injEq, Prod.mk.injEq] at H
 obtain ⟨rfl, rfl, rfl⟩ := H
 go_wp2
 go_ret3
 exact ⟨_, er, kR HO_8, bw HB⟩

end Go.Proofs.Ytcdohkilplgmjaa.QFnExactPlain
