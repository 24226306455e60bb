import Derived.Test.YtmfhmfhkknijeaaCFnExactAsmRightx0
import Derived.Test.YtmfhmfhkknijeaaCFnExactAsmRightx13
namespace Go.Proofs.Ytmfhmfhkknijeaa.QFnExactAsmRight
open Go.RowKit Go.Proofs.YtmfhmfhkknijeaaW
open PrintWords PrintLast PrintMore PrintShort
attribute [local go_sem] max2_int min2_int max_two min_two max_three min_three max_four min_four   -- for this text's walks alone
set_option linter.unusedVariables false
set_option maxHeartbeats 8000000
set_option maxRecDepth 100000
set_option linter.unusedSimpArgs false

mutual
def impl_heightsOf.l0 : Nat → List (S88) → List Int → List Bool → Int → Int → List (S50) → Option (List Int × Int × Int)
 | 0, _, _, _, _, _, _ => none
 | k + 1, x7, x8, x9, x30, x31, x387000 => if x31 < x30 then (if 0 ≤ x31 then (if x31 < (x8.length : Int) then (impl_heightsOf.l0 k x7 (x8.set (x31 : Int).toNat (-1)) x9 x30 (wrap64 (x31 + 1)) x387000) else (none)) else (none)) else (if 0 < (x8.length : Int) then (if 0 < (x9.length : Int) then (impl_heightsOf.l1 k x7 (x8.set (0 : Int).toNat 0) (x9.set (0 : Int).toNat true) 0 x387000) else (none)) else (none))
def impl_heightsOf.l1 : Nat → List (S88) → List Int → List Bool → Int → List (S50) → Option (List Int × Int × Int)
 | 0, _, _, _, _, _ => none
 | k + 1, x7, x8, x9, x11, x387000 => if x11 < (x7.length : Int) then (if 0 ≤ x11 then (if x11 < (x9.length : Int) then (if rdOf false x9 x11 = true then ((some (x9.set (x11 : Int).toNat false : List Bool)).bind fun y398 => (if x11 < (x8.length : Int) then ((impl_Takes.f k x387000 ((rd_T88 x7 x11).f0) ((rd_T88 x7 x11).f1)).bind fun t402 => (if (wrap64 ((rd x8 x11) - t402)) < 0 then (impl_heightsOf.j2 k x7 x8 y398 x11 (wrap64 ((rd x8 x11) - t402)) true x387000 ((rd_T88 x7 x11).f0) ((rd_T88 x7 x11).f1)) else ((impl_Puts.f k ((rd_T88 x7 x11).f0) ((rd_T88 x7 x11).f1)).bind fun t403 => (impl_heightsOf.j2 k x7 x8 y398 x11 (wrap64 ((rd x8 x11) - t402)) (decide ((wrap64 ((wrap64 ((rd x8 x11) - t402)) + t403)) > 8)) x387000 ((rd_T88 x7 x11).f0) ((rd_T88 x7 x11).f1))))) else (none))) else (impl_heightsOf.l1 k x7 x8 x9 (wrap64 (x11 + 1)) x387000)) else (none)) else (none)) else (some (x8, 0, 0))
def impl_heightsOf.j2 : Nat → List (S88) → List Int → List Bool → Int → Int → Bool → List (S50) → Int → Int → Option (List Int × Int × Int)
 | 0, _, _, _, _, _, _, _, _, _ => none
 | k + 1, x7, x8, x9, x11, x13, x76, x387000, x401000, x401001 => if x76 = true then (some (x8, x11, 5)) else ((impl_next.f x401000 x401001 x11).bind fun t404 => (impl_heightsOf.l2 k x7 x8 x9 x11 x13 x11 t404 (t404.length : Int) 0 x387000 x401000 x401001))
def impl_heightsOf.l2 : Nat → List (S88) → List Int → List Bool → Int → Int → Int → List Int → Int → Int → List (S50) → Int → Int → Option (List Int × Int × Int)
 | 0, _, _, _, _, _, _, _, _, _, _, _, _ => none
 | k + 1, x7, x8, x9, x11, x13, x14, x82, x83, x84, x387000, x401000, x401001 => if x84 < x83 then (if 0 ≤ x84 then (if x84 < (x82.length : Int) then (if (rd x82 x84) = (x7.length : Int) then (some (x8, x11, 6)) else (if 0 ≤ (rd x82 x84) then (if (rd x82 x84) < (x8.length : Int) then (if (rd x8 (rd x82 x84)) ≥ 0 then ((impl_Puts.f k x401000 x401001).bind fun t410 => (impl_heightsOf.j4 k x7 x8 x9 x11 x13 x14 (rd x82 x84) x82 x83 x84 ((rd x8 (rd x82 x84)) != (wrap64 (x13 + t410))) x387000 x401000 x401001)) else (impl_heightsOf.j4 k x7 x8 x9 x11 x13 x14 (rd x82 x84) x82 x83 x84 false x387000 x401000 x401001)) else (none)) else (none))) else (none)) else (none)) else (impl_heightsOf.l1 k x7 x8 x9 x14 x387000)
def impl_heightsOf.j4 : Nat → List (S88) → List Int → List Bool → Int → Int → Int → Int → List Int → Int → Int → Bool → List (S50) → Int → Int → Option (List Int × Int × Int)
 | 0, _, _, _, _, _, _, _, _, _, _, _, _, _, _ => none
 | k + 1, x7, x8, x9, x11, x13, x14, x16, x82, x83, x84, x109, x387000, x401000, x401001 => if x109 = true then (some (x8, x11, 5)) else (if 0 ≤ x16 then (if x16 < (x8.length : Int) then (if (rd x8 x16) < 0 then ((impl_Puts.f k x401000 x401001).bind fun t412 => (if x16 < (x9.length : Int) then (impl_heightsOf.l2 k x7 (x8.set (x16 : Int).toNat (wrap64 (x13 + t412))) (x9.set (x16 : Int).toNat true) x11 x13 (mn x14 x16) x82 x83 (wrap64 (x84 + 1)) x387000 x401000 x401001) else (none))) else (impl_heightsOf.l2 k x7 x8 x9 x11 x13 x14 x82 x83 (wrap64 (x84 + 1)) x387000 x401000 x401001)) else (none)) else (none))
end
def impl_heightsOf.f (k : Nat) (l0_0 : List (S50)) (a1 : Int) : Option (List Int × Int × Int) := if 0 ≤ a1 then (if a1 < (l0_0.length : Int) then (if 0 ≤ (((rd_T50 l0_0 a1).f2).length : Int) then (if ((((rd_T50 l0_0 a1).f2).length : Int) : Int).toNat ≤ 35184372088832 then ((some (List.replicate ((((rd_T50 l0_0 a1).f2).length : Int) : Int).toNat 0 : List Int)).bind fun y388 => (if ((((rd_T50 l0_0 a1).f2).length : Int) : Int).toNat ≤ 281474976710656 then (impl_heightsOf.l0 k ((rd_T50 l0_0 a1).f2) y388 (List.replicate ((((rd_T50 l0_0 a1).f2).length : Int) : Int).toNat false) (y388.length : Int) 0 l0_0) else (none))) else (none)) else (none)) else (none)) else (none)
theorem impl_heightsOf.mono_l : ∀ k, (∀ y0 y1 y2 y3 y4 y5, LeO (impl_heightsOf.l0 k y0 y1 y2 y3 y4 y5) (impl_heightsOf.l0 (k + 1) y0 y1 y2 y3 y4 y5)) ∧ (∀ y0 y1 y2 y3 y4, LeO (impl_heightsOf.l1 k y0 y1 y2 y3 y4) (impl_heightsOf.l1 (k + 1) y0 y1 y2 y3 y4)) ∧ (∀ y0 y1 y2 y3 y4 y5 y6 y7 y8, LeO (impl_heightsOf.j2 k y0 y1 y2 y3 y4 y5 y6 y7 y8) (impl_heightsOf.j2 (k + 1) y0 y1 y2 y3 y4 y5 y6 y7 y8)) ∧ (∀ y0 y1 y2 y3 y4 y5 y6 y7 y8 y9 y10 y11, LeO (impl_heightsOf.l2 k y0 y1 y2 y3 y4 y5 y6 y7 y8 y9 y10 y11) (impl_heightsOf.l2 (k + 1) y0 y1 y2 y3 y4 y5 y6 y7 y8 y9 y10 y11)) ∧ (∀ y0 y1 y2 y3 y4 y5 y6 y7 y8 y9 y10 y11 y12 y13, LeO (impl_heightsOf.j4 k y0 y1 y2 y3 y4 y5 y6 y7 y8 y9 y10 y11 y12 y13) (impl_heightsOf.j4 (k + 1) y0 y1 y2 y3 y4 y5 y6 y7 y8 y9 y10 y11 y12 y13))
 | 0 => ⟨fun _ _ _ _ _ _ r h => by simp [impl_heightsOf.l0] at h, fun _ _ _ _ _ r h => by simp [impl_heightsOf.l1] at h, fun _ _ _ _ _ _ _ _ _ r h => by simp [impl_heightsOf.j2] at h, fun _ _ _ _ _ _ _ _ _ _ _ _ r h => by simp [impl_heightsOf.l2] at h, fun _ _ _ _ _ _ _ _ _ _ _ _ _ _ r h => by simp [impl_heightsOf.j4] at h⟩
 | k + 1 => by
  obtain ⟨ih0, ih1, ih2, ih3, ih4⟩ := impl_heightsOf.mono_l k
  refine ⟨?_, ?_, ?_, ?_, ?_⟩
  ·intro y0 y1 y2 y3 y4 y5
   unfold impl_heightsOf.l0
   with_reducible repeat' first | exact ih0 .. | exact ih1 .. | exact ih2 .. | exact ih3 .. | exact ih4 .. | exact impl_Puts.mono .. | exact impl_Takes.mono .. | exact LeO.refl _ | exact LeO.none _ | refine LeO.ite ?_ ?_ | refine LeO.bind ?_ (fun _ => ?_)
  ·intro y0 y1 y2 y3 y4
   unfold impl_heightsOf.l1
   with_reducible repeat' first | exact ih0 .. | exact ih1 .. | exact ih2 .. | exact ih3 .. | exact ih4 .. | exact impl_Puts.mono .. | exact impl_Takes.mono .. | exact LeO.refl _ | exact LeO.none _ | refine LeO.ite ?_ ?_ | refine LeO.bind ?_ (fun _ => ?_)
  ·intro y0 y1 y2 y3 y4 y5 y6 y7 y8
   unfold impl_heightsOf.j2
   with_reducible repeat' first | exact ih0 .. | exact ih1 .. | exact ih2 .. | exact ih3 .. | exact ih4 .. | exact impl_Puts.mono .. | exact impl_Takes.mono .. | exact LeO.refl _ | exact LeO.none _ | refine LeO.ite ?_ ?_ | refine LeO.bind ?_ (fun _ => ?_)
  ·intro y0 y1 y2 y3 y4 y5 y6 y7 y8 y9 y10 y11
   unfold impl_heightsOf.l2
   with_reducible repeat' first | exact ih0 .. | exact ih1 .. | exact ih2 .. | exact ih3 .. | exact ih4 .. | exact impl_Puts.mono .. | exact impl_Takes.mono .. | exact LeO.refl _ | exact LeO.none _ | refine LeO.ite ?_ ?_ | refine LeO.bind ?_ (fun _ => ?_)
  ·intro y0 y1 y2 y3 y4 y5 y6 y7 y8 y9 y10 y11 y12 y13
   unfold impl_heightsOf.j4
   with_reducible repeat' first | exact ih0 .. | exact ih1 .. | exact ih2 .. | exact ih3 .. | exact ih4 .. | exact impl_Puts.mono .. | exact impl_Takes.mono .. | exact LeO.refl _ | exact LeO.none _ | refine LeO.ite ?_ ?_ | refine LeO.bind ?_ (fun _ => ?_)
theorem impl_heightsOf.mono : ∀ a0 a1 k, LeO (impl_heightsOf.f k a0 a1) (impl_heightsOf.f (k + 1) a0 a1) := by
 intro a0 a1 k
 obtain ⟨ih0, ih1, ih2, ih3, ih4⟩ := impl_heightsOf.mono_l k
 unfold impl_heightsOf.f
 with_reducible repeat' first | exact ih0 .. | exact ih1 .. | exact ih2 .. | exact ih3 .. | exact ih4 .. | exact impl_Puts.mono .. | exact impl_Takes.mono .. | exact LeO.refl _ | exact LeO.none _ | refine LeO.ite ?_ ?_ | refine LeO.bind ?_ (fun _ => ?_)
def impl_heightsOf.T17 : Bool × List (List Nat × List Nat) := (true, [([], []), ([], []), ([0, 1], [0, 1]), ([2], [2]), ([], []), ([], []), ([4, 5], [4, 5]), ([3, 6], [3, 6]), ([7, 6, 0, 1, 2, 3, 4, 5, 6, 7], [7])])
def impl_heightsOf.B17 : List Nat := [0, 0, 3, 7, 0, 0, 48, 127, 255]
theorem impl_heightsOf.tab17 : rtab .any (opsOf Try.f61 17) = impl_heightsOf.T17 := by kernel_rfl
theorem impl_heightsOf.bits17 : waitsOk impl_heightsOf.T17.2 impl_heightsOf.B17 = true := by kernel_rfl
def impl_heightsOf.T26 : Bool × List (List Nat × List Nat) := (true, [([], []), ([], []), ([0, 1], [0, 1]), ([2], [2]), ([3], [3]), ([4], [4]), ([5], [5]), ([5], [5]), ([6, 7, 5], [5, 6, 7]), ([8, 5], [5, 8]), ([5], [5]), ([5], [5]), ([11, 5, 5], [5, 11]), ([10, 12, 5], [5, 10, 12]), ([9, 13, 5], [5, 9, 13]), ([5, 14], [5, 14])])
def impl_heightsOf.B26 : List Nat := [0, 0, 3, 7, 15, 31, 63, 63, 255, 511, 63, 63, 2111, 7231, 16383, 32767]
theorem impl_heightsOf.tab26 : rtab .any (opsOf Try.f61 26) = impl_heightsOf.T26 := by kernel_rfl
theorem impl_heightsOf.bits26 : waitsOk impl_heightsOf.T26.2 impl_heightsOf.B26 = true := by kernel_rfl
theorem impl_heightsOf.calls (k : Nat) (A0_0 : Option Addr) (c0_0 : Nat) (l0_0 : List (S50)) (a1 : Int) (r1 : List Int) (r2 : Int) (r3 : Int) (w : World) (hr0_0 : Kd.C k50 w A0_0 l0_0.length l0_0) (hc0_0 : l0_0.length ≤ c0_0) (h : impl_heightsOf.f k l0_0 a1 = some (r1, r2, r3)) :
  Calls Try.prog 61 #[.agg #[.slice A0_0 l0_0.length c0_0], .int .i64 a1] w fun e w' => ∃ v0_ : Value, e = .returned (.tuple #[v0_, .int .i64 r2, .int .i64 r3]) ∧ Kd.R (Kd.int .i64) 2 w' w.heap.size (fun _ => True) v0_ r1 ∧ Below w.heap.size w w' := by
 have hu34 := Try.underlying34
 have hu88 := Try.underlying88
 have HR0_0 := am hr0_0
 have HC0_0 := am hc0_0
 clear hr0_0 hc0_0
 have HB := am (Below.refl w.heap.size w)
 have H : (if 0 ≤ a1 then (if a1 < (l0_0.length : Int) then (if 0 ≤ (((rd_T50 l0_0 a1).f2).length : Int) then (if ((((rd_T50 l0_0 a1).f2).length : Int) : Int).toNat ≤ 35184372088832 then ((some (List.replicate ((((rd_T50 l0_0 a1).f2).length : Int) : Int).toNat 0 : List Int)).bind fun y388 => (if ((((rd_T50 l0_0 a1).f2).length : Int) : Int).toNat ≤ 281474976710656 then (impl_heightsOf.l0 k ((rd_T50 l0_0 a1).f2) y388 (List.replicate ((((rd_T50 l0_0 a1).f2).length : Int) : Int).toNat false) (y388.length : Int) 0 l0_0) else (none))) else (none)) else (none)) else (none)) else (none)) = some (r1, r2, r3) := h
 clear h
 refine iN H ?_; clear H; intro c3 H
 have c3b0 := decide_eq_true c3
 clear c3
 refine iN H ?_; clear H; intro c4 H
 have c4b0 := decide_eq_true c4
 clear c4
 refine iN H ?_; clear H; intro c5 H
 have c5b0 := eq_true c5
 have c5b1 := decide_eq_true c5
 clear c5
 refine iN H ?_; clear H; intro c6 H
 have c6b0 := eq_true c6
 have c6b1 := decide_eq_true c6
 clear c6
 obtain ⟨y388, hy388⟩ : ∃ y_ : List Int, y_ = (List.replicate ((((rd_T50 l0_0 a1).f2).length : Int) : Int).toNat 0) := ⟨_, rfl⟩
 replace H : (if ((((rd_T50 l0_0 a1).f2).length : Int) : Int).toNat ≤ 281474976710656 then (impl_heightsOf.l0 k ((rd_T50 l0_0 a1).f2) y388 (List.replicate ((((rd_T50 l0_0 a1).f2).length : Int) : Int).toNat false) (y388.length : Int) 0 l0_0) else (none)) = some (r1, r2, r3) := by first | (rw [hy388]; with_reducible exact H) | (have H2_ := (Option.bind_some _ _).symm.trans H; rw [hy388]; with_reducible exact H2_) | (have H2_ := (Option.bind_some _ _).symm.trans H; with_reducible exact H2_) | with_reducible exact H | (rw [hy388]; exact H) | exact H
 have Ny388 := am hy388
 clear hy388
 refine iN H ?_; clear H; intro c7 H
 have c7b0 := eq_true c7
 have c7b1 := decide_eq_true c7
 clear c7
 obtain ⟨y391, hy391⟩ : ∃ y_ : List Bool, y_ = (List.replicate ((((rd_T50 l0_0 a1).f2).length : Int) : Int).toNat false) := ⟨_, rfl⟩
 replace H : (impl_heightsOf.l0 k ((rd_T50 l0_0 a1).f2) y388 y391 (y388.length : Int) 0 l0_0) = some (r1, r2, r3) := by first | (rw [hy391]; with_reducible exact H) | (have H2_ := (Option.bind_some _ _).symm.trans H; rw [hy391]; with_reducible exact H2_) | (have H2_ := (Option.bind_some _ _).symm.trans H; with_reducible exact H2_) | with_reducible exact H | (rw [hy391]; exact H) | exact H
 have Ny391 := am hy391
 clear hy391
 have H' := am H
 clear H
 go_enter Try.func61, Try.ntmps61
 go_wp2_with (first | ((with_reducible refine gd 2 rfl ?_); refine bX 2 #[.slice A0_0 l0_0.length c0_0] 34 HB ?_; clear HB; intro gb386 w8 hg hb BK386 GW386 HB; clear hb hg; have hcz9 := bK w8 BK386; have hfz9 := bF BK386; have p387 : 0 ≤ (a1 : Int) := of_decide_eq_true as1; have q387 : a1 < (l0_0.length : Int) := of_decide_eq_true as1; obtain ⟨ad387, A387_2, c387_2, e387, hx387_0, hx387_1, hx387_2, hl387_2, hi387_2⟩ := at_T50 HR0_0.out a1 p387 q387; cases e387; replace hx387_0 := cl HB hx387_0; replace hx387_1 := cl HB hx387_1; replace hx387_2 := cl HB hx387_2; have HR387_2 := am hi387_2; have HC387_2 := am hl387_2; clear hi387_2 hl387_2; replace p387 := eq_true p387; replace q387 := eq_true q387) | ((with_reducible refine gate_dst (N := 25) rfl ?_); refine Kd.R_make (Kd.int .i64) _ 2 rfl (N := 25) rfl 51 _ _ rfl (((rd_T50 l0_0 a1).f2).length : Int) rfl rfl Try.underlying51 (.int .i64 0) 8 info2 rfl (by decide) (by omega) 0 (ok := fun _ => True) (okp := fun _ => True) rfl (fun _ hk => hk) trivial (of_decide_eq_true as1) (Nat.le_trans (Nat.mul_le_mul_right _ (of_decide_eq_true as1 : (((rd_T50 l0_0 a1).f2).length : Int).toNat ≤ 35184372088832)) (by omega)) (Below.refl _ _) (Nat.le_refl _) ?_; intro v389 w10 ho11 hb hg_ hnew_; clear hg_ hnew_; (first | rw [← Ny388.out] at ho11 | (simp only [Int.reduceToNat] at ho11; rw [← Ny388.out] at ho11)); have HO390 := am (Kd.R_lower ho11 (below_size (bw HB))); replace BK386 := bb BK386 hb; replace HB := bs HB hb; clear hb ho11) | ((with_reducible refine gate_dst (N := 28) rfl ?_); refine Kd.R_make Kd.bool _ 4 rfl (N := 28) rfl 85 _ _ rfl (((rd_T50 l0_0 a1).f2).length : Int) rfl rfl Try.underlying85 (.bool false) 1 info4 rfl (by decide) (by omega) false (ok := fun _ => True) (okp := fun _ => True) rfl (fun _ hk => hk) trivial (of_decide_eq_true as1) (Nat.le_trans (Nat.mul_le_mul_right _ (of_decide_eq_true as1 : (((rd_T50 l0_0 a1).f2).length : Int).toNat ≤ 281474976710656)) (by omega)) (Below.refl _ _) (Nat.le_refl _) ?_; intro v392 w12 ho13 hb hg_ hnew_; clear hg_ hnew_; (first | rw [← Ny391.out] at ho13 | (simp only [Int.reduceToNat] at ho13; rw [← Ny391.out] at ho13)); replace HO390 := am (Kd.R_below (kR HO390) hb); have HO393 := am (Kd.R_lower ho13 (below_size (bw HB))); replace BK386 := bb BK386 hb; replace HB := bs HB hb; clear hb ho13; obtain ⟨Ao14, co14, eo14⟩ := Kd.R_slice HO390.out; subst eo14))
 go_loopg [31] k (fun kq v31 w' => ∃ (x8_1 : List Int) (x31_1 : Int), v31 = .int .i64 x31_1 ∧ Aside0 (impl_heightsOf.l0 kq ((rd_T50 l0_0 a1).f2) x8_1 y391 (y388.length : Int) x31_1 l0_0 = some (r1, r2, r3)) ∧ Aside0 (kq ≤ k) ∧ Aside0 (Kd.R (Kd.int .i64) 2 w' w.heap.size (fun _ => True) (.slice Ao14 y388.length co14) x8_1) ∧ Aside0 (Kd.R Kd.bool 4 w' w.heap.size (fun _ => True) v392 y391) ∧ Aside0 (w'.heap[gb386]? = some (.cells #[(.slice (some ad387) l0_0.length c0_0)] 34 (0, 0))) ∧ Aside0 (Below w.heap.size w w'))
 case atStart => exact ⟨(y388), (0), dr, H', ⟨Nat.le_refl _⟩, ⟨kR HO390⟩, ⟨kR HO393⟩, ⟨bp BK386⟩, ⟨bw HB⟩⟩
 clear H'
 (try clear p2); (try clear c3); (try clear c3b0); (try clear p3); (try clear q3); (try clear hx3); (try clear c4); (try clear c4b0); (try clear c5); (try clear c5b0); (try clear c5b1); (try clear c6); (try clear c6b0); (try clear c6b1); (try clear c7); (try clear c7b0); (try clear c7b1); (try clear hcz9); (try clear hfz9); (try clear hx387_0); (try clear hx387_1); (try clear hx387_2); (try clear p387); (try clear q387)
 obtain ⟨x8_1, x31_1, rfl, HA, HK1, HO_8, HO_9, BK386, HB⟩ := hrel
 have hl8_1 := (Kd.R_reads' HO_8.out).1
 rw [hl8_1] at HO_8
 (try simp only [hl8_1])
 (try simp only [hl8_1] at BK386)
 (try simp only [hl8_1] at HO_9)
 rcases gk with _ | k1
 ·exact absurd HA.out (by simp [impl_heightsOf.l0])
 have H := HA.out
 clear HA
 simp only [impl_heightsOf.l0] at H
 by_cases c15 : x31_1 < (y388.length : Int)
 ·rw [if_pos c15] at H
  have c15b0 := decide_eq_true c15
  (try (have c15b0hl8_1 := c15b0; rw [hl8_1] at c15b0hl8_1))
  clear c15
  refine iM H ?_; clear H; intro c16b0 H
  refine iM H ?_; clear H; intro c17b0 H
  obtain ⟨y394, hy394⟩ : ∃ y_ : List Int, y_ = (x8_1.set (x31_1 : Int).toNat (-1)) := ⟨_, rfl⟩
  replace H : (impl_heightsOf.l0 k1 ((rd_T50 l0_0 a1).f2) y394 y391 (y388.length : Int) (wrap64 (x31_1 + 1)) l0_0) = some (r1, r2, r3) := by first | (rw [hy394]; with_reducible exact H) | (have H2_ := (Option.bind_some _ _).symm.trans H; rw [hy394]; with_reducible exact H2_) | (have H2_ := (Option.bind_some _ _).symm.trans H; with_reducible exact H2_) | with_reducible exact H | (rw [hy394]; exact H) | exact H
  have Ny394 := am hy394
  clear hy394
  have H' := am H
  clear H
  have p18 : 0 ≤ (x31_1 : Int) := of_decide_eq_true as1
  have q18 : (x31_1 : Int) < ((x8_1.length : Int) : Int) := of_decide_eq_true as1
  obtain ⟨go18, co18, eo18, gb18, gl18, cl18, HG18⟩ := Kd.R_form HO_8.out (by omega)
  (first | cases eo18 | (injection eo18 with ea_ en_ ec_; (first | subst ea_ | (injection ea_ with ea_; subst ea_)); subst ec_; clear en_))
  have GB18 := am gb18
  have GG18 := am HG18
  clear gb18 gl18 HG18
  obtain ⟨hx18_0, hf18_0⟩ := Kd.R_celln 0 HO_8.out (x31_1 : Int) p18 q18
  replace p18 := eq_true p18
  replace q18 := eq_true q18
  have HP19 := Kd.R_putg HO_8.out (x31_1 : Int) (-1)
  go_wp2_with (first | ((with_reducible refine gt 2 36 rfl ?_); refine sE 2 36 (wr.setCell ⟨go18, (x31_1 : Int).toNat, none⟩ (.int .i64 (-1))) ?_; intro w20 hw; have hg : wr.grownBy w20 (some go18) := (by rw [hw]; exact HP19.2); have hp_ : Kd.R (Kd.int .i64) 2 w20 w.heap.size (fun _ => True) (.slice (some ⟨go18, 0, none⟩) x8_1.length co14) y394 := (by rw [hw, Ny394.out]; exact HP19.1); clear HP19; replace HO_9 := am (Kd.R_over' (v := (.slice (some ⟨go18, 0, none⟩) x8_1.length co14)) (kR HO_9) (Kd.R_typed HO_8.out) (by decide) hg); replace BK386 := bg BK386 hg (Kd.R_ne HO_8.out BK386.out (by decide)); replace HO_8 := am (hp_); replace HB := am ((by rw [hw]; exact below_set (HB.out) GB18.out : Below w.heap.size w w20)); clear hg hw hp_))
  (try simp only [← hl8_1])
  go_roundg k1
  case measure => have := HK1.out; omega
  case rel => exact ⟨(y394), (wrap64 (x31_1 + 1)), dr, H', ⟨by have := HK1.out; omega⟩, ⟨by (try simp only [hl8_1]); exact kR HO_8⟩, ⟨by (try simp only [hl8_1]); exact kR HO_9⟩, ⟨by (try simp only [hl8_1]); exact bp BK386⟩, ⟨bw HB⟩⟩
 rw [if_neg c15] at H
 have c15b0 := decide_eq_false c15
 (try (have c15b0hl8_1 := c15b0; rw [hl8_1] at c15b0hl8_1))
 clear c15
 refine iN H ?_; clear H; intro c21 H
 have c21b0 := decide_eq_true c21
 have c21b1 : decide (0 < x8_1.length) = true := decide_eq_true (by omega)
 clear c21
 obtain ⟨y395, hy395⟩ : ∃ y_ : List Int, y_ = (x8_1.set (0 : Int).toNat 0) := ⟨_, rfl⟩
 replace H : (if 0 < (y391.length : Int) then (impl_heightsOf.l1 k1 ((rd_T50 l0_0 a1).f2) y395 (y391.set (0 : Int).toNat true) 0 l0_0) else (none)) = some (r1, r2, r3) := by first | (rw [hy395]; with_reducible exact H) | (have H2_ := (Option.bind_some _ _).symm.trans H; rw [hy395]; with_reducible exact H2_) | (have H2_ := (Option.bind_some _ _).symm.trans H; with_reducible exact H2_) | with_reducible exact H | (rw [hy395]; exact H) | exact H
 have Ny395 := am hy395
 clear hy395
 refine iN H ?_; clear H; intro c23 H
 have c23b0 := decide_eq_true c23
 have c23b1 : decide (0 < y391.length) = true := decide_eq_true (by omega)
 clear c23
 obtain ⟨y396, hy396⟩ : ∃ y_ : List Bool, y_ = (y391.set (0 : Int).toNat true) := ⟨_, rfl⟩
 replace H : (impl_heightsOf.l1 k1 ((rd_T50 l0_0 a1).f2) y395 y396 0 l0_0) = some (r1, r2, r3) := by first | (rw [hy396]; with_reducible exact H) | (have H2_ := (Option.bind_some _ _).symm.trans H; rw [hy396]; with_reducible exact H2_) | (have H2_ := (Option.bind_some _ _).symm.trans H; with_reducible exact H2_) | with_reducible exact H | (rw [hy396]; exact H) | exact H
 have Ny396 := am hy396
 clear hy396
 have H' := am H
 clear H
 have p22 : 0 ≤ (0 : Int) := (by omega)
 have q22 : (0 : Int) < ((x8_1.length : Int) : Int) := of_decide_eq_true as1
 have qi22 : (0 < x8_1.length) = True := eq_true (by omega)
 obtain ⟨go22, co22, eo22, gb22, gl22, cl22, HG22⟩ := Kd.R_form HO_8.out (by omega)
 (first | cases eo22 | (injection eo22 with ea_ en_ ec_; (first | subst ea_ | (injection ea_ with ea_; subst ea_)); subst ec_; clear en_))
 have GB22 := am gb22
 have GG22 := am HG22
 clear gb22 gl22 HG22
 obtain ⟨hx22_0, hf22_0⟩ := Kd.R_celln 0 HO_8.out (0 : Int) p22 q22
 (try rw [show ((0 : Int)).toNat = 0 from rfl] at hx22_0)
 (try simp only [Nat.reduceMul, Nat.zero_mul, Nat.zero_add, Nat.reduceAdd] at hx22_0)
 (try rw [show ((0 : Int)).toNat = 0 from rfl] at hf22_0)
 (try simp only [Nat.reduceMul, Nat.zero_mul, Nat.zero_add, Nat.reduceAdd] at hf22_0)
 replace p22 := eq_true p22
 replace q22 := eq_true q22
 have HP25 := Kd.R_putg HO_8.out (0 : Int) 0
 go_wp2_with (first | ((with_reducible refine gt 2 39 rfl ?_); refine sE 2 39 (wr.setCell ⟨go22, (0 : Int).toNat, none⟩ (.int .i64 0)) ?_; intro w26 hw; have hg : wr.grownBy w26 (some go22) := (by rw [hw]; exact HP25.2); have hp_ : Kd.R (Kd.int .i64) 2 w26 w.heap.size (fun _ => True) (.slice (some ⟨go22, 0, none⟩) x8_1.length co14) y395 := (by rw [hw, Ny395.out]; exact HP25.1); clear HP25; replace HO_9 := am (Kd.R_over' (v := (.slice (some ⟨go22, 0, none⟩) x8_1.length co14)) (kR HO_9) (Kd.R_typed HO_8.out) (by decide) hg); replace BK386 := bg BK386 hg (Kd.R_ne HO_8.out BK386.out (by decide)); replace HO_8 := am (hp_); replace HB := am ((by rw [hw]; exact below_set (HB.out) GB22.out : Below w.heap.size w w26)); clear hg hw hp_; have p24 : 0 ≤ (0 : Int) := (by omega); have q24 : (0 : Int) < ((y391.length : Int) : Int) := of_decide_eq_true as1; have qi24 : (0 < y391.length) = True := eq_true (by omega); obtain ⟨go24, co24, eo24, gb24, gl24, cl24, HG24⟩ := Kd.R_form HO_9.out (by omega); (first | cases eo24 | (injection eo24 with ea_ en_ ec_; (first | subst ea_ | (injection ea_ with ea_; subst ea_)); subst ec_; clear en_)); have GB24 := am gb24; have GG24 := am HG24; clear gb24 gl24 HG24; obtain ⟨hx24_0, hf24_0⟩ := Kd.R_celln false HO_9.out (0 : Int) p24 q24; (try rw [show ((0 : Int)).toNat = 0 from rfl] at hx24_0); (try simp only [Nat.reduceMul, Nat.zero_mul, Nat.zero_add, Nat.reduceAdd] at hx24_0); (try rw [show ((0 : Int)).toNat = 0 from rfl] at hf24_0); (try simp only [Nat.reduceMul, Nat.zero_mul, Nat.zero_add, Nat.reduceAdd] at hf24_0); replace p24 := eq_true p24; replace q24 := eq_true q24; obtain ⟨hy27_, hz27_⟩ := Kd.R_celln false HO_9.out (0 : Int) (by omega) (of_decide_eq_true as1); (try simp only [Int.reduceToNat, Int.toNat_zero, Int.toNat_ofNat, Nat.reduceMul, Nat.zero_mul, Nat.zero_add] at hy27_ hz27_); (try rw [show ((0 : Int)).toNat = 0 from rfl] at hy27_); (try rw [show ((0 : Int)).toNat = 0 from rfl] at hz27_); have HP27 := Kd.R_putg HO_9.out (0 : Int) true) | ((with_reducible refine gt 4 41 rfl ?_); refine sE 4 41 (w26.setCell ⟨go24, (0 : Int).toNat, none⟩ (.bool true)) ?_; intro w28 hw; have hg : w26.grownBy w28 (some go24) := (by rw [hw]; exact HP27.2); have hp_ : Kd.R Kd.bool 4 w28 w.heap.size (fun _ => True) (.slice (some ⟨go24, 0, none⟩) y391.length co24) y396 := (by rw [hw, Ny396.out]; exact HP27.1); clear HP27; replace HO_8 := am (Kd.R_over' (v := (.slice (some ⟨go24, 0, none⟩) y391.length co24)) (kR HO_8) (Kd.R_typed HO_9.out) (by decide) hg); replace BK386 := bg BK386 hg (Kd.R_ne HO_9.out BK386.out (by decide)); replace HO_9 := am (hp_); replace HB := am ((by rw [hw]; exact below_set (HB.out) GB24.out : Below w.heap.size w w28)); clear hg hw hp_))
 go_loopg [11] k1 (fun kq v11 w' => ∃ (x8_2 : List Int) (x9_2 : List Bool) (x11_2 : Int), v11 = .int .i64 x11_2 ∧ Aside0 (impl_heightsOf.l1 kq ((rd_T50 l0_0 a1).f2) x8_2 x9_2 x11_2 l0_0 = some (r1, r2, r3)) ∧ Aside0 (kq ≤ k1) ∧ Aside0 (Kd.R (Kd.int .i64) 2 w' w.heap.size (fun _ => True) (.slice (some ⟨go22, 0, none⟩) x8_1.length co14) x8_2) ∧ Aside0 (Kd.R Kd.bool 4 w' w.heap.size (fun _ => True) (.slice (some ⟨go24, 0, none⟩) y391.length co24) x9_2) ∧ Aside0 (w'.heap[gb386]? = some (.cells #[(.slice (some ad387) l0_0.length c0_0)] 34 (0, 0))) ∧ Aside0 (Below w.heap.size w w'))
 case atStart => exact ⟨(y395), (y396), (0), dr, H', ⟨Nat.le_refl _⟩, ⟨by (try simp only [hl8_1]); exact kR HO_8⟩, ⟨by (try simp only [hl8_1]); exact kR HO_9⟩, ⟨by (try simp only [hl8_1]); exact bp BK386⟩, ⟨bw HB⟩⟩
 clear H'
 (try clear c1); (try clear p1); (try clear q1); (try clear hx1); (try clear c2); (try clear q2); (try clear hx2); (try clear qi2); (try clear hf2); (try clear p6); (try clear c15); (try clear c15b0); (try clear c16); (try clear c16b0); (try clear c17); (try clear c17b0); (try clear p18); (try clear q18); (try clear hx18); (try clear hf18); (try clear c21); (try clear c21b0); (try clear c21b1); (try clear p22); (try clear q22); (try clear hx22); (try clear qi22); (try clear hf22); (try clear c23); (try clear c23b0); (try clear c23b1); (try clear p24); (try clear q24); (try clear hx24); (try clear qi24); (try clear hf24); (try clear hx18_0); (try clear hx22_0); (try clear hx24_0); (try clear p18); (try clear p22); (try clear p24); (try clear q18); (try clear q22); (try clear q24)
 obtain ⟨x8_2, x9_2, x11_2, rfl, HA, HK2, HO_8, HO_9, BK386, HB⟩ := hrel
 have hl8_2 := (Kd.R_reads' HO_8.out).1
 rw [hl8_2] at HO_8
 (try simp only [hl8_2])
 (try simp only [hl8_2] at BK386)
 (try simp only [hl8_2] at HO_9)
 have hl9_2 := (Kd.R_reads' HO_9.out).1
 rw [hl9_2] at HO_9
 (try simp only [hl9_2])
 (try simp only [hl9_2] at BK386)
 (try simp only [hl9_2] at HO_8)
 rcases gk with _ | k2
 ·exact absurd HA.out (by simp [impl_heightsOf.l1])
 have H := HA.out
 clear HA
 simp only [impl_heightsOf.l1] at H
 by_cases c29 : x11_2 < (((rd_T50 l0_0 a1).f2).length : Int)
 ·rw [if_pos c29] at H
  have c29b0 := decide_eq_true c29
  clear c29
  refine iN H ?_; clear H; intro c30 H
  have c30b0 := decide_eq_true c30
  clear c30
  refine iN H ?_; clear H; intro c31 H
  have c31b0 := decide_eq_true c31
  clear c31
  obtain ⟨bq32, hbq32⟩ : ∃ b_ : Bool, b_ = (rdOf false x9_2 x11_2) := ⟨_, rfl⟩
  replace H : (if bq32 = true then ((some (x9_2.set (x11_2 : Int).toNat false : List Bool)).bind fun y398 => (if x11_2 < (x8_2.length : Int) then ((impl_Takes.f k2 l0_0 ((rd_T88 ((rd_T50 l0_0 a1).f2) x11_2).f0) ((rd_T88 ((rd_T50 l0_0 a1).f2) x11_2).f1)).bind fun t402 => (if (wrap64 ((rd x8_2 x11_2) - t402)) < 0 then (impl_heightsOf.j2 k2 ((rd_T50 l0_0 a1).f2) x8_2 y398 x11_2 (wrap64 ((rd x8_2 x11_2) - t402)) true l0_0 ((rd_T88 ((rd_T50 l0_0 a1).f2) x11_2).f0) ((rd_T88 ((rd_T50 l0_0 a1).f2) x11_2).f1)) else ((impl_Puts.f k2 ((rd_T88 ((rd_T50 l0_0 a1).f2) x11_2).f0) ((rd_T88 ((rd_T50 l0_0 a1).f2) x11_2).f1)).bind fun t403 => (impl_heightsOf.j2 k2 ((rd_T50 l0_0 a1).f2) x8_2 y398 x11_2 (wrap64 ((rd x8_2 x11_2) - t402)) (decide ((wrap64 ((wrap64 ((rd x8_2 x11_2) - t402)) + t403)) > 8)) l0_0 ((rd_T88 ((rd_T50 l0_0 a1).f2) x11_2).f0) ((rd_T88 ((rd_T50 l0_0 a1).f2) x11_2).f1))))) else (none))) else (impl_heightsOf.l1 k2 ((rd_T50 l0_0 a1).f2) x8_2 x9_2 (wrap64 (x11_2 + 1)) l0_0)) = some (r1, r2, r3) := by rw [← hbq32] at H; exact H
  have Nbq32 := am hbq32
  clear hbq32
  refine qT H ?_ ?_ <;> clear H <;> intro c33 H <;> subst c33
  ·obtain ⟨y398, hy398⟩ : ∃ y_ : List Bool, y_ = (x9_2.set (x11_2 : Int).toNat false) := ⟨_, rfl⟩
   replace H : (if x11_2 < (x8_2.length : Int) then ((impl_Takes.f k2 l0_0 ((rd_T88 ((rd_T50 l0_0 a1).f2) x11_2).f0) ((rd_T88 ((rd_T50 l0_0 a1).f2) x11_2).f1)).bind fun t402 => (if (wrap64 ((rd x8_2 x11_2) - t402)) < 0 then (impl_heightsOf.j2 k2 ((rd_T50 l0_0 a1).f2) x8_2 y398 x11_2 (wrap64 ((rd x8_2 x11_2) - t402)) true l0_0 ((rd_T88 ((rd_T50 l0_0 a1).f2) x11_2).f0) ((rd_T88 ((rd_T50 l0_0 a1).f2) x11_2).f1)) else ((impl_Puts.f k2 ((rd_T88 ((rd_T50 l0_0 a1).f2) x11_2).f0) ((rd_T88 ((rd_T50 l0_0 a1).f2) x11_2).f1)).bind fun t403 => (impl_heightsOf.j2 k2 ((rd_T50 l0_0 a1).f2) x8_2 y398 x11_2 (wrap64 ((rd x8_2 x11_2) - t402)) (decide ((wrap64 ((wrap64 ((rd x8_2 x11_2) - t402)) + t403)) > 8)) l0_0 ((rd_T88 ((rd_T50 l0_0 a1).f2) x11_2).f0) ((rd_T88 ((rd_T50 l0_0 a1).f2) x11_2).f1))))) else (none)) = some (r1, r2, r3) := by first | (rw [hy398]; with_reducible exact H) | (have H2_ := (Option.bind_some _ _).symm.trans H; rw [hy398]; with_reducible exact H2_) | (have H2_ := (Option.bind_some _ _).symm.trans H; with_reducible exact H2_) | with_reducible exact H | (rw [hy398]; exact H) | exact H
   have Ny398 := am hy398
   clear hy398
   refine iN H ?_; clear H; intro c35 H
   have c35b0 := decide_eq_true c35
   (try (have c35b0hl8_2 := c35b0; rw [hl8_2] at c35b0hl8_2))
   clear c35
   refine be H ?_; clear H; intro t402 A36 H
   have HC37 := am H
   clear H
   have p397 : 0 ≤ (x11_2 : Int) := of_decide_eq_true as1
   have q397 : x11_2 < (x9_2.length : Int) := of_decide_eq_true as1
   obtain ⟨ad397, e397, hx397_0⟩ := Kd.at_bool (Kd.R_reads' HO_9.out).2.2 x11_2 p397 q397
   (try rw [← Nbq32.out] at hx397_0)
   obtain rfl : (⟨go24, 0, none⟩ : Addr) = ad397 := (by injection e397)
   (first | simp only [add_plain] at hx397_0 | simp only [add_at] at hx397_0 | simp only [Addr.add, Nat.zero_add] at hx397_0 | skip)
   replace p397 := eq_true p397
   replace q397 := eq_true q397
   have p34 : 0 ≤ (x11_2 : Int) := of_decide_eq_true as1
   have q34 : (x11_2 : Int) < ((x9_2.length : Int) : Int) := of_decide_eq_true as1
   obtain ⟨hx34_0, hf34_0⟩ := Kd.R_celln false HO_9.out (x11_2 : Int) p34 q34
   replace p34 := eq_true p34
   replace q34 := eq_true q34
   have HP38 := Kd.R_putg HO_9.out (x11_2 : Int) false
   try go_wp2_with (first | ((with_reducible refine gt 4 55 rfl ?_); refine sE 4 55 (wr.setCell ⟨go24, (x11_2 : Int).toNat, none⟩ (.bool false)) ?_; intro w39 hw; have hg : wr.grownBy w39 (some go24) := (by rw [hw]; exact HP38.2); have hp_ : Kd.R Kd.bool 4 w39 w.heap.size (fun _ => True) (.slice (some ⟨go24, 0, none⟩) x9_2.length co24) y398 := (by rw [hw, Ny398.out]; exact HP38.1); clear HP38; replace HO_8 := am (Kd.R_over' (v := (.slice (some ⟨go24, 0, none⟩) x9_2.length co24)) (kR HO_8) (Kd.R_typed HO_9.out) (by decide) hg); replace BK386 := bg BK386 hg (Kd.R_ne HO_9.out BK386.out (by decide)); replace HO_9 := am (hp_); replace HB := am ((by rw [hw]; exact below_set (HB.out) GB24.out : Below w.heap.size w w39)); clear hg hw hp_; have p399 : 0 ≤ (x11_2 : Int) := of_decide_eq_true as1; have q399 : x11_2 < (((rd_T50 l0_0 a1).f2).length : Int) := of_decide_eq_true as1; obtain ⟨ad399, e399, hx399_0, hx399_1⟩ := at_T88 HR387_2.out x11_2 p399 q399; cases e399; replace hx399_0 := cl HB hx399_0; replace hx399_1 := cl HB hx399_1; replace p399 := eq_true p399; replace q399 := eq_true q399) | ((with_reducible refine gd 12 rfl ?_); refine bX 12 #[.int .i64 0, .int .i64 0] 88 HB ?_; clear HB; intro gb400 w40 hg hb BK400 GW400 HB; replace HO_8 := am (Kd.R_below (kR HO_8) hb); replace HO_9 := am (Kd.R_below (kR HO_9) hb); obtain ⟨NB386_400, NB400_386, BK386⟩ := b3 hg BK386 hb; clear hb hg; have hnb41 := NB400_386.out; have hnc41 := NB386_400.out; have hcz42 := bK w40 BK400; have hfz42 := bF BK400))
   replace HO_8 : Aside0 (Kd.R (Kd.int .i64) 2 ((w40.setCell ⟨gb400, 0, none⟩ (.int .i64 ((rd_T88 ((rd_T50 l0_0 a1).f2) x11_2).f0))).setCell ⟨gb400, 1, none⟩ (.int .i64 ((rd_T88 ((rd_T50 l0_0 a1).f2) x11_2).f1))) w.heap.size (fun _ => True) (.slice (some ⟨go22, 0, none⟩) x8_2.length co14) x8_2) := ⟨by (with_reducible repeat (first | apply Kd.R_alloc | apply Kd.R_drewN | apply Kd.R_drew)); exact Kd.R_mono (Kd.R_far (p := ⟨gb400, 1, none⟩) (Kd.R_far (p := ⟨gb400, 0, none⟩) (Kd.R_types HO_8.out BK400.out (by decide)) (fun _ hk => hk.2) (.int .i64 ((rd_T88 ((rd_T50 l0_0 a1).f2) x11_2).f0))) (fun _ hk => hk.2) (.int .i64 ((rd_T88 ((rd_T50 l0_0 a1).f2) x11_2).f1))) (fun _ hk => trivial)⟩
   replace HO_9 : Aside0 (Kd.R Kd.bool 4 ((w40.setCell ⟨gb400, 0, none⟩ (.int .i64 ((rd_T88 ((rd_T50 l0_0 a1).f2) x11_2).f0))).setCell ⟨gb400, 1, none⟩ (.int .i64 ((rd_T88 ((rd_T50 l0_0 a1).f2) x11_2).f1))) w.heap.size (fun _ => True) (.slice (some ⟨go24, 0, none⟩) x9_2.length co24) y398) := ⟨by (with_reducible repeat (first | apply Kd.R_alloc | apply Kd.R_drewN | apply Kd.R_drew)); exact Kd.R_mono (Kd.R_far (p := ⟨gb400, 1, none⟩) (Kd.R_far (p := ⟨gb400, 0, none⟩) (Kd.R_types HO_9.out BK400.out (by decide)) (fun _ hk => hk.2) (.int .i64 ((rd_T88 ((rd_T50 l0_0 a1).f2) x11_2).f0))) (fun _ hk => hk.2) (.int .i64 ((rd_T88 ((rd_T50 l0_0 a1).f2) x11_2).f1))) (fun _ hk => trivial)⟩
   replace BK386 : Aside0 (((w40.setCell ⟨gb400, 0, none⟩ (.int .i64 ((rd_T88 ((rd_T50 l0_0 a1).f2) x11_2).f0))).setCell ⟨gb400, 1, none⟩ (.int .i64 ((rd_T88 ((rd_T50 l0_0 a1).f2) x11_2).f1))).heap[gb386]? = some (.cells #[.slice (some ad387) l0_0.length c0_0] 34 (0, 0))) := ⟨by (with_reducible repeat (first | apply dN | apply dW | apply dA)); refine blk_far ?_ NB386_400.out _; (with_reducible repeat (first | apply dN | apply dW | apply dA)); refine blk_far ?_ NB386_400.out _; exact bp BK386⟩
   replace BK400 : Aside0 (((w40.setCell ⟨gb400, 0, none⟩ (.int .i64 ((rd_T88 ((rd_T50 l0_0 a1).f2) x11_2).f0))).setCell ⟨gb400, 1, none⟩ (.int .i64 ((rd_T88 ((rd_T50 l0_0 a1).f2) x11_2).f1))).heap[gb400]? = some (.cells #[.int .i64 ((rd_T88 ((rd_T50 l0_0 a1).f2) x11_2).f0), .int .i64 ((rd_T88 ((rd_T50 l0_0 a1).f2) x11_2).f1)] 88 (0, 0))) := ⟨by (with_reducible repeat (first | apply dN | apply dW | apply dA)); refine blk_put (cs := #[.int .i64 ((rd_T88 ((rd_T50 l0_0 a1).f2) x11_2).f0), .int .i64 0]) ?_ 1 _ rfl; (with_reducible repeat (first | apply dN | apply dW | apply dA)); refine blk_put (cs := #[.int .i64 0, .int .i64 0]) ?_ 0 _ rfl; exact bp BK400⟩
   replace HB : Aside0 (Below w.heap.size w ((w40.setCell ⟨gb400, 0, none⟩ (.int .i64 ((rd_T88 ((rd_T50 l0_0 a1).f2) x11_2).f0))).setCell ⟨gb400, 1, none⟩ (.int .i64 ((rd_T88 ((rd_T50 l0_0 a1).f2) x11_2).f1)))) := ⟨bw HB⟩
   generalize ((w40.setCell ⟨gb400, 0, none⟩ (.int .i64 ((rd_T88 ((rd_T50 l0_0 a1).f2) x11_2).f0))).setCell ⟨gb400, 1, none⟩ (.int .i64 ((rd_T88 ((rd_T50 l0_0 a1).f2) x11_2).f1))) = w43 at HO_8 HO_9 BK386 BK400 HB ⊢
   replace HO_8 := am (Kd.R_drew HO_8.out)
   replace HO_9 := am (Kd.R_drew HO_9.out)
   replace BK386 := am (blk_drew BK386.out)
   replace BK400 := am (blk_drew BK400.out)
   replace HB := am (below_drew1 HB.out)
   obtain ⟨p401, q401, hx401_0⟩ := aR HO_8 x11_2
   refine start_ (n := 9) (S := fun w' => w'.cell? ⟨gb386, 0, none⟩ = some (.slice (some ad387) l0_0.length c0_0) ∧ w'.cell? ⟨gb400, 0, none⟩ = some (.int .i64 ((rd_T88 ((rd_T50 l0_0 a1).f2) x11_2).f0)) ∧ w'.cell? ⟨gb400, 1, none⟩ = some (.int .i64 ((rd_T88 ((rd_T50 l0_0 a1).f2) x11_2).f1)) ∧ w'.cell? ⟨go22, (x11_2).toNat, none⟩ = some (.int .i64 (rd x8_2 x11_2))) (ds := []) (bv 9 0) (by kernel_rfl) rfl (by kernel_rfl) ⟨bc BK386 0, bc BK400 0, bc BK400 1, hx401_0⟩ (fun hHeld => ?_); refine with_tabW impl_heightsOf.tab17 impl_heightsOf.bits17 (fun HT_ HW_ => ?_)
   generalize w43.drew = w44 at HO_8 HO_9 BK386 BK400 HB hx401_0 hHeld ⊢
   refine pu 0 60 9 1 HT_ ?_
   refine pu 1 61 9 3 HT_ ?_
   refine pu 2 62 9 7 HT_ ?_
   refine tk 3 63 9 15 HT_ HW_ hHeld ?_
   refine tk 4 64 9 31 HT_ HW_ hHeld ?_
   refine tk 5 65 9 63 HT_ HW_ hHeld ?_
   refine on 6 (some 66) 9 127 HT_ fun K hK => ?_
   refine goes_ Try.func68 (by kernel_rfl) rfl #[.agg #[.slice (some ad387) l0_0.length c0_0], .agg #[.int .i64 ((rd_T88 ((rd_T50 l0_0 a1).f2) x11_2).f0), .int .i64 ((rd_T88 ((rd_T50 l0_0 a1).f2) x11_2).f1)]] (by rfl) rfl rfl gl ?_
   with_reducible refine (impl_Takes.calls k2 _ _ l0_0 ((rd_T88 ((rd_T50 l0_0 a1).f2) x11_2).f0) ((rd_T88 ((rd_T50 l0_0 a1).f2) x11_2).f1) t402 _ ?side1 ?side2 A36.out).mono ?_
   (case side1 => exact cc (Kd.C_below HR0_0.out HB.out))
   (case side2 => exact HC0_0.out)
   rintro e w45 ⟨rfl, hb⟩
   have HS3_ := (hb.cell (World.block_lt_of_cell? _ _ (hHeld.2.2.2))).trans (hHeld.2.2.2)
   refine ⟨_, rfl, ?_⟩
   replace HO_8 := am (Kd.R_below (kR HO_8) hb)
   replace HO_9 := am (Kd.R_below (kR HO_9) hb)
   replace BK386 := bb BK386 hb
   replace BK400 := bb BK400 hb
   replace HB := am (below_step (bw HB) hb)
   clear hb
   refine hK.out _ _ ⟨bc BK386 0, bc BK400 0, bc BK400 1, HS3_⟩ (fun hHeld => ?_)
   clear hK K
   refine nm (some 66) ?_
   refine pu 7 67 9 255 HT_ ?_
   refine pu 8 13 9 511 HT_ ?_
   refine done_ (done_of HT_.out (by kernel_rfl)) ?_
   go_upto_region 18 with (fail)
   go_cut [76] (fun v76 wc => ∃ (kq : Nat) (x76_36 : Bool), v76 = .bool x76_36 ∧ Aside0 (impl_heightsOf.j2 kq ((rd_T50 l0_0 a1).f2) x8_2 y398 x11_2 (wrap64 ((rd x8_2 x11_2) - t402)) x76_36 l0_0 ((rd_T88 ((rd_T50 l0_0 a1).f2) x11_2).f0) ((rd_T88 ((rd_T50 l0_0 a1).f2) x11_2).f1) = some (r1, r2, r3)) ∧ Aside0 (kq ≤ k2) ∧ Aside0 (Kd.R (Kd.int .i64) 2 wc w.heap.size (fun _ => True) (.slice (some ⟨go22, 0, none⟩) x8_2.length co14) x8_2) ∧ Aside0 (Kd.R Kd.bool 4 wc w.heap.size (fun _ => True) (.slice (some ⟨go24, 0, none⟩) x9_2.length co24) y398) ∧ Aside0 (wc.heap[gb386]? = some (.cells #[(.slice (some ad387) l0_0.length c0_0)] 34 (0, 0))) ∧ Aside0 (wc.heap[gb400]? = some (.cells #[.int .i64 ((rd_T88 ((rd_T50 l0_0 a1).f2) x11_2).f0), .int .i64 ((rd_T88 ((rd_T50 l0_0 a1).f2) x11_2).f1)] 88 (0, 0))) ∧ Aside0 (Below w.heap.size w wc))
   case first =>
    have H := HC37.out
    clear HC37
    refine qI H ?_ ?_ <;> clear H <;> intro c46b0 H
    ·(first | rw [c46b0] | (simp only [i64_w, i32_w]; rw [c46b0]) | skip)
     have H' := am H
     clear H
     go_wp2
     go_meet
     case rel => exact ⟨_, (true), dr, H', ⟨lk2 HK1 HK2⟩, ⟨by (try simp only [hl8_1]); (try simp only [hl8_2]); (try simp only [hl9_2]); exact kR HO_8⟩, ⟨by (try simp only [hl8_1]); (try simp only [hl8_2]); (try simp only [hl9_2]); exact kR HO_9⟩, ⟨by (try simp only [hl8_1]); (try simp only [hl8_2]); (try simp only [hl9_2]); exact bp BK386⟩, ⟨by (try simp only [hl8_1]); (try simp only [hl8_2]); (try simp only [hl9_2]); exact bp BK400⟩, ⟨bw HB⟩⟩
    (first | rw [c46b0] | (simp only [i64_w, i32_w]; rw [c46b0]) | skip)
    refine be H ?_; clear H; intro t403 A47 H
    have H' := am H
    clear H
    have hnb48 := NB400_386.out
    have hnc48 := NB386_400.out
    have hcz49 := bK w45 BK400
    have hfz49 := bF BK400
    go_wp2_with (first | (go_at_call 77; (with_reducible refine (impl_Puts.calls k2 ((rd_T88 ((rd_T50 l0_0 a1).f2) x11_2).f0) ((rd_T88 ((rd_T50 l0_0 a1).f2) x11_2).f1) t403 _ A47.out).mono ?_); rintro e w50 ⟨rfl, hb⟩; replace HO_8 := am (Kd.R_below (kR HO_8) hb); replace HO_9 := am (Kd.R_below (kR HO_9) hb); replace BK386 := bb BK386 hb; replace BK400 := bb BK400 hb; replace HB := bs HB hb; clear hb))
    go_meet
    case rel => exact ⟨_, (decide ((wrap64 ((wrap64 ((rd x8_2 x11_2) - t402)) + t403)) > 8)), dr, H', ⟨lk2 HK1 HK2⟩, ⟨by (try simp only [hl8_1]); (try simp only [hl8_2]); (try simp only [hl9_2]); exact kR HO_8⟩, ⟨by (try simp only [hl8_1]); (try simp only [hl8_2]); (try simp only [hl9_2]); exact kR HO_9⟩, ⟨by (try simp only [hl8_1]); (try simp only [hl8_2]); (try simp only [hl9_2]); exact bp BK386⟩, ⟨by (try simp only [hl8_1]); (try simp only [hl8_2]); (try simp only [hl9_2]); exact bp BK400⟩, ⟨bw HB⟩⟩
   clear HC37
   (try clear hf3); (try clear p4); (try clear q4); (try clear hx4); (try clear c29); (try clear c29b0); (try clear c30); (try clear c30b0); (try clear c31); (try clear c31b0); (try clear q32); (try clear c33); (try clear p34); (try clear q34); (try clear hx34); (try clear hf34); (try clear c35); (try clear c35b0); (try clear c38); (try clear p38); (try clear q38); (try clear hx38); (try clear p39); (try clear q39); (try clear hx39); (try clear p40); (try clear q40); (try clear hx40); (try clear c41); (try clear c46); (try clear c46b0); (try clear c48); (try clear hcz42); (try clear hcz49); (try clear hfz42); (try clear hfz49); (try clear hx34_0); (try clear hx397_0); (try clear hx399_0); (try clear hx399_1); (try clear hx401_0); (try clear p34); (try clear p397); (try clear p399); (try clear p401); (try clear q34); (try clear q397); (try clear q399); (try clear q401)
   obtain ⟨kq, x76_36, rfl, HA, HJ36, HO_8, HO_9, BK386, BK400, HB⟩ := hcut
   have hl9_36 := (Kd.R_reads' HO_9.out).1
   rw [hl9_36] at HO_9
   (try simp only [hl9_36])
   (try simp only [hl9_36] at BK386)
   (try simp only [hl9_36] at BK400)
   (try simp only [hl9_36] at HO_8)
   rcases kq with _ | kj36
   ·exact absurd HA.out (by simp [impl_heightsOf.j2])
   have H := HA.out
   clear HA
   simp only [impl_heightsOf.j2] at H
   refine qT H ?_ ?_ <;> clear H <;> intro c51 H <;> subst c51
   ·simp only [Option.some.injEq, Prod.mk.injEq] at H
    obtain ⟨rfl, rfl, rfl⟩ := H
    go_wp2
    go_ret3
    exact ⟨_, er, kR HO_8, bw HB⟩
   refine be H ?_; clear H; intro t404 A52 H
   have H' := am H
   clear H
   have hnb53 := NB400_386.out
   have hnc53 := NB386_400.out
   have hcz54 := bK wc BK400
   have hfz54 := bF BK400
   go_wp2_with (first | ((with_reducible refine gate_callee (f := 78) rfl ?_); refine goesL_ (some 82) rfl rfl Try.func78 (by kernel_rfl) rfl #[.agg #[.int .i64 ((rd_T88 ((rd_T50 l0_0 a1).f2) x11_2).f0), .int .i64 ((rd_T88 ((rd_T50 l0_0 a1).f2) x11_2).f1)], .int .i64 x11_2] rfl gl ?_; (with_reducible refine (impl_next.calls ((rd_T88 ((rd_T50 l0_0 a1).f2) x11_2).f0) ((rd_T88 ((rd_T50 l0_0 a1).f2) x11_2).f1) x11_2 t404 _ A52.out).mono ?_); rintro e w55 ⟨v405, rfl, ho0, hb⟩; refine ⟨_, rfl, ?_⟩; replace HO_9 := am (Kd.R_below (kR HO_9) hb); have HO406 := am (Kd.R_lower (Kd.R_new' ho0 (Kd.R_lt (kR HO_8))) (below_size (bw HB))); replace HO_8 := am (Kd.R_elder' (kR HO_8) (Kd.R_base ho0) hb); replace BK386 := bb BK386 hb; replace BK400 := bb BK400 hb; replace HB := bs HB hb; clear hb; (try clear ho0); obtain ⟨Ao56, co56, eo56⟩ := Kd.R_slice HO406.out; subst eo56))
   go_loopg [14, 84] kj36 (fun kq v14 v84 w' => ∃ (x8_4 : List Int) (x9_4 : List Bool) (x14_4 : Int) (x84_4 : Int), v14 = .int .i64 x14_4 ∧ v84 = .int .i64 x84_4 ∧ Aside0 (impl_heightsOf.l2 kq ((rd_T50 l0_0 a1).f2) x8_4 x9_4 x11_2 (wrap64 ((rd x8_2 x11_2) - t402)) x14_4 t404 (t404.length : Int) x84_4 l0_0 ((rd_T88 ((rd_T50 l0_0 a1).f2) x11_2).f0) ((rd_T88 ((rd_T50 l0_0 a1).f2) x11_2).f1) = some (r1, r2, r3)) ∧ Aside0 (kq ≤ kj36) ∧ Aside0 (Kd.R (Kd.int .i64) 2 w' w.heap.size (fun k_ => some k_ ≠ ((.slice Ao56 t404.length co56) : Value).ownBlock) (.slice (some ⟨go22, 0, none⟩) x8_2.length co14) x8_4) ∧ Aside0 (Kd.R Kd.bool 4 w' w.heap.size (fun _ => True) (.slice (some ⟨go24, 0, none⟩) y398.length co24) x9_4) ∧ Aside0 (Kd.R (Kd.int .i64) 2 w' w.heap.size (fun k_ => some k_ ≠ ((.slice (some ⟨go22, 0, none⟩) x8_2.length co14) : Value).ownBlock) (.slice Ao56 t404.length co56) t404) ∧ Aside0 (w'.heap[gb386]? = some (.cells #[(.slice (some ad387) l0_0.length c0_0)] 34 (0, 0))) ∧ Aside0 (w'.heap[gb400]? = some (.cells #[.int .i64 ((rd_T88 ((rd_T50 l0_0 a1).f2) x11_2).f0), .int .i64 ((rd_T88 ((rd_T50 l0_0 a1).f2) x11_2).f1)] 88 (0, 0))) ∧ Aside0 (Below w.heap.size w w'))
   case atStart => exact ⟨(x8_2), (y398), (x11_2), (0), dr, dr, H', ⟨Nat.le_refl _⟩, ⟨by (try simp only [hl8_1]); (try simp only [hl8_2]); (try simp only [hl9_2]); (try simp only [hl9_36]); (with_reducible repeat (first | apply Kd.R_alloc | apply Kd.R_drewN | apply Kd.R_drew)); exact Kd.R_mono HO_8.out (fun _ hk => hk.2)⟩, ⟨by (try simp only [hl8_1]); (try simp only [hl8_2]); (try simp only [hl9_2]); (try simp only [hl9_36]); exact kR HO_9⟩, ⟨by (try simp only [hl8_1]); (try simp only [hl8_2]); (try simp only [hl9_2]); (try simp only [hl9_36]); (with_reducible repeat (first | apply Kd.R_alloc | apply Kd.R_drewN | apply Kd.R_drew)); exact Kd.R_mono HO406.out (fun _ hk => hk.2)⟩, ⟨by (try simp only [hl8_1]); (try simp only [hl8_2]); (try simp only [hl9_2]); (try simp only [hl9_36]); exact bp BK386⟩, ⟨by (try simp only [hl8_1]); (try simp only [hl8_2]); (try simp only [hl9_2]); (try simp only [hl9_36]); exact bp BK400⟩, ⟨bw HB⟩⟩
   clear H'
   (try clear c51); (try clear c53); (try clear hcz54); (try clear hfz54)
   obtain ⟨x8_4, x9_4, x14_4, x84_4, rfl, rfl, HA, HK4, HO_8, HO_9, HO_82, BK386, BK400, HB⟩ := hrel
   have hl8_4 := (Kd.R_reads' HO_8.out).1
   rw [hl8_4] at HO_8
   (try simp only [hl8_4])
   (try simp only [hl8_4] at BK386)
   (try simp only [hl8_4] at BK400)
   (try simp only [hl8_4] at HO_9)
   (try simp only [hl8_4] at HO_82)
   have hl9_4 := (Kd.R_reads' HO_9.out).1
   rw [hl9_4] at HO_9
   (try simp only [hl9_4])
   (try simp only [hl9_4] at BK386)
   (try simp only [hl9_4] at BK400)
   (try simp only [hl9_4] at HO_8)
   (try simp only [hl9_4] at HO_82)
   rcases gk with _ | k4
   ·exact absurd HA.out (by simp [impl_heightsOf.l2])
   have H := HA.out
   clear HA
   simp only [impl_heightsOf.l2] at H
   by_cases c57 : x84_4 < (t404.length : Int)
   ·rw [if_pos c57] at H
    have c57b0 := decide_eq_true c57
    (try (have c57b0hl9_36 := c57b0; rw [hl9_36] at c57b0hl9_36))
    clear c57
    refine iN H ?_; clear H; intro c58 H
    have c58b0 := decide_eq_true c58
    clear c58
    refine iN H ?_; clear H; intro c59 H
    have c59b0 := decide_eq_true c59
    (try (have c59b0hl9_36 := c59b0; rw [hl9_36] at c59b0hl9_36))
    clear c59
    by_cases c60 : (rd t404 x84_4) = (((rd_T50 l0_0 a1).f2).length : Int)
    ·rw [if_pos c60] at H
     have c60b0 : ((rd t404 x84_4) == (((rd_T50 l0_0 a1).f2).length : Int)) = true := beq_iff_eq.mpr c60
     have c60b1 : ((rd t404 x84_4) != (((rd_T50 l0_0 a1).f2).length : Int)) = false := bne_eq_false_iff_eq.mpr c60
     (try (have c60b0hl9_36 := c60b0; rw [hl9_36] at c60b0hl9_36))
     (try (have c60b1hl9_36 := c60b1; rw [hl9_36] at c60b1hl9_36))
     clear c60
     simp only [Option.some.injEq, Prod.mk.injEq] at H
     obtain ⟨rfl, rfl, rfl⟩ := H
     have p407 : 0 ≤ (x84_4 : Int) := of_decide_eq_true as1
     have q407 : x84_4 < (t404.length : Int) := of_decide_eq_true as1
     obtain ⟨ad407, e407, hx407_0⟩ := Kd.at_int (Kd.R_reads' HO_82.out).2.2 x84_4 p407 q407
     cases e407
     replace p407 := eq_true p407
     replace q407 := eq_true q407
     go_wp2
     go_ret3
     exact ⟨_, er, by (with_reducible repeat (first | apply Kd.R_alloc | apply Kd.R_drewN | apply Kd.R_drew)); exact Kd.R_mono HO_8.out (fun _ hk => trivial), bw HB⟩
    rw [if_neg c60] at H
    have c60b0 : ((rd t404 x84_4) == (((rd_T50 l0_0 a1).f2).length : Int)) = false := beq_eq_false_iff_ne.mpr c60
    have c60b1 : ((rd t404 x84_4) != (((rd_T50 l0_0 a1).f2).length : Int)) = true := bne_iff_ne.mpr c60
    (try (have c60b0hl9_36 := c60b0; rw [hl9_36] at c60b0hl9_36))
    (try (have c60b1hl9_36 := c60b1; rw [hl9_36] at c60b1hl9_36))
    have HC61 := am H
    clear H
    have p407 : 0 ≤ (x84_4 : Int) := of_decide_eq_true as1
    have q407 : x84_4 < (t404.length : Int) := of_decide_eq_true as1
    obtain ⟨ad407, e407, hx407_0⟩ := Kd.at_int (Kd.R_reads' HO_82.out).2.2 x84_4 p407 q407
    cases e407
    replace p407 := eq_true p407
    replace q407 := eq_true q407
    go_upto_region 26 with (fail)
    go_cut [109] (fun v109 wc => ∃ (kq : Nat) (x109_60 : Bool), v109 = .bool x109_60 ∧ Aside0 (impl_heightsOf.j4 kq ((rd_T50 l0_0 a1).f2) x8_4 x9_4 x11_2 (wrap64 ((rd x8_2 x11_2) - t402)) x14_4 (rd t404 x84_4) t404 (t404.length : Int) x84_4 x109_60 l0_0 ((rd_T88 ((rd_T50 l0_0 a1).f2) x11_2).f0) ((rd_T88 ((rd_T50 l0_0 a1).f2) x11_2).f1) = some (r1, r2, r3)) ∧ Aside0 (kq ≤ k4) ∧ Aside0 (Kd.R (Kd.int .i64) 2 wc w.heap.size (fun k_ => some k_ ≠ ((.slice (some ad407) t404.length co56) : Value).ownBlock) (.slice (some ⟨go22, 0, none⟩) x8_4.length co14) x8_4) ∧ Aside0 (Kd.R Kd.bool 4 wc w.heap.size (fun _ => True) (.slice (some ⟨go24, 0, none⟩) x9_4.length co24) x9_4) ∧ Aside0 (Kd.R (Kd.int .i64) 2 wc w.heap.size (fun k_ => some k_ ≠ ((.slice (some ⟨go22, 0, none⟩) x8_4.length co14) : Value).ownBlock) (.slice (some ad407) t404.length co56) t404) ∧ Aside0 (wc.heap[gb386]? = some (.cells #[(.slice (some ad387) l0_0.length c0_0)] 34 (0, 0))) ∧ Aside0 (wc.heap[gb400]? = some (.cells #[.int .i64 ((rd_T88 ((rd_T50 l0_0 a1).f2) x11_2).f0), .int .i64 ((rd_T88 ((rd_T50 l0_0 a1).f2) x11_2).f1)] 88 (0, 0))) ∧ Aside0 (Below w.heap.size w wc))
    case first =>
     have H := HC61.out
     clear HC61
     refine iM H ?_; clear H; intro c62b0 H
     (first | rw [c62b0] | (simp only [i64_w, i32_w]; rw [c62b0]) | skip)
     refine iM H ?_; clear H; intro c63b0 H
     (try (have c63b0hl9_36 := c63b0; rw [hl9_36] at c63b0hl9_36))
     (try (have c63b0hl8_4 := c63b0; rw [hl8_4] at c63b0hl8_4))
     refine qL H ?_ ?_ <;> clear H <;> intro c64b0 H
     ·refine be H ?_; clear H; intro t410 A65 H
      have H' := am H
      clear H
      try go_wp2
      replace HO_8 := am (Kd.R_drew HO_8.out)
      replace HO_9 := am (Kd.R_drew HO_9.out)
      replace HO_82 := am (Kd.R_drew HO_82.out)
      replace BK386 := am (blk_drew BK386.out)
      replace BK400 := am (blk_drew BK400.out)
      replace HB := am (below_drew1 HB.out)
      obtain ⟨p408, q408, hx408_0⟩ := aR HO_8 (rd t404 x84_4)
      obtain ⟨p409, q409, hx409_0⟩ := aR HO_8 (rd t404 x84_4)
      refine start_ (n := 16) (S := fun w' => w'.cell? ⟨gb400, 0, none⟩ = some (.int .i64 ((rd_T88 ((rd_T50 l0_0 a1).f2) x11_2).f0)) ∧ w'.cell? ⟨gb400, 1, none⟩ = some (.int .i64 ((rd_T88 ((rd_T50 l0_0 a1).f2) x11_2).f1)) ∧ w'.cell? ⟨go22, ((rd t404 x84_4)).toNat, none⟩ = some (.int .i64 (rd x8_4 (rd t404 x84_4))) ∧ w'.cell? ⟨go22, ((rd t404 x84_4)).toNat, none⟩ = some (.int .i64 (rd x8_4 (rd t404 x84_4)))) (ds := []) (bv 16 0) (by kernel_rfl) rfl (by kernel_rfl) ⟨bc BK400 0, bc BK400 1, hx408_0, hx409_0⟩ (fun hHeld => ?_); refine with_tabW impl_heightsOf.tab26 impl_heightsOf.bits26 (fun HT_ HW_ => ?_)
      generalize wr.drew = w66 at HO_8 HO_9 HO_82 BK386 BK400 HB hx408_0 hx409_0 hHeld ⊢
      refine pu 0 94 16 1 HT_ ?_
      refine pu 1 95 16 3 HT_ ?_
      refine pu 2 96 16 7 HT_ ?_
      refine tk 3 97 16 15 HT_ HW_ hHeld ?_
      refine pu 4 98 16 31 HT_ ?_
      refine pu 5 99 16 63 HT_ ?_
      refine pu 6 100 16 127 HT_ ?_
      refine pu 7 101 16 255 HT_ ?_
      refine pu 8 102 16 511 HT_ ?_
      refine pu 10 104 16 1535 HT_ ?_
      refine tk 9 103 16 2047 HT_ HW_ hHeld ?_
      refine tk 11 105 16 4095 HT_ HW_ hHeld ?_
      refine on 12 (some 106) 16 8191 HT_ fun K hK => ?_
      refine goes_ Try.func77 (by kernel_rfl) rfl #[.agg #[.int .i64 ((rd_T88 ((rd_T50 l0_0 a1).f2) x11_2).f0), .int .i64 ((rd_T88 ((rd_T50 l0_0 a1).f2) x11_2).f1)]] (by rfl) rfl rfl gl ?_
      with_reducible refine (impl_Puts.calls k4 ((rd_T88 ((rd_T50 l0_0 a1).f2) x11_2).f0) ((rd_T88 ((rd_T50 l0_0 a1).f2) x11_2).f1) t410 _ A65.out).mono ?_
      rintro e w67 ⟨rfl, hb⟩
      have HS2_ := (hb.cell (World.block_lt_of_cell? _ _ (hHeld.2.2.1))).trans (hHeld.2.2.1)
      have HS3_ := (hb.cell (World.block_lt_of_cell? _ _ (hHeld.2.2.2))).trans (hHeld.2.2.2)
      refine ⟨_, rfl, ?_⟩
      replace HO_8 := am (Kd.R_below (kR HO_8) hb)
      replace HO_9 := am (Kd.R_below (kR HO_9) hb)
      replace HO_82 := am (Kd.R_below (kR HO_82) hb)
      replace BK386 := bb BK386 hb
      replace BK400 := bb BK400 hb
      replace HB := am (below_step (bw HB) hb)
      clear hb
      refine hK.out _ _ ⟨bc BK400 0, bc BK400 1, HS2_, HS3_⟩ (fun hHeld => ?_)
      clear hK K
      refine nm (some 106) ?_
      refine pu 13 107 16 16383 HT_ ?_
      refine pu 14 108 16 32767 HT_ ?_
      refine pu 15 109 16 65535 HT_ ?_
      refine done_ (done_of HT_.out (by kernel_rfl)) ?_
      try go_wp2
      go_meet
      case rel => exact ⟨_, (((rd x8_4 (rd t404 x84_4)) != (wrap64 ((wrap64 ((rd x8_2 x11_2) - t402)) + t410)))), dr, H', ⟨lk4 HK1 HK2 HJ36 HK4⟩, ⟨by (try simp only [hl8_1]); (try simp only [hl8_2]); (try simp only [hl9_2]); (try simp only [hl9_36]); (try simp only [hl8_4]); (try simp only [hl9_4]); exact kR HO_8⟩, ⟨by (try simp only [hl8_1]); (try simp only [hl8_2]); (try simp only [hl9_2]); (try simp only [hl9_36]); (try simp only [hl8_4]); (try simp only [hl9_4]); exact kR HO_9⟩, ⟨by (try simp only [hl8_1]); (try simp only [hl8_2]); (try simp only [hl9_2]); (try simp only [hl9_36]); (try simp only [hl8_4]); (try simp only [hl9_4]); exact kR HO_82⟩, ⟨by (try simp only [hl8_1]); (try simp only [hl8_2]); (try simp only [hl9_2]); (try simp only [hl9_36]); (try simp only [hl8_4]); (try simp only [hl9_4]); exact bp BK386⟩, ⟨by (try simp only [hl8_1]); (try simp only [hl8_2]); (try simp only [hl9_2]); (try simp only [hl9_36]); (try simp only [hl8_4]); (try simp only [hl9_4]); exact bp BK400⟩, ⟨bw HB⟩⟩
     have H' := am H
     clear H
     try go_wp2
     replace HO_8 := am (Kd.R_drew HO_8.out)
     replace HO_9 := am (Kd.R_drew HO_9.out)
     replace HO_82 := am (Kd.R_drew HO_82.out)
     replace BK386 := am (blk_drew BK386.out)
     replace BK400 := am (blk_drew BK400.out)
     replace HB := am (below_drew1 HB.out)
     obtain ⟨p408, q408, hx408_0⟩ := aR HO_8 (rd t404 x84_4)
     refine start_ (n := 16) (S := fun w' => w'.cell? ⟨go22, ((rd t404 x84_4)).toNat, none⟩ = some (.int .i64 (rd x8_4 (rd t404 x84_4)))) (ds := []) (bv 16 0) (by kernel_rfl) rfl (by kernel_rfl) (hx408_0) (fun hHeld => ?_); refine with_tabW impl_heightsOf.tab26 impl_heightsOf.bits26 (fun HT_ HW_ => ?_)
     generalize wr.drew = w68 at HO_8 HO_9 HO_82 BK386 BK400 HB hx408_0 hHeld ⊢
     refine pu 0 94 16 1 HT_ ?_
     refine pu 1 95 16 3 HT_ ?_
     refine pu 2 96 16 7 HT_ ?_
     refine tk 3 97 16 15 HT_ HW_ hHeld ?_
     refine pu 4 98 16 31 HT_ ?_
     refine pu 5 99 16 63 HT_ ?_
     refine pn 6 100 16 127 HT_ ?_
     refine pn 7 101 16 255 HT_ ?_
     refine pn 8 102 16 511 HT_ ?_
     refine pn 9 103 16 1023 HT_ ?_
     refine pn 10 104 16 2047 HT_ ?_
     refine pn 11 105 16 4095 HT_ ?_
     refine pn 12 106 16 8191 HT_ ?_
     refine pn 13 107 16 16383 HT_ ?_
     refine pn 14 108 16 32767 HT_ ?_
     refine pu 15 109 16 65535 HT_ ?_
     refine done_ (done_of HT_.out (by kernel_rfl)) ?_
     try go_wp2
     go_meet
     case rel => exact ⟨_, (false), dr, H', ⟨lk4 HK1 HK2 HJ36 HK4⟩, ⟨by (try simp only [hl8_1]); (try simp only [hl8_2]); (try simp only [hl9_2]); (try simp only [hl9_36]); (try simp only [hl8_4]); (try simp only [hl9_4]); exact kR HO_8⟩, ⟨by (try simp only [hl8_1]); (try simp only [hl8_2]); (try simp only [hl9_2]); (try simp only [hl9_36]); (try simp only [hl8_4]); (try simp only [hl9_4]); exact kR HO_9⟩, ⟨by (try simp only [hl8_1]); (try simp only [hl8_2]); (try simp only [hl9_2]); (try simp only [hl9_36]); (try simp only [hl8_4]); (try simp only [hl9_4]); exact kR HO_82⟩, ⟨by (try simp only [hl8_1]); (try simp only [hl8_2]); (try simp only [hl9_2]); (try simp only [hl9_36]); (try simp only [hl8_4]); (try simp only [hl9_4]); exact bp BK386⟩, ⟨by (try simp only [hl8_1]); (try simp only [hl8_2]); (try simp only [hl9_2]); (try simp only [hl9_36]); (try simp only [hl8_4]); (try simp only [hl9_4]); exact bp BK400⟩, ⟨bw HB⟩⟩
    clear HC61
    (try clear c57); (try clear c57b0); (try clear c58); (try clear c58b0); (try clear c59); (try clear c59b0); (try clear c60); (try clear c60b0); (try clear c60b1); (try clear c62); (try clear c62b0); (try clear c63); (try clear c63b0); (try clear c64); (try clear c64b0); (try clear p64); (try clear hx407_0); (try clear hx408_0); (try clear hx409_0); (try clear p407); (try clear p408); (try clear p409); (try clear q407); (try clear q408); (try clear q409)
    obtain ⟨kq, x109_60, rfl, HA, HJ60, HO_8, HO_9, HO_82, BK386, BK400, HB⟩ := hcut
    rcases kq with _ | kj60
    ·exact absurd HA.out (by simp [impl_heightsOf.j4])
    have H := HA.out
    clear HA
    simp only [impl_heightsOf.j4] at H
    refine qT H ?_ ?_ <;> clear H <;> intro c69 H <;> subst c69
    ·simp only [Option.some.injEq, Prod.mk.injEq] at H
     obtain ⟨rfl, rfl, rfl⟩ := H
     go_wp2
     go_ret3
     exact ⟨_, er, by (with_reducible repeat (first | apply Kd.R_alloc | apply Kd.R_drewN | apply Kd.R_drew)); exact Kd.R_mono HO_8.out (fun _ hk => trivial), bw HB⟩
    refine iM H ?_; clear H; intro c70b0 H
    refine iM H ?_; clear H; intro c71b0 H
    (try (have c71b0hl9_36 := c71b0; rw [hl9_36] at c71b0hl9_36))
    (try (have c71b0hl8_4 := c71b0; rw [hl8_4] at c71b0hl8_4))
    refine qI H ?_ ?_ <;> clear H <;> intro c72b0 H
    ·refine be H ?_; clear H; intro t412 A73 H
     obtain ⟨y413, hy413⟩ : ∃ y_ : List Int, y_ = (x8_4.set ((rd t404 x84_4) : Int).toNat (wrap64 ((wrap64 ((rd x8_2 x11_2) - t402)) + t412))) := ⟨_, rfl⟩
     replace H : (if (rd t404 x84_4) < (x9_4.length : Int) then (impl_heightsOf.l2 kj60 ((rd_T50 l0_0 a1).f2) y413 (x9_4.set ((rd t404 x84_4) : Int).toNat true) x11_2 (wrap64 ((rd x8_2 x11_2) - t402)) (mn x14_4 (rd t404 x84_4)) t404 (t404.length : Int) (wrap64 (x84_4 + 1)) l0_0 ((rd_T88 ((rd_T50 l0_0 a1).f2) x11_2).f0) ((rd_T88 ((rd_T50 l0_0 a1).f2) x11_2).f1)) else (none)) = some (r1, r2, r3) := by first | (rw [hy413]; with_reducible exact H) | (have H2_ := (Option.bind_some _ _).symm.trans H; rw [hy413]; with_reducible exact H2_) | (have H2_ := (Option.bind_some _ _).symm.trans H; with_reducible exact H2_) | with_reducible exact H | (rw [hy413]; exact H) | exact H
     have Ny413 := am hy413
     clear hy413
     refine iM H ?_; clear H; intro c75b0 H
     (try (have c75b0hl9_36 := c75b0; rw [hl9_36] at c75b0hl9_36))
     (try (have c75b0hl9_4 := c75b0; rw [hl9_4] at c75b0hl9_4))
     obtain ⟨y414, hy414⟩ : ∃ y_ : List Bool, y_ = (x9_4.set ((rd t404 x84_4) : Int).toNat true) := ⟨_, rfl⟩
     replace H : (impl_heightsOf.l2 kj60 ((rd_T50 l0_0 a1).f2) y413 y414 x11_2 (wrap64 ((rd x8_2 x11_2) - t402)) (mn x14_4 (rd t404 x84_4)) t404 (t404.length : Int) (wrap64 (x84_4 + 1)) l0_0 ((rd_T88 ((rd_T50 l0_0 a1).f2) x11_2).f0) ((rd_T88 ((rd_T50 l0_0 a1).f2) x11_2).f1)) = some (r1, r2, r3) := by first | (rw [hy414]; with_reducible exact H) | (have H2_ := (Option.bind_some _ _).symm.trans H; rw [hy414]; with_reducible exact H2_) | (have H2_ := (Option.bind_some _ _).symm.trans H; with_reducible exact H2_) | with_reducible exact H | (rw [hy414]; exact H) | exact H
     have Ny414 := am hy414
     clear hy414
     obtain ⟨ji77, hji77⟩ : ∃ j_ : Int, (mn x14_4 (rd t404 x84_4)) = j_ := ⟨_, rfl⟩
     replace H : (impl_heightsOf.l2 kj60 ((rd_T50 l0_0 a1).f2) y413 y414 x11_2 (wrap64 ((rd x8_2 x11_2) - t402)) ji77 t404 (t404.length : Int) (wrap64 (x84_4 + 1)) l0_0 ((rd_T88 ((rd_T50 l0_0 a1).f2) x11_2).f0) ((rd_T88 ((rd_T50 l0_0 a1).f2) x11_2).f1)) = some (r1, r2, r3) := by first | (rw [hji77] at H; exact H) | (simp only [hji77] at H ⊢; exact H)
     (try rw [hji77] at A73)
     have hji77_ : (if (rd t404 x84_4) < x14_4 then (rd t404 x84_4) else x14_4) = ji77 := hji77
     have H' := am H
     clear H
     obtain ⟨p411, q411, hx411_0⟩ := aR HO_8 (rd t404 x84_4)
     have hnb78 := NB400_386.out
     have hnc78 := NB386_400.out
     have hcz79 := bK wc BK400
     have hfz79 := bF BK400
     go_wp2_with (first | ((with_reducible refine gate_callee (f := 77) rfl ?_); refine goesL_ (some 121) rfl rfl Try.func77 (by kernel_rfl) rfl #[.agg #[.int .i64 ((rd_T88 ((rd_T50 l0_0 a1).f2) x11_2).f0), .int .i64 ((rd_T88 ((rd_T50 l0_0 a1).f2) x11_2).f1)]] rfl gl ?_; (with_reducible refine (impl_Puts.calls kj60 ((rd_T88 ((rd_T50 l0_0 a1).f2) x11_2).f0) ((rd_T88 ((rd_T50 l0_0 a1).f2) x11_2).f1) t412 _ A73.out).mono ?_); rintro e w80 ⟨rfl, hb⟩; refine ⟨_, rfl, ?_⟩; replace HO_8 := am (Kd.R_below (kR HO_8) hb); replace HO_9 := am (Kd.R_below (kR HO_9) hb); replace HO_82 := am (Kd.R_below (kR HO_82) hb); replace BK386 := bb BK386 hb; replace BK400 := bb BK400 hb; replace HB := bs HB hb; clear hb; have p74 : 0 ≤ ((rd t404 x84_4) : Int) := of_decide_eq_true as1; have q74 : ((rd t404 x84_4) : Int) < ((x8_4.length : Int) : Int) := of_decide_eq_true as1; obtain ⟨hx74_0, hf74_0⟩ := Kd.R_celln 0 HO_8.out ((rd t404 x84_4) : Int) p74 q74; replace p74 := eq_true p74; replace q74 := eq_true q74; obtain ⟨hy81_, hz81_⟩ := Kd.R_celln 0 HO_8.out ((rd t404 x84_4) : Int) (of_decide_eq_true as1) (of_decide_eq_true as1); have HP81 := Kd.R_putg HO_8.out ((rd t404 x84_4) : Int) (wrap64 ((wrap64 ((rd x8_2 x11_2) - t402)) + t412))) | ((with_reducible refine gt 2 123 rfl ?_); refine sE 2 123 (w80.setCell ⟨go22, ((rd t404 x84_4) : Int).toNat, none⟩ (.int .i64 (wrap64 ((wrap64 ((rd x8_2 x11_2) - t402)) + t412)))) ?_; intro w82 hw; have hg : w80.grownBy w82 (some go22) := (by rw [hw]; exact HP81.2); have hp_ : Kd.R (Kd.int .i64) 2 w82 w.heap.size (fun k_ => some k_ ≠ (.slice (some ad407) t404.length co56 : Value).ownBlock) (.slice (some ⟨go22, 0, none⟩) x8_4.length co14) y413 := (by rw [hw, Ny413.out]; exact HP81.1); clear HP81; replace HO_9 := am (Kd.R_over' (v := (.slice (some ⟨go22, 0, none⟩) x8_4.length co14)) (kR HO_9) (Kd.R_typed HO_8.out) (by decide) hg); replace HO_82 := am (Kd.R_after (v := (.slice (some ⟨go22, 0, none⟩) x8_4.length co14)) (v1 := (.slice (some ⟨go22, 0, none⟩) x8_4.length co14)) (ok := (fun _ => True)) (by (with_reducible repeat (first | apply Kd.R_alloc | apply Kd.R_drewN | apply Kd.R_drew)); exact Kd.R_mono HO_82.out (fun _ hk => ⟨trivial, hk⟩)) hg (.inl rfl)); replace BK386 := bg BK386 hg (Kd.R_ne HO_8.out BK386.out (by decide)); replace BK400 := bg BK400 hg (Kd.R_ne HO_8.out BK400.out (by decide)); replace HO_8 := am (hp_); replace HB := am ((by rw [hw]; exact below_set (HB.out) GB22.out : Below w.heap.size w w82)); clear hg hw hp_; have p76 : 0 ≤ ((rd t404 x84_4) : Int) := of_decide_eq_true as1; have q76 : ((rd t404 x84_4) : Int) < ((x9_4.length : Int) : Int) := of_decide_eq_true as1; obtain ⟨hx76_0, hf76_0⟩ := Kd.R_celln false HO_9.out ((rd t404 x84_4) : Int) p76 q76; replace p76 := eq_true p76; replace q76 := eq_true q76; obtain ⟨hy83_, hz83_⟩ := Kd.R_celln false HO_9.out ((rd t404 x84_4) : Int) (of_decide_eq_true as1) (of_decide_eq_true as1); have HP83 := Kd.R_putg HO_9.out ((rd t404 x84_4) : Int) true) | ((with_reducible refine gt 4 126 rfl ?_); refine sE 4 126 (w82.setCell ⟨go24, ((rd t404 x84_4) : Int).toNat, none⟩ (.bool true)) ?_; intro w84 hw; have hg : w82.grownBy w84 (some go24) := (by rw [hw]; exact HP83.2); have hp_ : Kd.R Kd.bool 4 w84 w.heap.size (fun _ => True) (.slice (some ⟨go24, 0, none⟩) x9_4.length co24) y414 := (by rw [hw, Ny414.out]; exact HP83.1); clear HP83; replace HO_8 := am (Kd.R_over' (v := (.slice (some ⟨go24, 0, none⟩) x9_4.length co24)) (kR HO_8) (Kd.R_typed HO_9.out) (by decide) hg); replace HO_82 := am (Kd.R_over' (v := (.slice (some ⟨go24, 0, none⟩) x9_4.length co24)) (kR HO_82) (Kd.R_typed HO_9.out) (by decide) hg); replace BK386 := bg BK386 hg (Kd.R_ne HO_9.out BK386.out (by decide)); replace BK400 := bg BK400 hg (Kd.R_ne HO_9.out BK400.out (by decide)); replace HO_9 := am (hp_); replace HB := am ((by rw [hw]; exact below_set (HB.out) GB24.out : Below w.heap.size w w84)); clear hg hw hp_))
     (try simp only [← hl8_4, ← hl9_4])
     go_roundg kj60
     case measure => have := HK1.out; have := HK2.out; have := HJ36.out; have := HK4.out; have := HJ60.out; omega
     case rel => exact ⟨(y413), (y414), (ji77), (wrap64 (x84_4 + 1)), (by first | rfl | (simp; done) | (simp only [← hji77] <;> (first | rfl | simp)) | (simp [*]; done)), dr, H', ⟨by have := HK1.out; have := HK2.out; have := HJ36.out; have := HK4.out; have := HJ60.out; omega⟩, ⟨by (try simp only [hl8_1]); (try simp only [hl8_2]); (try simp only [hl9_2]); (try simp only [hl9_36]); (try simp only [hl8_4]); (try simp only [hl9_4]); exact kR HO_8⟩, ⟨by (try simp only [hl8_1]); (try simp only [hl8_2]); (try simp only [hl9_2]); (try simp only [hl9_36]); (try simp only [hl8_4]); (try simp only [hl9_4]); exact kR HO_9⟩, ⟨by (try simp only [hl8_1]); (try simp only [hl8_2]); (try simp only [hl9_2]); (try simp only [hl9_36]); (try simp only [hl8_4]); (try simp only [hl9_4]); (with_reducible repeat (first | apply Kd.R_alloc | apply Kd.R_drewN | apply Kd.R_drew)); exact Kd.R_mono HO_82.out (fun _ hk => hk.2)⟩, ⟨by (try simp only [hl8_1]); (try simp only [hl8_2]); (try simp only [hl9_2]); (try simp only [hl9_36]); (try simp only [hl8_4]); (try simp only [hl9_4]); exact bp BK386⟩, ⟨by (try simp only [hl8_1]); (try simp only [hl8_2]); (try simp only [hl9_2]); (try simp only [hl9_36]); (try simp only [hl8_4]); (try simp only [hl9_4]); exact bp BK400⟩, ⟨bw HB⟩⟩
    have H' := am H
    clear H
    obtain ⟨p411, q411, hx411_0⟩ := aR HO_8 (rd t404 x84_4)
    go_wp2
    (try simp only [← hl8_4, ← hl9_4])
    go_roundg kj60
    case measure => have := HK1.out; have := HK2.out; have := HJ36.out; have := HK4.out; have := HJ60.out; omega
    case rel => exact ⟨(x8_4), (x9_4), (x14_4), (wrap64 (x84_4 + 1)), dr, dr, H', ⟨by have := HK1.out; have := HK2.out; have := HJ36.out; have := HK4.out; have := HJ60.out; omega⟩, ⟨by (try simp only [hl8_1]); (try simp only [hl8_2]); (try simp only [hl9_2]); (try simp only [hl9_36]); (try simp only [hl8_4]); (try simp only [hl9_4]); exact kR HO_8⟩, ⟨by (try simp only [hl8_1]); (try simp only [hl8_2]); (try simp only [hl9_2]); (try simp only [hl9_36]); (try simp only [hl8_4]); (try simp only [hl9_4]); exact kR HO_9⟩, ⟨by (try simp only [hl8_1]); (try simp only [hl8_2]); (try simp only [hl9_2]); (try simp only [hl9_36]); (try simp only [hl8_4]); (try simp only [hl9_4]); exact kR HO_82⟩, ⟨by (try simp only [hl8_1]); (try simp only [hl8_2]); (try simp only [hl9_2]); (try simp only [hl9_36]); (try simp only [hl8_4]); (try simp only [hl9_4]); exact bp BK386⟩, ⟨by (try simp only [hl8_1]); (try simp only [hl8_2]); (try simp only [hl9_2]); (try simp only [hl9_36]); (try simp only [hl8_4]); (try simp only [hl9_4]); exact bp BK400⟩, ⟨bw HB⟩⟩
   rw [if_neg c57] at H
   have c57b0 := decide_eq_false c57
   (try (have c57b0hl9_36 := c57b0; rw [hl9_36] at c57b0hl9_36))
   clear c57
   have H' := am H
   clear H
   go_wp2
   (try simp only [← hl8_2, ← hl9_2, ← hl9_36, ← hl8_4, ← hl9_4])
   go_roundg k4
   case measure => have := HK1.out; have := HK2.out; have := HJ36.out; have := HK4.out; omega
   case rel => exact ⟨(x8_4), (x9_4), (x14_4), dr, H', ⟨by have := HK1.out; have := HK2.out; have := HJ36.out; have := HK4.out; omega⟩, ⟨by (try simp only [hl8_1]); (try simp only [hl8_2]); (try simp only [hl9_2]); (try simp only [hl9_36]); (try simp only [hl8_4]); (try simp only [hl9_4]); (with_reducible repeat (first | apply Kd.R_alloc | apply Kd.R_drewN | apply Kd.R_drew)); exact Kd.R_mono HO_8.out (fun _ hk => trivial)⟩, ⟨by (try simp only [hl8_1]); (try simp only [hl8_2]); (try simp only [hl9_2]); (try simp only [hl9_36]); (try simp only [hl8_4]); (try simp only [hl9_4]); exact kR HO_9⟩, ⟨by (try simp only [hl8_1]); (try simp only [hl8_2]); (try simp only [hl9_2]); (try simp only [hl9_36]); (try simp only [hl8_4]); (try simp only [hl9_4]); exact bp BK386⟩, ⟨bw HB⟩⟩
  have H' := am H
  clear H
  have p397 : 0 ≤ (x11_2 : Int) := of_decide_eq_true as1
  have q397 : x11_2 < (x9_2.length : Int) := of_decide_eq_true as1
  obtain ⟨ad397, e397, hx397_0⟩ := Kd.at_bool (Kd.R_reads' HO_9.out).2.2 x11_2 p397 q397
  (try rw [← Nbq32.out] at hx397_0)
  obtain rfl : (⟨go24, 0, none⟩ : Addr) = ad397 := (by injection e397)
  (first | simp only [add_plain] at hx397_0 | simp only [add_at] at hx397_0 | simp only [Addr.add, Nat.zero_add] at hx397_0 | skip)
  replace p397 := eq_true p397
  replace q397 := eq_true q397
  go_wp2
  (try simp only [← hl8_2, ← hl9_2])
  go_roundg k2
  case measure => have := HK1.out; have := HK2.out; omega
  case rel => exact ⟨(x8_2), (x9_2), (wrap64 (x11_2 + 1)), dr, H', ⟨by have := HK1.out; have := HK2.out; omega⟩, ⟨by (try simp only [hl8_1]); (try simp only [hl8_2]); (try simp only [hl9_2]); exact kR HO_8⟩, ⟨by (try simp only [hl8_1]); (try simp only [hl8_2]); (try simp only [hl9_2]); exact kR HO_9⟩, ⟨by (try simp only [hl8_1]); (try simp only [hl8_2]); (try simp only [hl9_2]); exact bp BK386⟩, ⟨bw HB⟩⟩
 rw [if_neg c29] at H
 have c29b0 := decide_eq_false c29
 clear c29
 simp only [Option.some.injEq, Prod.mk.injEq] at H
 obtain ⟨rfl, rfl, rfl⟩ := H
 go_wp2
 go_ret3
 exact ⟨_, er, kR HO_8, bw HB⟩

end Go.Proofs.Ytmfhmfhkknijeaa.QFnExactAsmRight
