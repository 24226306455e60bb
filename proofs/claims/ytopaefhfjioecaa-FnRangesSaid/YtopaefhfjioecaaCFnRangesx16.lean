import Derived.Test.YtopaefhfjioecaaCFnRangesx0
import Derived.Test.YtopaefhfjioecaaCFnRangesx5
import Derived.Test.YtopaefhfjioecaaCFnRangesx7
import Derived.Test.YtopaefhfjioecaaCFnRangesx8
import Derived.Test.YtopaefhfjioecaaCFnRangesx9
namespace Go.Proofs.Ytopaefhfjioecaa.QFnRanges
open Go.RowKit Go.Proofs.YtopaefhfjioecaaW
open PrintWords PrintLast PrintMore PrintShort
attribute [local go_sem] max2_int min2_int max_two min_two max_three min_three max_four min_four   -- for this text's walks alone
set_option linter.unusedVariables false
set_option maxHeartbeats 8000000
set_option maxRecDepth 100000
set_option linter.unusedSimpArgs false

mutual
def spec_Ranges.l0 : Nat → Int → List (S54) → List Int → List (S38) → List Int → Int → List (S35) → Option ((List (S54)))
 | 0, _, _, _, _, _, _, _ => none
 | k + 1, x1, x5, x6, x8, x9, x10, x486000 => if (wrap64 (x10 + 1)) < (x8.length : Int) then (if 0 ≤ x10 then (if x10 < (x6.length : Int) then (if (rd x6 x10) ≥ 0 then (if 0 ≤ (wrap64 (x10 + 1)) then (if (wrap64 (x10 + 1)) < (x9.length : Int) then (if x10 < (x8.length : Int) then (if 0 ≤ x1 then (if x1 < (x486000.length : Int) then ((spec_l08Writes.f k x486000 ((rd_T38 x8 x10).f0) ((rd_T38 x8 x10).f1) (wrap64 (((rd_T35 x486000 x1).f1) + (rd x6 x10)))).bind fun t506 => (spec_Ranges.l0 k x1 x5 x6 x8 (x9.set ((wrap64 (x10 + 1)) : Int).toNat (Go.bits .or .i64 (rd x9 (wrap64 (x10 + 1))) t506)) (wrap64 (x10 + 1)) x486000)) else (none)) else (none)) else (none)) else (none)) else (none)) else (spec_Ranges.l0 k x1 x5 x6 x8 x9 (wrap64 (x10 + 1)) x486000)) else (none)) else (none)) else (spec_Ranges.l1 k x5 x8 x9 0)
def spec_Ranges.l1 : Nat → List (S54) → List (S38) → List Int → Int → Option ((List (S54)))
 | 0, _, _, _, _ => none
 | k + 1, x5, x8, x9, x11 => if x11 < 16 then (spec_Ranges.l2 k x5 x8 x9 x11 0 x11 (-1) 0) else (some x5)
def spec_Ranges.l2 : Nat → List (S54) → List (S38) → List Int → Int → Int → Int → Int → Int → Option ((List (S54)))
 | 0, _, _, _, _, _, _, _, _ => none
 | k + 1, x5, x8, x9, x11, x13, x509000, x509001, x509002 => if x13 < (x8.length : Int) then (if 0 ≤ x13 then (if x13 < (x9.length : Int) then ((spec_l08Bit.f x11).bind fun t510 => (if (Go.bits .and .i64 (rd x9 x13) t510) = 0 then (spec_Ranges.l2 k x5 x8 x9 x11 (wrap64 (x13 + 1)) x509000 x509001 x509002) else (if x509001 < 0 then (spec_Ranges.l2 k x5 x8 x9 x11 (wrap64 (x13 + 1)) x509000 x13 x13) else (spec_Ranges.l2 k x5 x8 x9 x11 (wrap64 (x13 + 1)) x509000 x509001 x13)))) else (none)) else (none)) else (if x509001 ≥ 0 then (if x5.length < 5864062014805 then (spec_Ranges.l1 k (x5 ++ [(⟨x509000, x509001, x509002⟩ : S54)]) x8 x9 (wrap64 (x11 + 1))) else (none)) else (spec_Ranges.l1 k x5 x8 x9 (wrap64 (x11 + 1))))
end
def spec_Ranges.f (k : Nat) (l0_0 : List (S35)) (a1 : Int) : Option ((List (S54))) := (some (([] : List (S54)) : List (S54))).bind fun y486 => ((spec_l04Is.f k l0_0 a1).bind fun t489 => (if t489 = true then ((spec_l04Heights.f k l0_0 a1).bind fun bt490 => (if 0 ≤ a1 then (if a1 < (l0_0.length : Int) then ((spec_l08Live.f k l0_0 a1).bind fun t498 => (spec_Ranges.l0 k a1 y486 bt490.1 ((rd_T35 l0_0 a1).f2) t498 0 l0_0)) else (none)) else (none))) else (some y486)))
theorem spec_Ranges.mono_l : ∀ k, (∀ y0 y1 y2 y3 y4 y5 y6, LeO (spec_Ranges.l0 k y0 y1 y2 y3 y4 y5 y6) (spec_Ranges.l0 (k + 1) y0 y1 y2 y3 y4 y5 y6)) ∧ (∀ y0 y1 y2 y3, LeO (spec_Ranges.l1 k y0 y1 y2 y3) (spec_Ranges.l1 (k + 1) y0 y1 y2 y3)) ∧ (∀ y0 y1 y2 y3 y4 y5 y6 y7, LeO (spec_Ranges.l2 k y0 y1 y2 y3 y4 y5 y6 y7) (spec_Ranges.l2 (k + 1) y0 y1 y2 y3 y4 y5 y6 y7))
 | 0 => ⟨fun _ _ _ _ _ _ _ r h => by simp [spec_Ranges.l0] at h, fun _ _ _ _ r h => by simp [spec_Ranges.l1] at h, fun _ _ _ _ _ _ _ _ r h => by simp [spec_Ranges.l2] at h⟩
 | k + 1 => by
  obtain ⟨ih0, ih1, ih2⟩ := spec_Ranges.mono_l k
  refine ⟨?_, ?_, ?_⟩
  ·intro y0 y1 y2 y3 y4 y5 y6
   unfold spec_Ranges.l0
   with_reducible repeat' first | exact ih0 .. | exact ih1 .. | exact ih2 .. | exact spec_l04Heights.mono .. | exact spec_l04Is.mono .. | exact spec_l08Live.mono .. | exact spec_l08Writes.mono .. | exact LeO.refl _ | exact LeO.none _ | refine LeO.ite ?_ ?_ | refine LeO.bind ?_ (fun _ => ?_)
  ·intro y0 y1 y2 y3
   unfold spec_Ranges.l1
   with_reducible repeat' first | exact ih0 .. | exact ih1 .. | exact ih2 .. | exact spec_l04Heights.mono .. | exact spec_l04Is.mono .. | exact spec_l08Live.mono .. | exact spec_l08Writes.mono .. | exact LeO.refl _ | exact LeO.none _ | refine LeO.ite ?_ ?_ | refine LeO.bind ?_ (fun _ => ?_)
  ·intro y0 y1 y2 y3 y4 y5 y6 y7
   unfold spec_Ranges.l2
   with_reducible repeat' first | exact ih0 .. | exact ih1 .. | exact ih2 .. | exact spec_l04Heights.mono .. | exact spec_l04Is.mono .. | exact spec_l08Live.mono .. | exact spec_l08Writes.mono .. | exact LeO.refl _ | exact LeO.none _ | refine LeO.ite ?_ ?_ | refine LeO.bind ?_ (fun _ => ?_)
theorem spec_Ranges.mono : ∀ a0 a1 k, LeO (spec_Ranges.f k a0 a1) (spec_Ranges.f (k + 1) a0 a1) := by
 intro a0 a1 k
 obtain ⟨ih0, ih1, ih2⟩ := spec_Ranges.mono_l k
 unfold spec_Ranges.f
 with_reducible repeat' first | exact ih0 .. | exact ih1 .. | exact ih2 .. | exact spec_l04Heights.mono .. | exact spec_l04Is.mono .. | exact spec_l08Live.mono .. | exact spec_l08Writes.mono .. | exact LeO.refl _ | exact LeO.none _ | refine LeO.ite ?_ ?_ | refine LeO.bind ?_ (fun _ => ?_)
def spec_Ranges.T11 : Bool × List (List Nat × List Nat) := (true, [([], []), ([], []), ([1], [1]), ([], []), ([], []), ([4], [4]), ([3, 5], [3, 5]), ([6], [6]), ([], []), ([], []), ([], []), ([9, 10], [9, 10]), ([11], [11]), ([], []), ([13], [13]), ([], []), ([14, 15], [14, 15]), ([16], [16]), ([17], [17]), ([], []), ([], []), ([19, 20], [19, 20]), ([21], [21]), ([18, 22], [18, 22]), ([8, 12, 23], [8, 12, 23]), ([7, 24], [7, 24]), ([0, 2, 0, 1, 2, 3, 4, 5, 6, 7, 8, 9, 10, 11, 12, 13, 14, 15, 16, 17, 18, 19, 20, 21, 22, 23, 24, 25], [0, 2]), ([26, 25, 24, 0, 1, 2, 3, 4, 5, 6, 7, 8, 9, 10, 11, 12, 13, 14, 15, 16, 17, 18, 19, 20, 21, 22, 23, 24, 25], [25, 26])])
def spec_Ranges.B11 : List Nat := [0, 0, 2, 0, 0, 16, 56, 120, 0, 0, 0, 1536, 3584, 0, 8192, 0, 57344, 122880, 253952, 0, 0, 1572864, 3670016, 8380416, 16776960, 33554424, 67108863, 134217727]
theorem spec_Ranges.tab11 : rtab .any (opsOf Try.f27 11) = spec_Ranges.T11 := by kernel_rfl
theorem spec_Ranges.bits11 : waitsOk spec_Ranges.T11.2 spec_Ranges.B11 = true := by kernel_rfl
def spec_Ranges.T19 : Bool × List (List Nat × List Nat) := (true, [([], []), ([], []), ([0, 1], [0, 1]), ([2], [2]), ([], []), ([4], [4]), ([3, 5], [3, 5]), ([6], [6])])
def spec_Ranges.B19 : List Nat := [0, 0, 3, 7, 0, 16, 63, 127]
theorem spec_Ranges.tab19 : rtab .any (opsOf Try.f27 19) = spec_Ranges.T19 := by kernel_rfl
theorem spec_Ranges.bits19 : waitsOk spec_Ranges.T19.2 spec_Ranges.B19 = true := by kernel_rfl
theorem spec_Ranges.calls (k : Nat) (A0_0 : Option Addr) (c0_0 : Nat) (l0_0 : List (S35)) (a1 : Int) (r : List (S54)) (w : World) (hr0_0 : Kd.C k35 w A0_0 l0_0.length l0_0) (hc0_0 : l0_0.length ≤ c0_0) (h : spec_Ranges.f k l0_0 a1 = some r) :
  Calls Try.prog 27 #[.agg #[.slice A0_0 l0_0.length c0_0], .int .i64 a1] w fun e w' => ∃ v0_ : Value, e = .returned (v0_) ∧ Kd.R k54 54 w' w.heap.size (fun _ => True) v0_ r ∧ Below w.heap.size w w' := by
 have hu25 := Try.underlying25
 have hu29 := Try.underlying29
 have hu38 := Try.underlying38
 have hu54 := Try.underlying54
 have HR0_0 := am hr0_0
 have HC0_0 := am hc0_0
 clear hr0_0 hc0_0
 have HB := am (Below.refl w.heap.size w)
 have H : ((some (([] : List (S54)) : List (S54))).bind fun y486 => ((spec_l04Is.f k l0_0 a1).bind fun t489 => (if t489 = true then ((spec_l04Heights.f k l0_0 a1).bind fun bt490 => (if 0 ≤ a1 then (if a1 < (l0_0.length : Int) then ((spec_l08Live.f k l0_0 a1).bind fun t498 => (spec_Ranges.l0 k a1 y486 bt490.1 ((rd_T35 l0_0 a1).f2) t498 0 l0_0)) else (none)) else (none))) else (some y486)))) = some r := h
 clear h
 obtain ⟨y486, hy486⟩ : ∃ y_ : List (S54), y_ = (([] : List (S54))) := ⟨_, rfl⟩
 replace H : ((spec_l04Is.f k l0_0 a1).bind fun t489 => (if t489 = true then ((spec_l04Heights.f k l0_0 a1).bind fun bt490 => (if 0 ≤ a1 then (if a1 < (l0_0.length : Int) then ((spec_l08Live.f k l0_0 a1).bind fun t498 => (spec_Ranges.l0 k a1 y486 bt490.1 ((rd_T35 l0_0 a1).f2) t498 0 l0_0)) else (none)) else (none))) else (some y486))) = some r := by first | (rw [hy486]; with_reducible exact H) | (have H2_ := (Option.bind_some _ _).symm.trans H; rw [hy486]; with_reducible exact H2_) | (have H2_ := (Option.bind_some _ _).symm.trans H; with_reducible exact H2_) | with_reducible exact H | (rw [hy486]; exact H) | exact H
 have Ny486 := am hy486
 clear hy486
 refine be H ?_; clear H; intro t489 A3 H
 have HC4 := am H
 clear H
 go_enter Try.func27, Try.ntmps27
 go_upto_if 18 with (first | ((with_reducible refine gd 2 rfl ?_); refine bX 2 #[.slice A0_0 l0_0.length c0_0] 25 HB ?_; clear HB; intro gb485 w5 hg hb BK485 GW485 HB; clear hb hg) | ((with_reducible refine gate_dst (N := 14) rfl ?_); refine Kd.R_lit k54 _ 54 ?hg (N := 14) ?hd (xs := ([] : List (S54))) (inner := []) (ok := fun _ => True) (okp := fun _ => True) ?hr ?hp (fun _ hk => hk) trivial (Below.refl _ _) (Nat.le_refl _) (by simp) ?_; (case hd => rfl); (case hg => rfl); (case hr => exact gs); (case hp => exact (Reps.none _ _)); intro v487 w6 ho7 hb hg_ hnew_; clear hg_ hnew_; (first | rw [← Ny486.out] at ho7 | (simp only [Int.reduceToNat] at ho7; rw [← Ny486.out] at ho7)); have HO488 := am (Kd.R_lower ho7 (below_size (bw HB))); replace BK485 := bb BK485 hb; replace HB := bs HB hb; clear hb ho7; have hcz8 := bK w6 BK485; have hfz8 := bF BK485) | ((with_reducible refine gk 63 rfl ?_); refine gB 63 (some 17) Try.func63 #[.agg #[.slice A0_0 l0_0.length c0_0], .int .i64 a1] (spec_l04Is.calls k _ _ l0_0 a1 t489 _ (cc (Kd.C_below HR0_0.out HB.out)) HC0_0.out A3.out) ?_; intro w9 hb; replace HO488 := am (Kd.R_below (kR HO488) hb); replace BK485 := bb BK485 hb; replace HB := bs HB hb; clear hb))
 (try simp only [Act.put, sa, sz, ss])
 have H := HC4.out
 clear HC4
 refine qT H ?_ ?_ <;> clear H <;> intro c10 H <;> subst c10
 ·replace H := Option.bind_eq_some_iff.mp H
  obtain ⟨⟨t490, t493, t494, t495⟩, A110, H⟩ := H
  replace H : (if 0 ≤ a1 then (if a1 < (l0_0.length : Int) then ((spec_l08Live.f k l0_0 a1).bind fun t498 => (spec_Ranges.l0 k a1 y486 t490 ((rd_T35 l0_0 a1).f2) t498 0 l0_0)) else (none)) else (none)) = some r := H
  have A11 := am A110
  clear A110
  refine iN H ?_; clear H; intro c12 H
  have c12b0 := decide_eq_true c12
  clear c12
  (first | rw [c12b0] | (simp only [i64_w, i32_w]; rw [c12b0]) | skip)
  refine iN H ?_; clear H; intro c13 H
  have c13b0 := decide_eq_true c13
  clear c13
  refine be H ?_; clear H; intro t498 A14 H
  have H' := am H
  clear H
  have hcz15 := bK w9 BK485
  have hfz15 := bF BK485
  go_wp2_with (first | ((with_reducible refine gk 66 rfl ?_); refine gC 66 (some 23) Try.func66 #[.agg #[.slice A0_0 l0_0.length c0_0], .int .i64 a1] ((spec_l04Heights.calls k _ _ l0_0 a1 t490 t493 t494 t495 _ (cc (Kd.C_below HR0_0.out HB.out)) HC0_0.out A11.out).mono ?_); rintro e w16 ⟨v491, rfl, ho0, hb⟩; refine ⟨_, rfl, ?_⟩; replace HO488 := am (Kd.R_below (kR HO488) hb); have HO492 := am (Kd.R_lower ho0 (below_size (bw HB))); replace BK485 := bb BK485 hb; replace HB := bs HB hb; clear hb; (try clear ho0)) | ((with_reducible refine gd 7 rfl ?_); refine bX 7 #[.int .i64 0, .int .i64 0, .int .i64 0] 29 HB ?_; clear HB; intro gb496 w17 hg hb BK496 GW496 HB; replace HO488 := am (Kd.R_below (kR HO488) hb); replace HO492 := am (Kd.R_below (kR HO492) hb); obtain ⟨NB485_496, NB496_485, BK485⟩ := b3 hg BK485 hb; clear hb hg; have hnb18 := NB496_485.out; have hnc18 := NB485_496.out; have hcz19 := bK w17 BK496; have hfz19 := bF BK496; have hcz20 := bK w17 BK485; have hfz20 := bF BK485; have p497 : 0 ≤ (a1 : Int) := of_decide_eq_true as1; have q497 : a1 < (l0_0.length : Int) := of_decide_eq_true as1; obtain ⟨ad497, A497_2, c497_2, e497, hx497_0, hx497_1, hx497_2, hl497_2, hi497_2⟩ := at_T35 HR0_0.out a1 p497 q497; cases e497; have hn497_0 : ad497.block ≠ gb496 := Nat.ne_of_lt (Nat.lt_of_lt_of_le (by have := World.block_lt_of_cell? _ _ hx497_0; first | rwa [add_block] at this | exact this) GW496.out); have hn497_1 : ad497.block ≠ gb496 := Nat.ne_of_lt (Nat.lt_of_lt_of_le (by have := World.block_lt_of_cell? _ _ hx497_0; first | rwa [add_block] at this | exact this) GW496.out); have hn497_2 : ad497.block ≠ gb496 := Nat.ne_of_lt (Nat.lt_of_lt_of_le (by have := World.block_lt_of_cell? _ _ hx497_0; first | rwa [add_block] at this | exact this) GW496.out); replace hx497_0 := cl HB hx497_0; replace hx497_1 := cl HB hx497_1; replace hx497_2 := cl HB hx497_2; have HR497_2 := am hi497_2; have HC497_2 := am hl497_2; clear hi497_2 hl497_2; replace hx497_0 := (cell_far (p := ⟨gb496, 0, none⟩) (by first | (rw [add_block]; exact hn497_0) | (show (Addr.add _ _).block ≠ _; rw [add_block]; exact hn497_0) | exact hn497_0) (.int .i64 t493)).trans hx497_0; replace hx497_1 := (cell_far (p := ⟨gb496, 0, none⟩) (by first | (rw [add_block]; exact hn497_0) | (show (Addr.add _ _).block ≠ _; rw [add_block]; exact hn497_0) | exact hn497_0) (.int .i64 t493)).trans hx497_1; replace hx497_2 := (cell_far (p := ⟨gb496, 0, none⟩) (by first | (rw [add_block]; exact hn497_0) | (show (Addr.add _ _).block ≠ _; rw [add_block]; exact hn497_0) | exact hn497_0) (.int .i64 t493)).trans hx497_2; replace hx497_0 := (cell_far (p := ⟨gb496, 1, none⟩) (by first | (rw [add_block]; exact hn497_1) | (show (Addr.add _ _).block ≠ _; rw [add_block]; exact hn497_1) | exact hn497_1) (.int .i64 t494)).trans hx497_0; replace hx497_1 := (cell_far (p := ⟨gb496, 1, none⟩) (by first | (rw [add_block]; exact hn497_1) | (show (Addr.add _ _).block ≠ _; rw [add_block]; exact hn497_1) | exact hn497_1) (.int .i64 t494)).trans hx497_1; replace hx497_2 := (cell_far (p := ⟨gb496, 1, none⟩) (by first | (rw [add_block]; exact hn497_1) | (show (Addr.add _ _).block ≠ _; rw [add_block]; exact hn497_1) | exact hn497_1) (.int .i64 t494)).trans hx497_2; replace hx497_0 := (cell_far (p := ⟨gb496, 2, none⟩) (by first | (rw [add_block]; exact hn497_2) | (show (Addr.add _ _).block ≠ _; rw [add_block]; exact hn497_2) | exact hn497_2) (.int .i64 t495)).trans hx497_0; replace hx497_1 := (cell_far (p := ⟨gb496, 2, none⟩) (by first | (rw [add_block]; exact hn497_2) | (show (Addr.add _ _).block ≠ _; rw [add_block]; exact hn497_2) | exact hn497_2) (.int .i64 t495)).trans hx497_1; replace hx497_2 := (cell_far (p := ⟨gb496, 2, none⟩) (by first | (rw [add_block]; exact hn497_2) | (show (Addr.add _ _).block ≠ _; rw [add_block]; exact hn497_2) | exact hn497_2) (.int .i64 t495)).trans hx497_2; clear hn497_0; clear hn497_1; clear hn497_2; replace p497 := eq_true p497; replace q497 := eq_true q497) | ((with_reducible refine gk 64 rfl ?_); refine gC 64 (some 34) Try.func64 #[.agg #[.slice (some ad497) l0_0.length c0_0], .int .i64 a1] ((spec_l08Live.calls k _ _ l0_0 a1 t498 _ (Kd.C_below HR0_0.out (bw HB)) HC0_0.out A14.out).mono ?_); rintro e w21 ⟨v499, rfl, ho0, hb⟩; refine ⟨_, rfl, ?_⟩; replace HO488 := am (Kd.R_below (by (with_reducible repeat (first | apply Kd.R_alloc | apply Kd.R_drewN | apply Kd.R_drew)); exact (Kd.R_mono (Kd.R_far (p := ⟨gb496, 2, none⟩) (Kd.R_far (p := ⟨gb496, 1, none⟩) (Kd.R_far (p := ⟨gb496, 0, none⟩) (Kd.R_types HO488.out BK496.out (by decide)) (fun _ hk => hk.2) (.int .i64 t493)) (fun _ hk => hk.2) (.int .i64 t494)) (fun _ hk => hk.2) (.int .i64 t495)) (fun _ h_ => h_.1))) hb); have HO500 := am (Kd.R_lower (Kd.R_new' ho0 (Kd.R_lt (by (with_reducible repeat (first | apply Kd.R_alloc | apply Kd.R_drewN | apply Kd.R_drew)); exact (Kd.R_mono (Kd.R_far (p := ⟨gb496, 2, none⟩) (Kd.R_far (p := ⟨gb496, 1, none⟩) (Kd.R_far (p := ⟨gb496, 0, none⟩) (Kd.R_types HO492.out BK496.out (by decide)) (fun _ hk => hk.2) (.int .i64 t493)) (fun _ hk => hk.2) (.int .i64 t494)) (fun _ hk => hk.2) (.int .i64 t495)) (fun _ h_ => h_.1))))) (below_size (bw HB))); replace HO492 := am (Kd.R_elder' (by (with_reducible repeat (first | apply Kd.R_alloc | apply Kd.R_drewN | apply Kd.R_drew)); exact (Kd.R_mono (Kd.R_far (p := ⟨gb496, 2, none⟩) (Kd.R_far (p := ⟨gb496, 1, none⟩) (Kd.R_far (p := ⟨gb496, 0, none⟩) (Kd.R_types HO492.out BK496.out (by decide)) (fun _ hk => hk.2) (.int .i64 t493)) (fun _ hk => hk.2) (.int .i64 t494)) (fun _ hk => hk.2) (.int .i64 t495)) (fun _ h_ => h_.1))) (Kd.R_base ho0) hb); replace BK485 := bb2 BK485 hb; replace BK496 := bo #[.int .i64 t493, .int .i64 t494, .int .i64 t495] BK496 hb; replace HB := bs HB hb; clear hb; (try clear ho0)))
  go_loopg [10] k (fun kq v10 w' => ∃ (x9_1 : List Int) (x10_1 : Int), v10 = .int .i64 x10_1 ∧ Aside0 (spec_Ranges.l0 kq a1 y486 t490 ((rd_T35 l0_0 a1).f2) x9_1 x10_1 l0_0 = some r) ∧ Aside0 (kq ≤ k) ∧ Aside0 (Kd.R k54 54 w' w.heap.size (fun _ => True) v487 y486) ∧ Aside0 (Kd.R (Kd.int .i64) 2 w' w.heap.size (fun k_ => some k_ ≠ (v499 : Value).ownBlock) v491 t490) ∧ Aside0 (Kd.R (Kd.int .i64) 2 w' w.heap.size (fun k_ => some k_ ≠ (v491 : Value).ownBlock) v499 x9_1) ∧ Aside0 (w'.heap[gb485]? = some (.cells #[(.slice (some ad497) l0_0.length c0_0)] 25 (0, 0))) ∧ Aside0 (w'.heap[gb496]? = some (.cells #[.int .i64 t493, .int .i64 t494, .int .i64 t495] 29 (0, 0))) ∧ Aside0 (Below w.heap.size w w'))
  case atStart => exact ⟨(t498), (0), dr, H', ⟨Nat.le_refl _⟩, ⟨kR HO488⟩, ⟨by (with_reducible repeat (first | apply Kd.R_alloc | apply Kd.R_drewN | apply Kd.R_drew)); exact Kd.R_mono HO492.out (fun _ hk => hk.2)⟩, ⟨by (with_reducible repeat (first | apply Kd.R_alloc | apply Kd.R_drewN | apply Kd.R_drew)); exact Kd.R_mono HO500.out (fun _ hk => hk.2)⟩, ⟨bp BK485⟩, ⟨bp BK496⟩, ⟨bw HB⟩⟩
  clear H'
  (try clear c1); (try clear c2); (try clear p2); (try clear c4); (try clear p4); (try clear q4); (try clear hx4); (try clear c6); (try clear c10); (try clear c12); (try clear c12b0); (try clear c13); (try clear c13b0); (try clear c18); (try clear hcz15); (try clear hcz19); (try clear hcz20); (try clear hcz8); (try clear hfz15); (try clear hfz19); (try clear hfz20); (try clear hfz8); (try clear hx497_0); (try clear hx497_1); (try clear hx497_2); (try clear p497); (try clear q497)
  obtain ⟨x9_1, x10_1, rfl, HA, HK1, HO_5, HO_6, HO_9, BK485, BK496, HB⟩ := hrel
  rcases gk with _ | k1
  ·exact absurd HA.out (by simp [spec_Ranges.l0])
  have H := HA.out
  clear HA
  simp only [spec_Ranges.l0] at H
  by_cases c22 : (wrap64 (x10_1 + 1)) < (((rd_T35 l0_0 a1).f2).length : Int)
  ·rw [if_pos c22] at H
   have c22b0 := decide_eq_true c22
   clear c22
   refine iM H ?_; clear H; intro c23b0 H
   refine iM H ?_; clear H; intro c24b0 H
   refine qL H ?_ ?_ <;> clear H <;> intro c25b0 H
   ·obtain ⟨ji26, hji26⟩ : ∃ j_ : Int, (wrap64 (x10_1 + 1)) = j_ := ⟨_, rfl⟩
    replace H : (if 0 ≤ (ji26) then (if (ji26) < (x9_1.length : Int) then (if x10_1 < (((rd_T35 l0_0 a1).f2).length : Int) then (if 0 ≤ a1 then (if a1 < (l0_0.length : Int) then ((spec_l08Writes.f k1 l0_0 ((rd_T38 ((rd_T35 l0_0 a1).f2) x10_1).f0) ((rd_T38 ((rd_T35 l0_0 a1).f2) x10_1).f1) (wrap64 (((rd_T35 l0_0 a1).f1) + (rd t490 x10_1)))).bind fun t506 => (spec_Ranges.l0 k1 a1 y486 t490 ((rd_T35 l0_0 a1).f2) (x9_1.set ((ji26) : Int).toNat (Go.bits .or .i64 (rd x9_1 (ji26)) t506)) ji26 l0_0)) else (none)) else (none)) else (none)) else (none)) else (none)) = some r := by first | (rw [hji26] at H; exact H) | (simp only [hji26] at H ⊢; exact H)
    (try rw [hji26] at c22b0)
    have hji26w : (IntKind.i64.wrap (x10_1 + 1)) = ji26 := (i64_w _).trans hji26
    refine iM H ?_; clear H; intro c27b0 H
    refine iM H ?_; clear H; intro c28b0 H
    refine iM H ?_; clear H; intro c29b0 H
    refine iM H ?_; clear H; intro c30b0 H
    refine iM H ?_; clear H; intro c31b0 H
    refine be H ?_; clear H; intro t506 A32 H
    obtain ⟨y507, hy507⟩ : ∃ y_ : List Int, y_ = (x9_1.set ((ji26) : Int).toNat (Go.bits .or .i64 (rd x9_1 (ji26)) t506)) := ⟨_, rfl⟩
    replace H : (spec_Ranges.l0 k1 a1 y486 t490 ((rd_T35 l0_0 a1).f2) y507 ji26 l0_0) = some r := by first | (rw [hy507]; with_reducible exact H) | (have H2_ := (Option.bind_some _ _).symm.trans H; rw [hy507]; with_reducible exact H2_) | (have H2_ := (Option.bind_some _ _).symm.trans H; with_reducible exact H2_) | with_reducible exact H | (rw [hy507]; exact H) | exact H
    have Ny507 := am hy507
    clear hy507
    have H' := am H
    clear H
    obtain ⟨Ao34, co34, eo34⟩ := Kd.R_slice HO_6.out
    subst eo34
    have p501 : 0 ≤ (x10_1 : Int) := of_decide_eq_true as1
    have q501 : x10_1 < (t490.length : Int) := of_decide_eq_true as1
    obtain ⟨ad501, e501, hx501_0⟩ := Kd.at_int (Kd.R_reads' HO_6.out).2.2 x10_1 p501 q501
    cases e501
    replace p501 := eq_true p501
    replace q501 := eq_true q501
    try go_wp2
    replace HO_5 := am (Kd.R_drew HO_5.out)
    replace HO_6 := am (Kd.R_drew HO_6.out)
    replace HO_9 := am (Kd.R_drew HO_9.out)
    replace BK485 := am (blk_drew BK485.out)
    replace BK496 := am (blk_drew BK496.out)
    replace HB := am (below_drew1 HB.out)
    obtain ⟨Ao36, co36, eo36⟩ := Kd.R_slice HO_9.out
    (first | subst eo36 | (injection eo36 with f1_ f2_ f3_; have f4_ := f1_.symm; have f5_ := f3_.symm; clear f1_ f2_ f3_; subst f4_; subst f5_))
    have p502 : 0 ≤ ((ji26) : Int) := of_decide_eq_true as1
    have q502 : (ji26) < (x9_1.length : Int) := of_decide_eq_true as1
    obtain ⟨ad502, e502, hx502_0⟩ := Kd.at_int (Kd.R_reads' HO_9.out).2.2 (ji26) p502 q502
    cases e502
    replace p502 := eq_true p502
    replace q502 := eq_true q502
    have p503 : 0 ≤ (x10_1 : Int) := of_decide_eq_true as1
    have q503 : x10_1 < (((rd_T35 l0_0 a1).f2).length : Int) := of_decide_eq_true as1
    obtain ⟨ad503, e503, hx503_0, hx503_1⟩ := at_T38 HR497_2.out x10_1 p503 q503
    have hw503_1 := hx503_1
    have hw503_0 := hx503_0
    cases e503
    replace hx503_0 := cl HB hx503_0
    replace hx503_1 := cl HB hx503_1
    replace p503 := eq_true p503
    replace q503 := eq_true q503
    have p504 : 0 ≤ (a1 : Int) := of_decide_eq_true as1
    have q504 : a1 < (l0_0.length : Int) := of_decide_eq_true as1
    obtain ⟨ad504, A504_2, c504_2, e504, hx504_0, hx504_1, hx504_2, hl504_2, hi504_2⟩ := at_T35 HR0_0.out a1 p504 q504
    have hw504_2 := hx504_2
    have hw504_1 := hx504_1
    have hw504_0 := hx504_0
    obtain rfl : ad497 = ad504 := (by injection e504)
    replace hx504_0 := cl HB hx504_0
    replace hx504_1 := cl HB hx504_1
    replace hx504_2 := cl HB hx504_2
    have HR504_2 := am hi504_2
    have HC504_2 := am hl504_2
    clear hi504_2 hl504_2
    replace p504 := eq_true p504
    replace q504 := eq_true q504
    have p505 : 0 ≤ (x10_1 : Int) := of_decide_eq_true as1
    have q505 : x10_1 < (t490.length : Int) := of_decide_eq_true as1
    obtain ⟨ad505, e505, hx505_0⟩ := Kd.at_int (Kd.R_reads' HO_6.out).2.2 x10_1 p505 q505
    obtain rfl : ad501 = ad505 := (by injection e505)
    replace p505 := eq_true p505
    replace q505 := eq_true q505
    refine start_ (n := 28) (S := fun w' => w'.cell? ⟨gb485, 0, none⟩ = some (.slice (some ad497) l0_0.length c0_0) ∧ w'.cell? (ad502.add ((ji26)).toNat) = some (.int .i64 (rd x9_1 (ji26))) ∧ w'.cell? (ad503.add ((x10_1).toNat * 2)) = some (.int .i64 ((rd_T38 ((rd_T35 l0_0 a1).f2) x10_1).f0)) ∧ w'.cell? ⟨(ad503.add ((x10_1).toNat * 2)).block, (ad503.add ((x10_1).toNat * 2)).off + 1, none⟩ = some (.int .i64 ((rd_T38 ((rd_T35 l0_0 a1).f2) x10_1).f1)) ∧ w'.cell? (ad497.add ((a1).toNat * 3)) = some (.int .i64 ((rd_T35 l0_0 a1).f0)) ∧ w'.cell? ⟨(ad497.add ((a1).toNat * 3)).block, (ad497.add ((a1).toNat * 3)).off + 1, none⟩ = some (.int .i64 ((rd_T35 l0_0 a1).f1)) ∧ w'.cell? ⟨(ad497.add ((a1).toNat * 3)).block, (ad497.add ((a1).toNat * 3)).off + 2, none⟩ = some (.slice A504_2 ((rd_T35 l0_0 a1).f2).length c504_2) ∧ w'.cell? (ad501.add (x10_1).toNat) = some (.int .i64 (rd t490 x10_1))) (ds := [27]) (bv 28 0) (by kernel_rfl) rfl (by kernel_rfl) ⟨bc BK485 0, hx502_0, (cq HB hw503_0), (cq HB hw503_1), (cq HB hw504_0), (cq HB hw504_1), (cq HB hw504_2), hx505_0⟩ (fun hHeld => ?_); refine with_tabW spec_Ranges.tab11 spec_Ranges.bits11 (fun HT_ HW_ => ?_)
    generalize wr.drew = w35 at HO_5 HO_6 HO_9 BK485 BK496 HB HR504_2 hx502_0 hx503_0 hx503_1 hx504_0 hx504_1 hx504_2 hx505_0 hHeld ⊢
    refine pu 0 47 28 1 HT_ ?_
    refine pu 1 48 28 3 HT_ ?_
    refine pu 2 49 28 7 HT_ ?_
    refine pu 3 50 28 15 HT_ ?_
    refine pu 4 51 28 31 HT_ ?_
    refine pu 5 52 28 63 HT_ ?_
    refine pu 6 53 28 127 HT_ ?_
    refine pu 9 56 28 639 HT_ ?_
    refine pu 10 57 28 1663 HT_ ?_
    refine pu 11 58 28 3711 HT_ ?_
    refine pu 13 60 28 11903 HT_ ?_
    refine pu 15 62 28 44671 HT_ ?_
    refine pu 19 66 28 568959 HT_ ?_
    refine pu 20 67 28 1617535 HT_ ?_
    refine pu 21 68 28 3714687 HT_ ?_
    refine tk 7 54 28 3714815 HT_ HW_ hHeld ?_
    refine tk 8 55 28 3715071 HT_ HW_ hHeld ?_
    refine tk 12 59 28 3719167 HT_ HW_ hHeld ?_
    refine tk 14 61 28 3735551 HT_ HW_ hHeld ?_
    refine pu 16 63 28 3801087 HT_ ?_
    refine pu 17 64 28 3932159 HT_ ?_
    refine tk 18 65 28 4194303 HT_ HW_ hHeld ?_
    refine tk 22 69 28 8388607 HT_ HW_ hHeld ?_
    refine pu 23 70 28 16777215 HT_ ?_
    refine on 24 (some 71) 28 33554431 HT_ fun K hK => ?_
    refine goes_ Try.func67 (by kernel_rfl) rfl #[.agg #[.slice (some ad497) l0_0.length c0_0], .agg #[.int .i64 ((rd_T38 ((rd_T35 l0_0 a1).f2) x10_1).f0), .int .i64 ((rd_T38 ((rd_T35 l0_0 a1).f2) x10_1).f1)], .int .i64 (wrap64 (((rd_T35 l0_0 a1).f1) + (rd t490 x10_1)))] (by rfl) rfl rfl gl ?_
    with_reducible refine (spec_l08Writes.calls k1 _ _ l0_0 ((rd_T38 ((rd_T35 l0_0 a1).f2) x10_1).f0) ((rd_T38 ((rd_T35 l0_0 a1).f2) x10_1).f1) (wrap64 (((rd_T35 l0_0 a1).f1) + (rd t490 x10_1))) t506 _ ?side1 ?side2 A32.out).mono ?_
    (case side1 => exact cc (Kd.C_below HR0_0.out HB.out))
    (case side2 => exact HC0_0.out)
    rintro e w37 ⟨rfl, hb⟩
    have HS1_ := (hb.cell (World.block_lt_of_cell? _ _ (hHeld.2.1))).trans (hHeld.2.1)
    have HS7_ := (hb.cell (World.block_lt_of_cell? _ _ (hHeld.2.2.2.2.2.2.2))).trans (hHeld.2.2.2.2.2.2.2)
    refine ⟨_, rfl, ?_⟩
    replace HO_5 := am (Kd.R_below (kR HO_5) hb)
    replace HO_6 := am (Kd.R_below (kR HO_6) hb)
    replace HO_9 := am (Kd.R_below (kR HO_9) hb)
    replace BK485 := bb BK485 hb
    replace BK496 := bb BK496 hb
    replace HB := am (below_step (bw HB) hb)
    clear hb
    have p33 : 0 ≤ ((ji26) : Int) := of_decide_eq_true as1
    have q33 : ((ji26) : Int) < ((x9_1.length : Int) : Int) := of_decide_eq_true as1
    obtain ⟨go33, co33, eo33, gb33, gl33, cl33, HG33⟩ := Kd.R_form HO_9.out (by omega)
    (first | cases eo33 | (injection eo33 with ea_ en_ ec_; (first | subst ea_ | (injection ea_ with ea_; subst ea_)); subst ec_; clear en_))
    have GB33 := am gb33
    have GG33 := am HG33
    clear gb33 gl33 HG33
    (first | simp only [add_plain] at hx502_0 | skip)
    obtain ⟨hx33_0, hf33_0⟩ := Kd.R_celln 0 HO_9.out ((ji26) : Int) p33 q33
    replace p33 := eq_true p33
    replace q33 := eq_true q33
    have HP38 := Kd.R_putn HO_9.out ((ji26) : Int) (Go.bits .or .i64 (rd x9_1 (ji26)) t506)
    rw [← Ny507.out] at HP38
    have HQ38 := am HP38
    clear HP38
    refine hK.out _ _ ⟨bc BK485 0, HS1_, (cq HB hw503_0), (cq HB hw503_1), (cq HB hw504_0), (cq HB hw504_1), (cq HB hw504_2), HS7_⟩ (fun hHeld => ?_)
    clear hK K
    refine nm (some 71) ?_
    refine pu 25 72 28 67108863 HT_ ?_
    refine pu 26 73 28 134217727 HT_ ?_
    refine last_ (i := 27) (N := none) (bv 28 268435455) rfl rfl (one_of HT_.out (by kernel_rfl)) (by decide) (fun K hK => ?_)
    refine skip_ (w1 := ?_) (by rfl) rfl ?_ ?_
    rotate_left
    ·go_simp
     rfl
    refine hK.out _ _ ?_
    clear hK K
    refine done_ (done_of HT_.out (by kernel_rfl)) ?_
    try go_wp2
    go_roundg k1
    case measure => have := HK1.out; omega
    case rel => exact ⟨(y507), (ji26), (by first | rfl | (simp; done) | (simp only [← hji26] <;> (first | rfl | simp)) | (simp [*]; done)), H', ⟨by have := HK1.out; omega⟩, ⟨by (with_reducible repeat (first | apply Kd.R_alloc | apply Kd.R_drewN | apply Kd.R_drew)); exact Kd.R_mono (Kd.R_far (p := ⟨go33, ((ji26) : Int).toNat, none⟩) (Kd.R_types HO_5.out GG33.out (by decide)) (fun _ hk => hk.2) (.int .i64 (Go.bits .or .i64 (rd x9_1 (ji26)) t506))) (fun _ hk => trivial)⟩, ⟨by (with_reducible repeat (first | apply Kd.R_alloc | apply Kd.R_drewN | apply Kd.R_drew)); exact Kd.R_mono (Kd.R_far (p := ⟨go33, ((ji26) : Int).toNat, none⟩) (Kd.R_mono HO_6.out (fun k_ hk => (⟨hk, fun e_ => hk (by rw [e_]; rfl)⟩ : _ ∧ k_ ≠ go33))) (fun _ hk => hk.2) (.int .i64 (Go.bits .or .i64 (rd x9_1 (ji26)) t506))) (fun _ hk => hk.1)⟩, ⟨kR HQ38⟩, ⟨by (with_reducible repeat (first | apply dN | apply dW | apply dA)); refine blk_far ?_ (by have h_ := Kd.R_ne HO_9.out BK485.out (by decide); intro e_; exact h_ (by rw [e_]; rfl)) _; exact bp BK485⟩, ⟨by (with_reducible repeat (first | apply dN | apply dW | apply dA)); refine blk_far ?_ (by have h_ := Kd.R_ne HO_9.out BK496.out (by decide); intro e_; exact h_ (by rw [e_]; rfl)) _; exact bp BK496⟩, ⟨by repeat (first | (with_reducible first | exact HB.out | apply below_alloc | apply pw_below_drewN | apply below_drew1 | refine below_set ?_ GB33.out | refine below_set ?_ GW485.out | refine below_set ?_ GW496.out) | exact HB.out)⟩⟩
   have H' := am H
   clear H
   obtain ⟨Ao39, co39, eo39⟩ := Kd.R_slice HO_6.out
   subst eo39
   have p501 : 0 ≤ (x10_1 : Int) := of_decide_eq_true as1
   have q501 : x10_1 < (t490.length : Int) := of_decide_eq_true as1
   obtain ⟨ad501, e501, hx501_0⟩ := Kd.at_int (Kd.R_reads' HO_6.out).2.2 x10_1 p501 q501
   cases e501
   replace p501 := eq_true p501
   replace q501 := eq_true q501
   go_wp2
   go_roundg k1
   case measure => have := HK1.out; omega
   case rel => exact ⟨(x9_1), (wrap64 (x10_1 + 1)), dr, H', ⟨by have := HK1.out; omega⟩, ⟨kR HO_5⟩, ⟨kR HO_6⟩, ⟨kR HO_9⟩, ⟨bp BK485⟩, ⟨bp BK496⟩, ⟨bw HB⟩⟩
  rw [if_neg c22] at H
  have c22b0 := decide_eq_false c22
  clear c22
  have H' := am H
  clear H
  go_wp2
  go_loopg [5, 11] k1 (fun kq v5 v11 w' => ∃ (x5_2 : List (S54)) (x11_2 : Int), v11 = .int .i64 x11_2 ∧ Aside0 (spec_Ranges.l1 kq x5_2 ((rd_T35 l0_0 a1).f2) x9_1 x11_2 = some r) ∧ Aside0 (kq ≤ k1) ∧ Aside0 (Kd.R k54 54 w' w.heap.size (fun _ => True) v5 x5_2) ∧ Aside0 (Kd.R (Kd.int .i64) 2 w' w.heap.size (fun _ => True) v499 x9_1) ∧ Aside0 (w'.heap[gb485]? = some (.cells #[(.slice (some ad497) l0_0.length c0_0)] 25 (0, 0))) ∧ Aside0 (w'.heap[gb496]? = some (.cells #[.int .i64 t493, .int .i64 t494, .int .i64 t495] 29 (0, 0))) ∧ Aside0 (Below w.heap.size w w'))
  case atStart => exact ⟨(y486), (0), dr, H', ⟨Nat.le_refl _⟩, ⟨kR HO_5⟩, ⟨by (with_reducible repeat (first | apply Kd.R_alloc | apply Kd.R_drewN | apply Kd.R_drew)); exact Kd.R_mono HO_9.out (fun _ hk => trivial)⟩, ⟨bp BK485⟩, ⟨bp BK496⟩, ⟨bw HB⟩⟩
  clear H'
  (try clear c3); (try clear p3); (try clear q3); (try clear hx3); (try clear hf3); (try clear c5); (try clear p5); (try clear q5); (try clear hx5); (try clear p6); (try clear c22); (try clear c22b0); (try clear c23); (try clear c23b0); (try clear c24); (try clear c24b0); (try clear c25); (try clear c25b0); (try clear c27); (try clear c27b0); (try clear c28); (try clear c28b0); (try clear c29); (try clear c29b0); (try clear c30); (try clear c30b0); (try clear c31); (try clear c31b0); (try clear p33); (try clear q33); (try clear hx33); (try clear hf33); (try clear hx33_0); (try clear hx501_0); (try clear hx502_0); (try clear hx503_0); (try clear hx503_1); (try clear hx504_0); (try clear hx504_1); (try clear hx504_2); (try clear hx505_0); (try clear p33); (try clear p501); (try clear p502); (try clear p503); (try clear p504); (try clear p505); (try clear q33); (try clear q501); (try clear q502); (try clear q503); (try clear q504); (try clear q505)
  obtain ⟨x5_2, x11_2, rfl, HA, HK2, HO_5, HO_9, BK485, BK496, HB⟩ := hrel
  rcases gk with _ | k2
  ·exact absurd HA.out (by simp [spec_Ranges.l1])
  have H := HA.out
  clear HA
  simp only [spec_Ranges.l1] at H
  by_cases c40 : x11_2 < 16
  ·rw [if_pos c40] at H
   have c40b0 := decide_eq_true c40
   clear c40
   have H' := am H
   clear H
   go_wp2_with (first | ((with_reducible refine gd 12 rfl ?_); refine bX 12 #[.int .i64 0, .int .i64 0, .int .i64 0] 54 HB ?_; clear HB; intro gb508 w41 hg hb BK508 GW508 HB; replace HO_5 := am (Kd.R_below (Kd.R_elderB (kR HO_5) gb508 (Nat.le_of_eq hg.symm)) hb); replace HO_9 := am (Kd.R_below (kR HO_9) hb); obtain ⟨NB485_508, NB508_485, BK485⟩ := b3 hg BK485 hb; obtain ⟨NB496_508, NB508_496, BK496⟩ := b3 hg BK496 hb; clear hb hg; have hnb42 := NB508_485.out; have hnc42 := NB485_508.out; have hnb43 := NB508_496.out; have hnc43 := NB496_508.out; have hcz44 := bK w41 BK508; have hfz44 := bF BK508))
   go_loopg [13] k2 (fun kq v13 w' => ∃ (x13_3 : Int) (x509001_3 : Int) (x509002_3 : Int), v13 = .int .i64 x13_3 ∧ Aside0 (spec_Ranges.l2 kq x5_2 ((rd_T35 l0_0 a1).f2) x9_1 x11_2 x13_3 x11_2 x509001_3 x509002_3 = some r) ∧ Aside0 (kq ≤ k2) ∧ Aside0 (Kd.R k54 54 w' w.heap.size (fun k_ => k_ ≠ gb508) u5 x5_2) ∧ Aside0 (Kd.R (Kd.int .i64) 2 w' w.heap.size (fun _ => True) v499 x9_1) ∧ Aside0 (w'.heap[gb485]? = some (.cells #[(.slice (some ad497) l0_0.length c0_0)] 25 (0, 0))) ∧ Aside0 (w'.heap[gb496]? = some (.cells #[.int .i64 t493, .int .i64 t494, .int .i64 t495] 29 (0, 0))) ∧ Aside0 (w'.heap[gb508]? = some (.cells #[.int .i64 x11_2, .int .i64 x509001_3, .int .i64 x509002_3] 54 (0, 0))) ∧ Aside0 (Below w.heap.size w w'))
   case atStart => exact ⟨(0), ((-1)), (0), dr, H', ⟨Nat.le_refl _⟩, ⟨by (with_reducible repeat (first | apply Kd.R_alloc | apply Kd.R_drewN | apply Kd.R_drew)); exact Kd.R_mono (Kd.R_far (p := ⟨gb508, 2, none⟩) (Kd.R_far (p := ⟨gb508, 1, none⟩) (Kd.R_far (p := ⟨gb508, 0, none⟩) (Kd.R_mono HO_5.out (fun k_ hk => (⟨hk, hk.2⟩ : _ ∧ k_ ≠ gb508))) (fun _ hk => hk.2) (.int .i64 x11_2)) (fun _ hk => hk.2) (.int .i64 (-1))) (fun _ hk => hk.2) (.int .i64 0)) (fun _ hk => hk.1.2)⟩, ⟨by (with_reducible repeat (first | apply Kd.R_alloc | apply Kd.R_drewN | apply Kd.R_drew)); exact Kd.R_mono (Kd.R_far (p := ⟨gb508, 2, none⟩) (Kd.R_far (p := ⟨gb508, 1, none⟩) (Kd.R_far (p := ⟨gb508, 0, none⟩) (Kd.R_types HO_9.out BK508.out (by decide)) (fun _ hk => hk.2) (.int .i64 x11_2)) (fun _ hk => hk.2) (.int .i64 (-1))) (fun _ hk => hk.2) (.int .i64 0)) (fun _ hk => trivial)⟩, ⟨by (with_reducible repeat (first | apply dN | apply dW | apply dA)); refine blk_far ?_ NB485_508.out _; (with_reducible repeat (first | apply dN | apply dW | apply dA)); refine blk_far ?_ NB485_508.out _; (with_reducible repeat (first | apply dN | apply dW | apply dA)); refine blk_far ?_ NB485_508.out _; exact bp BK485⟩, ⟨by (with_reducible repeat (first | apply dN | apply dW | apply dA)); refine blk_far ?_ NB496_508.out _; (with_reducible repeat (first | apply dN | apply dW | apply dA)); refine blk_far ?_ NB496_508.out _; (with_reducible repeat (first | apply dN | apply dW | apply dA)); refine blk_far ?_ NB496_508.out _; exact bp BK496⟩, ⟨by (with_reducible repeat (first | apply dN | apply dW | apply dA)); refine blk_put (cs := #[.int .i64 x11_2, .int .i64 (-1), .int .i64 0]) ?_ 2 _ rfl; (with_reducible repeat (first | apply dN | apply dW | apply dA)); refine blk_put (cs := #[.int .i64 x11_2, .int .i64 0, .int .i64 0]) ?_ 1 _ rfl; (with_reducible repeat (first | apply dN | apply dW | apply dA)); refine blk_put (cs := #[.int .i64 0, .int .i64 0, .int .i64 0]) ?_ 0 _ rfl; exact bp BK508⟩, ⟨bw HB⟩⟩
   clear H'
   (try clear c40); (try clear c40b0); (try clear c42); (try clear c43); (try clear hcz44); (try clear hfz44)
   obtain ⟨x13_3, x509001_3, x509002_3, rfl, HA, HK3, HO_5, HO_9, BK485, BK496, BK508, HB⟩ := hrel
   rcases gk with _ | k3
   ·exact absurd HA.out (by simp [spec_Ranges.l2])
   have H := HA.out
   clear HA
   simp only [spec_Ranges.l2] at H
   refine qI H ?_ ?_ <;> clear H <;> intro c45b0 H
   ·refine iM H ?_; clear H; intro c46b0 H
    refine iM H ?_; clear H; intro c47b0 H
    refine be H ?_; clear H; intro t510 A48 H
    have HC49 := am H
    clear H
    try go_wp2
    replace HO_5 := am (Kd.R_drew HO_5.out)
    replace HO_9 := am (Kd.R_drew HO_9.out)
    replace BK485 := am (blk_drew BK485.out)
    replace BK496 := am (blk_drew BK496.out)
    replace BK508 := am (blk_drew BK508.out)
    replace HB := am (below_drew1 HB.out)
    obtain ⟨Ao51, co51, eo51⟩ := Kd.R_slice HO_9.out
    (first | subst eo51 | (injection eo51 with f1_ f2_ f3_; have f4_ := f1_.symm; have f5_ := f3_.symm; clear f1_ f2_ f3_; subst f4_; subst f5_))
    have p509 : 0 ≤ (x13_3 : Int) := of_decide_eq_true as1
    have q509 : x13_3 < (x9_1.length : Int) := of_decide_eq_true as1
    obtain ⟨ad509, e509, hx509_0⟩ := Kd.at_int (Kd.R_reads' HO_9.out).2.2 x13_3 p509 q509
    cases e509
    replace p509 := eq_true p509
    replace q509 := eq_true q509
    refine start_ (n := 8) (S := fun w' => w'.cell? (ad509.add (x13_3).toNat) = some (.int .i64 (rd x9_1 x13_3))) (ds := []) (bv 8 0) (by kernel_rfl) rfl (by kernel_rfl) (hx509_0) (fun hHeld => ?_); refine with_tabW spec_Ranges.tab19 spec_Ranges.bits19 (fun HT_ HW_ => ?_)
    generalize wr.drew = w50 at HO_5 HO_9 BK485 BK496 BK508 HB hx509_0 hHeld ⊢
    refine pu 0 86 8 1 HT_ ?_
    refine pu 1 87 8 3 HT_ ?_
    refine pu 2 88 8 7 HT_ ?_
    refine pu 4 90 8 23 HT_ ?_
    refine tk 3 89 8 31 HT_ HW_ hHeld ?_
    refine on 5 (some 91) 8 63 HT_ fun K hK => ?_
    refine goes_ Try.func68 (by kernel_rfl) rfl #[.int .i64 x11_2] (by rfl) rfl rfl gl ?_
    with_reducible refine (spec_l08Bit.calls x11_2 t510 _ A48.out).mono ?_
    rintro e w' ⟨rfl, ⟨nd, rfl⟩⟩
    refine ⟨_, rfl, ?_⟩
    refine hK.out _ _ (hHeld) (fun hHeld => ?_)
    clear hK K
    refine nm (some 91) ?_
    refine pu 6 92 8 127 HT_ ?_
    refine pu 7 93 8 255 HT_ ?_
    refine done_ (done_of HT_.out (by kernel_rfl)) ?_
    go_upto_if 93 with (fail)
    (try simp only [Act.put, sa, sz, ss])
    (try simp only [World.drewN_drewN])
    generalize hq_ : World.drewN w50 _ = w52
    replace HO_5 : Aside0 (Kd.R k54 54 w52 w.heap.size (fun k_ => k_ ≠ gb508) u5 x5_2) := ⟨by rw [← hq_]; exact (kR HO_5)⟩
    replace HO_9 : Aside0 (Kd.R (Kd.int .i64) 2 w52 w.heap.size (fun _ => True) (.slice (some ad509) x9_1.length co51) x9_1) := ⟨by rw [← hq_]; exact (kR HO_9)⟩
    replace BK485 : Aside0 (w52.heap[gb485]? = some (.cells #[.slice (some ad497) l0_0.length c0_0] 25 (0, 0))) := ⟨by rw [← hq_]; exact (bp BK485)⟩
    replace BK496 : Aside0 (w52.heap[gb496]? = some (.cells #[.int .i64 t493, .int .i64 t494, .int .i64 t495] 29 (0, 0))) := ⟨by rw [← hq_]; exact (bp BK496)⟩
    replace BK508 : Aside0 (w52.heap[gb508]? = some (.cells #[.int .i64 x11_2, .int .i64 x509001_3, .int .i64 x509002_3] 54 (0, 0))) := ⟨by rw [← hq_]; exact (bp BK508)⟩
    replace HB : Aside0 (Below w.heap.size w w52) := ⟨by rw [← hq_]; exact (bw HB)⟩
    clear hq_
    have H := HC49.out
    clear HC49
    refine qE H ?_ ?_ <;> clear H
    ·intro c53b0 c53b1 H
     (first | rw [c53b0] | (simp only [i64_w, i32_w]; rw [c53b0]) | skip)
     have H' := am H
     clear H
     go_wp2
     go_roundg k3
     case measure => have := HK1.out; have := HK2.out; have := HK3.out; omega
     case rel => exact ⟨(wrap64 (x13_3 + 1)), (x509001_3), (x509002_3), dr, H', ⟨by have := HK1.out; have := HK2.out; have := HK3.out; omega⟩, ⟨kR HO_5⟩, ⟨kR HO_9⟩, ⟨bp BK485⟩, ⟨bp BK496⟩, ⟨bp BK508⟩, ⟨bw HB⟩⟩
    intro c53 c53b0 c53b1 H
    (first | rw [c53b0] | (simp only [i64_w, i32_w]; rw [c53b0]) | skip)
    have HC54 := am H
    clear H
    have hnb55 := NB508_485.out
    have hnc55 := NB485_508.out
    have hnb56 := NB508_496.out
    have hnc56 := NB496_508.out
    have hcz57 := bK w52 BK508
    have hfz57 := bF BK508
    go_upto_if 98 with (fail)
    (try simp only [Act.put, sa, sz, ss])
    have H := HC54.out
    clear HC54
    refine qI H ?_ ?_ <;> clear H <;> intro c58b0 H
    ·(first | rw [c58b0] | (simp only [i64_w, i32_w]; rw [c58b0]) | skip)
     have H' := am H
     clear H
     have hnb59 := NB508_485.out
     have hnc59 := NB485_508.out
     have hnb60 := NB508_496.out
     have hnc60 := NB496_508.out
     have hcz61 := bK w52 BK508
     have hfz61 := bF BK508
     go_wp2
     go_roundg k3
     case measure => have := HK1.out; have := HK2.out; have := HK3.out; omega
     case rel => exact ⟨(wrap64 (x13_3 + 1)), (x13_3), (x13_3), dr, H', ⟨by have := HK1.out; have := HK2.out; have := HK3.out; omega⟩, ⟨by (with_reducible repeat (first | apply Kd.R_alloc | apply Kd.R_drewN | apply Kd.R_drew)); exact Kd.R_mono (Kd.R_far (p := ⟨gb508, 1, none⟩) (Kd.R_far (p := ⟨gb508, 2, none⟩) (Kd.R_mono HO_5.out (fun k_ hk => (⟨hk, hk⟩ : _ ∧ k_ ≠ gb508))) (fun _ hk => hk.2) (.int .i64 x13_3)) (fun _ hk => hk.2) (.int .i64 x13_3)) (fun _ hk => hk.1)⟩, ⟨by (with_reducible repeat (first | apply Kd.R_alloc | apply Kd.R_drewN | apply Kd.R_drew)); exact Kd.R_mono (Kd.R_far (p := ⟨gb508, 1, none⟩) (Kd.R_far (p := ⟨gb508, 2, none⟩) (Kd.R_types HO_9.out BK508.out (by decide)) (fun _ hk => hk.2) (.int .i64 x13_3)) (fun _ hk => hk.2) (.int .i64 x13_3)) (fun _ hk => trivial)⟩, ⟨by (with_reducible repeat (first | apply dN | apply dW | apply dA)); refine blk_far ?_ NB485_508.out _; (with_reducible repeat (first | apply dN | apply dW | apply dA)); refine blk_far ?_ NB485_508.out _; exact bp BK485⟩, ⟨by (with_reducible repeat (first | apply dN | apply dW | apply dA)); refine blk_far ?_ NB496_508.out _; (with_reducible repeat (first | apply dN | apply dW | apply dA)); refine blk_far ?_ NB496_508.out _; exact bp BK496⟩, ⟨by (with_reducible repeat (first | apply dN | apply dW | apply dA)); refine blk_put (cs := #[.int .i64 x11_2, .int .i64 x509001_3, .int .i64 x13_3]) ?_ 1 _ rfl; (with_reducible repeat (first | apply dN | apply dW | apply dA)); refine blk_put (cs := #[.int .i64 x11_2, .int .i64 x509001_3, .int .i64 x509002_3]) ?_ 2 _ rfl; exact bp BK508⟩, ⟨bw HB⟩⟩
    (first | rw [c58b0] | (simp only [i64_w, i32_w]; rw [c58b0]) | skip)
    have H' := am H
    clear H
    go_wp2
    go_roundg k3
    case measure => have := HK1.out; have := HK2.out; have := HK3.out; omega
    case rel => exact ⟨(wrap64 (x13_3 + 1)), (x509001_3), (x13_3), dr, H', ⟨by have := HK1.out; have := HK2.out; have := HK3.out; omega⟩, ⟨by (with_reducible repeat (first | apply Kd.R_alloc | apply Kd.R_drewN | apply Kd.R_drew)); exact Kd.R_mono (Kd.R_far (p := ⟨gb508, 2, none⟩) (Kd.R_mono HO_5.out (fun k_ hk => (⟨hk, hk⟩ : _ ∧ k_ ≠ gb508))) (fun _ hk => hk.2) (.int .i64 x13_3)) (fun _ hk => hk.1)⟩, ⟨by (with_reducible repeat (first | apply Kd.R_alloc | apply Kd.R_drewN | apply Kd.R_drew)); exact Kd.R_mono (Kd.R_far (p := ⟨gb508, 2, none⟩) (Kd.R_types HO_9.out BK508.out (by decide)) (fun _ hk => hk.2) (.int .i64 x13_3)) (fun _ hk => trivial)⟩, ⟨by (with_reducible repeat (first | apply dN | apply dW | apply dA)); refine blk_far ?_ NB485_508.out _; exact bp BK485⟩, ⟨by (with_reducible repeat (first | apply dN | apply dW | apply dA)); refine blk_far ?_ NB496_508.out _; exact bp BK496⟩, ⟨by (with_reducible repeat (first | apply dN | apply dW | apply dA)); refine blk_put (cs := #[.int .i64 x11_2, .int .i64 x509001_3, .int .i64 x509002_3]) ?_ 2 _ rfl; exact bp BK508⟩, ⟨bw HB⟩⟩
   refine qL H ?_ ?_ <;> clear H <;> intro c62b0 H
   ·refine iN H ?_; clear H; intro c63 H
    have LMc63 := am c63
    clear c63
    obtain ⟨y511, hy511⟩ : ∃ y_ : List (S54), y_ = (x5_2 ++ [(⟨x11_2, x509001_3, x509002_3⟩ : S54)]) := ⟨_, rfl⟩
    replace H : (spec_Ranges.l1 k3 y511 ((rd_T35 l0_0 a1).f2) x9_1 (wrap64 (x11_2 + 1))) = some r := by first | (rw [hy511]; with_reducible exact H) | (have H2_ := (Option.bind_some _ _).symm.trans H; rw [hy511]; with_reducible exact H2_) | (have H2_ := (Option.bind_some _ _).symm.trans H; with_reducible exact H2_) | with_reducible exact H | (rw [hy511]; exact H) | exact H
    have Ny511 := am hy511
    clear hy511
    have H' := am H
    clear H
    have hnb64 := NB508_485.out
    have hnc64 := NB485_508.out
    have hnb65 := NB508_496.out
    have hnc65 := NB496_508.out
    have hcz66 := bK wr BK508
    have hfz66 := bF BK508
    go_wp2_with (first | ((with_reducible refine gate_builtin (b := .append) (xs := #[.tmp 105, .tmp 107]) rfl ?_); at_builtin; refine Kd.R_append k54 (w0 := w) w.heap.size rfl (.tmp 105) (.tmp 107) 50 54 (.agg #[(.int .i64 0), (.int .i64 0), (.int .i64 0)]) 24 rfl Try.underlying50 info54 rfl (by decide) (by omega) u5 x5_2 (⟨x11_2, x509001_3, x509002_3⟩ : S54) [.int .i64 x11_2, .int .i64 x509001_3, .int .i64 x509002_3] (fun k_ => k_ ≠ gb508) (fun _ => False) rfl rfl ?aP (fun _ hk => hk.elim) ?aF ?aO ?aB ?aS ?aL ?_; (case aP => exact k54_mkM _ _ _ (⟨x11_2, x509001_3, x509002_3⟩ : S54)); (case aB => exact (bw HB)); (case aF => exact (fun k_ hk => Kd.freshB (g := gb508) (o := .cells #[.int .i64 x11_2, .int .i64 x509001_3, .int .i64 x509002_3] 54 (0, 0)) (bp BK508) k_ hk)); (case aO => exact (kR HO_5)); (case aS => exact (below_size (bw HB))); (case aL => have := LMc63.out; omega); intro v512 w67 ho hb hg hat; rw [← Ny511.out] at ho; replace HO_9 := am (Kd.R_over' (kR HO_9) (Kd.R_typed (kR HO_5)) (by decide) hg); replace BK485 := bg BK485 hg (Kd.R_ne HO_5.out BK485.out (by decide)); replace BK496 := bg BK496 hg (Kd.R_ne HO_5.out BK496.out (by decide)); replace BK508 := bg BK508 hg (Kd.R_away HO_5.out (fun _ hk => hk)); replace HB := am (hb); have HO513 := am (ho); clear HO_5; clear ho hb hg hat))
    go_roundg k3
    case measure => have := HK1.out; have := HK2.out; have := HK3.out; omega
    case rel => exact ⟨(y511), (wrap64 (x11_2 + 1)), dr, H', ⟨by have := HK1.out; have := HK2.out; have := HK3.out; omega⟩, ⟨by (with_reducible repeat (first | apply Kd.R_alloc | apply Kd.R_drewN | apply Kd.R_drew)); exact Kd.R_mono HO513.out (fun _ hk => trivial)⟩, ⟨kR HO_9⟩, ⟨bp BK485⟩, ⟨bp BK496⟩, ⟨bw HB⟩⟩
   have H' := am H
   clear H
   have hnb68 := NB508_485.out
   have hnc68 := NB485_508.out
   have hnb69 := NB508_496.out
   have hnc69 := NB496_508.out
   have hcz70 := bK wr BK508
   have hfz70 := bF BK508
   go_wp2
   go_roundg k3
   case measure => have := HK1.out; have := HK2.out; have := HK3.out; omega
   case rel => exact ⟨(x5_2), (wrap64 (x11_2 + 1)), dr, H', ⟨by have := HK1.out; have := HK2.out; have := HK3.out; omega⟩, ⟨by (with_reducible repeat (first | apply Kd.R_alloc | apply Kd.R_drewN | apply Kd.R_drew)); exact Kd.R_mono HO_5.out (fun _ hk => trivial)⟩, ⟨kR HO_9⟩, ⟨bp BK485⟩, ⟨bp BK496⟩, ⟨bw HB⟩⟩
  rw [if_neg c40] at H
  have c40b0 := decide_eq_false c40
  clear c40
  obtain rfl := Option.some.inj H
  go_wp2
  go_ret
  exact ⟨_, er, kR HO_5, bw HB⟩
 obtain rfl := Option.some.inj H
 go_wp2
 go_ret
 exact ⟨_, er, kR HO488, bw HB⟩

end Go.Proofs.Ytopaefhfjioecaa.QFnRanges
