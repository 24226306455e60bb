import Derived.Test.YtopaefhfjioecaaCFnRangesx0
import Derived.Test.YtopaefhfjioecaaCFnRangesx5
import Derived.Test.YtopaefhfjioecaaCFnRangesx8
namespace Go.Proofs.Ytopaefhfjioecaa.QFnRanges
open Go.RowKit Go.Proofs.YtopaefhfjioecaaW
open PrintWords PrintLast PrintMore PrintShort
attribute [local go_sem] max2_int min2_int max_two min_two max_three min_three max_four min_four   -- for this text's walks alone
set_option linter.unusedVariables false
set_option maxHeartbeats 8000000
set_option maxRecDepth 100000
set_option linter.unusedSimpArgs false

mutual
def spec_l08Live.l0 : Nat → Int → List Int → List (S38) → List Int → Bool → List (S35) → Option (List Int)
 | 0, _, _, _, _, _, _ => none
 | k + 1, x1, x5, x7, x8, x9, x283000 => if x9 = true then (spec_l08Live.l1 k x1 x5 x7 x8 false (wrap64 ((x7.length : Int) - 1)) x283000) else (some x8)
def spec_l08Live.l1 : Nat → Int → List Int → List (S38) → List Int → Bool → Int → List (S35) → Option (List Int)
 | 0, _, _, _, _, _, _, _ => none
 | k + 1, x1, x5, x7, x8, x9, x10, x283000 => if x10 ≥ 0 then (if 0 ≤ x10 then (if x10 < (x5.length : Int) then (if (rd x5 x10) < 0 then (spec_l08Live.l1 k x1 x5 x7 x8 x9 (wrap64 (x10 - 1)) x283000) else (if 0 ≤ x1 then (if x1 < (x283000.length : Int) then (if x10 < (x7.length : Int) then ((spec_l08Next.f k ((rd_T38 x7 x10).f0) ((rd_T38 x7 x10).f1) x10).bind fun t298 => (spec_l08Live.l2 k x1 x5 x7 x8 x9 x10 (wrap64 (((rd_T35 x283000 x1).f1) + (rd x5 x10))) 0 t298 0 x283000)) else (none)) else (none)) else (none))) else (none)) else (none)) else (spec_l08Live.l0 k x1 x5 x7 x8 x9 x283000)
def spec_l08Live.l2 : Nat → Int → List Int → List (S38) → List Int → Bool → Int → Int → Int → List Int → Int → List (S35) → Option (List Int)
 | 0, _, _, _, _, _, _, _, _, _, _, _ => none
 | k + 1, x1, x5, x7, x8, x9, x10, x11, x12, x13, x14, x283000 => if x14 < (x13.length : Int) then (if 0 ≤ x14 then (if 0 ≤ (rd x13 x14) then (if (rd x13 x14) < (x8.length : Int) then (spec_l08Live.l2 k x1 x5 x7 x8 x9 x10 x11 (Go.bits .or .i64 x12 (rd x8 (rd x13 x14))) x13 (wrap64 (x14 + 1)) x283000) else (none)) else (none)) else (none)) else (if 0 ≤ x10 then (if x10 < (x7.length : Int) then ((spec_l08Writes.f k x283000 ((rd_T38 x7 x10).f0) ((rd_T38 x7 x10).f1) x11).bind fun t304 => ((spec_l08Mask.f k 0 x11).bind fun t305 => ((spec_l08Reads.f k x283000 ((rd_T38 x7 x10).f0) ((rd_T38 x7 x10).f1) x11).bind fun t307 => (if x9 = true then (if x10 < (x8.length : Int) then (spec_l08Live.l1 k x1 x5 x7 (x8.set (x10 : Int).toNat (Go.bits .or .i64 (Go.bits .and .i64 (Go.bits .andNot .i64 x12 t304) t305) t307)) true (wrap64 (x10 - 1)) x283000) else (none)) else (if x10 < (x8.length : Int) then (spec_l08Live.l1 k x1 x5 x7 (x8.set (x10 : Int).toNat (Go.bits .or .i64 (Go.bits .and .i64 (Go.bits .andNot .i64 x12 t304) t305) t307)) ((Go.bits .or .i64 (Go.bits .and .i64 (Go.bits .andNot .i64 x12 t304) t305) t307) != (rd x8 x10)) (wrap64 (x10 - 1)) x283000) else (none)))))) else (none)) else (none))
end
def spec_l08Live.f (k : Nat) (l0_0 : List (S35)) (a1 : Int) : Option (List Int) := (spec_l04Heights.f k l0_0 a1).bind fun bt283 => (if 0 ≤ a1 then (if a1 < (l0_0.length : Int) then (if 0 ≤ (((rd_T35 l0_0 a1).f2).length : Int) then (if ((((rd_T35 l0_0 a1).f2).length : Int) : Int).toNat ≤ 35184372088832 then (spec_l08Live.l0 k a1 bt283.1 ((rd_T35 l0_0 a1).f2) (List.replicate ((((rd_T35 l0_0 a1).f2).length : Int) : Int).toNat 0) true l0_0) else (none)) else (none)) else (none)) else (none))
theorem spec_l08Live.mono_l : ∀ k, (∀ y0 y1 y2 y3 y4 y5, LeO (spec_l08Live.l0 k y0 y1 y2 y3 y4 y5) (spec_l08Live.l0 (k + 1) y0 y1 y2 y3 y4 y5)) ∧ (∀ y0 y1 y2 y3 y4 y5 y6, LeO (spec_l08Live.l1 k y0 y1 y2 y3 y4 y5 y6) (spec_l08Live.l1 (k + 1) y0 y1 y2 y3 y4 y5 y6)) ∧ (∀ y0 y1 y2 y3 y4 y5 y6 y7 y8 y9 y10, LeO (spec_l08Live.l2 k y0 y1 y2 y3 y4 y5 y6 y7 y8 y9 y10) (spec_l08Live.l2 (k + 1) y0 y1 y2 y3 y4 y5 y6 y7 y8 y9 y10))
 | 0 => ⟨fun _ _ _ _ _ _ r h => by simp [spec_l08Live.l0] at h, fun _ _ _ _ _ _ _ r h => by simp [spec_l08Live.l1] at h, fun _ _ _ _ _ _ _ _ _ _ _ r h => by simp [spec_l08Live.l2] at h⟩
 | k + 1 => by
  obtain ⟨ih0, ih1, ih2⟩ := spec_l08Live.mono_l k
  refine ⟨?_, ?_, ?_⟩
  ·intro y0 y1 y2 y3 y4 y5
   unfold spec_l08Live.l0
   with_reducible repeat' first | exact ih0 .. | exact ih1 .. | exact ih2 .. | exact spec_l04Heights.mono .. | exact spec_l08Mask.mono .. | exact spec_l08Next.mono .. | exact spec_l08Reads.mono .. | exact spec_l08Writes.mono .. | exact LeO.refl _ | exact LeO.none _ | refine LeO.ite ?_ ?_ | refine LeO.bind ?_ (fun _ => ?_)
  ·intro y0 y1 y2 y3 y4 y5 y6
   unfold spec_l08Live.l1
   with_reducible repeat' first | exact ih0 .. | exact ih1 .. | exact ih2 .. | exact spec_l04Heights.mono .. | exact spec_l08Mask.mono .. | exact spec_l08Next.mono .. | exact spec_l08Reads.mono .. | exact spec_l08Writes.mono .. | exact LeO.refl _ | exact LeO.none _ | refine LeO.ite ?_ ?_ | refine LeO.bind ?_ (fun _ => ?_)
  ·intro y0 y1 y2 y3 y4 y5 y6 y7 y8 y9 y10
   unfold spec_l08Live.l2
   with_reducible repeat' first | exact ih0 .. | exact ih1 .. | exact ih2 .. | exact spec_l04Heights.mono .. | exact spec_l08Mask.mono .. | exact spec_l08Next.mono .. | exact spec_l08Reads.mono .. | exact spec_l08Writes.mono .. | exact LeO.refl _ | exact LeO.none _ | refine LeO.ite ?_ ?_ | refine LeO.bind ?_ (fun _ => ?_)
theorem spec_l08Live.mono : ∀ a0 a1 k, LeO (spec_l08Live.f k a0 a1) (spec_l08Live.f (k + 1) a0 a1) := by
 intro a0 a1 k
 obtain ⟨ih0, ih1, ih2⟩ := spec_l08Live.mono_l k
 unfold spec_l08Live.f
 with_reducible repeat' first | exact ih0 .. | exact ih1 .. | exact ih2 .. | exact spec_l04Heights.mono .. | exact spec_l08Mask.mono .. | exact spec_l08Next.mono .. | exact spec_l08Reads.mono .. | exact spec_l08Writes.mono .. | exact LeO.refl _ | exact LeO.none _ | refine LeO.ite ?_ ?_ | refine LeO.bind ?_ (fun _ => ?_)
def spec_l08Live.T11 : Bool × List (List Nat × List Nat) := (true, [([], []), ([0], [0]), ([], []), ([1, 2], [1, 2]), ([3], [3]), ([4], [4]), ([], []), ([], []), ([6, 7], [6, 7]), ([8], [8]), ([5, 9], [5, 9]), ([10, 0, 1, 2, 3, 4, 5, 6, 7, 8, 9, 10], [10])])
def spec_l08Live.B11 : List Nat := [0, 1, 0, 7, 15, 31, 0, 0, 192, 448, 1023, 2047]
theorem spec_l08Live.tab11 : rtab .any (opsOf Try.f64 11) = spec_l08Live.T11 := by kernel_rfl
theorem spec_l08Live.bits11 : waitsOk spec_l08Live.T11.2 spec_l08Live.B11 = true := by kernel_rfl
def spec_l08Live.T18 : Bool × List (List Nat × List Nat) := (true, [([], []), ([], []), ([], []), ([], []), ([2, 3], [2, 3]), ([4], [4]), ([], []), ([1, 5, 6], [1, 5, 6]), ([0, 7], [0, 7]), ([], []), ([9, 7], [9]), ([8, 10], [8, 10]), ([], []), ([], []), ([], []), ([13, 14], [13, 14]), ([15], [15]), ([], []), ([12, 16, 17, 10], [12, 16, 17]), ([11, 18], [11, 18]), ([19, 18, 0, 1, 2, 3, 4, 5, 6, 7, 8, 9, 10, 11, 12, 13, 14, 15, 16, 17, 18, 19], [0, 19])])
def spec_l08Live.B18 : List Nat := [0, 0, 0, 0, 12, 28, 0, 126, 255, 0, 766, 2047, 0, 0, 0, 24576, 57344, 0, 259838, 524287, 1048575]
theorem spec_l08Live.tab18 : rtab .any (opsOf Try.f64 18) = spec_l08Live.T18 := by kernel_rfl
theorem spec_l08Live.bits18 : waitsOk spec_l08Live.T18.2 spec_l08Live.B18 = true := by kernel_rfl
theorem spec_l08Live.calls (k : Nat) (A0_0 : Option Addr) (c0_0 : Nat) (l0_0 : List (S35)) (a1 : Int) (r : List Int) (w : World) (hr0_0 : Kd.C k35 w A0_0 l0_0.length l0_0) (hc0_0 : l0_0.length ≤ c0_0) (h : spec_l08Live.f k l0_0 a1 = some r) :
  Calls Try.prog 64 #[.agg #[.slice A0_0 l0_0.length c0_0], .int .i64 a1] w fun e w' => ∃ v0_ : Value, e = .returned (v0_) ∧ Kd.R (Kd.int .i64) 2 w' w.heap.size (fun _ => True) v0_ r ∧ Below w.heap.size w w' := by
 have hu25 := Try.underlying25
 have hu29 := Try.underlying29
 have hu38 := Try.underlying38
 have HR0_0 := am hr0_0
 have HC0_0 := am hc0_0
 clear hr0_0 hc0_0
 have HB := am (Below.refl w.heap.size w)
 have H : ((spec_l04Heights.f k l0_0 a1).bind fun bt283 => (if 0 ≤ a1 then (if a1 < (l0_0.length : Int) then (if 0 ≤ (((rd_T35 l0_0 a1).f2).length : Int) then (if ((((rd_T35 l0_0 a1).f2).length : Int) : Int).toNat ≤ 35184372088832 then (spec_l08Live.l0 k a1 bt283.1 ((rd_T35 l0_0 a1).f2) (List.replicate ((((rd_T35 l0_0 a1).f2).length : Int) : Int).toNat 0) true l0_0) else (none)) else (none)) else (none)) else (none))) = some r := h
 clear h
 replace H := Option.bind_eq_some_iff.mp H
 obtain ⟨⟨t283, t286, t287, t288⟩, A30, H⟩ := H
 replace H : (if 0 ≤ a1 then (if a1 < (l0_0.length : Int) then (if 0 ≤ (((rd_T35 l0_0 a1).f2).length : Int) then (if ((((rd_T35 l0_0 a1).f2).length : Int) : Int).toNat ≤ 35184372088832 then (spec_l08Live.l0 k a1 t283 ((rd_T35 l0_0 a1).f2) (List.replicate ((((rd_T35 l0_0 a1).f2).length : Int) : Int).toNat 0) true l0_0) else (none)) else (none)) else (none)) else (none)) = some r := H
 have A3 := am A30
 clear A30
 refine iN H ?_; clear H; intro c4 H
 have c4b0 := decide_eq_true c4
 clear c4
 refine iN H ?_; clear H; intro c5 H
 have c5b0 := decide_eq_true c5
 clear c5
 refine iN H ?_; clear H; intro c6 H
 have c6b0 := eq_true c6
 have c6b1 := decide_eq_true c6
 clear c6
 refine iN H ?_; clear H; intro c7 H
 have c7b0 := eq_true c7
 have c7b1 := decide_eq_true c7
 clear c7
 obtain ⟨y291, hy291⟩ : ∃ y_ : List Int, y_ = (List.replicate ((((rd_T35 l0_0 a1).f2).length : Int) : Int).toNat 0) := ⟨_, rfl⟩
 replace H : (spec_l08Live.l0 k a1 t283 ((rd_T35 l0_0 a1).f2) y291 true l0_0) = some r := by first | (rw [hy291]; with_reducible exact H) | (have H2_ := (Option.bind_some _ _).symm.trans H; rw [hy291]; with_reducible exact H2_) | (have H2_ := (Option.bind_some _ _).symm.trans H; with_reducible exact H2_) | with_reducible exact H | (rw [hy291]; exact H) | exact H
 have Ny291 := am hy291
 clear hy291
 have H' := am H
 clear H
 go_enter Try.func64, Try.ntmps64
 go_wp2_with (first | ((with_reducible refine gd 2 rfl ?_); refine bX 2 #[.slice A0_0 l0_0.length c0_0] 25 HB ?_; clear HB; intro gb282 w8 hg hb BK282 GW282 HB; clear hb hg; have hcz9 := bK w8 BK282; have hfz9 := bF BK282) | ((with_reducible refine gk 66 rfl ?_); refine gC 66 (some 18) Try.func66 #[.agg #[.slice A0_0 l0_0.length c0_0], .int .i64 a1] ((spec_l04Heights.calls k _ _ l0_0 a1 t283 t286 t287 t288 _ (cc (Kd.C_below HR0_0.out HB.out)) HC0_0.out A3.out).mono ?_); rintro e w10 ⟨v284, rfl, ho0, hb⟩; refine ⟨_, rfl, ?_⟩; have HO285 := am (Kd.R_lower ho0 (below_size (bw HB))); replace BK282 := bb BK282 hb; replace HB := bs HB hb; clear hb; (try clear ho0)) | ((with_reducible refine gd 6 rfl ?_); refine bX 6 #[.int .i64 0, .int .i64 0, .int .i64 0] 29 HB ?_; clear HB; intro gb289 w11 hg hb BK289 GW289 HB; replace HO285 := am (Kd.R_below (kR HO285) hb); obtain ⟨NB282_289, NB289_282, BK282⟩ := b3 hg BK282 hb; clear hb hg; have hnb12 := NB289_282.out; have hnc12 := NB282_289.out; have hcz13 := bK w11 BK289; have hfz13 := bF BK289; have hcz14 := bK w11 BK282; have hfz14 := bF BK282; have p290 : 0 ≤ (a1 : Int) := of_decide_eq_true as1; have q290 : a1 < (l0_0.length : Int) := of_decide_eq_true as1; obtain ⟨ad290, A290_2, c290_2, e290, hx290_0, hx290_1, hx290_2, hl290_2, hi290_2⟩ := at_T35 HR0_0.out a1 p290 q290; cases e290; have hn290_0 : ad290.block ≠ gb289 := Nat.ne_of_lt (Nat.lt_of_lt_of_le (by have := World.block_lt_of_cell? _ _ hx290_0; first | rwa [add_block] at this | exact this) GW289.out); have hn290_1 : ad290.block ≠ gb289 := Nat.ne_of_lt (Nat.lt_of_lt_of_le (by have := World.block_lt_of_cell? _ _ hx290_0; first | rwa [add_block] at this | exact this) GW289.out); have hn290_2 : ad290.block ≠ gb289 := Nat.ne_of_lt (Nat.lt_of_lt_of_le (by have := World.block_lt_of_cell? _ _ hx290_0; first | rwa [add_block] at this | exact this) GW289.out); replace hx290_0 := cl HB hx290_0; replace hx290_1 := cl HB hx290_1; replace hx290_2 := cl HB hx290_2; have HR290_2 := am hi290_2; have HC290_2 := am hl290_2; clear hi290_2 hl290_2; replace hx290_0 := (cell_far (p := ⟨gb289, 0, none⟩) (by first | (rw [add_block]; exact hn290_0) | (show (Addr.add _ _).block ≠ _; rw [add_block]; exact hn290_0) | exact hn290_0) (.int .i64 t286)).trans hx290_0; replace hx290_1 := (cell_far (p := ⟨gb289, 0, none⟩) (by first | (rw [add_block]; exact hn290_0) | (show (Addr.add _ _).block ≠ _; rw [add_block]; exact hn290_0) | exact hn290_0) (.int .i64 t286)).trans hx290_1; replace hx290_2 := (cell_far (p := ⟨gb289, 0, none⟩) (by first | (rw [add_block]; exact hn290_0) | (show (Addr.add _ _).block ≠ _; rw [add_block]; exact hn290_0) | exact hn290_0) (.int .i64 t286)).trans hx290_2; replace hx290_0 := (cell_far (p := ⟨gb289, 1, none⟩) (by first | (rw [add_block]; exact hn290_1) | (show (Addr.add _ _).block ≠ _; rw [add_block]; exact hn290_1) | exact hn290_1) (.int .i64 t287)).trans hx290_0; replace hx290_1 := (cell_far (p := ⟨gb289, 1, none⟩) (by first | (rw [add_block]; exact hn290_1) | (show (Addr.add _ _).block ≠ _; rw [add_block]; exact hn290_1) | exact hn290_1) (.int .i64 t287)).trans hx290_1; replace hx290_2 := (cell_far (p := ⟨gb289, 1, none⟩) (by first | (rw [add_block]; exact hn290_1) | (show (Addr.add _ _).block ≠ _; rw [add_block]; exact hn290_1) | exact hn290_1) (.int .i64 t287)).trans hx290_2; replace hx290_0 := (cell_far (p := ⟨gb289, 2, none⟩) (by first | (rw [add_block]; exact hn290_2) | (show (Addr.add _ _).block ≠ _; rw [add_block]; exact hn290_2) | exact hn290_2) (.int .i64 t288)).trans hx290_0; replace hx290_1 := (cell_far (p := ⟨gb289, 2, none⟩) (by first | (rw [add_block]; exact hn290_2) | (show (Addr.add _ _).block ≠ _; rw [add_block]; exact hn290_2) | exact hn290_2) (.int .i64 t288)).trans hx290_1; replace hx290_2 := (cell_far (p := ⟨gb289, 2, none⟩) (by first | (rw [add_block]; exact hn290_2) | (show (Addr.add _ _).block ≠ _; rw [add_block]; exact hn290_2) | exact hn290_2) (.int .i64 t288)).trans hx290_2; clear hn290_0; clear hn290_1; clear hn290_2; replace p290 := eq_true p290; replace q290 := eq_true q290) | ((with_reducible refine gate_dst (N := 29) rfl ?_); refine Kd.R_make (Kd.int .i64) _ 2 rfl (N := 29) rfl 31 _ _ rfl (((rd_T35 l0_0 a1).f2).length : Int) rfl rfl Try.underlying31 (.int .i64 0) 8 info2 rfl (by decide) (by omega) 0 (ok := fun _ => True) (okp := fun _ => True) rfl (fun _ hk => hk) trivial (of_decide_eq_true as1) (Nat.le_trans (Nat.mul_le_mul_right _ (of_decide_eq_true as1 : (((rd_T35 l0_0 a1).f2).length : Int).toNat ≤ 35184372088832)) (by omega)) (Below.refl _ _) (Nat.le_refl _) ?_; intro v292 w15 ho16 hb hg_ hnew_; clear hg_ hnew_; (first | rw [← Ny291.out] at ho16 | (simp only [Int.reduceToNat] at ho16; rw [← Ny291.out] at ho16)); have HO293 := am (Kd.R_lower (Kd.R_new' ho16 (Kd.R_lt (by (with_reducible repeat (first | apply Kd.R_alloc | apply Kd.R_drewN | apply Kd.R_drew)); exact (Kd.R_mono (Kd.R_far (p := ⟨gb289, 2, none⟩) (Kd.R_far (p := ⟨gb289, 1, none⟩) (Kd.R_far (p := ⟨gb289, 0, none⟩) (Kd.R_types HO285.out BK289.out (by decide)) (fun _ hk => hk.2) (.int .i64 t286)) (fun _ hk => hk.2) (.int .i64 t287)) (fun _ hk => hk.2) (.int .i64 t288)) (fun _ h_ => h_.1))))) (below_size (bw HB))); replace HO285 := am (Kd.R_elder' (by (with_reducible repeat (first | apply Kd.R_alloc | apply Kd.R_drewN | apply Kd.R_drew)); exact (Kd.R_mono (Kd.R_far (p := ⟨gb289, 2, none⟩) (Kd.R_far (p := ⟨gb289, 1, none⟩) (Kd.R_far (p := ⟨gb289, 0, none⟩) (Kd.R_types HO285.out BK289.out (by decide)) (fun _ hk => hk.2) (.int .i64 t286)) (fun _ hk => hk.2) (.int .i64 t287)) (fun _ hk => hk.2) (.int .i64 t288)) (fun _ h_ => h_.1))) (Kd.R_base ho16) hb); replace BK282 := bb2 BK282 hb; replace BK289 := bo #[.int .i64 t286, .int .i64 t287, .int .i64 t288] BK289 hb; replace HB := bs HB hb; clear hb ho16))
 go_loopg [9] k (fun kq v9 w' => ∃ (x8_1 : List Int) (x9_1 : Bool), v9 = .bool x9_1 ∧ Aside0 (spec_l08Live.l0 kq a1 t283 ((rd_T35 l0_0 a1).f2) x8_1 x9_1 l0_0 = some r) ∧ Aside0 (kq ≤ k) ∧ Aside0 (Kd.R (Kd.int .i64) 2 w' w.heap.size (fun k_ => some k_ ≠ (v292 : Value).ownBlock) v284 t283) ∧ Aside0 (Kd.R (Kd.int .i64) 2 w' w.heap.size (fun k_ => some k_ ≠ (v284 : Value).ownBlock) v292 x8_1) ∧ Aside0 (w'.heap[gb282]? = some (.cells #[(.slice (some ad290) l0_0.length c0_0)] 25 (0, 0))) ∧ Aside0 (w'.heap[gb289]? = some (.cells #[.int .i64 t286, .int .i64 t287, .int .i64 t288] 29 (0, 0))) ∧ Aside0 (Below w.heap.size w w'))
 case atStart => exact ⟨(y291), (true), dr, H', ⟨Nat.le_refl _⟩, ⟨by (with_reducible repeat (first | apply Kd.R_alloc | apply Kd.R_drewN | apply Kd.R_drew)); exact Kd.R_mono HO285.out (fun _ hk => hk.2)⟩, ⟨by (with_reducible repeat (first | apply Kd.R_alloc | apply Kd.R_drewN | apply Kd.R_drew)); exact Kd.R_mono HO293.out (fun _ hk => hk.2)⟩, ⟨bp BK282⟩, ⟨bp BK289⟩, ⟨bw HB⟩⟩
 clear H'
 (try clear c1); (try clear c2); (try clear p2); (try clear q2); (try clear hx2); (try clear c4); (try clear c4b0); (try clear c5); (try clear c5b0); (try clear c6); (try clear c6b0); (try clear c6b1); (try clear c7); (try clear c7b0); (try clear c7b1); (try clear c12); (try clear hcz13); (try clear hcz14); (try clear hcz9); (try clear hfz13); (try clear hfz14); (try clear hfz9); (try clear hx290_0); (try clear hx290_1); (try clear hx290_2); (try clear p290); (try clear q290)
 obtain ⟨x8_1, x9_1, rfl, HA, HK1, HO_5, HO_8, BK282, BK289, HB⟩ := hrel
 rcases gk with _ | k1
 ·exact absurd HA.out (by simp [spec_l08Live.l0])
 have H := HA.out
 clear HA
 simp only [spec_l08Live.l0] at H
 refine qT H ?_ ?_ <;> clear H <;> intro c17 H <;> subst c17
 ·have H' := am H
  clear H
  go_wp2
  go_loopg [9, 10] k1 (fun kq v9 v10 w' => ∃ (x8_2 : List Int) (x9_2 : Bool) (x10_2 : Int), v9 = .bool x9_2 ∧ v10 = .int .i64 x10_2 ∧ Aside0 (spec_l08Live.l1 kq a1 t283 ((rd_T35 l0_0 a1).f2) x8_2 x9_2 x10_2 l0_0 = some r) ∧ Aside0 (kq ≤ k1) ∧ Aside0 (Kd.R (Kd.int .i64) 2 w' w.heap.size (fun k_ => some k_ ≠ (v292 : Value).ownBlock) v284 t283) ∧ Aside0 (Kd.R (Kd.int .i64) 2 w' w.heap.size (fun k_ => some k_ ≠ (v284 : Value).ownBlock) v292 x8_2) ∧ Aside0 (w'.heap[gb282]? = some (.cells #[(.slice (some ad290) l0_0.length c0_0)] 25 (0, 0))) ∧ Aside0 (w'.heap[gb289]? = some (.cells #[.int .i64 t286, .int .i64 t287, .int .i64 t288] 29 (0, 0))) ∧ Aside0 (Below w.heap.size w w'))
  case atStart => exact ⟨(x8_1), (false), (wrap64 ((((rd_T35 l0_0 a1).f2).length : Int) - 1)), dr, dr, H', ⟨Nat.le_refl _⟩, ⟨kR HO_5⟩, ⟨kR HO_8⟩, ⟨bp BK282⟩, ⟨bp BK289⟩, ⟨bw HB⟩⟩
  clear H'
  (try clear p6); (try clear c17)
  obtain ⟨x8_2, x9_2, x10_2, rfl, rfl, HA, HK2, HO_5, HO_8, BK282, BK289, HB⟩ := hrel
  rcases gk with _ | k2
  ·exact absurd HA.out (by simp [spec_l08Live.l1])
  have H := HA.out
  clear HA
  simp only [spec_l08Live.l1] at H
  by_cases c18 : x10_2 ≥ 0
  ·rw [if_pos c18] at H
   have c18b0 : decide (0 ≤ x10_2) = true := decide_eq_true c18
   clear c18
   refine iN H ?_; clear H; intro c19 H
   have c19b0 := decide_eq_true c19
   clear c19
   refine iN H ?_; clear H; intro c20 H
   have c20b0 := decide_eq_true c20
   clear c20
   by_cases c21 : (rd t283 x10_2) < 0
   ·rw [if_pos c21] at H
    have c21b0 := decide_eq_true c21
    clear c21
    have H' := am H
    clear H
    obtain ⟨Ao22, co22, eo22⟩ := Kd.R_slice HO_5.out
    subst eo22
    have p294 : 0 ≤ (x10_2 : Int) := of_decide_eq_true as1
    have q294 : x10_2 < (t283.length : Int) := of_decide_eq_true as1
    obtain ⟨ad294, e294, hx294_0⟩ := Kd.at_int (Kd.R_reads' HO_5.out).2.2 x10_2 p294 q294
    cases e294
    replace p294 := eq_true p294
    replace q294 := eq_true q294
    go_wp2
    go_roundg k2
    case measure => have := HK1.out; have := HK2.out; omega
    case rel => exact ⟨(x8_2), (x9_2), (wrap64 (x10_2 - 1)), dr, dr, H', ⟨by have := HK1.out; have := HK2.out; omega⟩, ⟨kR HO_5⟩, ⟨kR HO_8⟩, ⟨bp BK282⟩, ⟨bp BK289⟩, ⟨bw HB⟩⟩
   rw [if_neg c21] at H
   have c21b0 := decide_eq_false c21
   clear c21
   refine iN H ?_; clear H; intro c23 H
   have c23b0 := decide_eq_true c23
   clear c23
   refine iN H ?_; clear H; intro c24 H
   have c24b0 := decide_eq_true c24
   clear c24
   refine iN H ?_; clear H; intro c25 H
   have c25b0 := decide_eq_true c25
   clear c25
   refine be H ?_; clear H; intro t298 A26 H
   have H' := am H
   clear H
   obtain ⟨Ao27, co27, eo27⟩ := Kd.R_slice HO_5.out
   subst eo27
   have p294 : 0 ≤ (x10_2 : Int) := of_decide_eq_true as1
   have q294 : x10_2 < (t283.length : Int) := of_decide_eq_true as1
   obtain ⟨ad294, e294, hx294_0⟩ := Kd.at_int (Kd.R_reads' HO_5.out).2.2 x10_2 p294 q294
   cases e294
   replace p294 := eq_true p294
   replace q294 := eq_true q294
   try go_wp2
   replace HO_5 := am (Kd.R_drew HO_5.out)
   replace HO_8 := am (Kd.R_drew HO_8.out)
   replace BK282 := am (blk_drew BK282.out)
   replace BK289 := am (blk_drew BK289.out)
   replace HB := am (below_drew1 HB.out)
   have p295 : 0 ≤ (a1 : Int) := of_decide_eq_true as1
   have q295 : a1 < (l0_0.length : Int) := of_decide_eq_true as1
   obtain ⟨ad295, A295_2, c295_2, e295, hx295_0, hx295_1, hx295_2, hl295_2, hi295_2⟩ := at_T35 HR0_0.out a1 p295 q295
   have hw295_2 := hx295_2
   have hw295_1 := hx295_1
   have hw295_0 := hx295_0
   obtain rfl : ad290 = ad295 := (by injection e295)
   replace hx295_0 := cl HB hx295_0
   replace hx295_1 := cl HB hx295_1
   replace hx295_2 := cl HB hx295_2
   have HR295_2 := am hi295_2
   have HC295_2 := am hl295_2
   clear hi295_2 hl295_2
   replace p295 := eq_true p295
   replace q295 := eq_true q295
   have p296 : 0 ≤ (x10_2 : Int) := of_decide_eq_true as1
   have q296 : x10_2 < (t283.length : Int) := of_decide_eq_true as1
   obtain ⟨ad296, e296, hx296_0⟩ := Kd.at_int (Kd.R_reads' HO_5.out).2.2 x10_2 p296 q296
   obtain rfl : ad294 = ad296 := (by injection e296)
   replace p296 := eq_true p296
   replace q296 := eq_true q296
   refine start_ (n := 12) (S := fun w' => w'.cell? ⟨gb282, 0, none⟩ = some (.slice (some ad290) l0_0.length c0_0) ∧ w'.cell? (ad290.add ((a1).toNat * 3)) = some (.int .i64 ((rd_T35 l0_0 a1).f0)) ∧ w'.cell? ⟨(ad290.add ((a1).toNat * 3)).block, (ad290.add ((a1).toNat * 3)).off + 1, none⟩ = some (.int .i64 ((rd_T35 l0_0 a1).f1)) ∧ w'.cell? ⟨(ad290.add ((a1).toNat * 3)).block, (ad290.add ((a1).toNat * 3)).off + 2, none⟩ = some (.slice A295_2 ((rd_T35 l0_0 a1).f2).length c295_2) ∧ w'.cell? (ad294.add (x10_2).toNat) = some (.int .i64 (rd t283 x10_2))) (ds := []) (bv 12 0) (by kernel_rfl) rfl (by kernel_rfl) ⟨bc BK282 0, (cq HB hw295_0), (cq HB hw295_1), (cq HB hw295_2), hx296_0⟩ (fun hHeld => ?_); refine with_tabW spec_l08Live.tab11 spec_l08Live.bits11 (fun HT_ HW_ => ?_)
   generalize wr.drew = w28 at HO_5 HO_8 BK282 BK289 HB HR295_2 hx295_0 hx295_1 hx295_2 hx296_0 hHeld ⊢
   refine pu 0 43 12 1 HT_ ?_
   refine pu 2 45 12 5 HT_ ?_
   refine pu 6 49 12 69 HT_ ?_
   refine pu 7 50 12 197 HT_ ?_
   refine pu 8 51 12 453 HT_ ?_
   refine tk 1 44 12 455 HT_ HW_ hHeld ?_
   refine pu 3 46 12 463 HT_ ?_
   refine pu 4 47 12 479 HT_ ?_
   refine tk 5 48 12 511 HT_ HW_ hHeld ?_
   refine tk 9 52 12 1023 HT_ HW_ hHeld ?_
   refine pu 10 53 12 2047 HT_ ?_
   refine pu 11 11 12 4095 HT_ ?_
   refine done_ (done_of HT_.out (by kernel_rfl)) ?_
   have p297 : 0 ≤ (x10_2 : Int) := of_decide_eq_true as1
   have q297 : x10_2 < (((rd_T35 l0_0 a1).f2).length : Int) := of_decide_eq_true as1
   obtain ⟨ad297, e297, hx297_0, hx297_1⟩ := at_T38 HR290_2.out x10_2 p297 q297
   cases e297
   replace hx297_0 := cl HB hx297_0
   replace hx297_1 := cl HB hx297_1
   replace p297 := eq_true p297
   replace q297 := eq_true q297
   try go_wp2_with (first | ((with_reducible refine gate_callee (f := 87) rfl ?_); refine goesL_ (some 59) rfl rfl Try.func87 (by kernel_rfl) rfl #[.agg #[.int .i64 ((rd_T38 ((rd_T35 l0_0 a1).f2) x10_2).f0), .int .i64 ((rd_T38 ((rd_T35 l0_0 a1).f2) x10_2).f1)], .int .i64 x10_2] rfl gl ?_; (with_reducible refine (spec_l08Next.calls k2 ((rd_T38 ((rd_T35 l0_0 a1).f2) x10_2).f0) ((rd_T38 ((rd_T35 l0_0 a1).f2) x10_2).f1) x10_2 t298 _ A26.out).mono ?_); rintro e w29 ⟨v299, rfl, ho0, hb⟩; refine ⟨_, rfl, ?_⟩; have HO300 := am (Kd.R_lower (Kd.R_new' (Kd.R_new' ho0 (Kd.R_lt (kR HO_5))) (Kd.R_lt (kR HO_8))) (below_size (bw HB))); replace HO_5 := am (Kd.R_elder' (kR HO_5) (Kd.R_base ho0) hb); replace HO_8 := am (Kd.R_elder' (kR HO_8) (Kd.R_base ho0) hb); replace BK282 := bb BK282 hb; replace BK289 := bb BK289 hb; replace HB := bs HB hb; clear hb; (try clear ho0)))
   go_loopg [12, 14] k2 (fun kq v12 v14 w' => ∃ (x12_3 : Int) (x14_3 : Int), v12 = .int .i64 x12_3 ∧ v14 = .int .i64 x14_3 ∧ Aside0 (spec_l08Live.l2 kq a1 t283 ((rd_T35 l0_0 a1).f2) x8_2 x9_2 x10_2 (wrap64 (((rd_T35 l0_0 a1).f1) + (rd t283 x10_2))) x12_3 t298 x14_3 l0_0 = some r) ∧ Aside0 (kq ≤ k2) ∧ Aside0 (Kd.R (Kd.int .i64) 2 w' w.heap.size (fun k_ => some k_ ≠ (v292 : Value).ownBlock ∧ some k_ ≠ (v299 : Value).ownBlock) (.slice (some ad294) t283.length co27) t283) ∧ Aside0 (Kd.R (Kd.int .i64) 2 w' w.heap.size (fun k_ => some k_ ≠ ((.slice (some ad294) t283.length co27) : Value).ownBlock ∧ some k_ ≠ (v299 : Value).ownBlock) v292 x8_2) ∧ Aside0 (Kd.R (Kd.int .i64) 2 w' w.heap.size (fun k_ => some k_ ≠ ((.slice (some ad294) t283.length co27) : Value).ownBlock ∧ some k_ ≠ (v292 : Value).ownBlock) v299 t298) ∧ Aside0 (w'.heap[gb282]? = some (.cells #[(.slice (some ad290) l0_0.length c0_0)] 25 (0, 0))) ∧ Aside0 (w'.heap[gb289]? = some (.cells #[.int .i64 t286, .int .i64 t287, .int .i64 t288] 29 (0, 0))) ∧ Aside0 (Below w.heap.size w w'))
   case atStart => exact ⟨(0), (0), dr, dr, H', ⟨Nat.le_refl _⟩, ⟨kR HO_5⟩, ⟨kR HO_8⟩, ⟨by (with_reducible repeat (first | apply Kd.R_alloc | apply Kd.R_drewN | apply Kd.R_drew)); exact Kd.R_mono HO300.out (fun _ hk => ⟨hk.1.2, hk.2⟩)⟩, ⟨bp BK282⟩, ⟨bp BK289⟩, ⟨bw HB⟩⟩
   clear H'
   (try clear c8); (try clear c18); (try clear c18b0); (try clear c19); (try clear c19b0); (try clear c20); (try clear c20b0); (try clear c21); (try clear c21b0); (try clear c23); (try clear c23b0); (try clear c24); (try clear c24b0); (try clear c25); (try clear c25b0); (try clear c29); (try clear p29); (try clear q29); (try clear hx29); (try clear hx294_0); (try clear hx295_0); (try clear hx295_1); (try clear hx295_2); (try clear hx296_0); (try clear hx297_0); (try clear hx297_1); (try clear p294); (try clear p295); (try clear p296); (try clear p297); (try clear q294); (try clear q295); (try clear q296); (try clear q297)
   obtain ⟨x12_3, x14_3, rfl, rfl, HA, HK3, HO_5, HO_8, HO_13, BK282, BK289, HB⟩ := hrel
   rcases gk with _ | k3
   ·exact absurd HA.out (by simp [spec_l08Live.l2])
   have H := HA.out
   clear HA
   simp only [spec_l08Live.l2] at H
   refine qI H ?_ ?_ <;> clear H <;> intro c30b0 H
   ·refine iM H ?_; clear H; intro c31b0 H
    refine iM H ?_; clear H; intro c32b0 H
    refine iM H ?_; clear H; intro c33b0 H
    have H' := am H
    clear H
    obtain ⟨Ao34, co34, eo34⟩ := Kd.R_slice HO_13.out
    subst eo34
    have p301 : 0 ≤ (x14_3 : Int) := of_decide_eq_true as1
    have q301 : x14_3 < (t298.length : Int) := of_decide_eq_true as1
    obtain ⟨ad301, e301, hx301_0⟩ := Kd.at_int (Kd.R_reads' HO_13.out).2.2 x14_3 p301 q301
    cases e301
    replace p301 := eq_true p301
    replace q301 := eq_true q301
    obtain ⟨Ao35, co35, eo35⟩ := Kd.R_slice HO_8.out
    subst eo35
    have p302 : 0 ≤ ((rd t298 x14_3) : Int) := of_decide_eq_true as1
    have q302 : (rd t298 x14_3) < (x8_2.length : Int) := of_decide_eq_true as1
    obtain ⟨ad302, e302, hx302_0⟩ := Kd.at_int (Kd.R_reads' HO_8.out).2.2 (rd t298 x14_3) p302 q302
    cases e302
    replace p302 := eq_true p302
    replace q302 := eq_true q302
    go_wp2
    go_roundg k3
    case measure => have := HK1.out; have := HK2.out; have := HK3.out; omega
    case rel => exact ⟨(Go.bits .or .i64 x12_3 (rd x8_2 (rd t298 x14_3))), (wrap64 (x14_3 + 1)), dr, dr, H', ⟨by have := HK1.out; have := HK2.out; have := HK3.out; omega⟩, ⟨kR HO_5⟩, ⟨kR HO_8⟩, ⟨kR HO_13⟩, ⟨bp BK282⟩, ⟨bp BK289⟩, ⟨bw HB⟩⟩
   refine iM H ?_; clear H; intro c36b0 H
   refine iM H ?_; clear H; intro c37b0 H
   refine be H ?_; clear H; intro t304 A38 H
   refine be H ?_; clear H; intro t305 A39 H
   refine be H ?_; clear H; intro t307 A40 H
   refine qT H ?_ ?_ <;> clear H <;> intro c41 H <;> subst c41
   ·refine iM H ?_; clear H; intro c42b0 H
    obtain ⟨y308, hy308⟩ : ∃ y_ : List Int, y_ = (x8_2.set (x10_2 : Int).toNat (Go.bits .or .i64 (Go.bits .and .i64 (Go.bits .andNot .i64 x12_3 t304) t305) t307)) := ⟨_, rfl⟩
    replace H : (spec_l08Live.l1 k3 a1 t283 ((rd_T35 l0_0 a1).f2) y308 true (wrap64 (x10_2 - 1)) l0_0) = some r := by first | (rw [hy308]; with_reducible exact H) | (have H2_ := (Option.bind_some _ _).symm.trans H; rw [hy308]; with_reducible exact H2_) | (have H2_ := (Option.bind_some _ _).symm.trans H; with_reducible exact H2_) | with_reducible exact H | (rw [hy308]; exact H) | exact H
    have Ny308 := am hy308
    clear hy308
    have H' := am H
    clear H
    obtain ⟨Ao44, co44, eo44⟩ := Kd.R_slice HO_13.out
    subst eo44
    try go_wp2
    replace HO_5 := am (Kd.R_drew HO_5.out)
    replace HO_8 := am (Kd.R_drew HO_8.out)
    replace HO_13 := am (Kd.R_drew HO_13.out)
    replace BK282 := am (blk_drew BK282.out)
    replace BK289 := am (blk_drew BK289.out)
    replace HB := am (below_drew1 HB.out)
    have p303 : 0 ≤ (x10_2 : Int) := of_decide_eq_true as1
    have q303 : x10_2 < (((rd_T35 l0_0 a1).f2).length : Int) := of_decide_eq_true as1
    obtain ⟨ad303, e303, hx303_0, hx303_1⟩ := at_T38 HR290_2.out x10_2 p303 q303
    have hw303_1 := hx303_1
    have hw303_0 := hx303_0
    obtain rfl : ad297 = ad303 := (by injection e303)
    replace hx303_0 := cl HB hx303_0
    replace hx303_1 := cl HB hx303_1
    replace p303 := eq_true p303
    replace q303 := eq_true q303
    have p306 : 0 ≤ (x10_2 : Int) := of_decide_eq_true as1
    have q306 : x10_2 < (((rd_T35 l0_0 a1).f2).length : Int) := of_decide_eq_true as1
    obtain ⟨ad306, e306, hx306_0, hx306_1⟩ := at_T38 HR290_2.out x10_2 p306 q306
    have hw306_1 := hx306_1
    have hw306_0 := hx306_0
    obtain rfl : ad297 = ad306 := (by injection e306)
    replace hx306_0 := cl HB hx306_0
    replace hx306_1 := cl HB hx306_1
    replace p306 := eq_true p306
    replace q306 := eq_true q306
    refine start_ (n := 21) (S := fun w' => w'.cell? ⟨gb282, 0, none⟩ = some (.slice (some ad290) l0_0.length c0_0) ∧ w'.cell? (ad297.add ((x10_2).toNat * 2)) = some (.int .i64 ((rd_T38 ((rd_T35 l0_0 a1).f2) x10_2).f0)) ∧ w'.cell? ⟨(ad297.add ((x10_2).toNat * 2)).block, (ad297.add ((x10_2).toNat * 2)).off + 1, none⟩ = some (.int .i64 ((rd_T38 ((rd_T35 l0_0 a1).f2) x10_2).f1)) ∧ w'.cell? (ad297.add ((x10_2).toNat * 2)) = some (.int .i64 ((rd_T38 ((rd_T35 l0_0 a1).f2) x10_2).f0)) ∧ w'.cell? ⟨(ad297.add ((x10_2).toNat * 2)).block, (ad297.add ((x10_2).toNat * 2)).off + 1, none⟩ = some (.int .i64 ((rd_T38 ((rd_T35 l0_0 a1).f2) x10_2).f1))) (ds := []) (bv 21 0) (by kernel_rfl) rfl (by kernel_rfl) ⟨bc BK282 0, (cq HB hw303_0), (cq HB hw303_1), (cq HB hw306_0), (cq HB hw306_1)⟩ (fun hHeld => ?_); refine with_tabW spec_l08Live.tab18 spec_l08Live.bits18 (fun HT_ HW_ => ?_)
    generalize wr.drew = w45 at HO_5 HO_8 HO_13 BK282 BK289 HB hx303_0 hx303_1 hx306_0 hx306_1 hHeld ⊢
    refine pu 0 75 21 1 HT_ ?_
    refine pu 2 77 21 5 HT_ ?_
    refine pu 3 78 21 13 HT_ ?_
    refine pu 4 79 21 29 HT_ ?_
    refine pu 6 81 21 93 HT_ ?_
    refine pu 9 84 21 605 HT_ ?_
    refine pu 13 88 21 8797 HT_ ?_
    refine pu 14 89 21 25181 HT_ ?_
    refine pu 15 90 21 57949 HT_ ?_
    refine pu 17 92 21 189021 HT_ ?_
    refine tk 1 76 21 189023 HT_ HW_ hHeld ?_
    refine tk 5 80 21 189055 HT_ HW_ hHeld ?_
    refine tk 12 87 21 193151 HT_ HW_ hHeld ?_
    refine tk 16 91 21 258687 HT_ HW_ hHeld ?_
    refine on 7 (some 82) 21 258815 HT_ fun K hK => ?_
    refine goes_ Try.func67 (by kernel_rfl) rfl #[.agg #[.slice (some ad290) l0_0.length c0_0], .agg #[.int .i64 ((rd_T38 ((rd_T35 l0_0 a1).f2) x10_2).f0), .int .i64 ((rd_T38 ((rd_T35 l0_0 a1).f2) x10_2).f1)], .int .i64 (wrap64 (((rd_T35 l0_0 a1).f1) + (rd t283 x10_2)))] (by rfl) rfl rfl gl ?_
    with_reducible refine (spec_l08Writes.calls k3 _ _ l0_0 ((rd_T38 ((rd_T35 l0_0 a1).f2) x10_2).f0) ((rd_T38 ((rd_T35 l0_0 a1).f2) x10_2).f1) (wrap64 (((rd_T35 l0_0 a1).f1) + (rd t283 x10_2))) t304 _ ?side1 ?side2 A38.out).mono ?_
    (case side1 => exact cc (Kd.C_below HR0_0.out HB.out))
    (case side2 => exact HC0_0.out)
    rintro e w46 ⟨rfl, hb⟩
    refine ⟨_, rfl, ?_⟩
    replace HO_5 := am (Kd.R_below (kR HO_5) hb)
    replace HO_8 := am (Kd.R_below (kR HO_8) hb)
    replace HO_13 := am (Kd.R_below (kR HO_13) hb)
    replace BK282 := bb BK282 hb
    replace BK289 := bb BK289 hb
    replace HB := am (below_step (bw HB) hb)
    clear hb
    refine hK.out _ _ ⟨bc BK282 0, (cq HB hw303_0), (cq HB hw303_1), (cq HB hw306_0), (cq HB hw306_1)⟩ (fun hHeld => ?_)
    clear hK K
    refine nm (some 82) ?_
    refine pu 8 83 21 259071 HT_ ?_
    refine on 10 (some 85) 21 260095 HT_ fun K hK => ?_
    refine goes_ Try.func88 (by kernel_rfl) rfl #[.int .i64 0, .int .i64 (wrap64 (((rd_T35 l0_0 a1).f1) + (rd t283 x10_2)))] (by rfl) rfl rfl gl ?_
    with_reducible refine (spec_l08Mask.calls k3 0 (wrap64 (((rd_T35 l0_0 a1).f1) + (rd t283 x10_2))) t305 _ A39.out).mono ?_
    rintro e w' ⟨rfl, ⟨nd, rfl⟩⟩
    refine ⟨_, rfl, ?_⟩
    refine hK.out _ _ ⟨bc BK282 0, (cq HB hw303_0), (cq HB hw303_1), (cq HB hw306_0), (cq HB hw306_1)⟩ (fun hHeld => ?_)
    clear hK K
    refine nm (some 85) ?_
    refine pu 11 86 21 262143 HT_ ?_
    refine on 18 (some 93) 21 524287 HT_ fun K hK => ?_
    refine goes_ Try.func89 (by kernel_rfl) rfl #[.agg #[.slice (some ad290) l0_0.length c0_0], .agg #[.int .i64 ((rd_T38 ((rd_T35 l0_0 a1).f2) x10_2).f0), .int .i64 ((rd_T38 ((rd_T35 l0_0 a1).f2) x10_2).f1)], .int .i64 (wrap64 (((rd_T35 l0_0 a1).f1) + (rd t283 x10_2)))] (by rfl) rfl rfl gl ?_
    with_reducible refine (spec_l08Reads.calls k3 _ _ l0_0 ((rd_T38 ((rd_T35 l0_0 a1).f2) x10_2).f0) ((rd_T38 ((rd_T35 l0_0 a1).f2) x10_2).f1) (wrap64 (((rd_T35 l0_0 a1).f1) + (rd t283 x10_2))) t307 _ ?side1 ?side2 A40.out).mono ?_
    (case side1 => exact cc (Kd.C_below HR0_0.out (bw HB)))
    (case side2 => exact HC0_0.out)
    rintro e w47 ⟨rfl, hb⟩
    refine ⟨_, rfl, ?_⟩
    replace HO_5 := am (Kd.R_below (kR HO_5) hb)
    replace HO_8 := am (Kd.R_below (kR HO_8) hb)
    replace HO_13 := am (Kd.R_below (kR HO_13) hb)
    replace BK282 := bb BK282 hb
    replace BK289 := bb BK289 hb
    replace HB := am (below_step (bw HB) hb)
    clear hb
    refine hK.out _ _ ⟨bc BK282 0, (cq HB hw303_0), (cq HB hw303_1), (cq HB hw306_0), (cq HB hw306_1)⟩ (fun hHeld => ?_)
    clear hK K
    refine nm (some 93) ?_
    refine pu 19 94 21 1048575 HT_ ?_
    refine pu 20 12 21 2097151 HT_ ?_
    refine done_ (done_of HT_.out (by kernel_rfl)) ?_
    have p43 : 0 ≤ (x10_2 : Int) := of_decide_eq_true as1
    have q43 : (x10_2 : Int) < ((x8_2.length : Int) : Int) := of_decide_eq_true as1
    obtain ⟨go43, co43, eo43, gb43, gl43, cl43, HG43⟩ := Kd.R_form HO_8.out (by omega)
    (first | cases eo43 | (injection eo43 with ea_ en_ ec_; (first | subst ea_ | (injection ea_ with ea_; subst ea_)); subst ec_; clear en_))
    have GB43 := am gb43
    have GG43 := am HG43
    clear gb43 gl43 HG43
    obtain ⟨hx43_0, hf43_0⟩ := Kd.R_celln 0 HO_8.out (x10_2 : Int) p43 q43
    replace p43 := eq_true p43
    replace q43 := eq_true q43
    obtain ⟨hy48_, hz48_⟩ := Kd.R_celln 0 HO_8.out (x10_2 : Int) (of_decide_eq_true as1) (of_decide_eq_true as1)
    have HP48 := Kd.R_putg HO_8.out (x10_2 : Int) (Go.bits .or .i64 (Go.bits .and .i64 (Go.bits .andNot .i64 x12_3 t304) t305) t307)
    try go_wp2_with (first | ((with_reducible refine gt 2 107 rfl ?_); refine sE 2 107 (w47.setCell ⟨go43, (x10_2 : Int).toNat, none⟩ (.int .i64 (Go.bits .or .i64 (Go.bits .and .i64 (Go.bits .andNot .i64 x12_3 t304) t305) t307))) ?_; intro w49 hw; have hg : w47.grownBy w49 (some go43) := (by rw [hw]; exact HP48.2); have hp_ : Kd.R (Kd.int .i64) 2 w49 w.heap.size (fun k_ => some k_ ≠ (.slice (some ad294) t283.length co27 : Value).ownBlock ∧ some k_ ≠ (.slice Ao44 t298.length co44 : Value).ownBlock) (.slice (some ⟨go43, 0, none⟩) x8_2.length co43) y308 := (by rw [hw, Ny308.out]; exact HP48.1); clear HP48; replace HO_5 := am (Kd.R_after (v := (.slice (some ⟨go43, 0, none⟩) x8_2.length co43)) (v1 := (.slice (some ⟨go43, 0, none⟩) x8_2.length co43)) (ok := (fun k_ => some k_ ≠ (.slice Ao44 t298.length co44 : Value).ownBlock)) (by (with_reducible repeat (first | apply Kd.R_alloc | apply Kd.R_drewN | apply Kd.R_drew)); exact Kd.R_mono HO_5.out (fun _ hk => ⟨hk.2, hk.1⟩)) hg (.inl rfl)); replace HO_13 := am (Kd.R_after (v := (.slice (some ⟨go43, 0, none⟩) x8_2.length co43)) (v1 := (.slice (some ⟨go43, 0, none⟩) x8_2.length co43)) (ok := (fun k_ => some k_ ≠ (.slice (some ad294) t283.length co27 : Value).ownBlock)) (kR HO_13) hg (.inl rfl)); replace BK282 := bg BK282 hg (Kd.R_ne HO_8.out BK282.out (by decide)); replace BK289 := bg BK289 hg (Kd.R_ne HO_8.out BK289.out (by decide)); replace HO_8 := am (hp_); replace HB := am ((by rw [hw]; exact below_set (HB.out) GB43.out : Below w.heap.size w w49)); clear hg hw hp_))
    go_roundg k3
    case measure => have := HK1.out; have := HK2.out; have := HK3.out; omega
    case rel => exact ⟨(y308), (true), (wrap64 (x10_2 - 1)), dr, dr, H', ⟨by have := HK1.out; have := HK2.out; have := HK3.out; omega⟩, ⟨by (with_reducible repeat (first | apply Kd.R_alloc | apply Kd.R_drewN | apply Kd.R_drew)); exact Kd.R_mono HO_5.out (fun _ hk => hk.2)⟩, ⟨by (with_reducible repeat (first | apply Kd.R_alloc | apply Kd.R_drewN | apply Kd.R_drew)); exact Kd.R_mono HO_8.out (fun _ hk => hk.1)⟩, ⟨bp BK282⟩, ⟨bp BK289⟩, ⟨bw HB⟩⟩
   refine iM H ?_; clear H; intro c50b0 H
   obtain ⟨y310, hy310⟩ : ∃ y_ : List Int, y_ = (x8_2.set (x10_2 : Int).toNat (Go.bits .or .i64 (Go.bits .and .i64 (Go.bits .andNot .i64 x12_3 t304) t305) t307)) := ⟨_, rfl⟩
   replace H : (spec_l08Live.l1 k3 a1 t283 ((rd_T35 l0_0 a1).f2) y310 ((Go.bits .or .i64 (Go.bits .and .i64 (Go.bits .andNot .i64 x12_3 t304) t305) t307) != (rd x8_2 x10_2)) (wrap64 (x10_2 - 1)) l0_0) = some r := by first | (rw [hy310]; with_reducible exact H) | (have H2_ := (Option.bind_some _ _).symm.trans H; rw [hy310]; with_reducible exact H2_) | (have H2_ := (Option.bind_some _ _).symm.trans H; with_reducible exact H2_) | with_reducible exact H | (rw [hy310]; exact H) | exact H
   have Ny310 := am hy310
   clear hy310
   have H' := am H
   clear H
   obtain ⟨Ao52, co52, eo52⟩ := Kd.R_slice HO_13.out
   subst eo52
   try go_wp2
   replace HO_5 := am (Kd.R_drew HO_5.out)
   replace HO_8 := am (Kd.R_drew HO_8.out)
   replace HO_13 := am (Kd.R_drew HO_13.out)
   replace BK282 := am (blk_drew BK282.out)
   replace BK289 := am (blk_drew BK289.out)
   replace HB := am (below_drew1 HB.out)
   have p303 : 0 ≤ (x10_2 : Int) := of_decide_eq_true as1
   have q303 : x10_2 < (((rd_T35 l0_0 a1).f2).length : Int) := of_decide_eq_true as1
   obtain ⟨ad303, e303, hx303_0, hx303_1⟩ := at_T38 HR290_2.out x10_2 p303 q303
   have hw303_1 := hx303_1
   have hw303_0 := hx303_0
   obtain rfl : ad297 = ad303 := (by injection e303)
   replace hx303_0 := cl HB hx303_0
   replace hx303_1 := cl HB hx303_1
   replace p303 := eq_true p303
   replace q303 := eq_true q303
   have p306 : 0 ≤ (x10_2 : Int) := of_decide_eq_true as1
   have q306 : x10_2 < (((rd_T35 l0_0 a1).f2).length : Int) := of_decide_eq_true as1
   obtain ⟨ad306, e306, hx306_0, hx306_1⟩ := at_T38 HR290_2.out x10_2 p306 q306
   have hw306_1 := hx306_1
   have hw306_0 := hx306_0
   obtain rfl : ad297 = ad306 := (by injection e306)
   replace hx306_0 := cl HB hx306_0
   replace hx306_1 := cl HB hx306_1
   replace p306 := eq_true p306
   replace q306 := eq_true q306
   refine start_ (n := 21) (S := fun w' => w'.cell? ⟨gb282, 0, none⟩ = some (.slice (some ad290) l0_0.length c0_0) ∧ w'.cell? (ad297.add ((x10_2).toNat * 2)) = some (.int .i64 ((rd_T38 ((rd_T35 l0_0 a1).f2) x10_2).f0)) ∧ w'.cell? ⟨(ad297.add ((x10_2).toNat * 2)).block, (ad297.add ((x10_2).toNat * 2)).off + 1, none⟩ = some (.int .i64 ((rd_T38 ((rd_T35 l0_0 a1).f2) x10_2).f1)) ∧ w'.cell? (ad297.add ((x10_2).toNat * 2)) = some (.int .i64 ((rd_T38 ((rd_T35 l0_0 a1).f2) x10_2).f0)) ∧ w'.cell? ⟨(ad297.add ((x10_2).toNat * 2)).block, (ad297.add ((x10_2).toNat * 2)).off + 1, none⟩ = some (.int .i64 ((rd_T38 ((rd_T35 l0_0 a1).f2) x10_2).f1))) (ds := []) (bv 21 0) (by kernel_rfl) rfl (by kernel_rfl) ⟨bc BK282 0, (cq HB hw303_0), (cq HB hw303_1), (cq HB hw306_0), (cq HB hw306_1)⟩ (fun hHeld => ?_); refine with_tabW spec_l08Live.tab18 spec_l08Live.bits18 (fun HT_ HW_ => ?_)
   generalize wr.drew = w53 at HO_5 HO_8 HO_13 BK282 BK289 HB hx303_0 hx303_1 hx306_0 hx306_1 hHeld ⊢
   refine pu 0 75 21 1 HT_ ?_
   refine pu 2 77 21 5 HT_ ?_
   refine pu 3 78 21 13 HT_ ?_
   refine pu 4 79 21 29 HT_ ?_
   refine pu 6 81 21 93 HT_ ?_
   refine pu 9 84 21 605 HT_ ?_
   refine pu 13 88 21 8797 HT_ ?_
   refine pu 14 89 21 25181 HT_ ?_
   refine pu 15 90 21 57949 HT_ ?_
   refine pu 17 92 21 189021 HT_ ?_
   refine tk 1 76 21 189023 HT_ HW_ hHeld ?_
   refine tk 5 80 21 189055 HT_ HW_ hHeld ?_
   refine tk 12 87 21 193151 HT_ HW_ hHeld ?_
   refine tk 16 91 21 258687 HT_ HW_ hHeld ?_
   refine on 7 (some 82) 21 258815 HT_ fun K hK => ?_
   refine goes_ Try.func67 (by kernel_rfl) rfl #[.agg #[.slice (some ad290) l0_0.length c0_0], .agg #[.int .i64 ((rd_T38 ((rd_T35 l0_0 a1).f2) x10_2).f0), .int .i64 ((rd_T38 ((rd_T35 l0_0 a1).f2) x10_2).f1)], .int .i64 (wrap64 (((rd_T35 l0_0 a1).f1) + (rd t283 x10_2)))] (by rfl) rfl rfl gl ?_
   with_reducible refine (spec_l08Writes.calls k3 _ _ l0_0 ((rd_T38 ((rd_T35 l0_0 a1).f2) x10_2).f0) ((rd_T38 ((rd_T35 l0_0 a1).f2) x10_2).f1) (wrap64 (((rd_T35 l0_0 a1).f1) + (rd t283 x10_2))) t304 _ ?side1 ?side2 A38.out).mono ?_
   (case side1 => exact cc (Kd.C_below HR0_0.out HB.out))
   (case side2 => exact HC0_0.out)
   rintro e w54 ⟨rfl, hb⟩
   refine ⟨_, rfl, ?_⟩
   replace HO_5 := am (Kd.R_below (kR HO_5) hb)
   replace HO_8 := am (Kd.R_below (kR HO_8) hb)
   replace HO_13 := am (Kd.R_below (kR HO_13) hb)
   replace BK282 := bb BK282 hb
   replace BK289 := bb BK289 hb
   replace HB := am (below_step (bw HB) hb)
   clear hb
   refine hK.out _ _ ⟨bc BK282 0, (cq HB hw303_0), (cq HB hw303_1), (cq HB hw306_0), (cq HB hw306_1)⟩ (fun hHeld => ?_)
   clear hK K
   refine nm (some 82) ?_
   refine pu 8 83 21 259071 HT_ ?_
   refine on 10 (some 85) 21 260095 HT_ fun K hK => ?_
   refine goes_ Try.func88 (by kernel_rfl) rfl #[.int .i64 0, .int .i64 (wrap64 (((rd_T35 l0_0 a1).f1) + (rd t283 x10_2)))] (by rfl) rfl rfl gl ?_
   with_reducible refine (spec_l08Mask.calls k3 0 (wrap64 (((rd_T35 l0_0 a1).f1) + (rd t283 x10_2))) t305 _ A39.out).mono ?_
   rintro e w' ⟨rfl, ⟨nd, rfl⟩⟩
   refine ⟨_, rfl, ?_⟩
   refine hK.out _ _ ⟨bc BK282 0, (cq HB hw303_0), (cq HB hw303_1), (cq HB hw306_0), (cq HB hw306_1)⟩ (fun hHeld => ?_)
   clear hK K
   refine nm (some 85) ?_
   refine pu 11 86 21 262143 HT_ ?_
   refine on 18 (some 93) 21 524287 HT_ fun K hK => ?_
   refine goes_ Try.func89 (by kernel_rfl) rfl #[.agg #[.slice (some ad290) l0_0.length c0_0], .agg #[.int .i64 ((rd_T38 ((rd_T35 l0_0 a1).f2) x10_2).f0), .int .i64 ((rd_T38 ((rd_T35 l0_0 a1).f2) x10_2).f1)], .int .i64 (wrap64 (((rd_T35 l0_0 a1).f1) + (rd t283 x10_2)))] (by rfl) rfl rfl gl ?_
   with_reducible refine (spec_l08Reads.calls k3 _ _ l0_0 ((rd_T38 ((rd_T35 l0_0 a1).f2) x10_2).f0) ((rd_T38 ((rd_T35 l0_0 a1).f2) x10_2).f1) (wrap64 (((rd_T35 l0_0 a1).f1) + (rd t283 x10_2))) t307 _ ?side1 ?side2 A40.out).mono ?_
   (case side1 => exact cc (Kd.C_below HR0_0.out (bw HB)))
   (case side2 => exact HC0_0.out)
   rintro e w55 ⟨rfl, hb⟩
   refine ⟨_, rfl, ?_⟩
   replace HO_5 := am (Kd.R_below (kR HO_5) hb)
   replace HO_8 := am (Kd.R_below (kR HO_8) hb)
   replace HO_13 := am (Kd.R_below (kR HO_13) hb)
   replace BK282 := bb BK282 hb
   replace BK289 := bb BK289 hb
   replace HB := am (below_step (bw HB) hb)
   clear hb
   refine hK.out _ _ ⟨bc BK282 0, (cq HB hw303_0), (cq HB hw303_1), (cq HB hw306_0), (cq HB hw306_1)⟩ (fun hHeld => ?_)
   clear hK K
   refine nm (some 93) ?_
   refine pu 19 94 21 1048575 HT_ ?_
   refine pu 20 12 21 2097151 HT_ ?_
   refine done_ (done_of HT_.out (by kernel_rfl)) ?_
   obtain ⟨Ao56, co56, eo56⟩ := Kd.R_slice HO_8.out
   subst eo56
   have p309 : 0 ≤ (x10_2 : Int) := of_decide_eq_true as1
   have q309 : x10_2 < (x8_2.length : Int) := of_decide_eq_true as1
   obtain ⟨ad309, e309, hx309_0⟩ := Kd.at_int (Kd.R_reads' HO_8.out).2.2 x10_2 p309 q309
   cases e309
   replace p309 := eq_true p309
   replace q309 := eq_true q309
   have p51 : 0 ≤ (x10_2 : Int) := of_decide_eq_true as1
   have q51 : (x10_2 : Int) < ((x8_2.length : Int) : Int) := of_decide_eq_true as1
   obtain ⟨go51, co51, eo51, gb51, gl51, cl51, HG51⟩ := Kd.R_form HO_8.out (by omega)
   (first | cases eo51 | (injection eo51 with ea_ en_ ec_; (first | subst ea_ | (injection ea_ with ea_; subst ea_)); subst ec_; clear en_))
   have GB51 := am gb51
   have GG51 := am HG51
   clear gb51 gl51 HG51
   (first | simp only [add_plain] at hx309_0 | skip)
   obtain ⟨hx51_0, hf51_0⟩ := Kd.R_celln 0 HO_8.out (x10_2 : Int) p51 q51
   replace p51 := eq_true p51
   replace q51 := eq_true q51
   obtain ⟨hy57_, hz57_⟩ := Kd.R_celln 0 HO_8.out (x10_2 : Int) (of_decide_eq_true as1) (of_decide_eq_true as1)
   have HP57 := Kd.R_putg HO_8.out (x10_2 : Int) (Go.bits .or .i64 (Go.bits .and .i64 (Go.bits .andNot .i64 x12_3 t304) t305) t307)
   try go_wp2_with (first | ((with_reducible refine gt 2 107 rfl ?_); refine sE 2 107 (w55.setCell ⟨go51, (x10_2 : Int).toNat, none⟩ (.int .i64 (Go.bits .or .i64 (Go.bits .and .i64 (Go.bits .andNot .i64 x12_3 t304) t305) t307))) ?_; intro w58 hw; have hg : w55.grownBy w58 (some go51) := (by rw [hw]; exact HP57.2); have hp_ : Kd.R (Kd.int .i64) 2 w58 w.heap.size (fun k_ => some k_ ≠ (.slice (some ad294) t283.length co27 : Value).ownBlock ∧ some k_ ≠ (.slice Ao52 t298.length co52 : Value).ownBlock) (.slice (some ⟨go51, 0, none⟩) x8_2.length co56) y310 := (by rw [hw, Ny310.out]; exact HP57.1); clear HP57; replace HO_5 := am (Kd.R_after (v := (.slice (some ⟨go51, 0, none⟩) x8_2.length co56)) (v1 := (.slice (some ⟨go51, 0, none⟩) x8_2.length co56)) (ok := (fun k_ => some k_ ≠ (.slice Ao52 t298.length co52 : Value).ownBlock)) (by (with_reducible repeat (first | apply Kd.R_alloc | apply Kd.R_drewN | apply Kd.R_drew)); exact Kd.R_mono HO_5.out (fun _ hk => ⟨hk.2, hk.1⟩)) hg (.inl rfl)); replace HO_13 := am (Kd.R_after (v := (.slice (some ⟨go51, 0, none⟩) x8_2.length co56)) (v1 := (.slice (some ⟨go51, 0, none⟩) x8_2.length co56)) (ok := (fun k_ => some k_ ≠ (.slice (some ad294) t283.length co27 : Value).ownBlock)) (kR HO_13) hg (.inl rfl)); replace BK282 := bg BK282 hg (Kd.R_ne HO_8.out BK282.out (by decide)); replace BK289 := bg BK289 hg (Kd.R_ne HO_8.out BK289.out (by decide)); replace HO_8 := am (hp_); replace HB := am ((by rw [hw]; exact below_set (HB.out) GB51.out : Below w.heap.size w w58)); clear hg hw hp_))
   go_roundg k3
   case measure => have := HK1.out; have := HK2.out; have := HK3.out; omega
   case rel => exact ⟨(y310), (((Go.bits .or .i64 (Go.bits .and .i64 (Go.bits .andNot .i64 x12_3 t304) t305) t307) != (rd x8_2 x10_2))), (wrap64 (x10_2 - 1)), dr, dr, H', ⟨by have := HK1.out; have := HK2.out; have := HK3.out; omega⟩, ⟨by (with_reducible repeat (first | apply Kd.R_alloc | apply Kd.R_drewN | apply Kd.R_drew)); exact Kd.R_mono HO_5.out (fun _ hk => hk.2)⟩, ⟨by (with_reducible repeat (first | apply Kd.R_alloc | apply Kd.R_drewN | apply Kd.R_drew)); exact Kd.R_mono HO_8.out (fun _ hk => hk.1)⟩, ⟨bp BK282⟩, ⟨bp BK289⟩, ⟨bw HB⟩⟩
  rw [if_neg c18] at H
  have c18b0 : decide (0 ≤ x10_2) = false := decide_eq_false c18
  clear c18
  have H' := am H
  clear H
  go_wp2
  go_roundg k2
  case measure => have := HK1.out; have := HK2.out; omega
  case rel => exact ⟨(x8_2), (x9_2), dr, H', ⟨by have := HK1.out; have := HK2.out; omega⟩, ⟨kR HO_5⟩, ⟨kR HO_8⟩, ⟨bp BK282⟩, ⟨bp BK289⟩, ⟨bw HB⟩⟩
 obtain rfl := Option.some.inj H
 go_wp2
 go_ret
 exact ⟨_, er, by (with_reducible repeat (first | apply Kd.R_alloc | apply Kd.R_drewN | apply Kd.R_drew)); exact Kd.R_mono HO_8.out (fun _ hk => trivial), bw HB⟩

end Go.Proofs.Ytopaefhfjioecaa.QFnRanges
