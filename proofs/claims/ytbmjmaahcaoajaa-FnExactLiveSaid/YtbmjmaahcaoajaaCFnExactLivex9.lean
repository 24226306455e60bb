import Derived.Test.YtbmjmaahcaoajaaCFnExactLivex0
import Derived.Test.YtbmjmaahcaoajaaCFnExactLivex5
import Derived.Test.YtbmjmaahcaoajaaCFnExactLivex8
namespace Go.Proofs.Ytbmjmaahcaoajaa.QFnExactLive
open Go.RowKit Go.Proofs.YtbmjmaahcaoajaaW
open PrintWords PrintLast PrintMore PrintShort PrintIsh
attribute [local go_sem] max2_int min2_int max_two min_two max_three min_three max_four min_four   -- for this text's walks alone
set_option linter.unusedVariables false
set_option maxHeartbeats 8000000
set_option maxRecDepth 100000
set_option linter.unusedSimpArgs false

mutual
def spec_l08Live.l0 : Nat → Int → List Int → List (S102) → List Int → Bool → List (S100) → Option (List Int)
 | 0, _, _, _, _, _, _ => none
 | k + 1, x1, x5, x7, x8, x9, x271000 => if x9 = true then (spec_l08Live.l1 k x1 x5 x7 x8 false (wrap64 ((x7.length : Int) - 1)) x271000) else (some x8)
def spec_l08Live.l1 : Nat → Int → List Int → List (S102) → List Int → Bool → Int → List (S100) → Option (List Int)
 | 0, _, _, _, _, _, _, _ => none
 | k + 1, x1, x5, x7, x8, x9, x10, x271000 => if x10 ≥ 0 then (if 0 ≤ x10 then (if x10 < (x5.length : Int) then (if (rd x5 x10) < 0 then (spec_l08Live.l1 k x1 x5 x7 x8 x9 (wrap64 (x10 - 1)) x271000) else (if 0 ≤ x1 then (if x1 < (x271000.length : Int) then (if x10 < (x7.length : Int) then ((spec_l08Next.f k ((rd_T102 x7 x10).f0) ((rd_T102 x7 x10).f1) x10).bind fun t286 => (spec_l08Live.l2 k x1 x5 x7 x8 x9 x10 (wrap64 (((rd_T100 x271000 x1).f1) + (rd x5 x10))) 0 t286 0 x271000)) else (none)) else (none)) else (none))) else (none)) else (none)) else (spec_l08Live.l0 k x1 x5 x7 x8 x9 x271000)
def spec_l08Live.l2 : Nat → Int → List Int → List (S102) → List Int → Bool → Int → Int → Int → List Int → Int → List (S100) → Option (List Int)
 | 0, _, _, _, _, _, _, _, _, _, _, _ => none
 | k + 1, x1, x5, x7, x8, x9, x10, x11, x12, x13, x14, x271000 => if x14 < (x13.length : Int) then (if 0 ≤ x14 then (if 0 ≤ (rd x13 x14) then (if (rd x13 x14) < (x8.length : Int) then (spec_l08Live.l2 k x1 x5 x7 x8 x9 x10 x11 (Go.bits .or .i64 x12 (rd x8 (rd x13 x14))) x13 (wrap64 (x14 + 1)) x271000) else (none)) else (none)) else (none)) else (if 0 ≤ x10 then (if x10 < (x7.length : Int) then ((spec_l08Writes.f k x271000 ((rd_T102 x7 x10).f0) ((rd_T102 x7 x10).f1) x11).bind fun t292 => ((spec_l08Mask.f k 0 x11).bind fun t293 => ((spec_l08Reads.f k x271000 ((rd_T102 x7 x10).f0) ((rd_T102 x7 x10).f1) x11).bind fun t295 => (if x9 = true then (if x10 < (x8.length : Int) then (spec_l08Live.l1 k x1 x5 x7 (x8.set (x10 : Int).toNat (Go.bits .or .i64 (Go.bits .and .i64 (Go.bits .andNot .i64 x12 t292) t293) t295)) true (wrap64 (x10 - 1)) x271000) else (none)) else (if x10 < (x8.length : Int) then (spec_l08Live.l1 k x1 x5 x7 (x8.set (x10 : Int).toNat (Go.bits .or .i64 (Go.bits .and .i64 (Go.bits .andNot .i64 x12 t292) t293) t295)) ((Go.bits .or .i64 (Go.bits .and .i64 (Go.bits .andNot .i64 x12 t292) t293) t295) != (rd x8 x10)) (wrap64 (x10 - 1)) x271000) else (none)))))) else (none)) else (none))
end
def spec_l08Live.f (k : Nat) (l0_0 : List (S100)) (a1 : Int) : Option (List Int) := (spec_l04Heights.f k l0_0 a1).bind fun bt271 => (if 0 ≤ a1 then (if a1 < (l0_0.length : Int) then (if 0 ≤ (((rd_T100 l0_0 a1).f2).length : Int) then (if ((((rd_T100 l0_0 a1).f2).length : Int) : Int).toNat ≤ 35184372088832 then (spec_l08Live.l0 k a1 bt271.1 ((rd_T100 l0_0 a1).f2) (List.replicate ((((rd_T100 l0_0 a1).f2).length : Int) : Int).toNat 0) true l0_0) else (none)) else (none)) else (none)) else (none))
theorem spec_l08Live.mono_l : ∀ k, (∀ y0 y1 y2 y3 y4 y5, LeO (spec_l08Live.l0 k y0 y1 y2 y3 y4 y5) (spec_l08Live.l0 (k + 1) y0 y1 y2 y3 y4 y5)) ∧ (∀ y0 y1 y2 y3 y4 y5 y6, LeO (spec_l08Live.l1 k y0 y1 y2 y3 y4 y5 y6) (spec_l08Live.l1 (k + 1) y0 y1 y2 y3 y4 y5 y6)) ∧ (∀ y0 y1 y2 y3 y4 y5 y6 y7 y8 y9 y10, LeO (spec_l08Live.l2 k y0 y1 y2 y3 y4 y5 y6 y7 y8 y9 y10) (spec_l08Live.l2 (k + 1) y0 y1 y2 y3 y4 y5 y6 y7 y8 y9 y10))
 | 0 => ⟨fun _ _ _ _ _ _ r h => by simp [spec_l08Live.l0] at h, fun _ _ _ _ _ _ _ r h => by simp [spec_l08Live.l1] at h, fun _ _ _ _ _ _ _ _ _ _ _ r h => by simp [spec_l08Live.l2] at h⟩
 | k + 1 => by
  obtain ⟨ih0, ih1, ih2⟩ := spec_l08Live.mono_l k
  refine ⟨?_, ?_, ?_⟩
  ·intro y0 y1 y2 y3 y4 y5
   unfold spec_l08Live.l0
   with_reducible repeat' first | exact ih0 .. | exact ih1 .. | exact ih2 .. | exact spec_l04Heights.mono .. | exact spec_l08Mask.mono .. | exact spec_l08Next.mono .. | exact spec_l08Reads.mono .. | exact spec_l08Writes.mono .. | exact LeO.refl _ | exact LeO.none _ | refine LeO.ite ?_ ?_ | refine LeO.bind ?_ (fun _ => ?_)
  ·intro y0 y1 y2 y3 y4 y5 y6
   unfold spec_l08Live.l1
   with_reducible repeat' first | exact ih0 .. | exact ih1 .. | exact ih2 .. | exact spec_l04Heights.mono .. | exact spec_l08Mask.mono .. | exact spec_l08Next.mono .. | exact spec_l08Reads.mono .. | exact spec_l08Writes.mono .. | exact LeO.refl _ | exact LeO.none _ | refine LeO.ite ?_ ?_ | refine LeO.bind ?_ (fun _ => ?_)
  ·intro y0 y1 y2 y3 y4 y5 y6 y7 y8 y9 y10
   unfold spec_l08Live.l2
   with_reducible repeat' first | exact ih0 .. | exact ih1 .. | exact ih2 .. | exact spec_l04Heights.mono .. | exact spec_l08Mask.mono .. | exact spec_l08Next.mono .. | exact spec_l08Reads.mono .. | exact spec_l08Writes.mono .. | exact LeO.refl _ | exact LeO.none _ | refine LeO.ite ?_ ?_ | refine LeO.bind ?_ (fun _ => ?_)
theorem spec_l08Live.mono : ∀ a0 a1 k, LeO (spec_l08Live.f k a0 a1) (spec_l08Live.f (k + 1) a0 a1) := by
 intro a0 a1 k
 obtain ⟨ih0, ih1, ih2⟩ := spec_l08Live.mono_l k
 unfold spec_l08Live.f
 with_reducible repeat' first | exact ih0 .. | exact ih1 .. | exact ih2 .. | exact spec_l04Heights.mono .. | exact spec_l08Mask.mono .. | exact spec_l08Next.mono .. | exact spec_l08Reads.mono .. | exact spec_l08Writes.mono .. | exact LeO.refl _ | exact LeO.none _ | refine LeO.ite ?_ ?_ | refine LeO.bind ?_ (fun _ => ?_)
def spec_l08Live.T11 : Bool × List (List Nat × List Nat) := (true, [([], []), ([0], [0]), ([], []), ([1, 2], [1, 2]), ([3], [3]), ([4], [4]), ([], []), ([], []), ([6, 7], [6, 7]), ([8], [8]), ([5, 9], [5, 9]), ([10, 0, 1, 2, 3, 4, 5, 6, 7, 8, 9, 10], [10])])
def spec_l08Live.B11 : List Nat := [0, 1, 0, 7, 15, 31, 0, 0, 192, 448, 1023, 2047]
theorem spec_l08Live.tab11 : rtab .any (opsOf Try.f81 11) = spec_l08Live.T11 := by kernel_rfl
theorem spec_l08Live.bits11 : waitsOk spec_l08Live.T11.2 spec_l08Live.B11 = true := by kernel_rfl
def spec_l08Live.T18 : Bool × List (List Nat × List Nat) := (true, [([], []), ([], []), ([], []), ([], []), ([2, 3], [2, 3]), ([4], [4]), ([], []), ([1, 5, 6], [1, 5, 6]), ([0, 7], [0, 7]), ([], []), ([9, 7], [9]), ([8, 10], [8, 10]), ([], []), ([], []), ([], []), ([13, 14], [13, 14]), ([15], [15]), ([], []), ([12, 16, 17, 10], [12, 16, 17]), ([11, 18], [11, 18]), ([19, 18, 0, 1, 2, 3, 4, 5, 6, 7, 8, 9, 10, 11, 12, 13, 14, 15, 16, 17, 18, 19], [0, 19])])
def spec_l08Live.B18 : List Nat := [0, 0, 0, 0, 12, 28, 0, 126, 255, 0, 766, 2047, 0, 0, 0, 24576, 57344, 0, 259838, 524287, 1048575]
theorem spec_l08Live.tab18 : rtab .any (opsOf Try.f81 18) = spec_l08Live.T18 := by kernel_rfl
theorem spec_l08Live.bits18 : waitsOk spec_l08Live.T18.2 spec_l08Live.B18 = true := by kernel_rfl
theorem spec_l08Live.calls (k : Nat) (A0_0 : Option Addr) (c0_0 : Nat) (l0_0 : List (S100)) (a1 : Int) (r : List Int) (w : World) (hr0_0 : Kd.C k100 w A0_0 l0_0.length l0_0) (hc0_0 : l0_0.length ≤ c0_0) (h : spec_l08Live.f k l0_0 a1 = some r) :
  Calls Try.prog 81 #[.agg #[.slice A0_0 l0_0.length c0_0], .int .i64 a1] w fun e w' => ∃ v0_ : Value, e = .returned (v0_) ∧ Kd.R (Kd.int .i64) 2 w' w.heap.size (fun _ => True) v0_ r ∧ Below w.heap.size w w' := by
 have hu30 := Try.underlying30
 have hu84 := Try.underlying84
 have hu102 := Try.underlying102
 have HR0_0 := am hr0_0
 have HC0_0 := am hc0_0
 clear hr0_0 hc0_0
 have HB := am (Below.refl w.heap.size w)
 have H : ((spec_l04Heights.f k l0_0 a1).bind fun bt271 => (if 0 ≤ a1 then (if a1 < (l0_0.length : Int) then (if 0 ≤ (((rd_T100 l0_0 a1).f2).length : Int) then (if ((((rd_T100 l0_0 a1).f2).length : Int) : Int).toNat ≤ 35184372088832 then (spec_l08Live.l0 k a1 bt271.1 ((rd_T100 l0_0 a1).f2) (List.replicate ((((rd_T100 l0_0 a1).f2).length : Int) : Int).toNat 0) true l0_0) else (none)) else (none)) else (none)) else (none))) = some r := h
 clear h
 replace H := Option.bind_eq_some_iff.mp H
 obtain ⟨⟨t271, t274, t275, t276⟩, A30, H⟩ := H
 replace H : (if 0 ≤ a1 then (if a1 < (l0_0.length : Int) then (if 0 ≤ (((rd_T100 l0_0 a1).f2).length : Int) then (if ((((rd_T100 l0_0 a1).f2).length : Int) : Int).toNat ≤ 35184372088832 then (spec_l08Live.l0 k a1 t271 ((rd_T100 l0_0 a1).f2) (List.replicate ((((rd_T100 l0_0 a1).f2).length : Int) : Int).toNat 0) true l0_0) else (none)) else (none)) else (none)) else (none)) = some r := H
 have A3 := am A30
 clear A30
 refine iN H ?_; clear H; intro c4 H
 have c4b0 := decide_eq_true c4
 clear c4
 refine iN H ?_; clear H; intro c5 H
 have c5b0 := decide_eq_true c5
 clear c5
 refine iN H ?_; clear H; intro c6 H
 have c6b0 := eq_true c6
 have c6b1 := decide_eq_true c6
 clear c6
 refine iN H ?_; clear H; intro c7 H
 have c7b0 := eq_true c7
 have c7b1 := decide_eq_true c7
 clear c7
 obtain ⟨y279, hy279⟩ : ∃ y_ : List Int, y_ = (List.replicate ((((rd_T100 l0_0 a1).f2).length : Int) : Int).toNat 0) := ⟨_, rfl⟩
 replace H : (spec_l08Live.l0 k a1 t271 ((rd_T100 l0_0 a1).f2) y279 true l0_0) = some r := by first | (rw [hy279]; with_reducible exact H) | (have H2_ := (Option.bind_some _ _).symm.trans H; rw [hy279]; with_reducible exact H2_) | (have H2_ := (Option.bind_some _ _).symm.trans H; with_reducible exact H2_) | with_reducible exact H | (rw [hy279]; exact H) | exact H
 have Ny279 := am hy279
 clear hy279
 have H' := am H
 clear H
 go_enter Try.func81, Try.ntmps81
 go_wp2_with (first | ((with_reducible refine gd 2 rfl ?_); refine bX 2 #[.slice A0_0 l0_0.length c0_0] 30 HB ?_; clear HB; intro gb270 w8 hg hb BK270 GW270 HB; clear hb hg; have hcz9 := bK w8 BK270; have hfz9 := bF BK270) | ((with_reducible refine gk 58 rfl ?_); refine gC 58 (some 18) Try.func58 #[.agg #[.slice A0_0 l0_0.length c0_0], .int .i64 a1] ((spec_l04Heights.calls k _ _ l0_0 a1 t271 t274 t275 t276 _ (cc (Kd.C_below HR0_0.out HB.out)) HC0_0.out A3.out).mono ?_); rintro e w10 ⟨v272, rfl, ho0, hb⟩; refine ⟨_, rfl, ?_⟩; have HO273 := am (Kd.R_lower ho0 (below_size (bw HB))); replace BK270 := bb BK270 hb; replace HB := bs HB hb; clear hb; (try clear ho0)) | ((with_reducible refine gd 6 rfl ?_); refine bX 6 #[.int .i64 0, .int .i64 0, .int .i64 0] 84 HB ?_; clear HB; intro gb277 w11 hg hb BK277 GW277 HB; replace HO273 := am (Kd.R_below (kR HO273) hb); obtain ⟨NB270_277, NB277_270, BK270⟩ := b3 hg BK270 hb; clear hb hg; have hnb12 := NB277_270.out; have hnc12 := NB270_277.out; have hcz13 := bK w11 BK277; have hfz13 := bF BK277; have hcz14 := bK w11 BK270; have hfz14 := bF BK270; have p278 : 0 ≤ (a1 : Int) := of_decide_eq_true as1; have q278 : a1 < (l0_0.length : Int) := of_decide_eq_true as1; obtain ⟨ad278, A278_2, c278_2, e278, hx278_0, hx278_1, hx278_2, hl278_2, hi278_2⟩ := at_T100 HR0_0.out a1 p278 q278; cases e278; have hn278_0 : ad278.block ≠ gb277 := Nat.ne_of_lt (Nat.lt_of_lt_of_le (by have := World.block_lt_of_cell? _ _ hx278_0; first | rwa [add_block] at this | exact this) GW277.out); have hn278_1 : ad278.block ≠ gb277 := Nat.ne_of_lt (Nat.lt_of_lt_of_le (by have := World.block_lt_of_cell? _ _ hx278_0; first | rwa [add_block] at this | exact this) GW277.out); have hn278_2 : ad278.block ≠ gb277 := Nat.ne_of_lt (Nat.lt_of_lt_of_le (by have := World.block_lt_of_cell? _ _ hx278_0; first | rwa [add_block] at this | exact this) GW277.out); replace hx278_0 := cl HB hx278_0; replace hx278_1 := cl HB hx278_1; replace hx278_2 := cl HB hx278_2; have HR278_2 := am hi278_2; have HC278_2 := am hl278_2; clear hi278_2 hl278_2; replace hx278_0 := (cell_far (p := ⟨gb277, 0, none⟩) (by first | (rw [add_block]; exact hn278_0) | (show (Addr.add _ _).block ≠ _; rw [add_block]; exact hn278_0) | exact hn278_0) (.int .i64 t274)).trans hx278_0; replace hx278_1 := (cell_far (p := ⟨gb277, 0, none⟩) (by first | (rw [add_block]; exact hn278_0) | (show (Addr.add _ _).block ≠ _; rw [add_block]; exact hn278_0) | exact hn278_0) (.int .i64 t274)).trans hx278_1; replace hx278_2 := (cell_far (p := ⟨gb277, 0, none⟩) (by first | (rw [add_block]; exact hn278_0) | (show (Addr.add _ _).block ≠ _; rw [add_block]; exact hn278_0) | exact hn278_0) (.int .i64 t274)).trans hx278_2; replace hx278_0 := (cell_far (p := ⟨gb277, 1, none⟩) (by first | (rw [add_block]; exact hn278_1) | (show (Addr.add _ _).block ≠ _; rw [add_block]; exact hn278_1) | exact hn278_1) (.int .i64 t275)).trans hx278_0; replace hx278_1 := (cell_far (p := ⟨gb277, 1, none⟩) (by first | (rw [add_block]; exact hn278_1) | (show (Addr.add _ _).block ≠ _; rw [add_block]; exact hn278_1) | exact hn278_1) (.int .i64 t275)).trans hx278_1; replace hx278_2 := (cell_far (p := ⟨gb277, 1, none⟩) (by first | (rw [add_block]; exact hn278_1) | (show (Addr.add _ _).block ≠ _; rw [add_block]; exact hn278_1) | exact hn278_1) (.int .i64 t275)).trans hx278_2; replace hx278_0 := (cell_far (p := ⟨gb277, 2, none⟩) (by first | (rw [add_block]; exact hn278_2) | (show (Addr.add _ _).block ≠ _; rw [add_block]; exact hn278_2) | exact hn278_2) (.int .i64 t276)).trans hx278_0; replace hx278_1 := (cell_far (p := ⟨gb277, 2, none⟩) (by first | (rw [add_block]; exact hn278_2) | (show (Addr.add _ _).block ≠ _; rw [add_block]; exact hn278_2) | exact hn278_2) (.int .i64 t276)).trans hx278_1; replace hx278_2 := (cell_far (p := ⟨gb277, 2, none⟩) (by first | (rw [add_block]; exact hn278_2) | (show (Addr.add _ _).block ≠ _; rw [add_block]; exact hn278_2) | exact hn278_2) (.int .i64 t276)).trans hx278_2; clear hn278_0; clear hn278_1; clear hn278_2; replace p278 := eq_true p278; replace q278 := eq_true q278) | ((with_reducible refine gate_dst (N := 29) rfl ?_); refine Kd.R_make (Kd.int .i64) _ 2 rfl (N := 29) rfl 26 _ _ rfl (((rd_T100 l0_0 a1).f2).length : Int) rfl rfl Try.underlying26 (.int .i64 0) 8 info2 rfl (by decide) (by omega) 0 (ok := fun _ => True) (okp := fun _ => True) rfl (fun _ hk => hk) trivial (of_decide_eq_true as1) (Nat.le_trans (Nat.mul_le_mul_right _ (of_decide_eq_true as1 : (((rd_T100 l0_0 a1).f2).length : Int).toNat ≤ 35184372088832)) (by omega)) (Below.refl _ _) (Nat.le_refl _) ?_; intro v280 w15 ho16 hb hg_ hnew_; clear hg_ hnew_; (first | rw [← Ny279.out] at ho16 | (simp only [Int.reduceToNat] at ho16; rw [← Ny279.out] at ho16)); have HO281 := am (Kd.R_lower (Kd.R_new' ho16 (Kd.R_lt (by (with_reducible repeat (first | apply Kd.R_alloc | apply Kd.R_drewN | apply Kd.R_drew)); exact (Kd.R_mono (Kd.R_far (p := ⟨gb277, 2, none⟩) (Kd.R_far (p := ⟨gb277, 1, none⟩) (Kd.R_far (p := ⟨gb277, 0, none⟩) (Kd.R_types HO273.out BK277.out (by decide)) (fun _ hk => hk.2) (.int .i64 t274)) (fun _ hk => hk.2) (.int .i64 t275)) (fun _ hk => hk.2) (.int .i64 t276)) (fun _ h_ => h_.1))))) (below_size (bw HB))); replace HO273 := am (Kd.R_elder' (by (with_reducible repeat (first | apply Kd.R_alloc | apply Kd.R_drewN | apply Kd.R_drew)); exact (Kd.R_mono (Kd.R_far (p := ⟨gb277, 2, none⟩) (Kd.R_far (p := ⟨gb277, 1, none⟩) (Kd.R_far (p := ⟨gb277, 0, none⟩) (Kd.R_types HO273.out BK277.out (by decide)) (fun _ hk => hk.2) (.int .i64 t274)) (fun _ hk => hk.2) (.int .i64 t275)) (fun _ hk => hk.2) (.int .i64 t276)) (fun _ h_ => h_.1))) (Kd.R_base ho16) hb); replace BK270 := bb2 BK270 hb; replace BK277 := bo #[.int .i64 t274, .int .i64 t275, .int .i64 t276] BK277 hb; replace HB := bs HB hb; clear hb ho16))
 go_loopg [9] k (fun kq v9 w' => ∃ (x8_1 : List Int) (x9_1 : Bool), v9 = .bool x9_1 ∧ Aside0 (spec_l08Live.l0 kq a1 t271 ((rd_T100 l0_0 a1).f2) x8_1 x9_1 l0_0 = some r) ∧ Aside0 (kq ≤ k) ∧ Aside0 (Kd.R (Kd.int .i64) 2 w' w.heap.size (fun k_ => some k_ ≠ (v280 : Value).ownBlock) v272 t271) ∧ Aside0 (Kd.R (Kd.int .i64) 2 w' w.heap.size (fun k_ => some k_ ≠ (v272 : Value).ownBlock) v280 x8_1) ∧ Aside0 (w'.heap[gb270]? = some (.cells #[(.slice (some ad278) l0_0.length c0_0)] 30 (0, 0))) ∧ Aside0 (w'.heap[gb277]? = some (.cells #[.int .i64 t274, .int .i64 t275, .int .i64 t276] 84 (0, 0))) ∧ Aside0 (Below w.heap.size w w'))
 case atStart => exact ⟨(y279), (true), dr, H', ⟨Nat.le_refl _⟩, ⟨by (with_reducible repeat (first | apply Kd.R_alloc | apply Kd.R_drewN | apply Kd.R_drew)); exact Kd.R_mono HO273.out (fun _ hk => hk.2)⟩, ⟨by (with_reducible repeat (first | apply Kd.R_alloc | apply Kd.R_drewN | apply Kd.R_drew)); exact Kd.R_mono HO281.out (fun _ hk => hk.2)⟩, ⟨bp BK270⟩, ⟨bp BK277⟩, ⟨bw HB⟩⟩
 clear H'
 (try clear c1); (try clear c2); (try clear p2); (try clear q2); (try clear hx2); (try clear c4); (try clear c4b0); (try clear c5); (try clear c5b0); (try clear c6); (try clear c6b0); (try clear c6b1); (try clear c7); (try clear c7b0); (try clear c7b1); (try clear c8); (try clear c12); (try clear hcz13); (try clear hcz14); (try clear hcz9); (try clear hfz13); (try clear hfz14); (try clear hfz9); (try clear hx278_0); (try clear hx278_1); (try clear hx278_2); (try clear p278); (try clear q278)
 obtain ⟨x8_1, x9_1, rfl, HA, HK1, HO_5, HO_8, BK270, BK277, HB⟩ := hrel
 rcases gk with _ | k1
 ·exact absurd HA.out (by simp [spec_l08Live.l0])
 have H := HA.out
 clear HA
 simp only [spec_l08Live.l0] at H
 refine qT H ?_ ?_ <;> clear H <;> intro c17 H <;> subst c17
 ·have H' := am H
  clear H
  go_wp2
  go_loopg [9, 10] k1 (fun kq v9 v10 w' => ∃ (x8_2 : List Int) (x9_2 : Bool) (x10_2 : Int), v9 = .bool x9_2 ∧ v10 = .int .i64 x10_2 ∧ Aside0 (spec_l08Live.l1 kq a1 t271 ((rd_T100 l0_0 a1).f2) x8_2 x9_2 x10_2 l0_0 = some r) ∧ Aside0 (kq ≤ k1) ∧ Aside0 (Kd.R (Kd.int .i64) 2 w' w.heap.size (fun k_ => some k_ ≠ (v280 : Value).ownBlock) v272 t271) ∧ Aside0 (Kd.R (Kd.int .i64) 2 w' w.heap.size (fun k_ => some k_ ≠ (v272 : Value).ownBlock) v280 x8_2) ∧ Aside0 (w'.heap[gb270]? = some (.cells #[(.slice (some ad278) l0_0.length c0_0)] 30 (0, 0))) ∧ Aside0 (w'.heap[gb277]? = some (.cells #[.int .i64 t274, .int .i64 t275, .int .i64 t276] 84 (0, 0))) ∧ Aside0 (Below w.heap.size w w'))
  case atStart => exact ⟨(x8_1), (false), (wrap64 ((((rd_T100 l0_0 a1).f2).length : Int) - 1)), dr, dr, H', ⟨Nat.le_refl _⟩, ⟨kR HO_5⟩, ⟨kR HO_8⟩, ⟨bp BK270⟩, ⟨bp BK277⟩, ⟨bw HB⟩⟩
  clear H'
  (try clear p6); (try clear c17)
  obtain ⟨x8_2, x9_2, x10_2, rfl, rfl, HA, HK2, HO_5, HO_8, BK270, BK277, HB⟩ := hrel
  rcases gk with _ | k2
  ·exact absurd HA.out (by simp [spec_l08Live.l1])
  have H := HA.out
  clear HA
  simp only [spec_l08Live.l1] at H
  by_cases c18 : x10_2 ≥ 0
  ·rw [if_pos c18] at H
   have c18b0 : decide (0 ≤ x10_2) = true := decide_eq_true c18
   clear c18
   refine iN H ?_; clear H; intro c19 H
   have c19b0 := decide_eq_true c19
   clear c19
   refine iN H ?_; clear H; intro c20 H
   have c20b0 := decide_eq_true c20
   clear c20
   by_cases c21 : (rd t271 x10_2) < 0
   ·rw [if_pos c21] at H
    have c21b0 := decide_eq_true c21
    clear c21
    have H' := am H
    clear H
    obtain ⟨Ao22, co22, eo22⟩ := Kd.R_slice HO_5.out
    subst eo22
    have p282 : 0 ≤ (x10_2 : Int) := of_decide_eq_true as1
    have q282 : x10_2 < (t271.length : Int) := of_decide_eq_true as1
    obtain ⟨ad282, e282, hx282_0⟩ := Kd.at_int (Kd.R_reads' HO_5.out).2.2 x10_2 p282 q282
    cases e282
    replace p282 := eq_true p282
    replace q282 := eq_true q282
    go_wp2
    go_roundg k2
    case measure => have := HK1.out; have := HK2.out; omega
    case rel => exact ⟨(x8_2), (x9_2), (wrap64 (x10_2 - 1)), dr, dr, H', ⟨by have := HK1.out; have := HK2.out; omega⟩, ⟨kR HO_5⟩, ⟨kR HO_8⟩, ⟨bp BK270⟩, ⟨bp BK277⟩, ⟨bw HB⟩⟩
   rw [if_neg c21] at H
   have c21b0 := decide_eq_false c21
   clear c21
   refine iN H ?_; clear H; intro c23 H
   have c23b0 := decide_eq_true c23
   clear c23
   refine iN H ?_; clear H; intro c24 H
   have c24b0 := decide_eq_true c24
   clear c24
   refine iN H ?_; clear H; intro c25 H
   have c25b0 := decide_eq_true c25
   clear c25
   refine be H ?_; clear H; intro t286 A26 H
   have H' := am H
   clear H
   obtain ⟨Ao27, co27, eo27⟩ := Kd.R_slice HO_5.out
   subst eo27
   have p282 : 0 ≤ (x10_2 : Int) := of_decide_eq_true as1
   have q282 : x10_2 < (t271.length : Int) := of_decide_eq_true as1
   obtain ⟨ad282, e282, hx282_0⟩ := Kd.at_int (Kd.R_reads' HO_5.out).2.2 x10_2 p282 q282
   cases e282
   replace p282 := eq_true p282
   replace q282 := eq_true q282
   try go_wp2
   replace HO_5 := am (Kd.R_drew HO_5.out)
   replace HO_8 := am (Kd.R_drew HO_8.out)
   replace BK270 := am (blk_drew BK270.out)
   replace BK277 := am (blk_drew BK277.out)
   replace HB := am (below_drew1 HB.out)
   have p283 : 0 ≤ (a1 : Int) := of_decide_eq_true as1
   have q283 : a1 < (l0_0.length : Int) := of_decide_eq_true as1
   obtain ⟨ad283, A283_2, c283_2, e283, hx283_0, hx283_1, hx283_2, hl283_2, hi283_2⟩ := at_T100 HR0_0.out a1 p283 q283
   have hw283_2 := hx283_2
   have hw283_1 := hx283_1
   have hw283_0 := hx283_0
   obtain rfl : ad278 = ad283 := (by injection e283)
   replace hx283_0 := cl HB hx283_0
   replace hx283_1 := cl HB hx283_1
   replace hx283_2 := cl HB hx283_2
   have HR283_2 := am hi283_2
   have HC283_2 := am hl283_2
   clear hi283_2 hl283_2
   replace p283 := eq_true p283
   replace q283 := eq_true q283
   have p284 : 0 ≤ (x10_2 : Int) := of_decide_eq_true as1
   have q284 : x10_2 < (t271.length : Int) := of_decide_eq_true as1
   obtain ⟨ad284, e284, hx284_0⟩ := Kd.at_int (Kd.R_reads' HO_5.out).2.2 x10_2 p284 q284
   obtain rfl : ad282 = ad284 := (by injection e284)
   replace p284 := eq_true p284
   replace q284 := eq_true q284
   refine start_ (n := 12) (S := fun w' => w'.cell? ⟨gb270, 0, none⟩ = some (.slice (some ad278) l0_0.length c0_0) ∧ w'.cell? (ad278.add ((a1).toNat * 3)) = some (.int .i64 ((rd_T100 l0_0 a1).f0)) ∧ w'.cell? ⟨(ad278.add ((a1).toNat * 3)).block, (ad278.add ((a1).toNat * 3)).off + 1, none⟩ = some (.int .i64 ((rd_T100 l0_0 a1).f1)) ∧ w'.cell? ⟨(ad278.add ((a1).toNat * 3)).block, (ad278.add ((a1).toNat * 3)).off + 2, none⟩ = some (.slice A283_2 ((rd_T100 l0_0 a1).f2).length c283_2) ∧ w'.cell? (ad282.add (x10_2).toNat) = some (.int .i64 (rd t271 x10_2))) (ds := []) (bv 12 0) (by kernel_rfl) rfl (by kernel_rfl) ⟨bc BK270 0, (cq HB hw283_0), (cq HB hw283_1), (cq HB hw283_2), hx284_0⟩ (fun hHeld => ?_); refine with_tabW spec_l08Live.tab11 spec_l08Live.bits11 (fun HT_ HW_ => ?_)
   generalize wr.drew = w28 at HO_5 HO_8 BK270 BK277 HB HR283_2 hx283_0 hx283_1 hx283_2 hx284_0 hHeld ⊢
   refine pu 0 43 12 1 HT_ ?_
   refine pu 2 45 12 5 HT_ ?_
   refine pu 6 49 12 69 HT_ ?_
   refine pu 7 50 12 197 HT_ ?_
   refine pu 8 51 12 453 HT_ ?_
   refine tk 1 44 12 455 HT_ HW_ hHeld ?_
   refine pu 3 46 12 463 HT_ ?_
   refine pu 4 47 12 479 HT_ ?_
   refine tk 5 48 12 511 HT_ HW_ hHeld ?_
   refine tk 9 52 12 1023 HT_ HW_ hHeld ?_
   refine pu 10 53 12 2047 HT_ ?_
   refine pu 11 11 12 4095 HT_ ?_
   refine done_ (done_of HT_.out (by kernel_rfl)) ?_
   have p285 : 0 ≤ (x10_2 : Int) := of_decide_eq_true as1
   have q285 : x10_2 < (((rd_T100 l0_0 a1).f2).length : Int) := of_decide_eq_true as1
   obtain ⟨ad285, e285, hx285_0, hx285_1⟩ := at_T102 HR278_2.out x10_2 p285 q285
   cases e285
   replace hx285_0 := cl HB hx285_0
   replace hx285_1 := cl HB hx285_1
   replace p285 := eq_true p285
   replace q285 := eq_true q285
   try go_wp2_with (first | ((with_reducible refine gate_callee (f := 143) rfl ?_); refine goesL_ (some 59) rfl rfl Try.func143 (by kernel_rfl) rfl #[.agg #[.int .i64 ((rd_T102 ((rd_T100 l0_0 a1).f2) x10_2).f0), .int .i64 ((rd_T102 ((rd_T100 l0_0 a1).f2) x10_2).f1)], .int .i64 x10_2] rfl gl ?_; (with_reducible refine (spec_l08Next.calls k2 ((rd_T102 ((rd_T100 l0_0 a1).f2) x10_2).f0) ((rd_T102 ((rd_T100 l0_0 a1).f2) x10_2).f1) x10_2 t286 _ A26.out).mono ?_); rintro e w29 ⟨v287, rfl, ho0, hb⟩; refine ⟨_, rfl, ?_⟩; have HO288 := am (Kd.R_lower (Kd.R_new' (Kd.R_new' ho0 (Kd.R_lt (kR HO_5))) (Kd.R_lt (kR HO_8))) (below_size (bw HB))); replace HO_5 := am (Kd.R_elder' (kR HO_5) (Kd.R_base ho0) hb); replace HO_8 := am (Kd.R_elder' (kR HO_8) (Kd.R_base ho0) hb); replace BK270 := bb BK270 hb; replace BK277 := bb BK277 hb; replace HB := bs HB hb; clear hb; (try clear ho0)))
   go_loopg [12, 14] k2 (fun kq v12 v14 w' => ∃ (x12_3 : Int) (x14_3 : Int), v12 = .int .i64 x12_3 ∧ v14 = .int .i64 x14_3 ∧ Aside0 (spec_l08Live.l2 kq a1 t271 ((rd_T100 l0_0 a1).f2) x8_2 x9_2 x10_2 (wrap64 (((rd_T100 l0_0 a1).f1) + (rd t271 x10_2))) x12_3 t286 x14_3 l0_0 = some r) ∧ Aside0 (kq ≤ k2) ∧ Aside0 (Kd.R (Kd.int .i64) 2 w' w.heap.size (fun k_ => some k_ ≠ (v280 : Value).ownBlock ∧ some k_ ≠ (v287 : Value).ownBlock) (.slice (some ad282) t271.length co27) t271) ∧ Aside0 (Kd.R (Kd.int .i64) 2 w' w.heap.size (fun k_ => some k_ ≠ ((.slice (some ad282) t271.length co27) : Value).ownBlock ∧ some k_ ≠ (v287 : Value).ownBlock) v280 x8_2) ∧ Aside0 (Kd.R (Kd.int .i64) 2 w' w.heap.size (fun k_ => some k_ ≠ ((.slice (some ad282) t271.length co27) : Value).ownBlock ∧ some k_ ≠ (v280 : Value).ownBlock) v287 t286) ∧ Aside0 (w'.heap[gb270]? = some (.cells #[(.slice (some ad278) l0_0.length c0_0)] 30 (0, 0))) ∧ Aside0 (w'.heap[gb277]? = some (.cells #[.int .i64 t274, .int .i64 t275, .int .i64 t276] 84 (0, 0))) ∧ Aside0 (Below w.heap.size w w'))
   case atStart => exact ⟨(0), (0), dr, dr, H', ⟨Nat.le_refl _⟩, ⟨kR HO_5⟩, ⟨kR HO_8⟩, ⟨by (with_reducible repeat (first | apply Kd.R_alloc | apply Kd.R_drewN | apply Kd.R_drew)); exact Kd.R_mono HO288.out (fun _ hk => ⟨hk.1.2, hk.2⟩)⟩, ⟨bp BK270⟩, ⟨bp BK277⟩, ⟨bw HB⟩⟩
   clear H'
   (try clear c14); (try clear c18); (try clear c18b0); (try clear c19); (try clear c19b0); (try clear c20); (try clear c20b0); (try clear c21); (try clear c21b0); (try clear c23); (try clear c23b0); (try clear c24); (try clear c24b0); (try clear c25); (try clear c25b0); (try clear c27); (try clear p27); (try clear q27); (try clear hx27); (try clear c28); (try clear p28); (try clear q28); (try clear hx28); (try clear hx282_0); (try clear hx283_0); (try clear hx283_1); (try clear hx283_2); (try clear hx284_0); (try clear hx285_0); (try clear hx285_1); (try clear p282); (try clear p283); (try clear p284); (try clear p285); (try clear q282); (try clear q283); (try clear q284); (try clear q285)
   obtain ⟨x12_3, x14_3, rfl, rfl, HA, HK3, HO_5, HO_8, HO_13, BK270, BK277, HB⟩ := hrel
   rcases gk with _ | k3
   ·exact absurd HA.out (by simp [spec_l08Live.l2])
   have H := HA.out
   clear HA
   simp only [spec_l08Live.l2] at H
   refine qI H ?_ ?_ <;> clear H <;> intro c30b0 H
   ·refine iM H ?_; clear H; intro c31b0 H
    refine iM H ?_; clear H; intro c32b0 H
    refine iM H ?_; clear H; intro c33b0 H
    have H' := am H
    clear H
    obtain ⟨Ao34, co34, eo34⟩ := Kd.R_slice HO_13.out
    subst eo34
    have p289 : 0 ≤ (x14_3 : Int) := of_decide_eq_true as1
    have q289 : x14_3 < (t286.length : Int) := of_decide_eq_true as1
    obtain ⟨ad289, e289, hx289_0⟩ := Kd.at_int (Kd.R_reads' HO_13.out).2.2 x14_3 p289 q289
    cases e289
    replace p289 := eq_true p289
    replace q289 := eq_true q289
    obtain ⟨Ao35, co35, eo35⟩ := Kd.R_slice HO_8.out
    subst eo35
    have p290 : 0 ≤ ((rd t286 x14_3) : Int) := of_decide_eq_true as1
    have q290 : (rd t286 x14_3) < (x8_2.length : Int) := of_decide_eq_true as1
    obtain ⟨ad290, e290, hx290_0⟩ := Kd.at_int (Kd.R_reads' HO_8.out).2.2 (rd t286 x14_3) p290 q290
    cases e290
    replace p290 := eq_true p290
    replace q290 := eq_true q290
    go_wp2
    go_roundg k3
    case measure => have := HK1.out; have := HK2.out; have := HK3.out; omega
    case rel => exact ⟨(Go.bits .or .i64 x12_3 (rd x8_2 (rd t286 x14_3))), (wrap64 (x14_3 + 1)), dr, dr, H', ⟨by have := HK1.out; have := HK2.out; have := HK3.out; omega⟩, ⟨kR HO_5⟩, ⟨kR HO_8⟩, ⟨kR HO_13⟩, ⟨bp BK270⟩, ⟨bp BK277⟩, ⟨bw HB⟩⟩
   refine iM H ?_; clear H; intro c36b0 H
   refine iM H ?_; clear H; intro c37b0 H
   refine be H ?_; clear H; intro t292 A38 H
   refine be H ?_; clear H; intro t293 A39 H
   refine be H ?_; clear H; intro t295 A40 H
   refine qT H ?_ ?_ <;> clear H <;> intro c41 H <;> subst c41
   ·refine iM H ?_; clear H; intro c42b0 H
    obtain ⟨y296, hy296⟩ : ∃ y_ : List Int, y_ = (x8_2.set (x10_2 : Int).toNat (Go.bits .or .i64 (Go.bits .and .i64 (Go.bits .andNot .i64 x12_3 t292) t293) t295)) := ⟨_, rfl⟩
    replace H : (spec_l08Live.l1 k3 a1 t271 ((rd_T100 l0_0 a1).f2) y296 true (wrap64 (x10_2 - 1)) l0_0) = some r := by first | (rw [hy296]; with_reducible exact H) | (have H2_ := (Option.bind_some _ _).symm.trans H; rw [hy296]; with_reducible exact H2_) | (have H2_ := (Option.bind_some _ _).symm.trans H; with_reducible exact H2_) | with_reducible exact H | (rw [hy296]; exact H) | exact H
    have Ny296 := am hy296
    clear hy296
    have H' := am H
    clear H
    obtain ⟨Ao44, co44, eo44⟩ := Kd.R_slice HO_13.out
    subst eo44
    try go_wp2
    replace HO_5 := am (Kd.R_drew HO_5.out)
    replace HO_8 := am (Kd.R_drew HO_8.out)
    replace HO_13 := am (Kd.R_drew HO_13.out)
    replace BK270 := am (blk_drew BK270.out)
    replace BK277 := am (blk_drew BK277.out)
    replace HB := am (below_drew1 HB.out)
    have p291 : 0 ≤ (x10_2 : Int) := of_decide_eq_true as1
    have q291 : x10_2 < (((rd_T100 l0_0 a1).f2).length : Int) := of_decide_eq_true as1
    obtain ⟨ad291, e291, hx291_0, hx291_1⟩ := at_T102 HR278_2.out x10_2 p291 q291
    have hw291_1 := hx291_1
    have hw291_0 := hx291_0
    obtain rfl : ad285 = ad291 := (by injection e291)
    replace hx291_0 := cl HB hx291_0
    replace hx291_1 := cl HB hx291_1
    replace p291 := eq_true p291
    replace q291 := eq_true q291
    have p294 : 0 ≤ (x10_2 : Int) := of_decide_eq_true as1
    have q294 : x10_2 < (((rd_T100 l0_0 a1).f2).length : Int) := of_decide_eq_true as1
    obtain ⟨ad294, e294, hx294_0, hx294_1⟩ := at_T102 HR278_2.out x10_2 p294 q294
    have hw294_1 := hx294_1
    have hw294_0 := hx294_0
    obtain rfl : ad285 = ad294 := (by injection e294)
    replace hx294_0 := cl HB hx294_0
    replace hx294_1 := cl HB hx294_1
    replace p294 := eq_true p294
    replace q294 := eq_true q294
    refine start_ (n := 21) (S := fun w' => w'.cell? ⟨gb270, 0, none⟩ = some (.slice (some ad278) l0_0.length c0_0) ∧ w'.cell? (ad285.add ((x10_2).toNat * 2)) = some (.int .i64 ((rd_T102 ((rd_T100 l0_0 a1).f2) x10_2).f0)) ∧ w'.cell? ⟨(ad285.add ((x10_2).toNat * 2)).block, (ad285.add ((x10_2).toNat * 2)).off + 1, none⟩ = some (.int .i64 ((rd_T102 ((rd_T100 l0_0 a1).f2) x10_2).f1)) ∧ w'.cell? (ad285.add ((x10_2).toNat * 2)) = some (.int .i64 ((rd_T102 ((rd_T100 l0_0 a1).f2) x10_2).f0)) ∧ w'.cell? ⟨(ad285.add ((x10_2).toNat * 2)).block, (ad285.add ((x10_2).toNat * 2)).off + 1, none⟩ = some (.int .i64 ((rd_T102 ((rd_T100 l0_0 a1).f2) x10_2).f1))) (ds := []) (bv 21 0) (by kernel_rfl) rfl (by kernel_rfl) ⟨bc BK270 0, (cq HB hw291_0), (cq HB hw291_1), (cq HB hw294_0), (cq HB hw294_1)⟩ (fun hHeld => ?_); refine with_tabW spec_l08Live.tab18 spec_l08Live.bits18 (fun HT_ HW_ => ?_)
    generalize wr.drew = w45 at HO_5 HO_8 HO_13 BK270 BK277 HB hx291_0 hx291_1 hx294_0 hx294_1 hHeld ⊢
    refine pu 0 75 21 1 HT_ ?_
    refine pu 2 77 21 5 HT_ ?_
    refine pu 3 78 21 13 HT_ ?_
    refine pu 4 79 21 29 HT_ ?_
    refine pu 6 81 21 93 HT_ ?_
    refine pu 9 84 21 605 HT_ ?_
    refine pu 13 88 21 8797 HT_ ?_
    refine pu 14 89 21 25181 HT_ ?_
    refine pu 15 90 21 57949 HT_ ?_
    refine pu 17 92 21 189021 HT_ ?_
    refine tk 1 76 21 189023 HT_ HW_ hHeld ?_
    refine tk 5 80 21 189055 HT_ HW_ hHeld ?_
    refine tk 12 87 21 193151 HT_ HW_ hHeld ?_
    refine tk 16 91 21 258687 HT_ HW_ hHeld ?_
    refine on 7 (some 82) 21 258815 HT_ fun K hK => ?_
    refine goes_ Try.func144 (by kernel_rfl) rfl #[.agg #[.slice (some ad278) l0_0.length c0_0], .agg #[.int .i64 ((rd_T102 ((rd_T100 l0_0 a1).f2) x10_2).f0), .int .i64 ((rd_T102 ((rd_T100 l0_0 a1).f2) x10_2).f1)], .int .i64 (wrap64 (((rd_T100 l0_0 a1).f1) + (rd t271 x10_2)))] (by rfl) rfl rfl gl ?_
    with_reducible refine (spec_l08Writes.calls k3 _ _ l0_0 ((rd_T102 ((rd_T100 l0_0 a1).f2) x10_2).f0) ((rd_T102 ((rd_T100 l0_0 a1).f2) x10_2).f1) (wrap64 (((rd_T100 l0_0 a1).f1) + (rd t271 x10_2))) t292 _ ?side1 ?side2 A38.out).mono ?_
    (case side1 => exact cc (Kd.C_below HR0_0.out HB.out))
    (case side2 => exact HC0_0.out)
    rintro e w46 ⟨rfl, hb⟩
    refine ⟨_, rfl, ?_⟩
    replace HO_5 := am (Kd.R_below (kR HO_5) hb)
    replace HO_8 := am (Kd.R_below (kR HO_8) hb)
    replace HO_13 := am (Kd.R_below (kR HO_13) hb)
    replace BK270 := bb BK270 hb
    replace BK277 := bb BK277 hb
    replace HB := am (below_step (bw HB) hb)
    clear hb
    refine hK.out _ _ ⟨bc BK270 0, (cq HB hw291_0), (cq HB hw291_1), (cq HB hw294_0), (cq HB hw294_1)⟩ (fun hHeld => ?_)
    clear hK K
    refine nm (some 82) ?_
    refine pu 8 83 21 259071 HT_ ?_
    refine on 10 (some 85) 21 260095 HT_ fun K hK => ?_
    refine goes_ Try.func145 (by kernel_rfl) rfl #[.int .i64 0, .int .i64 (wrap64 (((rd_T100 l0_0 a1).f1) + (rd t271 x10_2)))] (by rfl) rfl rfl gl ?_
    with_reducible refine (spec_l08Mask.calls k3 0 (wrap64 (((rd_T100 l0_0 a1).f1) + (rd t271 x10_2))) t293 _ A39.out).mono ?_
    rintro e w' ⟨rfl, ⟨nd, rfl⟩⟩
    refine ⟨_, rfl, ?_⟩
    refine hK.out _ _ ⟨bc BK270 0, (cq HB hw291_0), (cq HB hw291_1), (cq HB hw294_0), (cq HB hw294_1)⟩ (fun hHeld => ?_)
    clear hK K
    refine nm (some 85) ?_
    refine pu 11 86 21 262143 HT_ ?_
    refine on 18 (some 93) 21 524287 HT_ fun K hK => ?_
    refine goes_ Try.func146 (by kernel_rfl) rfl #[.agg #[.slice (some ad278) l0_0.length c0_0], .agg #[.int .i64 ((rd_T102 ((rd_T100 l0_0 a1).f2) x10_2).f0), .int .i64 ((rd_T102 ((rd_T100 l0_0 a1).f2) x10_2).f1)], .int .i64 (wrap64 (((rd_T100 l0_0 a1).f1) + (rd t271 x10_2)))] (by rfl) rfl rfl gl ?_
    with_reducible refine (spec_l08Reads.calls k3 _ _ l0_0 ((rd_T102 ((rd_T100 l0_0 a1).f2) x10_2).f0) ((rd_T102 ((rd_T100 l0_0 a1).f2) x10_2).f1) (wrap64 (((rd_T100 l0_0 a1).f1) + (rd t271 x10_2))) t295 _ ?side1 ?side2 A40.out).mono ?_
    (case side1 => exact cc (Kd.C_below HR0_0.out (bw HB)))
    (case side2 => exact HC0_0.out)
    rintro e w47 ⟨rfl, hb⟩
    refine ⟨_, rfl, ?_⟩
    replace HO_5 := am (Kd.R_below (kR HO_5) hb)
    replace HO_8 := am (Kd.R_below (kR HO_8) hb)
    replace HO_13 := am (Kd.R_below (kR HO_13) hb)
    replace BK270 := bb BK270 hb
    replace BK277 := bb BK277 hb
    replace HB := am (below_step (bw HB) hb)
    clear hb
    refine hK.out _ _ ⟨bc BK270 0, (cq HB hw291_0), (cq HB hw291_1), (cq HB hw294_0), (cq HB hw294_1)⟩ (fun hHeld => ?_)
    clear hK K
    refine nm (some 93) ?_
    refine pu 19 94 21 1048575 HT_ ?_
    refine pu 20 12 21 2097151 HT_ ?_
    refine done_ (done_of HT_.out (by kernel_rfl)) ?_
    have p43 : 0 ≤ (x10_2 : Int) := of_decide_eq_true as1
    have q43 : (x10_2 : Int) < ((x8_2.length : Int) : Int) := of_decide_eq_true as1
    obtain ⟨go43, co43, eo43, gb43, gl43, cl43, HG43⟩ := Kd.R_form HO_8.out (by omega)
    (first | cases eo43 | (injection eo43 with ea_ en_ ec_; (first | subst ea_ | (injection ea_ with ea_; subst ea_)); subst ec_; clear en_))
    have GB43 := am gb43
    have GG43 := am HG43
    clear gb43 gl43 HG43
    obtain ⟨hx43_0, hf43_0⟩ := Kd.R_celln 0 HO_8.out (x10_2 : Int) p43 q43
    replace p43 := eq_true p43
    replace q43 := eq_true q43
    obtain ⟨hy48_, hz48_⟩ := Kd.R_celln 0 HO_8.out (x10_2 : Int) (of_decide_eq_true as1) (of_decide_eq_true as1)
    have HP48 := Kd.R_putg HO_8.out (x10_2 : Int) (Go.bits .or .i64 (Go.bits .and .i64 (Go.bits .andNot .i64 x12_3 t292) t293) t295)
    try go_wp2_with (first | ((with_reducible refine gt 2 107 rfl ?_); refine sE 2 107 (w47.setCell ⟨go43, (x10_2 : Int).toNat, none⟩ (.int .i64 (Go.bits .or .i64 (Go.bits .and .i64 (Go.bits .andNot .i64 x12_3 t292) t293) t295))) ?_; intro w49 hw; have hg : w47.grownBy w49 (some go43) := (by rw [hw]; exact HP48.2); have hp_ : Kd.R (Kd.int .i64) 2 w49 w.heap.size (fun k_ => some k_ ≠ (.slice (some ad282) t271.length co27 : Value).ownBlock ∧ some k_ ≠ (.slice Ao44 t286.length co44 : Value).ownBlock) (.slice (some ⟨go43, 0, none⟩) x8_2.length co43) y296 := (by rw [hw, Ny296.out]; exact HP48.1); clear HP48; replace HO_5 := am (Kd.R_after (v := (.slice (some ⟨go43, 0, none⟩) x8_2.length co43)) (v1 := (.slice (some ⟨go43, 0, none⟩) x8_2.length co43)) (ok := (fun k_ => some k_ ≠ (.slice Ao44 t286.length co44 : Value).ownBlock)) (by (with_reducible repeat (first | apply Kd.R_alloc | apply Kd.R_drewN | apply Kd.R_drew)); exact Kd.R_mono HO_5.out (fun _ hk => ⟨hk.2, hk.1⟩)) hg (.inl rfl)); replace HO_13 := am (Kd.R_after (v := (.slice (some ⟨go43, 0, none⟩) x8_2.length co43)) (v1 := (.slice (some ⟨go43, 0, none⟩) x8_2.length co43)) (ok := (fun k_ => some k_ ≠ (.slice (some ad282) t271.length co27 : Value).ownBlock)) (kR HO_13) hg (.inl rfl)); replace BK270 := bg BK270 hg (Kd.R_ne HO_8.out BK270.out (by decide)); replace BK277 := bg BK277 hg (Kd.R_ne HO_8.out BK277.out (by decide)); replace HO_8 := am (hp_); replace HB := am ((by rw [hw]; exact below_set (HB.out) GB43.out : Below w.heap.size w w49)); clear hg hw hp_))
    go_roundg k3
    case measure => have := HK1.out; have := HK2.out; have := HK3.out; omega
    case rel => exact ⟨(y296), (true), (wrap64 (x10_2 - 1)), dr, dr, H', ⟨by have := HK1.out; have := HK2.out; have := HK3.out; omega⟩, ⟨by (with_reducible repeat (first | apply Kd.R_alloc | apply Kd.R_drewN | apply Kd.R_drew)); exact Kd.R_mono HO_5.out (fun _ hk => hk.2)⟩, ⟨by (with_reducible repeat (first | apply Kd.R_alloc | apply Kd.R_drewN | apply Kd.R_drew)); exact Kd.R_mono HO_8.out (fun _ hk => hk.1)⟩, ⟨bp BK270⟩, ⟨bp BK277⟩, ⟨bw HB⟩⟩
   refine iM H ?_; clear H; intro c50b0 H
   obtain ⟨y298, hy298⟩ : ∃ y_ : List Int, y_ = (x8_2.set (x10_2 : Int).toNat (Go.bits .or .i64 (Go.bits .and .i64 (Go.bits .andNot .i64 x12_3 t292) t293) t295)) := ⟨_, rfl⟩
   replace H : (spec_l08Live.l1 k3 a1 t271 ((rd_T100 l0_0 a1).f2) y298 ((Go.bits .or .i64 (Go.bits .and .i64 (Go.bits .andNot .i64 x12_3 t292) t293) t295) != (rd x8_2 x10_2)) (wrap64 (x10_2 - 1)) l0_0) = some r := by first | (rw [hy298]; with_reducible exact H) | (have H2_ := (Option.bind_some _ _).symm.trans H; rw [hy298]; with_reducible exact H2_) | (have H2_ := (Option.bind_some _ _).symm.trans H; with_reducible exact H2_) | with_reducible exact H | (rw [hy298]; exact H) | exact H
   have Ny298 := am hy298
   clear hy298
   have H' := am H
   clear H
   obtain ⟨Ao52, co52, eo52⟩ := Kd.R_slice HO_13.out
   subst eo52
   try go_wp2
   replace HO_5 := am (Kd.R_drew HO_5.out)
   replace HO_8 := am (Kd.R_drew HO_8.out)
   replace HO_13 := am (Kd.R_drew HO_13.out)
   replace BK270 := am (blk_drew BK270.out)
   replace BK277 := am (blk_drew BK277.out)
   replace HB := am (below_drew1 HB.out)
   have p291 : 0 ≤ (x10_2 : Int) := of_decide_eq_true as1
   have q291 : x10_2 < (((rd_T100 l0_0 a1).f2).length : Int) := of_decide_eq_true as1
   obtain ⟨ad291, e291, hx291_0, hx291_1⟩ := at_T102 HR278_2.out x10_2 p291 q291
   have hw291_1 := hx291_1
   have hw291_0 := hx291_0
   obtain rfl : ad285 = ad291 := (by injection e291)
   replace hx291_0 := cl HB hx291_0
   replace hx291_1 := cl HB hx291_1
   replace p291 := eq_true p291
   replace q291 := eq_true q291
   have p294 : 0 ≤ (x10_2 : Int) := of_decide_eq_true as1
   have q294 : x10_2 < (((rd_T100 l0_0 a1).f2).length : Int) := of_decide_eq_true as1
   obtain ⟨ad294, e294, hx294_0, hx294_1⟩ := at_T102 HR278_2.out x10_2 p294 q294
   have hw294_1 := hx294_1
   have hw294_0 := hx294_0
   obtain rfl : ad285 = ad294 := (by injection e294)
   replace hx294_0 := cl HB hx294_0
   replace hx294_1 := cl HB hx294_1
   replace p294 := eq_true p294
   replace q294 := eq_true q294
   refine start_ (n := 21) (S := fun w' => w'.cell? ⟨gb270, 0, none⟩ = some (.slice (some ad278) l0_0.length c0_0) ∧ w'.cell? (ad285.add ((x10_2).toNat * 2)) = some (.int .i64 ((rd_T102 ((rd_T100 l0_0 a1).f2) x10_2).f0)) ∧ w'.cell? ⟨(ad285.add ((x10_2).toNat * 2)).block, (ad285.add ((x10_2).toNat * 2)).off + 1, none⟩ = some (.int .i64 ((rd_T102 ((rd_T100 l0_0 a1).f2) x10_2).f1)) ∧ w'.cell? (ad285.add ((x10_2).toNat * 2)) = some (.int .i64 ((rd_T102 ((rd_T100 l0_0 a1).f2) x10_2).f0)) ∧ w'.cell? ⟨(ad285.add ((x10_2).toNat * 2)).block, (ad285.add ((x10_2).toNat * 2)).off + 1, none⟩ = some (.int .i64 ((rd_T102 ((rd_T100 l0_0 a1).f2) x10_2).f1))) (ds := []) (bv 21 0) (by kernel_rfl) rfl (by kernel_rfl) ⟨bc BK270 0, (cq HB hw291_0), (cq HB hw291_1), (cq HB hw294_0), (cq HB hw294_1)⟩ (fun hHeld => ?_); refine with_tabW spec_l08Live.tab18 spec_l08Live.bits18 (fun HT_ HW_ => ?_)
   generalize wr.drew = w53 at HO_5 HO_8 HO_13 BK270 BK277 HB hx291_0 hx291_1 hx294_0 hx294_1 hHeld ⊢
   refine pu 0 75 21 1 HT_ ?_
   refine pu 2 77 21 5 HT_ ?_
   refine pu 3 78 21 13 HT_ ?_
   refine pu 4 79 21 29 HT_ ?_
   refine pu 6 81 21 93 HT_ ?_
   refine pu 9 84 21 605 HT_ ?_
   refine pu 13 88 21 8797 HT_ ?_
   refine pu 14 89 21 25181 HT_ ?_
   refine pu 15 90 21 57949 HT_ ?_
   refine pu 17 92 21 189021 HT_ ?_
   refine tk 1 76 21 189023 HT_ HW_ hHeld ?_
   refine tk 5 80 21 189055 HT_ HW_ hHeld ?_
   refine tk 12 87 21 193151 HT_ HW_ hHeld ?_
   refine tk 16 91 21 258687 HT_ HW_ hHeld ?_
   refine on 7 (some 82) 21 258815 HT_ fun K hK => ?_
   refine goes_ Try.func144 (by kernel_rfl) rfl #[.agg #[.slice (some ad278) l0_0.length c0_0], .agg #[.int .i64 ((rd_T102 ((rd_T100 l0_0 a1).f2) x10_2).f0), .int .i64 ((rd_T102 ((rd_T100 l0_0 a1).f2) x10_2).f1)], .int .i64 (wrap64 (((rd_T100 l0_0 a1).f1) + (rd t271 x10_2)))] (by rfl) rfl rfl gl ?_
   with_reducible refine (spec_l08Writes.calls k3 _ _ l0_0 ((rd_T102 ((rd_T100 l0_0 a1).f2) x10_2).f0) ((rd_T102 ((rd_T100 l0_0 a1).f2) x10_2).f1) (wrap64 (((rd_T100 l0_0 a1).f1) + (rd t271 x10_2))) t292 _ ?side1 ?side2 A38.out).mono ?_
   (case side1 => exact cc (Kd.C_below HR0_0.out HB.out))
   (case side2 => exact HC0_0.out)
   rintro e w54 ⟨rfl, hb⟩
   refine ⟨_, rfl, ?_⟩
   replace HO_5 := am (Kd.R_below (kR HO_5) hb)
   replace HO_8 := am (Kd.R_below (kR HO_8) hb)
   replace HO_13 := am (Kd.R_below (kR HO_13) hb)
   replace BK270 := bb BK270 hb
   replace BK277 := bb BK277 hb
   replace HB := am (below_step (bw HB) hb)
   clear hb
   refine hK.out _ _ ⟨bc BK270 0, (cq HB hw291_0), (cq HB hw291_1), (cq HB hw294_0), (cq HB hw294_1)⟩ (fun hHeld => ?_)
   clear hK K
   refine nm (some 82) ?_
   refine pu 8 83 21 259071 HT_ ?_
   refine on 10 (some 85) 21 260095 HT_ fun K hK => ?_
   refine goes_ Try.func145 (by kernel_rfl) rfl #[.int .i64 0, .int .i64 (wrap64 (((rd_T100 l0_0 a1).f1) + (rd t271 x10_2)))] (by rfl) rfl rfl gl ?_
   with_reducible refine (spec_l08Mask.calls k3 0 (wrap64 (((rd_T100 l0_0 a1).f1) + (rd t271 x10_2))) t293 _ A39.out).mono ?_
   rintro e w' ⟨rfl, ⟨nd, rfl⟩⟩
   refine ⟨_, rfl, ?_⟩
   refine hK.out _ _ ⟨bc BK270 0, (cq HB hw291_0), (cq HB hw291_1), (cq HB hw294_0), (cq HB hw294_1)⟩ (fun hHeld => ?_)
   clear hK K
   refine nm (some 85) ?_
   refine pu 11 86 21 262143 HT_ ?_
   refine on 18 (some 93) 21 524287 HT_ fun K hK => ?_
   refine goes_ Try.func146 (by kernel_rfl) rfl #[.agg #[.slice (some ad278) l0_0.length c0_0], .agg #[.int .i64 ((rd_T102 ((rd_T100 l0_0 a1).f2) x10_2).f0), .int .i64 ((rd_T102 ((rd_T100 l0_0 a1).f2) x10_2).f1)], .int .i64 (wrap64 (((rd_T100 l0_0 a1).f1) + (rd t271 x10_2)))] (by rfl) rfl rfl gl ?_
   with_reducible refine (spec_l08Reads.calls k3 _ _ l0_0 ((rd_T102 ((rd_T100 l0_0 a1).f2) x10_2).f0) ((rd_T102 ((rd_T100 l0_0 a1).f2) x10_2).f1) (wrap64 (((rd_T100 l0_0 a1).f1) + (rd t271 x10_2))) t295 _ ?side1 ?side2 A40.out).mono ?_
   (case side1 => exact cc (Kd.C_below HR0_0.out (bw HB)))
   (case side2 => exact HC0_0.out)
   rintro e w55 ⟨rfl, hb⟩
   refine ⟨_, rfl, ?_⟩
   replace HO_5 := am (Kd.R_below (kR HO_5) hb)
   replace HO_8 := am (Kd.R_below (kR HO_8) hb)
   replace HO_13 := am (Kd.R_below (kR HO_13) hb)
   replace BK270 := bb BK270 hb
   replace BK277 := bb BK277 hb
   replace HB := am (below_step (bw HB) hb)
   clear hb
   refine hK.out _ _ ⟨bc BK270 0, (cq HB hw291_0), (cq HB hw291_1), (cq HB hw294_0), (cq HB hw294_1)⟩ (fun hHeld => ?_)
   clear hK K
   refine nm (some 93) ?_
   refine pu 19 94 21 1048575 HT_ ?_
   refine pu 20 12 21 2097151 HT_ ?_
   refine done_ (done_of HT_.out (by kernel_rfl)) ?_
   obtain ⟨Ao56, co56, eo56⟩ := Kd.R_slice HO_8.out
   subst eo56
   have p297 : 0 ≤ (x10_2 : Int) := of_decide_eq_true as1
   have q297 : x10_2 < (x8_2.length : Int) := of_decide_eq_true as1
   obtain ⟨ad297, e297, hx297_0⟩ := Kd.at_int (Kd.R_reads' HO_8.out).2.2 x10_2 p297 q297
   cases e297
   replace p297 := eq_true p297
   replace q297 := eq_true q297
   have p51 : 0 ≤ (x10_2 : Int) := of_decide_eq_true as1
   have q51 : (x10_2 : Int) < ((x8_2.length : Int) : Int) := of_decide_eq_true as1
   obtain ⟨go51, co51, eo51, gb51, gl51, cl51, HG51⟩ := Kd.R_form HO_8.out (by omega)
   (first | cases eo51 | (injection eo51 with ea_ en_ ec_; (first | subst ea_ | (injection ea_ with ea_; subst ea_)); subst ec_; clear en_))
   have GB51 := am gb51
   have GG51 := am HG51
   clear gb51 gl51 HG51
   (first | simp only [add_plain] at hx297_0 | skip)
   obtain ⟨hx51_0, hf51_0⟩ := Kd.R_celln 0 HO_8.out (x10_2 : Int) p51 q51
   replace p51 := eq_true p51
   replace q51 := eq_true q51
   obtain ⟨hy57_, hz57_⟩ := Kd.R_celln 0 HO_8.out (x10_2 : Int) (of_decide_eq_true as1) (of_decide_eq_true as1)
   have HP57 := Kd.R_putg HO_8.out (x10_2 : Int) (Go.bits .or .i64 (Go.bits .and .i64 (Go.bits .andNot .i64 x12_3 t292) t293) t295)
   try go_wp2_with (first | ((with_reducible refine gt 2 107 rfl ?_); refine sE 2 107 (w55.setCell ⟨go51, (x10_2 : Int).toNat, none⟩ (.int .i64 (Go.bits .or .i64 (Go.bits .and .i64 (Go.bits .andNot .i64 x12_3 t292) t293) t295))) ?_; intro w58 hw; have hg : w55.grownBy w58 (some go51) := (by rw [hw]; exact HP57.2); have hp_ : Kd.R (Kd.int .i64) 2 w58 w.heap.size (fun k_ => some k_ ≠ (.slice (some ad282) t271.length co27 : Value).ownBlock ∧ some k_ ≠ (.slice Ao52 t286.length co52 : Value).ownBlock) (.slice (some ⟨go51, 0, none⟩) x8_2.length co56) y298 := (by rw [hw, Ny298.out]; exact HP57.1); clear HP57; replace HO_5 := am (Kd.R_after (v := (.slice (some ⟨go51, 0, none⟩) x8_2.length co56)) (v1 := (.slice (some ⟨go51, 0, none⟩) x8_2.length co56)) (ok := (fun k_ => some k_ ≠ (.slice Ao52 t286.length co52 : Value).ownBlock)) (by (with_reducible repeat (first | apply Kd.R_alloc | apply Kd.R_drewN | apply Kd.R_drew)); exact Kd.R_mono HO_5.out (fun _ hk => ⟨hk.2, hk.1⟩)) hg (.inl rfl)); replace HO_13 := am (Kd.R_after (v := (.slice (some ⟨go51, 0, none⟩) x8_2.length co56)) (v1 := (.slice (some ⟨go51, 0, none⟩) x8_2.length co56)) (ok := (fun k_ => some k_ ≠ (.slice (some ad282) t271.length co27 : Value).ownBlock)) (kR HO_13) hg (.inl rfl)); replace BK270 := bg BK270 hg (Kd.R_ne HO_8.out BK270.out (by decide)); replace BK277 := bg BK277 hg (Kd.R_ne HO_8.out BK277.out (by decide)); replace HO_8 := am (hp_); replace HB := am ((by rw [hw]; exact below_set (HB.out) GB51.out : Below w.heap.size w w58)); clear hg hw hp_))
   go_roundg k3
   case measure => have := HK1.out; have := HK2.out; have := HK3.out; omega
   case rel => exact ⟨(y298), (((Go.bits .or .i64 (Go.bits .and .i64 (Go.bits .andNot .i64 x12_3 t292) t293) t295) != (rd x8_2 x10_2))), (wrap64 (x10_2 - 1)), dr, dr, H', ⟨by have := HK1.out; have := HK2.out; have := HK3.out; omega⟩, ⟨by (with_reducible repeat (first | apply Kd.R_alloc | apply Kd.R_drewN | apply Kd.R_drew)); exact Kd.R_mono HO_5.out (fun _ hk => hk.2)⟩, ⟨by (with_reducible repeat (first | apply Kd.R_alloc | apply Kd.R_drewN | apply Kd.R_drew)); exact Kd.R_mono HO_8.out (fun _ hk => hk.1)⟩, ⟨bp BK270⟩, ⟨bp BK277⟩, ⟨bw HB⟩⟩
  rw [if_neg c18] at H
  have c18b0 : decide (0 ≤ x10_2) = false := decide_eq_false c18
  clear c18
  have H' := am H
  clear H
  go_wp2
  go_roundg k2
  case measure => have := HK1.out; have := HK2.out; omega
  case rel => exact ⟨(x8_2), (x9_2), dr, H', ⟨by have := HK1.out; have := HK2.out; omega⟩, ⟨kR HO_5⟩, ⟨kR HO_8⟩, ⟨bp BK270⟩, ⟨bp BK277⟩, ⟨bw HB⟩⟩
 obtain rfl := Option.some.inj H
 go_wp2
 go_ret
 exact ⟨_, er, by (with_reducible repeat (first | apply Kd.R_alloc | apply Kd.R_drewN | apply Kd.R_drew)); exact Kd.R_mono HO_8.out (fun _ hk => trivial), bw HB⟩

end Go.Proofs.Ytbmjmaahcaoajaa.QFnExactLive
