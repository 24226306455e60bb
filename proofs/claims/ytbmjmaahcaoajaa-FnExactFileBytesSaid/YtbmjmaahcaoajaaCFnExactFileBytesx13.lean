import Derived.Test.YtbmjmaahcaoajaaCFnExactFileBytesx0
import Derived.Test.YtbmjmaahcaoajaaCFnExactFileBytesx12
namespace Go.Proofs.Ytbmjmaahcaoajaa.QFnExactFileBytes
open Go.RowKit Go.Proofs.YtbmjmaahcaoajaaW
open PrintWords PrintLast PrintMore PrintShort
attribute [local go_sem] max2_int min2_int max_two min_two max_three min_three max_four min_four   -- for this text's walks alone
set_option linter.unusedVariables false
set_option maxHeartbeats 8000000
set_option maxRecDepth 100000
set_option linter.unusedSimpArgs false

def impl_sum.l0 : Nat → ByteArray → Int → Int → Int → Option (Int)
 | 0, _, _, _, _ => none
 | k + 1, x0, x3, x6, x7 => if x7 < x6 then (if 0 ≤ x7 then (if x7 < (x0.size : Int) then (impl_sum.l0 k x0 (Int.tmod (wrap64 ((wrap64 (257 * x3)) + (wrap64 (bt x0 x7)))) 4294967291) x6 (wrap64 (x7 + 1))) else (none)) else (none)) else (some x3)
def impl_sum.f (k : Nat) (a0 : ByteArray) : Option (Int) := impl_sum.l0 k a0 7 (a0.size : Int) 0
theorem impl_sum.mono_l : ∀ k, (∀ y0 y1 y2 y3, LeO (impl_sum.l0 k y0 y1 y2 y3) (impl_sum.l0 (k + 1) y0 y1 y2 y3))
 | 0 => fun _ _ _ _ r h => by simp [impl_sum.l0] at h
 | k + 1 => by
  have ih0 := impl_sum.mono_l k
  ·intro y0 y1 y2 y3
   unfold impl_sum.l0
   repeat' first
   | (with_reducible exact ih0 _ _ _ _)
   | (with_reducible exact LeO.refl _)
   | (with_reducible exact LeO.none _)
   | (with_reducible refine LeO.ite ?_ ?_)
   | (with_reducible refine LeO.bind ?_ (fun _ => ?_))
theorem impl_sum.mono : ∀ a0 k, LeO (impl_sum.f k a0) (impl_sum.f (k + 1) a0) := by
 intro a0 k
 have ih0 := impl_sum.mono_l k
 unfold impl_sum.f
 repeat' first
   | (with_reducible exact ih0 _ _ _ _)
   | (with_reducible exact LeO.refl _)
   | (with_reducible exact LeO.none _)
   | (with_reducible refine LeO.ite ?_ ?_)
   | (with_reducible refine LeO.bind ?_ (fun _ => ?_))
theorem impl_sum.calls (k : Nat) (a0 : ByteArray) (r : Int) (w : World) (h : impl_sum.f k a0 = some r) :
  Calls Try.prog 68 #[.string a0] w fun e w' => e = .returned (.int .i64 r) ∧ Drawn0 w w' := by
 have H : (impl_sum.l0 k a0 7 (a0.size : Int) 0) = some r := h
 clear h
 have H' := am H
 clear H
 go_enter Try.func68, Try.ntmps68
 go_wp2
 go_loopg [3, 7] k (fun kq v3 v7 w' => ∃ (x3_1 : Int) (x7_1 : Int), v3 = .int .i64 x3_1 ∧ v7 = .int .i64 x7_1 ∧ Aside0 (impl_sum.l0 kq a0 x3_1 (a0.size : Int) x7_1 = some r) ∧ Aside0 (kq ≤ k) ∧ Drawn0 w w')
 case atStart => exact ⟨(7), (0), dr, dr, H', ⟨Nat.le_refl _⟩, by repeat (first | exact Drawn0.refl _ | apply Drawn0.step)⟩
 case round =>
  clear H'
  obtain ⟨x3_1, x7_1, rfl, rfl, HA, HK1, ⟨m1, rfl⟩⟩ := hrel
  cases gk with
  | zero => exact absurd HA.out (by simp [impl_sum.l0])
  | succ k1 =>
   have H := HA.out
   clear HA
   simp only [impl_sum.l0] at H
   by_cases c2 : x7_1 < (a0.size : Int)
   ·rw [if_pos c2] at H
    have c2b0 := decide_eq_true c2
    clear c2
    by_cases c3 : 0 ≤ x7_1
    ·rw [if_pos c3] at H
     have c3b0 := decide_eq_true c3
     clear c3
     by_cases c4 : x7_1 < (a0.size : Int)
     ·rw [if_pos c4] at H
      have c4b0 := decide_eq_true c4
      clear c4
      have H' := am H
      clear H
      have p5 : 0 ≤ (x7_1 : Int) := of_decide_eq_true as1
      have q5 : x7_1 < (a0.size : Int) := of_decide_eq_true as1
      have hx5 := bt_at a0 x7_1
      replace p5 := eq_true p5
      replace q5 := eq_true q5
      go_wp2
      go_roundg k1
      case measure => have := HK1.out; omega
      case rel => exact ⟨(Int.tmod (wrap64 ((wrap64 (257 * x3_1)) + (wrap64 (bt a0 x7_1)))) 4294967291), (wrap64 (x7_1 + 1)), dr, dr, H', ⟨by have := HK1.out; omega⟩, by repeat (first | exact Drawn0.refl _ | apply Drawn0.step)⟩
     ·rw [if_neg c4] at H
      exact absurd H (by simp)
    ·rw [if_neg c3] at H
     exact absurd H (by simp)
   ·rw [if_neg c2] at H
    have c2b0 := decide_eq_false c2
    clear c2
    obtain rfl := Option.some.inj H
    go_wp2
    go_ret
    exact ⟨by first | rfl | (simp; done) | (simp [*]; done), by repeat (first | exact Drawn0.refl _ | apply Drawn0.step)⟩

mutual
def impl_FileBytes.l0 : Nat → List Int → List (S100) → Int → Int → Option (ByteArray)
 | 0, _, _, _, _ => none
 | k + 1, x5, x26, x27, x28 => if x28 < x27 then (if 0 ≤ x28 then (if x28 < (x26.length : Int) then ((some (([(rd_T100 x26 x28).f0, (rd_T100 x26 x28).f1, (((rd_T100 x26 x28).f2).length : Int)] : List Int) : List Int)).bind fun y403 => (impl_FileBytes.l1 k x5 x26 x27 x28 y403 (y403.length : Int) 0 ((rd_T100 x26 x28).f0) ((rd_T100 x26 x28).f1) ((rd_T100 x26 x28).f2))) else (none)) else (none)) else ((impl_sum.f k (strOfNums x5)).bind fun t427 => ((impl_numBytes.f k t427).bind fun t428 => (if x5.length + t428.length < 140737488355328 then (some (strOfNums (x5 ++ t428))) else (none))))
def impl_FileBytes.l1 : Nat → List Int → List (S100) → Int → Int → List Int → Int → Int → Int → Int → List (S102) → Option (ByteArray)
 | 0, _, _, _, _, _, _, _, _, _, _ => none
 | k + 1, x5, x26, x27, x28, x39, x40, x41, x403000, x403001, x403002 => if x41 < x40 then (if 0 ≤ x41 then (if x41 < (x39.length : Int) then ((impl_numBytes.f k (rd x39 x41)).bind fun t407 => (if x5.length + t407.length < 140737488355328 then (impl_FileBytes.l1 k (x5 ++ t407) x26 x27 x28 x39 x40 (wrap64 (x41 + 1)) x403000 x403001 x403002) else (none))) else (none)) else (none)) else (impl_FileBytes.l2 k x5 x26 x27 x28 x403002 (x403002.length : Int) 0)
def impl_FileBytes.l2 : Nat → List Int → List (S100) → Int → Int → List (S102) → Int → Int → Option (ByteArray)
 | 0, _, _, _, _, _, _, _ => none
 | k + 1, x5, x26, x27, x28, x51, x52, x53 => if x53 < x52 then (if 0 ≤ x53 then (if x53 < (x51.length : Int) then ((impl_numBytes.f k ((rd_T102 x51 x53).f0)).bind fun t415 => (if x5.length + t415.length < 140737488355328 then ((some (x5 ++ t415 : List Int)).bind fun y418 => ((impl_numBytes.f k ((rd_T102 x51 x53).f1)).bind fun t421 => (if y418.length + t421.length < 140737488355328 then (impl_FileBytes.l2 k (y418 ++ t421) x26 x27 x28 x51 x52 (wrap64 (x53 + 1))) else (none)))) else (none))) else (none)) else (none)) else (impl_FileBytes.l0 k x5 x26 x27 (wrap64 (x28 + 1)))
end
def impl_FileBytes.f (k : Nat) (l0_0 : List (S100)) : Option (ByteArray) := (impl_known.f k l0_0).bind fun bt384 => (if bt384.2.2 = true then ((some (([74, 49] : List Int) : List Int)).bind fun y392 => ((impl_numBytes.f k (l0_0.length : Int)).bind fun t395 => (if y392.length + t395.length < 140737488355328 then (impl_FileBytes.l0 k (y392 ++ t395) l0_0 (l0_0.length : Int) 0) else (none)))) else (some (⟨#[]⟩ : ByteArray)))
theorem impl_FileBytes.mono_l : ∀ k, (∀ y0 y1 y2 y3, LeO (impl_FileBytes.l0 k y0 y1 y2 y3) (impl_FileBytes.l0 (k + 1) y0 y1 y2 y3)) ∧ (∀ y0 y1 y2 y3 y4 y5 y6 y7 y8 y9, LeO (impl_FileBytes.l1 k y0 y1 y2 y3 y4 y5 y6 y7 y8 y9) (impl_FileBytes.l1 (k + 1) y0 y1 y2 y3 y4 y5 y6 y7 y8 y9)) ∧ (∀ y0 y1 y2 y3 y4 y5 y6, LeO (impl_FileBytes.l2 k y0 y1 y2 y3 y4 y5 y6) (impl_FileBytes.l2 (k + 1) y0 y1 y2 y3 y4 y5 y6))
 | 0 => ⟨fun _ _ _ _ r h => by simp [impl_FileBytes.l0] at h, fun _ _ _ _ _ _ _ _ _ _ r h => by simp [impl_FileBytes.l1] at h, fun _ _ _ _ _ _ _ r h => by simp [impl_FileBytes.l2] at h⟩
 | k + 1 => by
  obtain ⟨ih0, ih1, ih2⟩ := impl_FileBytes.mono_l k
  refine ⟨?_, ?_, ?_⟩
  ·intro y0 y1 y2 y3
   unfold impl_FileBytes.l0
   repeat' first
   | (with_reducible exact ih0 _ _ _ _)
   | (with_reducible exact ih1 _ _ _ _ _ _ _ _ _ _)
   | (with_reducible exact ih2 _ _ _ _ _ _ _)
   | (with_reducible exact impl_known.mono _ _)
   | (with_reducible exact impl_numBytes.mono _ _)
   | (with_reducible exact impl_sum.mono _ _)
   | (with_reducible exact LeO.refl _)
   | (with_reducible exact LeO.none _)
   | (with_reducible refine LeO.ite ?_ ?_)
   | (with_reducible refine LeO.bind ?_ (fun _ => ?_))
  ·intro y0 y1 y2 y3 y4 y5 y6 y7 y8 y9
   unfold impl_FileBytes.l1
   repeat' first
   | (with_reducible exact ih0 _ _ _ _)
   | (with_reducible exact ih1 _ _ _ _ _ _ _ _ _ _)
   | (with_reducible exact ih2 _ _ _ _ _ _ _)
   | (with_reducible exact impl_known.mono _ _)
   | (with_reducible exact impl_numBytes.mono _ _)
   | (with_reducible exact impl_sum.mono _ _)
   | (with_reducible exact LeO.refl _)
   | (with_reducible exact LeO.none _)
   | (with_reducible refine LeO.ite ?_ ?_)
   | (with_reducible refine LeO.bind ?_ (fun _ => ?_))
  ·intro y0 y1 y2 y3 y4 y5 y6
   unfold impl_FileBytes.l2
   repeat' first
   | (with_reducible exact ih0 _ _ _ _)
   | (with_reducible exact ih1 _ _ _ _ _ _ _ _ _ _)
   | (with_reducible exact ih2 _ _ _ _ _ _ _)
   | (with_reducible exact impl_known.mono _ _)
   | (with_reducible exact impl_numBytes.mono _ _)
   | (with_reducible exact impl_sum.mono _ _)
   | (with_reducible exact LeO.refl _)
   | (with_reducible exact LeO.none _)
   | (with_reducible refine LeO.ite ?_ ?_)
   | (with_reducible refine LeO.bind ?_ (fun _ => ?_))
theorem impl_FileBytes.mono : ∀ a0 k, LeO (impl_FileBytes.f k a0) (impl_FileBytes.f (k + 1) a0) := by
 intro a0 k
 obtain ⟨ih0, ih1, ih2⟩ := impl_FileBytes.mono_l k
 unfold impl_FileBytes.f
 repeat' first
   | (with_reducible exact ih0 _ _ _ _)
   | (with_reducible exact ih1 _ _ _ _ _ _ _ _ _ _)
   | (with_reducible exact ih2 _ _ _ _ _ _ _)
   | (with_reducible exact impl_known.mono _ _)
   | (with_reducible exact impl_numBytes.mono _ _)
   | (with_reducible exact impl_sum.mono _ _)
   | (with_reducible exact LeO.refl _)
   | (with_reducible exact LeO.none _)
   | (with_reducible refine LeO.ite ?_ ?_)
   | (with_reducible refine LeO.bind ?_ (fun _ => ?_))
def impl_FileBytes.T16 : Bool × List (List Nat × List Nat) := (true, [([], []), ([], []), ([1], [1]), ([2], [2]), ([0, 3, 3], [0, 3]), ([], []), ([5], [5]), ([6, 4], [6]), ([4, 7, 7], [4, 7]), ([8, 8, 0, 1, 2, 3, 4, 5, 6, 7, 8], [0, 8])])
def impl_FileBytes.B16 : List Nat := [0, 0, 2, 6, 15, 0, 32, 127, 255, 511]
theorem impl_FileBytes.tab16 : rtab .any (opsOf Try.f24 16) = impl_FileBytes.T16 := by kernel_rfl
theorem impl_FileBytes.bits16 : waitsOk impl_FileBytes.T16.2 impl_FileBytes.B16 = true := by kernel_rfl
theorem impl_FileBytes.calls (k : Nat) (A0_0 : Option Addr) (c0_0 : Nat) (l0_0 : List (S100)) (r : ByteArray) (w : World) (hr0_0 : Kd.C k100 w A0_0 l0_0.length l0_0) (hc0_0 : l0_0.length ≤ c0_0) (h : impl_FileBytes.f k l0_0 = some r) :
  Calls Try.prog 24 #[.agg #[.slice A0_0 l0_0.length c0_0]] w fun e w' => e = .returned (.string r) ∧ Below w.heap.size w w' := by
 have hu30 := Try.underlying30
 have hu100 := Try.underlying100
 have hu102 := Try.underlying102
 have HR0_0 := am hr0_0
 have HC0_0 := am hc0_0
 clear hr0_0 hc0_0
 have HB := am (Below.refl w.heap.size w)
 have H : ((impl_known.f k l0_0).bind fun bt384 => (if bt384.2.2 = true then ((some (([74, 49] : List Int) : List Int)).bind fun y392 => ((impl_numBytes.f k (l0_0.length : Int)).bind fun t395 => (if y392.length + t395.length < 140737488355328 then (impl_FileBytes.l0 k (y392 ++ t395) l0_0 (l0_0.length : Int) 0) else (none)))) else (some (⟨#[]⟩ : ByteArray)))) = some r := h
 clear h
 replace H := Option.bind_eq_some_iff.mp H
 obtain ⟨⟨t384, t387, t391⟩, A20, H⟩ := H
 replace H : (if t391 = true then ((some (([74, 49] : List Int) : List Int)).bind fun y392 => ((impl_numBytes.f k (l0_0.length : Int)).bind fun t395 => (if y392.length + t395.length < 140737488355328 then (impl_FileBytes.l0 k (y392 ++ t395) l0_0 (l0_0.length : Int) 0) else (none)))) else (some (⟨#[]⟩ : ByteArray))) = some r := H
 have A2 := am A20
 clear A20
 by_cases c3 : t391 = true
 ·subst c3
  have H1 : ((some (([74, 49] : List Int) : List Int)).bind fun y392 => ((impl_numBytes.f k (l0_0.length : Int)).bind fun t395 => (if y392.length + t395.length < 140737488355328 then (impl_FileBytes.l0 k (y392 ++ t395) l0_0 (l0_0.length : Int) 0) else (none)))) = some r := by rw [if_pos rfl] at H; exact H
  clear H
  have H := H1
  clear H1
  obtain ⟨y392, hy392⟩ : ∃ y_ : List Int, y_ = (([74, 49] : List Int)) := ⟨_, rfl⟩
  replace H : ((impl_numBytes.f k (l0_0.length : Int)).bind fun t395 => (if y392.length + t395.length < 140737488355328 then (impl_FileBytes.l0 k (y392 ++ t395) l0_0 (l0_0.length : Int) 0) else (none))) = some r := by first | (rw [hy392]; with_reducible exact H) | (have H2_ := (Option.bind_some _ _).symm.trans H; rw [hy392]; with_reducible exact H2_) | (have H2_ := (Option.bind_some _ _).symm.trans H; with_reducible exact H2_) | with_reducible exact H | (rw [hy392]; exact H) | exact H
  have Ny392 := am hy392
  clear hy392
  replace H := Option.bind_eq_some_iff.mp H
  obtain ⟨t395, A40, H⟩ := H
  replace H : (if y392.length + t395.length < 140737488355328 then (impl_FileBytes.l0 k (y392 ++ t395) l0_0 (l0_0.length : Int) 0) else (none)) = some r := H
  have A4 := am A40
  clear A40
  by_cases c5 : y392.length + t395.length < 140737488355328
  ·rw [if_pos c5] at H
   have LMc5 := am c5
   clear c5
   obtain ⟨y398, hy398⟩ : ∃ y_ : List Int, y_ = (y392 ++ t395) := ⟨_, rfl⟩
   replace H : (impl_FileBytes.l0 k y398 l0_0 (l0_0.length : Int) 0) = some r := by first | (rw [hy398]; with_reducible exact H) | (have H2_ := (Option.bind_some _ _).symm.trans H; rw [hy398]; with_reducible exact H2_) | (have H2_ := (Option.bind_some _ _).symm.trans H; with_reducible exact H2_) | with_reducible exact H | (rw [hy398]; exact H) | exact H
   have Ny398 := am hy398
   clear hy398
   have H' := am H
   clear H
   go_enter Try.func24, Try.ntmps24
   go_wp2_with (first | ((with_reducible refine gate_dst (N := 1) rfl ?_); refine box_event ?hg (N := 1) ?hd (cs := #[.slice A0_0 l0_0.length c0_0]) (t := 30) ?hr ?_; (case hd => rfl); (case hg => rfl); (case hr => exact gs); intro gb383 hg w6 hbox hb; have BK383 := am (hbox); have GW383 := am ((by rw [hg]; exact (below_size (bw HB)) : w.heap.size ≤ gb383)); have GE383 := am ((by rw [hg]; exact (below_size (bw HB)) : w.heap.size ≤ gb383)); replace HB := am (below_step (bw HB) hb); clear hb hbox hg; have hcz7_0 : w6.cell? ⟨gb383, 0, none⟩ = some (.slice A0_0 l0_0.length c0_0) := bc BK383 0; have hfz7_0 := bf BK383 0) | ((with_reducible refine gate_callee (f := 66) rfl ?_); refine goesL_ (some 14) rfl rfl Try.func66 (by kernel_rfl) rfl #[.agg #[.slice A0_0 l0_0.length c0_0]] rfl gl ?_; (with_reducible refine (impl_known.calls k (fun k_ => k_ < w.heap.size) _ _ l0_0 t384 t387 true _ ?side1 A2.out).mono ?_); (case side1 => exact Kd.V_mk HC0_0.out (Kd.F_below (Kd.C_F k100_heap HR0_0.out) (bw HB))); rintro e w8 ⟨v385, v388, gb390, rfl, ho0, ho1, hbx, hgx, hb⟩; refine ⟨_, rfl, ?_⟩; have HO386 := am (Kd.V_lower (Kd.V_mono (ok' := fun k_ => some k_ ≠ (v388 : Value).ownBlock ∧ k_ ≠ gb383) ho0 (fun k_ hk_ => ⟨hk_.2, Or.elim hk_.1 (fun hs_ => fun e_ => Nat.not_le.2 hs_ (by rw [e_]; exact GW383.out)) (fun hn_ => (Kd.freshB (g := gb383) (o := .cells #[.slice A0_0 l0_0.length c0_0] 30 (0, 0)) (bp BK383) k_ hn_))⟩)) (below_size (bw HB))); have HO389 := am (Kd.S_lower (Kd.S_mono (ok' := fun k_ => True) ho1 (fun _ hk_ => trivial)) (below_size (bw HB))); have BK390 := am (hbx); have GW390 := am ((Nat.le_trans (below_size (bw HB)) hgx)); have GE390 := am ((Nat.le_trans (below_size (bw HB)) hgx)); have NB383_390 := am ((Nat.ne_of_lt (Nat.lt_of_lt_of_le (blk_lt (g := gb383) (o := .cells #[.slice A0_0 l0_0.length c0_0] 30 (0, 0)) (bp BK383)) hgx) : gb383 ≠ gb390)); have NB390_383 := am ((Nat.ne_of_gt (Nat.lt_of_lt_of_le (blk_lt (g := gb383) (o := .cells #[.slice A0_0 l0_0.length c0_0] 30 (0, 0)) (bp BK383)) hgx) : gb390 ≠ gb383)); replace BK383 := am (blk_below (g := gb383) (o := .cells #[.slice A0_0 l0_0.length c0_0] 30 (0, 0)) (bp BK383) hb); replace HB := am (below_step (bw HB) hb); (try clear hb); (try clear hb2); (try clear hk); (try clear hi); (try clear ho0); (try clear ho1); (try clear hbx); (try clear hgx)) | ((with_reducible refine gate_dst (N := 19) rfl ?_); refine Kd.R_lit (Kd.int .u8) _ 5 ?hg (N := 19) ?hd (xs := ([74, 49] : List Int)) (inner := [.int .u8 74, .int .u8 49]) (ok := fun _ => True) (okp := fun _ => True) ?hr ?hp (fun _ hk => hk) trivial (Below.refl _ _) (Nat.le_refl _) (by simp) ?_; (case hd => rfl); (case hg => rfl); (case hr => exact gs); (case hp => exact (Reps.one (show Kd.M (Kd.int .u8) _ _ _ 74 [.int .u8 74] from rfl) (Reps.one (show Kd.M (Kd.int .u8) _ _ _ 49 [.int .u8 49] from rfl) (Reps.none _ _)))); intro v393 w9 ho10 hb hg_ hnew_; clear hg_ hnew_; (first | rw [← Ny392.out] at ho10 | (simp only [Int.reduceToNat] at ho10; rw [← Ny392.out] at ho10)); replace HO386 := am (Kd.V_elder' (kV HO386) (Kd.R_base ho10) hb); replace HO389 := am (Kd.S_below (kS HO389) hb); have HO394 := am (Kd.R_lower ho10 (below_size (bw HB))); replace BK383 := am (blk_below (g := gb383) (o := .cells #[.slice A0_0 l0_0.length c0_0] 30 (0, 0)) (bp BK383) hb); replace BK390 := am (blk_below (g := gb390) (o := .cells #[v385, v388] 92 (0, 0)) (bp BK390) hb); replace HB := am (below_step (bw HB) hb); clear hb ho10; have hnb11 := NB383_390.out; have hnc11 := NB390_383.out; have hcz12_0 : w9.cell? ⟨gb383, 0, none⟩ = some (.slice A0_0 l0_0.length c0_0) := bc BK383 0; have hfz12_0 := bf BK383 0) | ((with_reducible refine gate_callee (f := 67) rfl ?_); refine goesL_ (some 23) rfl rfl Try.func67 (by kernel_rfl) rfl #[.int .i64 (l0_0.length : Int)] rfl gl ?_; (with_reducible refine (impl_numBytes.calls k (l0_0.length : Int) t395 _ A4.out).mono ?_); rintro e w13 ⟨v396, rfl, ho0, hb⟩; refine ⟨_, rfl, ?_⟩; replace HO386 := am (Kd.V_elder' (kV HO386) (Kd.R_base ho0) hb); replace HO389 := am (Kd.S_below (kS HO389) hb); have HO397 := am (Kd.R_lower (Kd.R_new' ho0 (Kd.R_lt (kR HO394))) (below_size (bw HB))); replace HO394 := am (Kd.R_elder' (kR HO394) (Kd.R_base ho0) hb); replace BK383 := am (blk_below (g := gb383) (o := .cells #[.slice A0_0 l0_0.length c0_0] 30 (0, 0)) (bp BK383) hb); replace BK390 := am (blk_below (g := gb390) (o := .cells #[v385, v388] 92 (0, 0)) (bp BK390) hb); replace HB := am (below_step (bw HB) hb); (try clear hb); (try clear hb2); (try clear hk); (try clear hi); (try clear ho0); obtain ⟨Ao15, co15, eo15⟩ := Kd.R_slice HO397.out; subst eo15) | ((with_reducible refine gate_builtin (b := .append) (xs := #[.tmp 19, .tmp 23]) rfl ?_); at_builtin; refine Kd.R_append_rows (Kd.int .u8) (w0 := w) w.heap.size rfl (.tmp 19) (.tmp 23) 96 5 (.int .u8 0) 1 rfl Try.underlying96 info5 rfl (by decide) (by omega) v393 y392 t395 _ _ _ (fun k_ => some k_ ≠ (.slice Ao15 t395.length co15 : Value).ownBlock) (fun _ => False) rfl rfl ?aO ?aR (fun _ _ h => h) (fun _ h => h.elim) ?aF ?aB ?aS ?aL ?_; (case aR => exact cc (Kd.R_reads' HO397.out).2.2); (case aB => exact (bw HB)); (case aF => exact (fun k_ hk => Kd.fresh' (Kd.R_lt (kR HO397)) k_ hk)); (case aO => exact (by (with_reducible repeat (first | apply Kd.R_alloc | apply Kd.R_drewN | apply Kd.R_drew)); exact Kd.R_mono HO394.out (fun _ hk => hk.2))); (case aS => exact (below_size (bw HB))); (case aL => have := LMc5.out; omega); intro v399 w14 ho hb hg hat; rw [← Ny398.out] at ho; replace BK383 := am (blk_grown (g := gb383) (o := .cells #[.slice A0_0 l0_0.length c0_0] 30 (0, 0)) (bp BK383) hg (Kd.R_ne HO394.out BK383.out (by decide))); replace HO386 := am (Kd.V_afterv (ok := (fun k_ => some k_ ≠ (v388 : Value).ownBlock ∧ some k_ ≠ (.slice Ao15 t395.length co15 : Value).ownBlock ∧ k_ ≠ gb383)) (by (with_reducible repeat (first | apply Kd.V_alloc | apply Kd.V_drewN | apply Kd.V_drew)); exact Kd.V_mono HO386.out (fun _ hk => ⟨⟨hk.1.1.1, ⟨hk.2, hk.1.1.2⟩⟩, hk.1.2⟩)) hg hat); replace HO389 := am (Kd.S_over' (kS HO389) (Kd.R_typed (kR HO394)) (by decide) hg); replace BK390 := am (blk_grown (g := gb390) (o := .cells #[v385, v388] 92 (0, 0)) (bp BK390) hg (Kd.R_ne HO394.out BK390.out (by decide))); replace HO397 := am (Kd.R_after (ok := (fun _ => True)) (kR HO397) hg hat); replace HB := am (hb); have HO400 := am (ho); clear HO394; clear ho hb hg hat; have hcz16_0 : w14.cell? ⟨gb383, 0, none⟩ = some (.slice A0_0 l0_0.length c0_0) := bc BK383 0; have hfz16_0 := bf BK383 0))
   go_loopg [5, 28] k (fun kq v5 v28 w' => ∃ (x5_1 : List Int) (x28_1 : Int), v28 = .int .i64 x28_1 ∧ Aside0 (impl_FileBytes.l0 kq x5_1 l0_0 (l0_0.length : Int) x28_1 = some r) ∧ Aside0 (kq ≤ k) ∧ Aside0 (Kd.R (Kd.int .u8) 5 w' w.heap.size (fun _ => True) v5 x5_1) ∧ Aside0 (Kd.V k100 100 w' w.heap.size (fun k_ => some k_ ≠ (v5 : Value).ownBlock ∧ some k_ ≠ (v388 : Value).ownBlock ∧ k_ ≠ gb383) v385 t384) ∧ Aside0 (Kd.S (Kd.slice 2 (Kd.int .i64)) 26 w' w.heap.size (fun _ => True) v388 t387) ∧ Aside0 (w'.heap[gb383]? = some (.cells #[(.slice A0_0 l0_0.length c0_0)] 30 (0, 0))) ∧ Aside0 (w'.heap[gb390]? = some (.cells #[v385, v388] 92 (0, 0))) ∧ Aside0 (Below w.heap.size w w'))
   case atStart => exact ⟨(y398), (0), dr, H', ⟨Nat.le_refl _⟩, ⟨by (with_reducible repeat (first | apply Kd.R_alloc | apply Kd.R_drewN | apply Kd.R_drew)); exact Kd.R_mono HO400.out (fun _ hk => trivial)⟩, ⟨by (with_reducible repeat (first | apply Kd.V_alloc | apply Kd.V_drewN | apply Kd.V_drew)); exact Kd.V_mono HO386.out (fun _ hk => ⟨hk.2, ⟨hk.1.1, hk.1.2.2⟩⟩)⟩, ⟨kS HO389⟩, ⟨bp BK383⟩, ⟨bp BK390⟩, ⟨bw HB⟩⟩
   case round =>
    clear H'
    (try clear c1); (try clear c2); (try clear p2); (try clear c3); (try clear c5); (try clear c6); (try clear c11); (try clear hcz12_0); (try clear hcz16_0); (try clear hcz7_0); (try clear hfz12_0); (try clear hfz16_0); (try clear hfz7_0)
    obtain ⟨x5_1, x28_1, rfl, HA, HK1, HO_5, HO_391000, HO_391001, BK383, BK390, HB⟩ := hrel
    cases gk with
    | zero => exact absurd HA.out (by simp [impl_FileBytes.l0])
    | succ k1 =>
     have H := HA.out
     clear HA
     simp only [impl_FileBytes.l0] at H
     by_cases c17 : x28_1 < (l0_0.length : Int)
     ·rw [if_pos c17] at H
      have c17b0 := decide_eq_true c17
      clear c17
      by_cases c18 : 0 ≤ x28_1
      ·rw [if_pos c18] at H
       have c18b0 := decide_eq_true c18
       clear c18
       by_cases c19 : x28_1 < (l0_0.length : Int)
       ·rw [if_pos c19] at H
        have c19b0 := decide_eq_true c19
        clear c19
        obtain ⟨y403, hy403⟩ : ∃ y_ : List Int, y_ = (([(rd_T100 l0_0 x28_1).f0, (rd_T100 l0_0 x28_1).f1, (((rd_T100 l0_0 x28_1).f2).length : Int)] : List Int)) := ⟨_, rfl⟩
        replace H : (impl_FileBytes.l1 k1 x5_1 l0_0 (l0_0.length : Int) x28_1 y403 (y403.length : Int) 0 ((rd_T100 l0_0 x28_1).f0) ((rd_T100 l0_0 x28_1).f1) ((rd_T100 l0_0 x28_1).f2)) = some r := by first | (rw [hy403]; with_reducible exact H) | (have H2_ := (Option.bind_some _ _).symm.trans H; rw [hy403]; with_reducible exact H2_) | (have H2_ := (Option.bind_some _ _).symm.trans H; with_reducible exact H2_) | with_reducible exact H | (rw [hy403]; exact H) | exact H
        have Ny403 := am hy403
        clear hy403
        have H' := am H
        clear H
        have p401 : 0 ≤ (x28_1 : Int) := of_decide_eq_true as1
        have q401 : x28_1 < (l0_0.length : Int) := of_decide_eq_true as1
        obtain ⟨ad401, A401_2, c401_2, e401, hx401_0, hx401_1, hx401_2, hl401_2, hi401_2⟩ := at_T100 HR0_0.out x28_1 p401 q401
        cases e401
        replace hx401_0 := (HB.out.cell (World.block_lt_of_cell? w _ hx401_0)).trans hx401_0
        replace hx401_1 := (HB.out.cell (World.block_lt_of_cell? w _ hx401_1)).trans hx401_1
        replace hx401_2 := (HB.out.cell (World.block_lt_of_cell? w _ hx401_2)).trans hx401_2
        have HR401_2 := am hi401_2
        have HC401_2 := am hl401_2
        clear hi401_2 hl401_2
        replace p401 := eq_true p401
        replace q401 := eq_true q401
        go_wp2_with (first | ((with_reducible refine gate_dst (N := 7) rfl ?_); refine box_event ?hg (N := 7) ?hd (cs := #[.int .i64 0, .int .i64 0, .slice none 0 0]) (t := 100) ?hr ?_; (case hd => rfl); (case hg => rfl); (case hr => exact gs); intro gb402 hg w20 hbox hb; replace HO_5 := am (Kd.R_below (kR HO_5) hb); replace HO_391000 := am (Kd.V_below (Kd.V_elderB (kV HO_391000) gb402 (Nat.le_of_eq hg.symm)) hb); replace HO_391001 := am (Kd.S_below (kS HO_391001) hb); have BK402 := am (hbox); have GW402 := am ((by rw [hg]; exact (below_size (bw HB)) : w.heap.size ≤ gb402)); have GE402 := am ((by rw [hg]; exact (below_size (bw HB)) : w.heap.size ≤ gb402)); replace HB := am (below_step (bw HB) hb); have NB383_402 := am ((by rw [hg]; exact Nat.ne_of_lt (blk_lt (g := gb383) (o := .cells #[.slice (some ad401) l0_0.length c0_0] 30 (0, 0)) (bp BK383)) : gb383 ≠ gb402)); have NB402_383 := am ((by rw [hg]; exact Nat.ne_of_gt (blk_lt (g := gb383) (o := .cells #[.slice (some ad401) l0_0.length c0_0] 30 (0, 0)) (bp BK383)) : gb402 ≠ gb383)); replace BK383 := am (blk_below (g := gb383) (o := .cells #[.slice (some ad401) l0_0.length c0_0] 30 (0, 0)) (bp BK383) hb); have NB390_402 := am ((by rw [hg]; exact Nat.ne_of_lt (blk_lt (g := gb390) (o := .cells #[v385, v388] 92 (0, 0)) (bp BK390)) : gb390 ≠ gb402)); have NB402_390 := am ((by rw [hg]; exact Nat.ne_of_gt (blk_lt (g := gb390) (o := .cells #[v385, v388] 92 (0, 0)) (bp BK390)) : gb402 ≠ gb390)); replace BK390 := am (blk_below (g := gb390) (o := .cells #[v385, v388] 92 (0, 0)) (bp BK390) hb); clear hb hbox hg; have hnb21 := NB402_383.out; have hnc21 := NB383_402.out; have hnb22 := NB402_390.out; have hnc22 := NB390_402.out; have hcz23_0 : w20.cell? ⟨gb402, 0, none⟩ = some (.int .i64 0) := bc BK402 0; have hcz23_1 : w20.cell? ⟨gb402, 1, none⟩ = some (.int .i64 0) := bc BK402 1; have hcz23_2 : w20.cell? ⟨gb402, 2, none⟩ = some (.slice none 0 0) := bc BK402 2; have hfz23_0 := bf BK402 0; have hfz23_1 := bf BK402 1; have hfz23_2 := bf BK402 2) | ((with_reducible refine gate_dst (N := 39) rfl ?_); refine Kd.R_lit (Kd.int .i64) _ 2 ?hg (N := 39) ?hd (xs := ([(rd_T100 l0_0 x28_1).f0, (rd_T100 l0_0 x28_1).f1, (((rd_T100 l0_0 x28_1).f2).length : Int)] : List Int)) (inner := [.int .i64 ((rd_T100 l0_0 x28_1).f0), .int .i64 ((rd_T100 l0_0 x28_1).f1), .int .i64 (((rd_T100 l0_0 x28_1).f2).length : Int)]) (ok := fun _ => True) (okp := fun _ => True) ?hr ?hp (fun _ hk => hk) trivial (Below.refl _ _) (Nat.le_refl _) (by simp) ?_; (case hd => rfl); (case hg => rfl); (case hr => exact gs); (case hp => exact (Reps.one (show Kd.M (Kd.int .i64) _ _ _ ((rd_T100 l0_0 x28_1).f0) [.int .i64 ((rd_T100 l0_0 x28_1).f0)] from rfl) (Reps.one (show Kd.M (Kd.int .i64) _ _ _ ((rd_T100 l0_0 x28_1).f1) [.int .i64 ((rd_T100 l0_0 x28_1).f1)] from rfl) (Reps.one (show Kd.M (Kd.int .i64) _ _ _ (((rd_T100 l0_0 x28_1).f2).length : Int) [.int .i64 (((rd_T100 l0_0 x28_1).f2).length : Int)] from rfl) (Reps.none _ _))))); intro v404 w24 ho25 hb hg_ hnew_; clear hg_ hnew_; (first | rw [← Ny403.out] at ho25 | (simp only [Int.reduceToNat] at ho25; rw [← Ny403.out] at ho25)); replace HO_5 := am (Kd.R_below (by (with_reducible repeat (first | apply Kd.R_alloc | apply Kd.R_drewN | apply Kd.R_drew)); exact (Kd.R_mono (Kd.R_far (p := ⟨gb402, 2, none⟩) (Kd.R_far (p := ⟨gb402, 1, none⟩) (Kd.R_far (p := ⟨gb402, 0, none⟩) (Kd.R_types HO_5.out BK402.out (by decide)) (fun _ hk => hk.2) (.int .i64 ((rd_T100 l0_0 x28_1).f0))) (fun _ hk => hk.2) (.int .i64 ((rd_T100 l0_0 x28_1).f1))) (fun _ hk => hk.2) (.slice A401_2 ((rd_T100 l0_0 x28_1).f2).length c401_2)) (fun _ h_ => h_.1))) hb); replace HO_391000 := am (Kd.V_elder' (by (with_reducible repeat (first | apply Kd.V_alloc | apply Kd.V_drewN | apply Kd.V_drew)); exact (Kd.V_mono (Kd.V_far (p := ⟨gb402, 2, none⟩) (Kd.V_far (p := ⟨gb402, 1, none⟩) (Kd.V_far (p := ⟨gb402, 0, none⟩) (Kd.V_mono HO_391000.out (fun k_ hk => (⟨hk, hk.2⟩ : _ ∧ k_ ≠ gb402))) (fun _ hk => hk.2) (.int .i64 ((rd_T100 l0_0 x28_1).f0))) (fun _ hk => hk.2) (.int .i64 ((rd_T100 l0_0 x28_1).f1))) (fun _ hk => hk.2) (.slice A401_2 ((rd_T100 l0_0 x28_1).f2).length c401_2)) (fun _ h_ => h_.1))) (Kd.R_base ho25) hb); replace HO_391001 := am (Kd.S_elder' (by (with_reducible repeat (first | apply Kd.S_alloc | apply Kd.S_drewN | apply Kd.S_drew)); exact (Kd.S_mono (Kd.S_far (p := ⟨gb402, 2, none⟩) (Kd.S_far (p := ⟨gb402, 1, none⟩) (Kd.S_far (p := ⟨gb402, 0, none⟩) (Kd.S_types HO_391001.out BK402.out (by decide)) (fun _ hk => hk.2) (.int .i64 ((rd_T100 l0_0 x28_1).f0))) (fun _ hk => hk.2) (.int .i64 ((rd_T100 l0_0 x28_1).f1))) (fun _ hk => hk.2) (.slice A401_2 ((rd_T100 l0_0 x28_1).f2).length c401_2)) (fun _ h_ => h_.1))) (Kd.R_base ho25) hb); have HO405 := am (Kd.R_lower ho25 (below_size (bw HB))); replace BK383 := am (blk_below (g := gb383) (o := .cells #[.slice (some ad401) l0_0.length c0_0] 30 (0, 0)) (by (with_reducible repeat (first | apply dN | apply dW | apply dA)); refine blk_far ?_ NB383_402.out _; (with_reducible repeat (first | apply dN | apply dW | apply dA)); refine blk_far ?_ NB383_402.out _; (with_reducible repeat (first | apply dN | apply dW | apply dA)); refine blk_far ?_ NB383_402.out _; exact bp BK383) hb); replace BK390 := am (blk_below (g := gb390) (o := .cells #[v385, v388] 92 (0, 0)) (by (with_reducible repeat (first | apply dN | apply dW | apply dA)); refine blk_far ?_ NB390_402.out _; (with_reducible repeat (first | apply dN | apply dW | apply dA)); refine blk_far ?_ NB390_402.out _; (with_reducible repeat (first | apply dN | apply dW | apply dA)); refine blk_far ?_ NB390_402.out _; exact bp BK390) hb); replace BK402 := am (blk_below (g := gb402) (o := .cells #[.int .i64 ((rd_T100 l0_0 x28_1).f0), .int .i64 ((rd_T100 l0_0 x28_1).f1), .slice A401_2 ((rd_T100 l0_0 x28_1).f2).length c401_2] 100 (0, 0)) (by (with_reducible repeat (first | apply dN | apply dW | apply dA)); refine blk_put (cs := #[.int .i64 ((rd_T100 l0_0 x28_1).f0), .int .i64 ((rd_T100 l0_0 x28_1).f1), .slice none 0 0]) ?_ 2 _ rfl; (with_reducible repeat (first | apply dN | apply dW | apply dA)); refine blk_put (cs := #[.int .i64 ((rd_T100 l0_0 x28_1).f0), .int .i64 0, .slice none 0 0]) ?_ 1 _ rfl; (with_reducible repeat (first | apply dN | apply dW | apply dA)); refine blk_put (cs := #[.int .i64 0, .int .i64 0, .slice none 0 0]) ?_ 0 _ rfl; exact bp BK402) hb); replace HB := am (below_step (bw HB) hb); clear hb ho25; obtain ⟨Ao26, co26, eo26⟩ := Kd.R_slice HO405.out; subst eo26))
        go_loopg [5, 41] k1 (fun kq v5 v41 w' => ∃ (x5_2 : List Int) (x41_2 : Int), v41 = .int .i64 x41_2 ∧ Aside0 (impl_FileBytes.l1 kq x5_2 l0_0 (l0_0.length : Int) x28_1 y403 (y403.length : Int) x41_2 ((rd_T100 l0_0 x28_1).f0) ((rd_T100 l0_0 x28_1).f1) ((rd_T100 l0_0 x28_1).f2) = some r) ∧ Aside0 (kq ≤ k1) ∧ Aside0 (Kd.R (Kd.int .u8) 5 w' w.heap.size (fun _ => True) v5 x5_2) ∧ Aside0 (Kd.R (Kd.int .i64) 2 w' w.heap.size (fun _ => True) (.slice Ao26 y403.length co26) y403) ∧ Aside0 (Kd.V k100 100 w' w.heap.size (fun k_ => some k_ ≠ (v5 : Value).ownBlock ∧ some k_ ≠ ((.slice Ao26 y403.length co26) : Value).ownBlock ∧ some k_ ≠ (v388 : Value).ownBlock ∧ k_ ≠ gb383 ∧ k_ ≠ gb402) v385 t384) ∧ Aside0 (Kd.S (Kd.slice 2 (Kd.int .i64)) 26 w' w.heap.size (fun k_ => some k_ ≠ ((.slice Ao26 y403.length co26) : Value).ownBlock) v388 t387) ∧ Aside0 (w'.heap[gb383]? = some (.cells #[(.slice (some ad401) l0_0.length c0_0)] 30 (0, 0))) ∧ Aside0 (w'.heap[gb390]? = some (.cells #[v385, v388] 92 (0, 0))) ∧ Aside0 (w'.heap[gb402]? = some (.cells #[.int .i64 ((rd_T100 l0_0 x28_1).f0), .int .i64 ((rd_T100 l0_0 x28_1).f1), (.slice A401_2 ((rd_T100 l0_0 x28_1).f2).length c401_2)] 100 (0, 0))) ∧ Aside0 (Below w.heap.size w w'))
        case atStart => exact ⟨(x5_1), (0), dr, H', ⟨Nat.le_refl _⟩, ⟨kR HO_5⟩, ⟨kR HO405⟩, ⟨by (with_reducible repeat (first | apply Kd.V_alloc | apply Kd.V_drewN | apply Kd.V_drew)); exact Kd.V_mono HO_391000.out (fun _ hk => ⟨hk.1.1.1, ⟨hk.2, ⟨hk.1.1.2.1, ⟨hk.1.1.2.2, hk.1.2⟩⟩⟩⟩)⟩, ⟨by (with_reducible repeat (first | apply Kd.S_alloc | apply Kd.S_drewN | apply Kd.S_drew)); exact Kd.S_mono HO_391001.out (fun _ hk => hk.2)⟩, ⟨bp BK383⟩, ⟨bp BK390⟩, ⟨bp BK402⟩, ⟨bw HB⟩⟩
        case round =>
         clear H'
         (try clear c1); (try clear c2); (try clear p2); (try clear c3); (try clear c4); (try clear p4); (try clear q4); (try clear hx4); (try clear c5); (try clear c6); (try clear c11); (try clear c17); (try clear c17b0); (try clear c18); (try clear c18b0); (try clear c19); (try clear c19b0); (try clear c21); (try clear c22); (try clear c24); (try clear hcz12_0); (try clear hcz16_0); (try clear hcz23_0); (try clear hcz23_1); (try clear hcz23_2); (try clear hcz7_0); (try clear hfz12_0); (try clear hfz16_0); (try clear hfz23_0); (try clear hfz23_1); (try clear hfz23_2); (try clear hfz7_0); (try clear hx401_0); (try clear hx401_1); (try clear hx401_2); (try clear p2); (try clear p401); (try clear q401)
         obtain ⟨x5_2, x41_2, rfl, HA, HK2, HO_5, HO_39, HO_391000, HO_391001, BK383, BK390, BK402, HB⟩ := hrel
         cases gk with
         | zero => exact absurd HA.out (by simp [impl_FileBytes.l1])
         | succ k2 =>
          have H := HA.out
          clear HA
          simp only [impl_FileBytes.l1] at H
          by_cases c27 : x41_2 < (y403.length : Int)
          ·rw [if_pos c27] at H
           have c27b0 := decide_eq_true c27
           clear c27
           by_cases c28 : 0 ≤ x41_2
           ·rw [if_pos c28] at H
            have c28b0 := decide_eq_true c28
            clear c28
            by_cases c29 : x41_2 < (y403.length : Int)
            ·rw [if_pos c29] at H
             have c29b0 := decide_eq_true c29
             clear c29
             replace H := Option.bind_eq_some_iff.mp H
             obtain ⟨t407, A300, H⟩ := H
             replace H : (if x5_2.length + t407.length < 140737488355328 then (impl_FileBytes.l1 k2 (x5_2 ++ t407) l0_0 (l0_0.length : Int) x28_1 y403 (y403.length : Int) (wrap64 (x41_2 + 1)) ((rd_T100 l0_0 x28_1).f0) ((rd_T100 l0_0 x28_1).f1) ((rd_T100 l0_0 x28_1).f2)) else (none)) = some r := H
             have A30 := am A300
             clear A300
             by_cases c31 : x5_2.length + t407.length < 140737488355328
             ·rw [if_pos c31] at H
              have LMc31 := am c31
              clear c31
              obtain ⟨y410, hy410⟩ : ∃ y_ : List Int, y_ = (x5_2 ++ t407) := ⟨_, rfl⟩
              replace H : (impl_FileBytes.l1 k2 y410 l0_0 (l0_0.length : Int) x28_1 y403 (y403.length : Int) (wrap64 (x41_2 + 1)) ((rd_T100 l0_0 x28_1).f0) ((rd_T100 l0_0 x28_1).f1) ((rd_T100 l0_0 x28_1).f2)) = some r := by first | (rw [hy410]; with_reducible exact H) | (have H2_ := (Option.bind_some _ _).symm.trans H; rw [hy410]; with_reducible exact H2_) | (have H2_ := (Option.bind_some _ _).symm.trans H; with_reducible exact H2_) | with_reducible exact H | (rw [hy410]; exact H) | exact H
              have Ny410 := am hy410
              clear hy410
              have H' := am H
              clear H
              have p406 : 0 ≤ (x41_2 : Int) := of_decide_eq_true as1
              have q406 : x41_2 < (y403.length : Int) := of_decide_eq_true as1
              obtain ⟨ad406, e406, hx406_0⟩ := Kd.at_int (Kd.R_reads' HO_39.out).2.2 x41_2 p406 q406
              cases e406
              replace p406 := eq_true p406
              replace q406 := eq_true q406
              go_wp2_with (first | ((with_reducible refine gate_callee (f := 67) rfl ?_); refine goesL_ (some 47) rfl rfl Try.func67 (by kernel_rfl) rfl #[.int .i64 (rd y403 x41_2)] rfl gl ?_; (with_reducible refine (impl_numBytes.calls k2 (rd y403 x41_2) t407 _ A30.out).mono ?_); rintro e w32 ⟨v408, rfl, ho0, hb⟩; refine ⟨_, rfl, ?_⟩; replace HO_39 := am (Kd.R_below (kR HO_39) hb); replace HO_391000 := am (Kd.V_elder' (kV HO_391000) (Kd.R_base ho0) hb); replace HO_391001 := am (Kd.S_below (kS HO_391001) hb); have HO409 := am (Kd.R_lower (Kd.R_new' ho0 (Kd.R_lt (kR HO_5))) (below_size (bw HB))); replace HO_5 := am (Kd.R_elder' (kR HO_5) (Kd.R_base ho0) hb); replace BK383 := am (blk_below (g := gb383) (o := .cells #[.slice (some ad401) l0_0.length c0_0] 30 (0, 0)) (bp BK383) hb); replace BK390 := am (blk_below (g := gb390) (o := .cells #[v385, v388] 92 (0, 0)) (bp BK390) hb); replace BK402 := am (blk_below (g := gb402) (o := .cells #[.int .i64 ((rd_T100 l0_0 x28_1).f0), .int .i64 ((rd_T100 l0_0 x28_1).f1), .slice A401_2 ((rd_T100 l0_0 x28_1).f2).length c401_2] 100 (0, 0)) (bp BK402) hb); replace HB := am (below_step (bw HB) hb); (try clear hb); (try clear hb2); (try clear hk); (try clear hi); (try clear ho0); obtain ⟨Ao34, co34, eo34⟩ := Kd.R_slice HO409.out; subst eo34) | ((with_reducible refine gate_builtin (b := .append) (xs := #[.tmp 45, .tmp 47]) rfl ?_); at_builtin; refine Kd.R_append_rows (Kd.int .u8) (w0 := w) w.heap.size rfl (.tmp 45) (.tmp 47) 96 5 (.int .u8 0) 1 rfl Try.underlying96 info5 rfl (by decide) (by omega) u5 x5_2 t407 _ _ _ (fun k_ => some k_ ≠ (.slice Ao34 t407.length co34 : Value).ownBlock) (fun _ => False) rfl rfl ?aO ?aR (fun _ _ h => h) (fun _ h => h.elim) ?aF ?aB ?aS ?aL ?_; (case aR => exact cc (Kd.R_reads' HO409.out).2.2); (case aB => exact (bw HB)); (case aF => exact (fun k_ hk => Kd.fresh' (Kd.R_lt (kR HO409)) k_ hk)); (case aO => exact (by (with_reducible repeat (first | apply Kd.R_alloc | apply Kd.R_drewN | apply Kd.R_drew)); exact Kd.R_mono HO_5.out (fun _ hk => hk.2))); (case aS => exact (below_size (bw HB))); (case aL => have := LMc31.out; omega); intro v411 w33 ho hb hg hat; rw [← Ny410.out] at ho; replace HO_39 := am (Kd.R_over' (kR HO_39) (Kd.R_typed (kR HO_5)) (by decide) hg); replace HO_391000 := am (Kd.V_afterv (ok := (fun k_ => some k_ ≠ (.slice (some ad406) y403.length co26 : Value).ownBlock ∧ some k_ ≠ (v388 : Value).ownBlock ∧ some k_ ≠ (.slice Ao34 t407.length co34 : Value).ownBlock ∧ k_ ≠ gb383 ∧ k_ ≠ gb402)) (by (with_reducible repeat (first | apply Kd.V_alloc | apply Kd.V_drewN | apply Kd.V_drew)); exact Kd.V_mono HO_391000.out (fun _ hk => ⟨⟨hk.1.2.1, ⟨hk.1.2.2.1, ⟨hk.2, ⟨hk.1.2.2.2.1, hk.1.2.2.2.2⟩⟩⟩⟩, hk.1.1⟩)) hg hat); replace HO_391001 := am (Kd.S_over' (kS HO_391001) (Kd.R_typed (kR HO_5)) (by decide) hg); replace BK383 := am (blk_grown (g := gb383) (o := .cells #[.slice (some ad401) l0_0.length c0_0] 30 (0, 0)) (bp BK383) hg (Kd.R_ne HO_5.out BK383.out (by decide))); replace BK390 := am (blk_grown (g := gb390) (o := .cells #[v385, v388] 92 (0, 0)) (bp BK390) hg (Kd.R_ne HO_5.out BK390.out (by decide))); replace BK402 := am (blk_grown (g := gb402) (o := .cells #[.int .i64 ((rd_T100 l0_0 x28_1).f0), .int .i64 ((rd_T100 l0_0 x28_1).f1), .slice A401_2 ((rd_T100 l0_0 x28_1).f2).length c401_2] 100 (0, 0)) (bp BK402) hg (Kd.R_ne HO_5.out BK402.out (by decide))); replace HO409 := am (Kd.R_after (ok := (fun _ => True)) (kR HO409) hg hat); replace HB := am (hb); have HO412 := am (ho); clear HO_5; clear ho hb hg hat))
              go_roundg k2
              case measure => have := HK1.out; have := HK2.out; omega
              case rel => exact ⟨(y410), (wrap64 (x41_2 + 1)), dr, H', ⟨by have := HK1.out; have := HK2.out; omega⟩, ⟨by (with_reducible repeat (first | apply Kd.R_alloc | apply Kd.R_drewN | apply Kd.R_drew)); exact Kd.R_mono HO412.out (fun _ hk => trivial)⟩, ⟨kR HO_39⟩, ⟨by (with_reducible repeat (first | apply Kd.V_alloc | apply Kd.V_drewN | apply Kd.V_drew)); exact Kd.V_mono HO_391000.out (fun _ hk => ⟨hk.2, ⟨hk.1.1, ⟨hk.1.2.1, ⟨hk.1.2.2.2.1, hk.1.2.2.2.2⟩⟩⟩⟩)⟩, ⟨kS HO_391001⟩, ⟨bp BK383⟩, ⟨bp BK390⟩, ⟨bp BK402⟩, ⟨bw HB⟩⟩
             ·rw [if_neg c31] at H
              exact absurd H (by simp)
            ·rw [if_neg c29] at H
             exact absurd H (by simp)
           ·rw [if_neg c28] at H
            exact absurd H (by simp)
          ·rw [if_neg c27] at H
           have c27b0 := decide_eq_false c27
           clear c27
           have H' := am H
           clear H
           have hnb35 := NB402_383.out
           have hnc35 := NB383_402.out
           have hnb36 := NB402_390.out
           have hnc36 := NB390_402.out
           have hcz37_0 : wr.cell? ⟨gb402, 0, none⟩ = some (.int .i64 ((rd_T100 l0_0 x28_1).f0)) := bc BK402 0
           have hcz37_1 : wr.cell? ⟨gb402, 1, none⟩ = some (.int .i64 ((rd_T100 l0_0 x28_1).f1)) := bc BK402 1
           have hcz37_2 : wr.cell? ⟨gb402, 2, none⟩ = some (.slice A401_2 ((rd_T100 l0_0 x28_1).f2).length c401_2) := bc BK402 2
           have hfz37_0 := bf BK402 0
           have hfz37_1 := bf BK402 1
           have hfz37_2 := bf BK402 2
           go_wp2
           go_loopg [5, 53] k2 (fun kq v5 v53 w' => ∃ (x5_3 : List Int) (x53_3 : Int), v53 = .int .i64 x53_3 ∧ Aside0 (impl_FileBytes.l2 kq x5_3 l0_0 (l0_0.length : Int) x28_1 ((rd_T100 l0_0 x28_1).f2) (((rd_T100 l0_0 x28_1).f2).length : Int) x53_3 = some r) ∧ Aside0 (kq ≤ k2) ∧ Aside0 (Kd.R (Kd.int .u8) 5 w' w.heap.size (fun _ => True) v5 x5_3) ∧ Aside0 (Kd.V k100 100 w' w.heap.size (fun k_ => some k_ ≠ (v5 : Value).ownBlock ∧ some k_ ≠ (v388 : Value).ownBlock ∧ k_ ≠ gb383 ∧ k_ ≠ gb402) v385 t384) ∧ Aside0 (Kd.S (Kd.slice 2 (Kd.int .i64)) 26 w' w.heap.size (fun _ => True) v388 t387) ∧ Aside0 (w'.heap[gb383]? = some (.cells #[(.slice (some ad401) l0_0.length c0_0)] 30 (0, 0))) ∧ Aside0 (w'.heap[gb390]? = some (.cells #[v385, v388] 92 (0, 0))) ∧ Aside0 (w'.heap[gb402]? = some (.cells #[.int .i64 ((rd_T100 l0_0 x28_1).f0), .int .i64 ((rd_T100 l0_0 x28_1).f1), (.slice A401_2 ((rd_T100 l0_0 x28_1).f2).length c401_2)] 100 (0, 0))) ∧ Aside0 (Below w.heap.size w w'))
           case atStart => exact ⟨(x5_2), (0), dr, H', ⟨Nat.le_refl _⟩, ⟨kR HO_5⟩, ⟨by (with_reducible repeat (first | apply Kd.V_alloc | apply Kd.V_drewN | apply Kd.V_drew)); exact Kd.V_mono HO_391000.out (fun _ hk => ⟨hk.1, ⟨hk.2.2.1, ⟨hk.2.2.2.1, hk.2.2.2.2⟩⟩⟩)⟩, ⟨by (with_reducible repeat (first | apply Kd.S_alloc | apply Kd.S_drewN | apply Kd.S_drew)); exact Kd.S_mono HO_391001.out (fun _ hk => trivial)⟩, ⟨bp BK383⟩, ⟨bp BK390⟩, ⟨bp BK402⟩, ⟨bw HB⟩⟩
           case round =>
            clear H'
            (try clear c1); (try clear c2); (try clear p2); (try clear c3); (try clear c4); (try clear p4); (try clear q4); (try clear hx4); (try clear c5); (try clear c6); (try clear p6); (try clear c11); (try clear c17); (try clear c17b0); (try clear c18); (try clear c18b0); (try clear c19); (try clear c19b0); (try clear c21); (try clear c22); (try clear c24); (try clear c27); (try clear c27b0); (try clear c28); (try clear c28b0); (try clear c29); (try clear c29b0); (try clear c31); (try clear c35); (try clear c36); (try clear hcz12_0); (try clear hcz16_0); (try clear hcz23_0); (try clear hcz23_1); (try clear hcz23_2); (try clear hcz37_0); (try clear hcz37_1); (try clear hcz37_2); (try clear hcz7_0); (try clear hfz12_0); (try clear hfz16_0); (try clear hfz23_0); (try clear hfz23_1); (try clear hfz23_2); (try clear hfz37_0); (try clear hfz37_1); (try clear hfz37_2); (try clear hfz7_0); (try clear hx401_0); (try clear hx401_1); (try clear hx401_2); (try clear hx406_0); (try clear p2); (try clear p4); (try clear p401); (try clear p406); (try clear q4); (try clear q401); (try clear q406)
            obtain ⟨x5_3, x53_3, rfl, HA, HK3, HO_5, HO_391000, HO_391001, BK383, BK390, BK402, HB⟩ := hrel
            cases gk with
            | zero => exact absurd HA.out (by simp [impl_FileBytes.l2])
            | succ k3 =>
             have H := HA.out
             clear HA
             simp only [impl_FileBytes.l2] at H
             by_cases c38 : x53_3 < (((rd_T100 l0_0 x28_1).f2).length : Int)
             ·rw [if_pos c38] at H
              have c38b0 := decide_eq_true c38
              clear c38
              by_cases c39 : 0 ≤ x53_3
              ·rw [if_pos c39] at H
               have c39b0 := decide_eq_true c39
               clear c39
               by_cases c40 : x53_3 < (((rd_T100 l0_0 x28_1).f2).length : Int)
               ·rw [if_pos c40] at H
                have c40b0 := decide_eq_true c40
                clear c40
                replace H := Option.bind_eq_some_iff.mp H
                obtain ⟨t415, A410, H⟩ := H
                replace H : (if x5_3.length + t415.length < 140737488355328 then ((some (x5_3 ++ t415 : List Int)).bind fun y418 => ((impl_numBytes.f k3 ((rd_T102 ((rd_T100 l0_0 x28_1).f2) x53_3).f1)).bind fun t421 => (if y418.length + t421.length < 140737488355328 then (impl_FileBytes.l2 k3 (y418 ++ t421) l0_0 (l0_0.length : Int) x28_1 ((rd_T100 l0_0 x28_1).f2) (((rd_T100 l0_0 x28_1).f2).length : Int) (wrap64 (x53_3 + 1))) else (none)))) else (none)) = some r := H
                have A41 := am A410
                clear A410
                by_cases c42 : x5_3.length + t415.length < 140737488355328
                ·rw [if_pos c42] at H
                 have LMc42 := am c42
                 clear c42
                 obtain ⟨y418, hy418⟩ : ∃ y_ : List Int, y_ = (x5_3 ++ t415) := ⟨_, rfl⟩
                 replace H : ((impl_numBytes.f k3 ((rd_T102 ((rd_T100 l0_0 x28_1).f2) x53_3).f1)).bind fun t421 => (if y418.length + t421.length < 140737488355328 then (impl_FileBytes.l2 k3 (y418 ++ t421) l0_0 (l0_0.length : Int) x28_1 ((rd_T100 l0_0 x28_1).f2) (((rd_T100 l0_0 x28_1).f2).length : Int) (wrap64 (x53_3 + 1))) else (none))) = some r := by first | (rw [hy418]; with_reducible exact H) | (have H2_ := (Option.bind_some _ _).symm.trans H; rw [hy418]; with_reducible exact H2_) | (have H2_ := (Option.bind_some _ _).symm.trans H; with_reducible exact H2_) | with_reducible exact H | (rw [hy418]; exact H) | exact H
                 have Ny418 := am hy418
                 clear hy418
                 replace H := Option.bind_eq_some_iff.mp H
                 obtain ⟨t421, A430, H⟩ := H
                 replace H : (if y418.length + t421.length < 140737488355328 then (impl_FileBytes.l2 k3 (y418 ++ t421) l0_0 (l0_0.length : Int) x28_1 ((rd_T100 l0_0 x28_1).f2) (((rd_T100 l0_0 x28_1).f2).length : Int) (wrap64 (x53_3 + 1))) else (none)) = some r := H
                 have A43 := am A430
                 clear A430
                 by_cases c44 : y418.length + t421.length < 140737488355328
                 ·rw [if_pos c44] at H
                  have LMc44 := am c44
                  clear c44
                  obtain ⟨y424, hy424⟩ : ∃ y_ : List Int, y_ = (y418 ++ t421) := ⟨_, rfl⟩
                  replace H : (impl_FileBytes.l2 k3 y424 l0_0 (l0_0.length : Int) x28_1 ((rd_T100 l0_0 x28_1).f2) (((rd_T100 l0_0 x28_1).f2).length : Int) (wrap64 (x53_3 + 1))) = some r := by first | (rw [hy424]; with_reducible exact H) | (have H2_ := (Option.bind_some _ _).symm.trans H; rw [hy424]; with_reducible exact H2_) | (have H2_ := (Option.bind_some _ _).symm.trans H; with_reducible exact H2_) | with_reducible exact H | (rw [hy424]; exact H) | exact H
                  have Ny424 := am hy424
                  clear hy424
                  have H' := am H
                  clear H
                  have p413 : 0 ≤ (x53_3 : Int) := of_decide_eq_true as1
                  have q413 : x53_3 < (((rd_T100 l0_0 x28_1).f2).length : Int) := of_decide_eq_true as1
                  obtain ⟨ad413, e413, hx413_0, hx413_1⟩ := at_T102 HR401_2.out x53_3 p413 q413
                  cases e413
                  replace hx413_0 := (HB.out.cell (World.block_lt_of_cell? w _ hx413_0)).trans hx413_0
                  replace hx413_1 := (HB.out.cell (World.block_lt_of_cell? w _ hx413_1)).trans hx413_1
                  replace p413 := eq_true p413
                  replace q413 := eq_true q413
                  try go_wp2_with (first | ((with_reducible refine gate_dst (N := 11) rfl ?_); refine box_event ?hg (N := 11) ?hd (cs := #[.int .i64 0, .int .i64 0]) (t := 102) ?hr ?_; (case hd => rfl); (case hg => rfl); (case hr => exact gs); intro gb414 hg w45 hbox hb; replace HO_5 := am (Kd.R_below (kR HO_5) hb); replace HO_391000 := am (Kd.V_below (Kd.V_elderB (kV HO_391000) gb414 (Nat.le_of_eq hg.symm)) hb); replace HO_391001 := am (Kd.S_below (kS HO_391001) hb); have BK414 := am (hbox); have GW414 := am ((by rw [hg]; exact (below_size (bw HB)) : w.heap.size ≤ gb414)); have GE414 := am ((by rw [hg]; exact (below_size (bw HB)) : w.heap.size ≤ gb414)); replace HB := am (below_step (bw HB) hb); have NB383_414 := am ((by rw [hg]; exact Nat.ne_of_lt (blk_lt (g := gb383) (o := .cells #[.slice (some ad401) l0_0.length c0_0] 30 (0, 0)) (bp BK383)) : gb383 ≠ gb414)); have NB414_383 := am ((by rw [hg]; exact Nat.ne_of_gt (blk_lt (g := gb383) (o := .cells #[.slice (some ad401) l0_0.length c0_0] 30 (0, 0)) (bp BK383)) : gb414 ≠ gb383)); replace BK383 := am (blk_below (g := gb383) (o := .cells #[.slice (some ad401) l0_0.length c0_0] 30 (0, 0)) (bp BK383) hb); have NB390_414 := am ((by rw [hg]; exact Nat.ne_of_lt (blk_lt (g := gb390) (o := .cells #[v385, v388] 92 (0, 0)) (bp BK390)) : gb390 ≠ gb414)); have NB414_390 := am ((by rw [hg]; exact Nat.ne_of_gt (blk_lt (g := gb390) (o := .cells #[v385, v388] 92 (0, 0)) (bp BK390)) : gb414 ≠ gb390)); replace BK390 := am (blk_below (g := gb390) (o := .cells #[v385, v388] 92 (0, 0)) (bp BK390) hb); have NB402_414 := am ((by rw [hg]; exact Nat.ne_of_lt (blk_lt (g := gb402) (o := .cells #[.int .i64 ((rd_T100 l0_0 x28_1).f0), .int .i64 ((rd_T100 l0_0 x28_1).f1), .slice (some ad413) ((rd_T100 l0_0 x28_1).f2).length c401_2] 100 (0, 0)) (bp BK402)) : gb402 ≠ gb414)); have NB414_402 := am ((by rw [hg]; exact Nat.ne_of_gt (blk_lt (g := gb402) (o := .cells #[.int .i64 ((rd_T100 l0_0 x28_1).f0), .int .i64 ((rd_T100 l0_0 x28_1).f1), .slice (some ad413) ((rd_T100 l0_0 x28_1).f2).length c401_2] 100 (0, 0)) (bp BK402)) : gb414 ≠ gb402)); replace BK402 := am (blk_below (g := gb402) (o := .cells #[.int .i64 ((rd_T100 l0_0 x28_1).f0), .int .i64 ((rd_T100 l0_0 x28_1).f1), .slice (some ad413) ((rd_T100 l0_0 x28_1).f2).length c401_2] 100 (0, 0)) (bp BK402) hb); clear hb hbox hg; have hnb46 := NB414_383.out; have hnc46 := NB383_414.out; have hnb47 := NB414_390.out; have hnc47 := NB390_414.out; have hnb48 := NB414_402.out; have hnc48 := NB402_414.out; have hcz49_0 : w45.cell? ⟨gb414, 0, none⟩ = some (.int .i64 0) := bc BK414 0; have hcz49_1 : w45.cell? ⟨gb414, 1, none⟩ = some (.int .i64 0) := bc BK414 1; have hfz49_0 := bf BK414 0; have hfz49_1 := bf BK414 1))
                  have n0_ : Aside0 (Kd.R (Kd.int .u8) 5 ((w45.setCell ⟨gb414, 0, none⟩ (.int .i64 ((rd_T102 ((rd_T100 l0_0 x28_1).f2) x53_3).f0))).setCell ⟨gb414, 1, none⟩ (.int .i64 ((rd_T102 ((rd_T100 l0_0 x28_1).f2) x53_3).f1))) w.heap.size (fun _ => True) u5 x5_3) := ⟨by (with_reducible repeat (first | apply Kd.R_alloc | apply Kd.R_drewN | apply Kd.R_drew)); exact Kd.R_mono (Kd.R_far (p := ⟨gb414, 1, none⟩) (Kd.R_far (p := ⟨gb414, 0, none⟩) (Kd.R_types HO_5.out BK414.out (by decide)) (fun _ hk => hk.2) (.int .i64 ((rd_T102 ((rd_T100 l0_0 x28_1).f2) x53_3).f0))) (fun _ hk => hk.2) (.int .i64 ((rd_T102 ((rd_T100 l0_0 x28_1).f2) x53_3).f1))) (fun _ hk => trivial)⟩
                  have n1_ : Aside0 (Kd.V k100 100 ((w45.setCell ⟨gb414, 0, none⟩ (.int .i64 ((rd_T102 ((rd_T100 l0_0 x28_1).f2) x53_3).f0))).setCell ⟨gb414, 1, none⟩ (.int .i64 ((rd_T102 ((rd_T100 l0_0 x28_1).f2) x53_3).f1))) w.heap.size (fun k_ => some k_ ≠ (u5 : Value).ownBlock ∧ some k_ ≠ (v388 : Value).ownBlock ∧ k_ ≠ gb383 ∧ k_ ≠ gb402 ∧ k_ ≠ gb414) v385 t384) := ⟨by (with_reducible repeat (first | apply Kd.V_alloc | apply Kd.V_drewN | apply Kd.V_drew)); exact Kd.V_mono (Kd.V_far (p := ⟨gb414, 1, none⟩) (Kd.V_far (p := ⟨gb414, 0, none⟩) (Kd.V_mono HO_391000.out (fun k_ hk => (⟨hk, hk.2⟩ : _ ∧ k_ ≠ gb414))) (fun _ hk => hk.2) (.int .i64 ((rd_T102 ((rd_T100 l0_0 x28_1).f2) x53_3).f0))) (fun _ hk => hk.2) (.int .i64 ((rd_T102 ((rd_T100 l0_0 x28_1).f2) x53_3).f1))) (fun _ hk => ⟨hk.1.1.1, ⟨hk.1.1.2.1, ⟨hk.1.1.2.2.1, ⟨hk.1.1.2.2.2, hk.1.2⟩⟩⟩⟩)⟩
                  have n2_ : Aside0 (Kd.S (Kd.slice 2 (Kd.int .i64)) 26 ((w45.setCell ⟨gb414, 0, none⟩ (.int .i64 ((rd_T102 ((rd_T100 l0_0 x28_1).f2) x53_3).f0))).setCell ⟨gb414, 1, none⟩ (.int .i64 ((rd_T102 ((rd_T100 l0_0 x28_1).f2) x53_3).f1))) w.heap.size (fun _ => True) v388 t387) := ⟨by (with_reducible repeat (first | apply Kd.S_alloc | apply Kd.S_drewN | apply Kd.S_drew)); exact Kd.S_mono (Kd.S_far (p := ⟨gb414, 1, none⟩) (Kd.S_far (p := ⟨gb414, 0, none⟩) (Kd.S_types HO_391001.out BK414.out (by decide)) (fun _ hk => hk.2) (.int .i64 ((rd_T102 ((rd_T100 l0_0 x28_1).f2) x53_3).f0))) (fun _ hk => hk.2) (.int .i64 ((rd_T102 ((rd_T100 l0_0 x28_1).f2) x53_3).f1))) (fun _ hk => trivial)⟩
                  have n3_ : Aside0 (((w45.setCell ⟨gb414, 0, none⟩ (.int .i64 ((rd_T102 ((rd_T100 l0_0 x28_1).f2) x53_3).f0))).setCell ⟨gb414, 1, none⟩ (.int .i64 ((rd_T102 ((rd_T100 l0_0 x28_1).f2) x53_3).f1))).heap[gb383]? = some (.cells #[.slice (some ad401) l0_0.length c0_0] 30 (0, 0))) := ⟨by (with_reducible repeat (first | apply dN | apply dW | apply dA)); refine blk_far ?_ NB383_414.out _; (with_reducible repeat (first | apply dN | apply dW | apply dA)); refine blk_far ?_ NB383_414.out _; exact bp BK383⟩
                  have n4_ : Aside0 (((w45.setCell ⟨gb414, 0, none⟩ (.int .i64 ((rd_T102 ((rd_T100 l0_0 x28_1).f2) x53_3).f0))).setCell ⟨gb414, 1, none⟩ (.int .i64 ((rd_T102 ((rd_T100 l0_0 x28_1).f2) x53_3).f1))).heap[gb390]? = some (.cells #[v385, v388] 92 (0, 0))) := ⟨by (with_reducible repeat (first | apply dN | apply dW | apply dA)); refine blk_far ?_ NB390_414.out _; (with_reducible repeat (first | apply dN | apply dW | apply dA)); refine blk_far ?_ NB390_414.out _; exact bp BK390⟩
                  have n5_ : Aside0 (((w45.setCell ⟨gb414, 0, none⟩ (.int .i64 ((rd_T102 ((rd_T100 l0_0 x28_1).f2) x53_3).f0))).setCell ⟨gb414, 1, none⟩ (.int .i64 ((rd_T102 ((rd_T100 l0_0 x28_1).f2) x53_3).f1))).heap[gb402]? = some (.cells #[.int .i64 ((rd_T100 l0_0 x28_1).f0), .int .i64 ((rd_T100 l0_0 x28_1).f1), .slice (some ad413) ((rd_T100 l0_0 x28_1).f2).length c401_2] 100 (0, 0))) := ⟨by (with_reducible repeat (first | apply dN | apply dW | apply dA)); refine blk_far ?_ NB402_414.out _; (with_reducible repeat (first | apply dN | apply dW | apply dA)); refine blk_far ?_ NB402_414.out _; exact bp BK402⟩
                  have n6_ : Aside0 (((w45.setCell ⟨gb414, 0, none⟩ (.int .i64 ((rd_T102 ((rd_T100 l0_0 x28_1).f2) x53_3).f0))).setCell ⟨gb414, 1, none⟩ (.int .i64 ((rd_T102 ((rd_T100 l0_0 x28_1).f2) x53_3).f1))).heap[gb414]? = some (.cells #[.int .i64 ((rd_T102 ((rd_T100 l0_0 x28_1).f2) x53_3).f0), .int .i64 ((rd_T102 ((rd_T100 l0_0 x28_1).f2) x53_3).f1)] 102 (0, 0))) := ⟨by (with_reducible repeat (first | apply dN | apply dW | apply dA)); refine blk_put (cs := #[.int .i64 ((rd_T102 ((rd_T100 l0_0 x28_1).f2) x53_3).f0), .int .i64 0]) ?_ 1 _ rfl; (with_reducible repeat (first | apply dN | apply dW | apply dA)); refine blk_put (cs := #[.int .i64 0, .int .i64 0]) ?_ 0 _ rfl; exact bp BK414⟩
                  have n7_ : Aside0 (Below w.heap.size w ((w45.setCell ⟨gb414, 0, none⟩ (.int .i64 ((rd_T102 ((rd_T100 l0_0 x28_1).f2) x53_3).f0))).setCell ⟨gb414, 1, none⟩ (.int .i64 ((rd_T102 ((rd_T100 l0_0 x28_1).f2) x53_3).f1)))) := ⟨bw HB⟩
                  (try clear HO_5)
                  (try clear HO_391000)
                  (try clear HO_391001)
                  (try clear BK383)
                  (try clear BK390)
                  (try clear BK402)
                  (try clear BK414)
                  (try clear HB)
                  generalize ((w45.setCell ⟨gb414, 0, none⟩ (.int .i64 ((rd_T102 ((rd_T100 l0_0 x28_1).f2) x53_3).f0))).setCell ⟨gb414, 1, none⟩ (.int .i64 ((rd_T102 ((rd_T100 l0_0 x28_1).f2) x53_3).f1))) = w50 at n0_ n1_ n2_ n3_ n4_ n5_ n6_ n7_ ⊢
                  have HO_5 := n0_
                  have HO_391000 := n1_
                  have HO_391001 := n2_
                  have BK383 := n3_
                  have BK390 := n4_
                  have BK402 := n5_
                  have BK414 := n6_
                  have HB := n7_
                  clear n0_ n1_ n2_ n3_ n4_ n5_ n6_ n7_
                  have n0_ := am (Kd.R_drew HO_5.out)
                  have n1_ := am (Kd.V_drew HO_391000.out)
                  have n2_ := am (Kd.S_drew HO_391001.out)
                  have n3_ := am (blk_drew BK383.out)
                  have n4_ := am (blk_drew BK390.out)
                  have n5_ := am (blk_drew BK402.out)
                  have n6_ := am (blk_drew BK414.out)
                  have n7_ := am (below_drew1 HB.out)
                  clear HO_5
                  clear HO_391000
                  clear HO_391001
                  clear BK383
                  clear BK390
                  clear BK402
                  clear BK414
                  clear HB
                  have HO_5 := n0_
                  have HO_391000 := n1_
                  have HO_391001 := n2_
                  have BK383 := n3_
                  have BK390 := n4_
                  have BK402 := n5_
                  have BK414 := n6_
                  have HB := n7_
                  clear n0_ n1_ n2_ n3_ n4_ n5_ n6_ n7_
                  refine start_ (n := 10) (S := fun w' => w'.cell? ⟨gb414, 0, none⟩ = some (.int .i64 ((rd_T102 ((rd_T100 l0_0 x28_1).f2) x53_3).f0)) ∧ w'.cell? ⟨gb414, 1, none⟩ = some (.int .i64 ((rd_T102 ((rd_T100 l0_0 x28_1).f2) x53_3).f1))) (ds := []) #[false, false, false, false, false, false, false, false, false, false] (by kernel_rfl) rfl rfl ⟨bc BK414 0, bc BK414 1⟩ (fun hHeld => ?_); refine with_tabW impl_FileBytes.tab16 impl_FileBytes.bits16 (fun HT_ HW_ => ?_)
                  generalize w50.drew = w51 at HO_5 HO_391000 HO_391001 BK383 BK390 BK402 BK414 HB hHeld ⊢
                  refine pure_ (i := 0) (N := some 57) (v := ?_) (a' := ?_) #[true, false, false, false, false, false, false, false, false, false] rfl rfl (any_of HT_.out (by kernel_rfl)) (fun _ _ _ h => h) (Or.inl ⟨by rfl, ?_⟩) ?_ ?_
                  rotate_left
                  ·intro w'
                   go_simp
                   with_reducible rfl
                  rotate_left
                  ·simp only [Act.put, sa, sz, ss, i64_w, i32_w]
                   rfl
                  refine pure_ (i := 1) (N := some 58) (v := ?_) (a' := ?_) #[true, true, false, false, false, false, false, false, false, false] rfl rfl (any_of HT_.out (by kernel_rfl)) (fun _ _ _ h => h) (Or.inl ⟨by rfl, ?_⟩) ?_ ?_
                  rotate_left
                  ·intro w'
                   go_simp
                   with_reducible rfl
                  rotate_left
                  ·simp only [Act.put, sa, sz, ss, i64_w, i32_w]
                   rfl
                  refine pure_ (i := 5) (N := some 62) (v := ?_) (a' := ?_) #[true, true, false, false, false, true, false, false, false, false] rfl rfl (any_of HT_.out (by kernel_rfl)) (fun _ _ _ h => h) (Or.inl ⟨by rfl, ?_⟩) ?_ ?_
                  rotate_left
                  ·intro w'
                   go_simp
                   with_reducible rfl
                  rotate_left
                  ·simp only [Act.put, sa, sz, ss, i64_w, i32_w]
                   rfl
                  refine take_ (i := 2) (N := some 59) (v := ?_) (a' := ?_) #[true, true, true, false, false, true, false, false, false, false] rfl rfl (take_ofW HT_.out HW_.out (by kernel_rfl)) (fun _ _ _ h => h) (Or.inl ⟨by rfl, ?_⟩) hHeld ?_ ?_
                  rotate_left
                  ·rintro w' ⟨s0, s1⟩
                   go_simp
                   with_reducible rfl
                  rotate_left
                  ·simp only [Act.put, sa, sz, ss, i64_w, i32_w]
                   rfl
                  refine take_ (i := 6) (N := some 63) (v := ?_) (a' := ?_) #[true, true, true, false, false, true, true, false, false, false] rfl rfl (take_ofW HT_.out HW_.out (by kernel_rfl)) (fun _ _ _ h => h) (Or.inl ⟨by rfl, ?_⟩) hHeld ?_ ?_
                  rotate_left
                  ·rintro w' ⟨s0, s1⟩
                   go_simp
                   with_reducible rfl
                  rotate_left
                  ·simp only [Act.put, sa, sz, ss, i64_w, i32_w]
                   rfl
                  refine one_ (i := 3) (N := some 60) #[true, true, true, true, false, true, true, false, false, false] rfl rfl (one_of HT_.out (by kernel_rfl)) (by decide) (fun K hK => ?_)
                  refine goes_ Try.func67 (by kernel_rfl) rfl #[.int .i64 ((rd_T102 ((rd_T100 l0_0 x28_1).f2) x53_3).f0)] (by rfl) rfl rfl gl ?_
                  with_reducible refine (impl_numBytes.calls k3 ((rd_T102 ((rd_T100 l0_0 x28_1).f2) x53_3).f0) t415 _ A41.out).mono ?_
                  rintro e w52 ⟨v416, rfl, ho0, hb⟩
                  refine ⟨_, rfl, ?_⟩
                  have n0_ := am (Kd.R_elder' (kR HO_5) (Kd.R_base ho0) hb)
                  have n1_ := am (Kd.V_elder' (kV HO_391000) (Kd.R_base ho0) hb)
                  have n2_ := am (Kd.S_below (kS HO_391001) hb)
                  have n3_ := am (Kd.R_lower (Kd.R_new' ho0 (Kd.R_lt (kR HO_5))) (below_size (bw HB)))
                  have n4_ := am (blk_below (g := gb383) (o := .cells #[.slice (some ad401) l0_0.length c0_0] 30 (0, 0)) (bp BK383) hb)
                  have n5_ := am (blk_below (g := gb390) (o := .cells #[v385, v388] 92 (0, 0)) (bp BK390) hb)
                  have n6_ := am (blk_below (g := gb402) (o := .cells #[.int .i64 ((rd_T100 l0_0 x28_1).f0), .int .i64 ((rd_T100 l0_0 x28_1).f1), .slice (some ad413) ((rd_T100 l0_0 x28_1).f2).length c401_2] 100 (0, 0)) (bp BK402) hb)
                  have n7_ := am (blk_below (g := gb414) (o := .cells #[.int .i64 ((rd_T102 ((rd_T100 l0_0 x28_1).f2) x53_3).f0), .int .i64 ((rd_T102 ((rd_T100 l0_0 x28_1).f2) x53_3).f1)] 102 (0, 0)) (bp BK414) hb)
                  have n8_ := am (below_step (bw HB) hb)
                  clear HO_5
                  clear HO_391000
                  clear HO_391001
                  clear BK383
                  clear BK390
                  clear BK402
                  clear BK414
                  clear HB
                  have HO_5 := n0_
                  have HO_391000 := n1_
                  have HO_391001 := n2_
                  have HO417 := n3_
                  have BK383 := n4_
                  have BK390 := n5_
                  have BK402 := n6_
                  have BK414 := n7_
                  have HB := n8_
                  clear n0_ n1_ n2_ n3_ n4_ n5_ n6_ n7_ n8_
                  (try clear hb)
                  (try clear hb2)
                  (try clear hk)
                  (try clear hi)
                  (try clear ho0)
                  obtain ⟨Ao54, co54, eo54⟩ := Kd.R_slice HO417.out
                  (first | subst eo54 | (injection eo54 with f1_ f2_ f3_; have f4_ := f1_.symm; have f5_ := f3_.symm; clear f1_ f2_ f3_; subst f4_; subst f5_))
                  refine hK.out _ _ ⟨bc BK414 0, bc BK414 1⟩ (fun hHeld => ?_)
                  clear hK K
                  refine norm_ (a' := ?_) ?_ ?_
                  rotate_left
                  ·show Act.put _ (some 60) _ = _
                   simp only [Act.put, sa, sz, ss, i64_w, i32_w]
                   rfl
                  refine one_ (i := 4) (N := some 61) #[true, true, true, true, true, true, true, false, false, false] rfl rfl (one_of HT_.out (by kernel_rfl)) (by decide) (fun K hK => ?_)
                  refine Kd.R_append_rows_step (Kd.int .u8) (w0 := w) w.heap.size (by rfl) (.tmp 57) (.tmp 60) 96 5 (.int .u8 0) 1 rfl Try.underlying96 info5 rfl (by decide) (by omega) u5 x5_3 t415 _ _ _ (fun k_ => some k_ ≠ (.slice Ao54 t415.length co54 : Value).ownBlock) (fun _ => False) rfl rfl ?aO ?aR (fun _ _ h => h) (fun _ h => h.elim) ?aF ?aB ?aS ?aL ?_
                  (case aR => exact cc (Kd.R_reads' HO417.out).2.2)
                  (case aB => exact (bw HB))
                  (case aF => exact (fun k_ hk => Kd.fresh' (Kd.R_lt (kR HO417)) k_ hk))
                  (case aO => exact (by (with_reducible repeat (first | apply Kd.R_alloc | apply Kd.R_drewN | apply Kd.R_drew)); exact Kd.R_mono HO_5.out (fun _ hk => hk.2)))
                  (case aS => exact (below_size (bw HB)))
                  (case aL => have := LMc42.out; omega)
                  intro v419 w53 ho hb hg hat
                  rw [← Ny418.out] at ho
                  have n0_ := am (Kd.V_afterv (ok := (fun k_ => some k_ ≠ (v388 : Value).ownBlock ∧ some k_ ≠ (.slice Ao54 t415.length co54 : Value).ownBlock ∧ k_ ≠ gb383 ∧ k_ ≠ gb402 ∧ k_ ≠ gb414)) (by (with_reducible repeat (first | apply Kd.V_alloc | apply Kd.V_drewN | apply Kd.V_drew)); exact Kd.V_mono HO_391000.out (fun _ hk => ⟨⟨hk.1.2.1, ⟨hk.2, ⟨hk.1.2.2.1, ⟨hk.1.2.2.2.1, hk.1.2.2.2.2⟩⟩⟩⟩, hk.1.1⟩)) hg hat)
                  have n1_ := am (Kd.S_over' (kS HO_391001) (Kd.R_typed (kR HO_5)) (by decide) hg)
                  have n2_ := am (blk_grown (g := gb383) (o := .cells #[.slice (some ad401) l0_0.length c0_0] 30 (0, 0)) (bp BK383) hg (Kd.R_ne HO_5.out BK383.out (by decide)))
                  have n3_ := am (blk_grown (g := gb390) (o := .cells #[v385, v388] 92 (0, 0)) (bp BK390) hg (Kd.R_ne HO_5.out BK390.out (by decide)))
                  have n4_ := am (blk_grown (g := gb402) (o := .cells #[.int .i64 ((rd_T100 l0_0 x28_1).f0), .int .i64 ((rd_T100 l0_0 x28_1).f1), .slice (some ad413) ((rd_T100 l0_0 x28_1).f2).length c401_2] 100 (0, 0)) (bp BK402) hg (Kd.R_ne HO_5.out BK402.out (by decide)))
                  have n5_ := am (blk_grown (g := gb414) (o := .cells #[.int .i64 ((rd_T102 ((rd_T100 l0_0 x28_1).f2) x53_3).f0), .int .i64 ((rd_T102 ((rd_T100 l0_0 x28_1).f2) x53_3).f1)] 102 (0, 0)) (bp BK414) hg (Kd.R_ne HO_5.out BK414.out (by decide)))
                  have n6_ := am (Kd.R_after (ok := (fun _ => True)) (kR HO417) hg hat)
                  have n7_ := am (hb)
                  have n8_ := am (ho)
                  clear HO_391000
                  clear HO_391001
                  clear BK383
                  clear BK390
                  clear BK402
                  clear BK414
                  clear HO417
                  clear HB
                  clear HO_5
                  have HO_391000 := n0_
                  have HO_391001 := n1_
                  have BK383 := n2_
                  have BK390 := n3_
                  have BK402 := n4_
                  have BK414 := n5_
                  have HO417 := n6_
                  have HB := n7_
                  have HO420 := n8_
                  clear n0_ n1_ n2_ n3_ n4_ n5_ n6_ n7_ n8_
                  clear ho hb hg hat
                  refine hK.out _ _ ⟨bc BK414 0, bc BK414 1⟩ (fun hHeld => ?_)
                  clear hK K
                  refine norm_ (a' := ?_) ?_ ?_
                  rotate_left
                  ·show Act.put _ (some 61) _ = _
                   simp only [Act.put, sa, sz, ss, i64_w, i32_w]
                   rfl
                  refine one_ (i := 7) (N := some 64) #[true, true, true, true, true, true, true, true, false, false] rfl rfl (one_of HT_.out (by kernel_rfl)) (by decide) (fun K hK => ?_)
                  refine goes_ Try.func67 (by kernel_rfl) rfl #[.int .i64 ((rd_T102 ((rd_T100 l0_0 x28_1).f2) x53_3).f1)] (by rfl) rfl rfl gl ?_
                  with_reducible refine (impl_numBytes.calls k3 ((rd_T102 ((rd_T100 l0_0 x28_1).f2) x53_3).f1) t421 _ A43.out).mono ?_
                  rintro e w55 ⟨v422, rfl, ho0, hb⟩
                  refine ⟨_, rfl, ?_⟩
                  have n0_ := am (Kd.V_elder' (kV HO_391000) (Kd.R_base ho0) hb)
                  have n1_ := am (Kd.S_below (kS HO_391001) hb)
                  have n2_ := am (Kd.R_elder' (kR HO417) (Kd.R_base ho0) hb)
                  have n3_ := am (Kd.R_elder' (kR HO420) (Kd.R_base ho0) hb)
                  have n4_ := am (Kd.R_lower (Kd.R_new' (Kd.R_new' ho0 (Kd.R_lt (kR HO417))) (Kd.R_lt (kR HO420))) (below_size (bw HB)))
                  have n5_ := am (blk_below (g := gb383) (o := .cells #[.slice (some ad401) l0_0.length c0_0] 30 (0, 0)) (bp BK383) hb)
                  have n6_ := am (blk_below (g := gb390) (o := .cells #[v385, v388] 92 (0, 0)) (bp BK390) hb)
                  have n7_ := am (blk_below (g := gb402) (o := .cells #[.int .i64 ((rd_T100 l0_0 x28_1).f0), .int .i64 ((rd_T100 l0_0 x28_1).f1), .slice (some ad413) ((rd_T100 l0_0 x28_1).f2).length c401_2] 100 (0, 0)) (bp BK402) hb)
                  have n8_ := am (blk_below (g := gb414) (o := .cells #[.int .i64 ((rd_T102 ((rd_T100 l0_0 x28_1).f2) x53_3).f0), .int .i64 ((rd_T102 ((rd_T100 l0_0 x28_1).f2) x53_3).f1)] 102 (0, 0)) (bp BK414) hb)
                  have n9_ := am (below_step (bw HB) hb)
                  clear HO_391000
                  clear HO_391001
                  clear HO417
                  clear HO420
                  clear BK383
                  clear BK390
                  clear BK402
                  clear BK414
                  clear HB
                  have HO_391000 := n0_
                  have HO_391001 := n1_
                  have HO417 := n2_
                  have HO420 := n3_
                  have HO423 := n4_
                  have BK383 := n5_
                  have BK390 := n6_
                  have BK402 := n7_
                  have BK414 := n8_
                  have HB := n9_
                  clear n0_ n1_ n2_ n3_ n4_ n5_ n6_ n7_ n8_ n9_
                  (try clear hb)
                  (try clear hb2)
                  (try clear hk)
                  (try clear hi)
                  (try clear ho0)
                  obtain ⟨Ao57, co57, eo57⟩ := Kd.R_slice HO423.out
                  (first | subst eo57 | (injection eo57 with f1_ f2_ f3_; have f4_ := f1_.symm; have f5_ := f3_.symm; clear f1_ f2_ f3_; subst f4_; subst f5_))
                  refine hK.out _ _ ⟨bc BK414 0, bc BK414 1⟩ (fun hHeld => ?_)
                  clear hK K
                  refine norm_ (a' := ?_) ?_ ?_
                  rotate_left
                  ·show Act.put _ (some 64) _ = _
                   simp only [Act.put, sa, sz, ss, i64_w, i32_w]
                   rfl
                  refine one_ (i := 8) (N := some 65) #[true, true, true, true, true, true, true, true, true, false] rfl rfl (one_of HT_.out (by kernel_rfl)) (by decide) (fun K hK => ?_)
                  refine Kd.R_append_rows_step (Kd.int .u8) (w0 := w) w.heap.size (by rfl) (.tmp 61) (.tmp 64) 96 5 (.int .u8 0) 1 rfl Try.underlying96 info5 rfl (by decide) (by omega) v419 y418 t421 _ _ _ (fun k_ => some k_ ≠ (.slice Ao54 t415.length co54 : Value).ownBlock ∧ some k_ ≠ (.slice Ao57 t421.length co57 : Value).ownBlock) (fun _ => False) rfl rfl ?aO ?aR (fun _ _ h => h) (fun _ h => h.elim) ?aF ?aB ?aS ?aL ?_
                  (case aR => exact cc (Kd.R_reads' HO423.out).2.2)
                  (case aB => exact (bw HB))
                  (case aF => exact (fun k_ hk => ⟨Kd.fresh' (Kd.R_lt (kR HO417)) k_ hk, Kd.fresh' (Kd.R_lt (kR HO423)) k_ hk⟩))
                  (case aO => exact (kR HO420))
                  (case aS => exact (below_size (bw HB)))
                  (case aL => have := LMc44.out; omega)
                  intro v425 w56 ho hb hg hat
                  rw [← Ny424.out] at ho
                  have n0_ := am (Kd.V_afterv (ok := (fun k_ => some k_ ≠ (v388 : Value).ownBlock ∧ some k_ ≠ (.slice Ao54 t415.length co54 : Value).ownBlock ∧ some k_ ≠ (.slice Ao57 t421.length co57 : Value).ownBlock ∧ k_ ≠ gb383 ∧ k_ ≠ gb402 ∧ k_ ≠ gb414)) (by (with_reducible repeat (first | apply Kd.V_alloc | apply Kd.V_drewN | apply Kd.V_drew)); exact Kd.V_mono HO_391000.out (fun _ hk => ⟨⟨hk.1.1.1, ⟨hk.1.1.2.1, ⟨hk.2, ⟨hk.1.1.2.2.1, ⟨hk.1.1.2.2.2.1, hk.1.1.2.2.2.2⟩⟩⟩⟩⟩, hk.1.2⟩)) hg hat)
                  have n1_ := am (Kd.S_over' (kS HO_391001) (Kd.R_typed (kR HO420)) (by decide) hg)
                  have n2_ := am (blk_grown (g := gb383) (o := .cells #[.slice (some ad401) l0_0.length c0_0] 30 (0, 0)) (bp BK383) hg (Kd.R_ne HO420.out BK383.out (by decide)))
                  have n3_ := am (blk_grown (g := gb390) (o := .cells #[v385, v388] 92 (0, 0)) (bp BK390) hg (Kd.R_ne HO420.out BK390.out (by decide)))
                  have n4_ := am (blk_grown (g := gb402) (o := .cells #[.int .i64 ((rd_T100 l0_0 x28_1).f0), .int .i64 ((rd_T100 l0_0 x28_1).f1), .slice (some ad413) ((rd_T100 l0_0 x28_1).f2).length c401_2] 100 (0, 0)) (bp BK402) hg (Kd.R_ne HO420.out BK402.out (by decide)))
                  have n5_ := am (blk_grown (g := gb414) (o := .cells #[.int .i64 ((rd_T102 ((rd_T100 l0_0 x28_1).f2) x53_3).f0), .int .i64 ((rd_T102 ((rd_T100 l0_0 x28_1).f2) x53_3).f1)] 102 (0, 0)) (bp BK414) hg (Kd.R_ne HO420.out BK414.out (by decide)))
                  have n6_ := am (Kd.R_after (ok := (fun k_ => some k_ ≠ (.slice Ao57 t421.length co57 : Value).ownBlock)) (by (with_reducible repeat (first | apply Kd.R_alloc | apply Kd.R_drewN | apply Kd.R_drew)); exact Kd.R_mono HO417.out (fun _ hk => ⟨hk.2, hk.1.2⟩)) hg hat)
                  have n7_ := am (Kd.R_after (ok := (fun k_ => some k_ ≠ (.slice Ao54 t415.length co54 : Value).ownBlock)) (by (with_reducible repeat (first | apply Kd.R_alloc | apply Kd.R_drewN | apply Kd.R_drew)); exact Kd.R_mono HO423.out (fun _ hk => ⟨hk.1.2, hk.2⟩)) hg hat)
                  have n8_ := am (hb)
                  have n9_ := am (ho)
                  clear HO_391000
                  clear HO_391001
                  clear BK383
                  clear BK390
                  clear BK402
                  clear BK414
                  clear HO417
                  clear HO423
                  clear HB
                  clear HO420
                  have HO_391000 := n0_
                  have HO_391001 := n1_
                  have BK383 := n2_
                  have BK390 := n3_
                  have BK402 := n4_
                  have BK414 := n5_
                  have HO417 := n6_
                  have HO423 := n7_
                  have HB := n8_
                  have HO426 := n9_
                  clear n0_ n1_ n2_ n3_ n4_ n5_ n6_ n7_ n8_ n9_
                  clear ho hb hg hat
                  refine hK.out _ _ ⟨bc BK414 0, bc BK414 1⟩ (fun hHeld => ?_)
                  clear hK K
                  refine norm_ (a' := ?_) ?_ ?_
                  rotate_left
                  ·show Act.put _ (some 65) _ = _
                   simp only [Act.put, sa, sz, ss, i64_w, i32_w]
                   rfl
                  refine pure_ (i := 9) (N := some 5) (v := ?_) (a' := ?_) #[true, true, true, true, true, true, true, true, true, true] rfl rfl (any_of HT_.out (by kernel_rfl)) (fun _ _ _ h => h) (Or.inl ⟨by rfl, ?_⟩) ?_ ?_
                  rotate_left
                  ·intro w'
                   go_simp
                   with_reducible rfl
                  rotate_left
                  ·simp only [Act.put, sa, sz, ss, i64_w, i32_w]
                   rfl
                  refine done_ (done_of HT_.out (by kernel_rfl)) ?_
                  try go_wp2
                  go_roundg k3
                  case measure => have := HK1.out; have := HK2.out; have := HK3.out; omega
                  case rel => exact ⟨(y424), (wrap64 (x53_3 + 1)), dr, H', ⟨by have := HK1.out; have := HK2.out; have := HK3.out; omega⟩, ⟨by (with_reducible repeat (first | apply Kd.R_alloc | apply Kd.R_drewN | apply Kd.R_drew)); exact Kd.R_mono HO426.out (fun _ hk => trivial)⟩, ⟨by (with_reducible repeat (first | apply Kd.V_alloc | apply Kd.V_drewN | apply Kd.V_drew)); exact Kd.V_mono HO_391000.out (fun _ hk => ⟨hk.2, ⟨hk.1.1, ⟨hk.1.2.2.2.1, hk.1.2.2.2.2.1⟩⟩⟩)⟩, ⟨kS HO_391001⟩, ⟨bp BK383⟩, ⟨bp BK390⟩, ⟨bp BK402⟩, ⟨bw HB⟩⟩
                 ·rw [if_neg c44] at H
                  exact absurd H (by simp)
                ·rw [if_neg c42] at H
                 exact absurd H (by simp)
               ·rw [if_neg c40] at H
                exact absurd H (by simp)
              ·rw [if_neg c39] at H
               exact absurd H (by simp)
             ·rw [if_neg c38] at H
              have c38b0 := decide_eq_false c38
              clear c38
              have H' := am H
              clear H
              go_wp2
              go_roundg k3
              case measure => have := HK1.out; have := HK2.out; have := HK3.out; omega
              case rel => exact ⟨(x5_3), (wrap64 (x28_1 + 1)), dr, H', ⟨by have := HK1.out; have := HK2.out; have := HK3.out; omega⟩, ⟨kR HO_5⟩, ⟨by (with_reducible repeat (first | apply Kd.V_alloc | apply Kd.V_drewN | apply Kd.V_drew)); exact Kd.V_mono HO_391000.out (fun _ hk => ⟨hk.1, ⟨hk.2.1, hk.2.2.1⟩⟩)⟩, ⟨kS HO_391001⟩, ⟨bp BK383⟩, ⟨bp BK390⟩, ⟨bw HB⟩⟩
       ·rw [if_neg c19] at H
        exact absurd H (by simp)
      ·rw [if_neg c18] at H
       exact absurd H (by simp)
     ·rw [if_neg c17] at H
      have c17b0 := decide_eq_false c17
      clear c17
      replace H := Option.bind_eq_some_iff.mp H
      obtain ⟨t427, A580, H⟩ := H
      replace H : ((impl_numBytes.f k1 t427).bind fun t428 => (if x5_1.length + t428.length < 140737488355328 then (some (strOfNums (x5_1 ++ t428))) else (none))) = some r := H
      have A58 := am A580
      clear A580
      replace H := Option.bind_eq_some_iff.mp H
      obtain ⟨t428, A590, H⟩ := H
      replace H : (if x5_1.length + t428.length < 140737488355328 then (some (strOfNums (x5_1 ++ t428))) else (none)) = some r := H
      have A59 := am A590
      clear A590
      by_cases c60 : x5_1.length + t428.length < 140737488355328
      ·rw [if_pos c60] at H
       have LMc60 := am c60
       clear c60
       obtain ⟨y431, hy431⟩ : ∃ y_ : List Int, y_ = (x5_1 ++ t428) := ⟨_, rfl⟩
       replace H : (some (strOfNums y431)) = some r := by first | (rw [hy431]; with_reducible exact H) | (have H2_ := (Option.bind_some _ _).symm.trans H; rw [hy431]; with_reducible exact H2_) | (have H2_ := (Option.bind_some _ _).symm.trans H; with_reducible exact H2_) | with_reducible exact H | (rw [hy431]; exact H) | exact H
       have Ny431 := am hy431
       clear hy431
       obtain rfl := Option.some.inj H
       have hcv61 := own_string (P := Try.prog) Try.underlying96 Try.underlying5 Try.underlying9 (Kd.own_of_R HO_5.out)
       go_wp2_with (first | ((with_reducible refine gate_callee (f := 68) rfl ?_); refine goesL_ (some 71) rfl rfl Try.func68 (by kernel_rfl) rfl #[.string (strOfNums x5_1)] rfl gl ?_; (with_reducible refine (impl_sum.calls k1 (strOfNums x5_1) t427 _ A58.out).mono ?_); rintro e w' ⟨rfl, ⟨nd, rfl⟩⟩; refine ⟨_, rfl, ?_⟩) | ((with_reducible refine gate_callee (f := 67) rfl ?_); refine goesL_ (some 72) rfl rfl Try.func67 (by kernel_rfl) rfl #[.int .i64 t427] rfl gl ?_; (with_reducible refine (impl_numBytes.calls k1 t427 t428 _ A59.out).mono ?_); rintro e w62 ⟨v429, rfl, ho0, hb⟩; refine ⟨_, rfl, ?_⟩; replace HO_391000 := am (Kd.V_elder' (kV HO_391000) (Kd.R_base ho0) hb); replace HO_391001 := am (Kd.S_below (kS HO_391001) hb); have HO430 := am (Kd.R_lower (Kd.R_new' ho0 (Kd.R_lt (kR HO_5))) (below_size (bw HB))); replace HO_5 := am (Kd.R_elder' (kR HO_5) (Kd.R_base ho0) hb); replace BK383 := am (blk_below (g := gb383) (o := .cells #[.slice A0_0 l0_0.length c0_0] 30 (0, 0)) (bp BK383) hb); replace BK390 := am (blk_below (g := gb390) (o := .cells #[v385, v388] 92 (0, 0)) (bp BK390) hb); replace HB := am (below_step (bw HB) hb); (try clear hb); (try clear hb2); (try clear hk); (try clear hi); (try clear ho0); obtain ⟨Ao64, co64, eo64⟩ := Kd.R_slice HO430.out; subst eo64) | ((with_reducible refine gate_builtin (b := .append) (xs := #[.tmp 68, .tmp 72]) rfl ?_); at_builtin; refine Kd.R_append_rows (Kd.int .u8) (w0 := w) w.heap.size rfl (.tmp 68) (.tmp 72) 96 5 (.int .u8 0) 1 rfl Try.underlying96 info5 rfl (by decide) (by omega) u5 x5_1 t428 _ _ _ (fun k_ => some k_ ≠ (.slice Ao64 t428.length co64 : Value).ownBlock) (fun _ => False) rfl rfl ?aO ?aR (fun _ _ h => h) (fun _ h => h.elim) ?aF ?aB ?aS ?aL ?_; (case aR => exact cc (Kd.R_reads' HO430.out).2.2); (case aB => exact (bw HB)); (case aF => exact (fun k_ hk => Kd.fresh' (Kd.R_lt (kR HO430)) k_ hk)); (case aO => exact (by (with_reducible repeat (first | apply Kd.R_alloc | apply Kd.R_drewN | apply Kd.R_drew)); exact Kd.R_mono HO_5.out (fun _ hk => hk.2))); (case aS => exact (below_size (bw HB))); (case aL => have := LMc60.out; omega); intro v432 w63 ho hb hg hat; rw [← Ny431.out] at ho; replace HO_391000 := am (Kd.V_afterv (ok := (fun k_ => some k_ ≠ (v388 : Value).ownBlock ∧ some k_ ≠ (.slice Ao64 t428.length co64 : Value).ownBlock ∧ k_ ≠ gb383)) (by (with_reducible repeat (first | apply Kd.V_alloc | apply Kd.V_drewN | apply Kd.V_drew)); exact Kd.V_mono HO_391000.out (fun _ hk => ⟨⟨hk.1.2.1, ⟨hk.2, hk.1.2.2⟩⟩, hk.1.1⟩)) hg hat); replace HO_391001 := am (Kd.S_over' (kS HO_391001) (Kd.R_typed (kR HO_5)) (by decide) hg); replace BK383 := am (blk_grown (g := gb383) (o := .cells #[.slice A0_0 l0_0.length c0_0] 30 (0, 0)) (bp BK383) hg (Kd.R_ne HO_5.out BK383.out (by decide))); replace BK390 := am (blk_grown (g := gb390) (o := .cells #[v385, v388] 92 (0, 0)) (bp BK390) hg (Kd.R_ne HO_5.out BK390.out (by decide))); replace HO430 := am (Kd.R_after (ok := (fun _ => True)) (kR HO430) hg hat); replace HB := am (hb); have HO433 := am (ho); clear HO_5; clear ho hb hg hat; have hcv65 := own_string (P := Try.prog) Try.underlying96 Try.underlying5 Try.underlying9 (Kd.own_of_R HO433.out)))
       go_ret
       exact ⟨er, bw HB⟩
      ·rw [if_neg c60] at H
       exact absurd H (by simp)
  ·rw [if_neg c5] at H
   exact absurd H (by simp)
 ·replace c3 := Bool.eq_false_iff.mpr c3
  subst c3
  have H1 : (some (⟨#[]⟩ : ByteArray)) = some r := by rw [if_neg (show ¬ (false = true) by decide)] at H; exact H
  clear H
  have H := H1
  clear H1
  obtain rfl := Option.some.inj H
  go_enter Try.func24, Try.ntmps24
  go_wp2_with (first | ((with_reducible refine gate_dst (N := 1) rfl ?_); refine box_event ?hg (N := 1) ?hd (cs := #[.slice A0_0 l0_0.length c0_0]) (t := 30) ?hr ?_; (case hd => rfl); (case hg => rfl); (case hr => exact gs); intro gb383 hg w66 hbox hb; have BK383 := am (hbox); have GW383 := am ((by rw [hg]; exact (below_size (bw HB)) : w.heap.size ≤ gb383)); have GE383 := am ((by rw [hg]; exact (below_size (bw HB)) : w.heap.size ≤ gb383)); replace HB := am (below_step (bw HB) hb); clear hb hbox hg; have hcz67_0 : w66.cell? ⟨gb383, 0, none⟩ = some (.slice A0_0 l0_0.length c0_0) := bc BK383 0; have hfz67_0 := bf BK383 0) | ((with_reducible refine gate_callee (f := 66) rfl ?_); refine goesL_ (some 14) rfl rfl Try.func66 (by kernel_rfl) rfl #[.agg #[.slice A0_0 l0_0.length c0_0]] rfl gl ?_; (with_reducible refine (impl_known.calls k (fun k_ => k_ < w.heap.size) _ _ l0_0 t384 t387 false _ ?side1 A2.out).mono ?_); (case side1 => exact Kd.V_mk HC0_0.out (Kd.F_below (Kd.C_F k100_heap HR0_0.out) (bw HB))); rintro e w68 ⟨v385, v388, gb390, rfl, ho0, ho1, hbx, hgx, hb⟩; refine ⟨_, rfl, ?_⟩; have HO386 := am (Kd.V_lower (Kd.V_mono (ok' := fun k_ => some k_ ≠ (v388 : Value).ownBlock ∧ k_ ≠ gb383) ho0 (fun k_ hk_ => ⟨hk_.2, Or.elim hk_.1 (fun hs_ => fun e_ => Nat.not_le.2 hs_ (by rw [e_]; exact GW383.out)) (fun hn_ => (Kd.freshB (g := gb383) (o := .cells #[.slice A0_0 l0_0.length c0_0] 30 (0, 0)) (bp BK383) k_ hn_))⟩)) (below_size (bw HB))); have HO389 := am (Kd.S_lower (Kd.S_mono (ok' := fun k_ => True) ho1 (fun _ hk_ => trivial)) (below_size (bw HB))); have BK390 := am (hbx); have GW390 := am ((Nat.le_trans (below_size (bw HB)) hgx)); have GE390 := am ((Nat.le_trans (below_size (bw HB)) hgx)); have NB383_390 := am ((Nat.ne_of_lt (Nat.lt_of_lt_of_le (blk_lt (g := gb383) (o := .cells #[.slice A0_0 l0_0.length c0_0] 30 (0, 0)) (bp BK383)) hgx) : gb383 ≠ gb390)); have NB390_383 := am ((Nat.ne_of_gt (Nat.lt_of_lt_of_le (blk_lt (g := gb383) (o := .cells #[.slice A0_0 l0_0.length c0_0] 30 (0, 0)) (bp BK383)) hgx) : gb390 ≠ gb383)); replace BK383 := am (blk_below (g := gb383) (o := .cells #[.slice A0_0 l0_0.length c0_0] 30 (0, 0)) (bp BK383) hb); replace HB := am (below_step (bw HB) hb); (try clear hb); (try clear hb2); (try clear hk); (try clear hi); (try clear ho0); (try clear ho1); (try clear hbx); (try clear hgx)))
  go_ret
  exact ⟨er, bw HB⟩

end Go.Proofs.Ytbmjmaahcaoajaa.QFnExactFileBytes
