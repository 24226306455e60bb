import Derived.Test.YtopaefhfjioecaaCFnRangesx0
import Derived.Test.YtopaefhfjioecaaCFnRangesx3
import Derived.Test.YtopaefhfjioecaaCFnRangesx4
import Derived.Test.YtopaefhfjioecaaCFnRangesx7
namespace Go.Proofs.Ytopaefhfjioecaa.QFnRanges
open Go.RowKit Go.Proofs.YtopaefhfjioecaaW
open PrintWords PrintLast PrintMore PrintShort
attribute [local go_sem] max2_int min2_int max_two min_two max_three min_three max_four min_four   -- for this text's walks alone
set_option linter.unusedVariables false
set_option maxHeartbeats 8000000
set_option maxRecDepth 100000
set_option linter.unusedSimpArgs false

def spec_l08Mask.l0 : Nat → Int → Int → Int → Option (Int)
 | 0, _, _, _ => none
 | k + 1, x1, x5, x6 => if x6 < x1 then ((spec_l08Bit.f x6).bind fun t257 => (spec_l08Mask.l0 k x1 (Go.bits .or .i64 x5 t257) (wrap64 (x6 + 1)))) else (some x5)
def spec_l08Mask.f (k : Nat) (a0 : Int) (a1 : Int) : Option (Int) := spec_l08Mask.l0 k a1 0 a0
theorem spec_l08Mask.mono_l : ∀ k, (∀ y0 y1 y2, LeO (spec_l08Mask.l0 k y0 y1 y2) (spec_l08Mask.l0 (k + 1) y0 y1 y2))
 | 0 => fun _ _ _ r h => by simp [spec_l08Mask.l0] at h
 | k + 1 => by
  have ih0 := spec_l08Mask.mono_l k
  ·intro y0 y1 y2
   unfold spec_l08Mask.l0
   with_reducible repeat' first | exact ih0 .. | exact LeO.refl _ | exact LeO.none _ | refine LeO.ite ?_ ?_ | refine LeO.bind ?_ (fun _ => ?_)
theorem spec_l08Mask.mono : ∀ a0 a1 k, LeO (spec_l08Mask.f k a0 a1) (spec_l08Mask.f (k + 1) a0 a1) := by
 intro a0 a1 k
 have ih0 := spec_l08Mask.mono_l k
 unfold spec_l08Mask.f
 with_reducible repeat' first | exact ih0 .. | exact LeO.refl _ | exact LeO.none _ | refine LeO.ite ?_ ?_ | refine LeO.bind ?_ (fun _ => ?_)
theorem spec_l08Mask.calls (k : Nat) (a0 : Int) (a1 : Int) (r : Int) (w : World) (h : spec_l08Mask.f k a0 a1 = some r) :
  Calls Try.prog 88 #[.int .i64 a0, .int .i64 a1] w fun e w' => e = .returned (.int .i64 r) ∧ Drawn0 w w' := by
 have H : (spec_l08Mask.l0 k a1 0 a0) = some r := h
 clear h
 have H' := am H
 clear H
 go_enter Try.func88, Try.ntmps88
 go_wp2
 go_loopg [5, 6] k (fun kq v5 v6 w' => ∃ (x5_1 : Int) (x6_1 : Int), v5 = .int .i64 x5_1 ∧ v6 = .int .i64 x6_1 ∧ Aside0 (spec_l08Mask.l0 kq a1 x5_1 x6_1 = some r) ∧ Aside0 (kq ≤ k) ∧ Drawn0 w w')
 case atStart => exact ⟨(0), (a0), dr, dr, H', ⟨Nat.le_refl _⟩, by repeat (first | exact Drawn0.refl _ | apply Drawn0.step)⟩
 clear H'
 try clear p2
 obtain ⟨x5_1, x6_1, rfl, rfl, HA, HK1, ⟨m1, rfl⟩⟩ := hrel
 rcases gk with _ | k1
 ·exact absurd HA.out (by simp [spec_l08Mask.l0])
 have H := HA.out
 clear HA
 simp only [spec_l08Mask.l0] at H
 refine qI H ?_ ?_ <;> clear H <;> intro c3b0 H
 ·refine be H ?_; clear H; intro t257 A4 H
  have H' := am H
  clear H
  go_wp2_with (first | ((with_reducible refine gate_callee (f := 68) rfl ?_); refine goesL_ (some 15) rfl rfl Try.func68 (by kernel_rfl) rfl #[.int .i64 x6_1] rfl gl ?_; (with_reducible refine (spec_l08Bit.calls x6_1 t257 _ A4.out).mono ?_); rintro e w' ⟨rfl, ⟨nd, rfl⟩⟩; refine ⟨_, rfl, ?_⟩))
  go_roundg k1
  case measure => have := HK1.out; omega
  case rel => exact ⟨(Go.bits .or .i64 x5_1 t257), (wrap64 (x6_1 + 1)), dr, dr, H', ⟨by have := HK1.out; omega⟩, by repeat (first | exact Drawn0.refl _ | apply Drawn0.step)⟩
 obtain rfl := Option.some.inj H
 go_wp2
 go_ret
 exact ⟨by first | rfl | (simp; done) | (simp [*]; done), by repeat (first | exact Drawn0.refl _ | apply Drawn0.step)⟩

def spec_l08Writes.f (k : Nat) (l0_0 : List (S35)) (a1_0 : Int) (a1_1 : Int) (a2 : Int) : Option (Int) := if a1_0 = 3 then ((spec_l08Bit.f a1_1).bind fun t260 => (some t260)) else ((spec_Takes.f k l0_0 a1_0 a1_1).bind fun t261 => ((spec_Puts.f k a1_0 a1_1).bind fun t262 => ((spec_l08Mask.f k (wrap64 (a2 - t261)) (wrap64 ((wrap64 (a2 - t261)) + t262))).bind fun t263 => (some t263))))
theorem spec_l08Writes.mono : ∀ a0 a1 a2 a3 k, LeO (spec_l08Writes.f k a0 a1 a2 a3) (spec_l08Writes.f (k + 1) a0 a1 a2 a3) := by
 intro a0 a1 a2 a3 k
 unfold spec_l08Writes.f
 with_reducible repeat' first | exact spec_Puts.mono .. | exact spec_Takes.mono .. | exact spec_l08Mask.mono .. | exact LeO.refl _ | exact LeO.none _ | refine LeO.ite ?_ ?_ | refine LeO.bind ?_ (fun _ => ?_)
theorem spec_l08Writes.calls (k : Nat) (A0_0 : Option Addr) (c0_0 : Nat) (l0_0 : List (S35)) (a1_0 : Int) (a1_1 : Int) (a2 : Int) (r : Int) (w : World) (hr0_0 : Kd.C k35 w A0_0 l0_0.length l0_0) (hc0_0 : l0_0.length ≤ c0_0) (h : spec_l08Writes.f k l0_0 a1_0 a1_1 a2 = some r) :
  Calls Try.prog 67 #[.agg #[.slice A0_0 l0_0.length c0_0], .agg #[.int .i64 a1_0, .int .i64 a1_1], .int .i64 a2] w fun e w' => e = .returned (.int .i64 r) ∧ Below w.heap.size w w' := by
 have hu25 := Try.underlying25
 have hu38 := Try.underlying38
 have HR0_0 := am hr0_0
 have HC0_0 := am hc0_0
 clear hr0_0 hc0_0
 have HB := am (Below.refl w.heap.size w)
 have H : (if a1_0 = 3 then ((spec_l08Bit.f a1_1).bind fun t260 => (some t260)) else ((spec_Takes.f k l0_0 a1_0 a1_1).bind fun t261 => ((spec_Puts.f k a1_0 a1_1).bind fun t262 => ((spec_l08Mask.f k (wrap64 (a2 - t261)) (wrap64 ((wrap64 (a2 - t261)) + t262))).bind fun t263 => (some t263))))) = some r := h
 clear h
 have HC4 := am H
 clear H
 go_enter Try.func67, Try.ntmps67
 go_upto_if 9 with (first | ((with_reducible refine gd 3 rfl ?_); refine bX 3 #[.slice A0_0 l0_0.length c0_0] 25 HB ?_; clear HB; intro gb258 w5 hg hb BK258 GW258 HB; clear hb hg) | ((with_reducible refine gd 4 rfl ?_); refine bX 4 #[.int .i64 a1_0, .int .i64 a1_1] 38 HB ?_; clear HB; intro gb259 w6 hg hb BK259 GW259 HB; obtain ⟨NB258_259, NB259_258, BK258⟩ := b3 hg BK258 hb; clear hb hg; have hnb7 := NB259_258.out; have hnc7 := NB258_259.out; have hcz8 := bK w6 BK259; have hfz8 := bF BK259))
 (try simp only [Act.put, sa, sz, ss])
 have H := HC4.out
 clear HC4
 refine qE H ?_ ?_ <;> clear H
 ·intro c9b0 c9b1 H
  (first | rw [c9b0] | (simp only [i64_w, i32_w]; rw [c9b0]) | skip)
  refine be H ?_; clear H; intro t260 A10 H
  obtain rfl := Option.some.inj H
  have hnb11 := NB259_258.out
  have hnc11 := NB258_259.out
  have hcz12 := bK w6 BK259
  have hfz12 := bF BK259
  go_wp2_with (first | ((with_reducible refine gate_callee (f := 68) rfl ?_); refine goesL_ (some 12) rfl rfl Try.func68 (by kernel_rfl) rfl #[.int .i64 a1_1] rfl gl ?_; (with_reducible refine (spec_l08Bit.calls a1_1 t260 _ A10.out).mono ?_); rintro e w' ⟨rfl, ⟨nd, rfl⟩⟩; refine ⟨_, rfl, ?_⟩))
  go_ret
  exact ⟨er, bw HB⟩
 intro c9 c9b0 c9b1 H
 (first | rw [c9b0] | (simp only [i64_w, i32_w]; rw [c9b0]) | skip)
 refine be H ?_; clear H; intro t261 A13 H
 refine be H ?_; clear H; intro t262 A14 H
 refine be H ?_; clear H; intro t263 A15 H
 obtain rfl := Option.some.inj H
 have hnb16 := NB258_259.out
 have hnc16 := NB259_258.out
 have hcz17 := bK w6 BK258
 have hfz17 := bF BK258
 have hcz18 := bK w6 BK259
 have hfz18 := bF BK259
 go_wp2_with (first | ((with_reducible refine gk 95 rfl ?_); refine gB 95 (some 16) Try.func95 #[.agg #[.slice A0_0 l0_0.length c0_0], .agg #[.int .i64 a1_0, .int .i64 a1_1]] (spec_Takes.calls k _ _ l0_0 a1_0 a1_1 t261 _ (cc (Kd.C_below HR0_0.out HB.out)) HC0_0.out A13.out) ?_; intro w19 hb; replace BK258 := bb BK258 hb; replace BK259 := bb BK259 hb; replace HB := bs HB hb; clear hb; have hcz20 := bK w19 BK259; have hfz20 := bF BK259) | ((with_reducible refine gate_callee (f := 96) rfl ?_); refine goesL_ (some 21) rfl rfl Try.func96 (by kernel_rfl) rfl #[.agg #[.int .i64 a1_0, .int .i64 a1_1]] rfl gl ?_; (with_reducible refine (spec_Puts.calls k a1_0 a1_1 t262 _ A14.out).mono ?_); rintro e w21 ⟨rfl, hb⟩; refine ⟨_, rfl, ?_⟩; replace BK258 := bb BK258 hb; replace BK259 := bb BK259 hb; replace HB := bs HB hb; clear hb) | ((with_reducible refine gate_callee (f := 88) rfl ?_); refine goesL_ (some 23) rfl rfl Try.func88 (by kernel_rfl) rfl #[.int .i64 (wrap64 (a2 - t261)), .int .i64 (wrap64 ((wrap64 (a2 - t261)) + t262))] rfl gl ?_; (with_reducible refine (spec_l08Mask.calls k (wrap64 (a2 - t261)) (wrap64 ((wrap64 (a2 - t261)) + t262)) t263 _ A15.out).mono ?_); rintro e w' ⟨rfl, ⟨nd, rfl⟩⟩; refine ⟨_, rfl, ?_⟩))
 go_ret
 exact ⟨er, bw HB⟩

mutual
def spec_l08Next.j0 : Nat → Int → List Int → Bool → Int → Int → Option (List Int)
 | 0, _, _, _, _, _ => none
 | k + 1, x1, x5, x14, x265000, x265001 => if x14 = true then (if x5.length < 17592186044416 then (spec_l08Next.j1 k (x5 ++ [wrap64 (x1 + 1)]) x265000 x265001) else (none)) else (spec_l08Next.j1 k x5 x265000 x265001)
def spec_l08Next.j1 : Nat → List Int → Int → Int → Option (List Int)
 | 0, _, _, _ => none
 | k + 1, x5, x265000, x265001 => if x265000 = 30 then (if x5.length < 17592186044416 then (some (x5 ++ [x265001])) else (none)) else (if x265000 = 31 then (if x5.length < 17592186044416 then (some (x5 ++ [x265001])) else (none)) else (some x5))
end
def spec_l08Next.f (k : Nat) (a0_0 : Int) (a0_1 : Int) (a1 : Int) : Option (List Int) := (some (([] : List Int) : List Int)).bind fun y265 => (if a0_0 = 30 then (spec_l08Next.j0 k a1 y265 false a0_0 a0_1) else (spec_l08Next.j0 k a1 y265 (a0_0 != 33) a0_0 a0_1))
theorem spec_l08Next.mono_l : ∀ k, (∀ y0 y1 y2 y3 y4, LeO (spec_l08Next.j0 k y0 y1 y2 y3 y4) (spec_l08Next.j0 (k + 1) y0 y1 y2 y3 y4)) ∧ (∀ y0 y1 y2, LeO (spec_l08Next.j1 k y0 y1 y2) (spec_l08Next.j1 (k + 1) y0 y1 y2))
 | 0 => ⟨fun _ _ _ _ _ r h => by simp [spec_l08Next.j0] at h, fun _ _ _ r h => by simp [spec_l08Next.j1] at h⟩
 | k + 1 => by
  obtain ⟨ih0, ih1⟩ := spec_l08Next.mono_l k
  refine ⟨?_, ?_⟩
  ·intro y0 y1 y2 y3 y4
   unfold spec_l08Next.j0
   with_reducible repeat' first | exact ih0 .. | exact ih1 .. | exact LeO.refl _ | exact LeO.none _ | refine LeO.ite ?_ ?_ | refine LeO.bind ?_ (fun _ => ?_)
  ·intro y0 y1 y2
   unfold spec_l08Next.j1
   with_reducible repeat' first | exact ih0 .. | exact ih1 .. | exact LeO.refl _ | exact LeO.none _ | refine LeO.ite ?_ ?_ | refine LeO.bind ?_ (fun _ => ?_)
theorem spec_l08Next.mono : ∀ a0 a1 a2 k, LeO (spec_l08Next.f k a0 a1 a2) (spec_l08Next.f (k + 1) a0 a1 a2) := by
 intro a0 a1 a2 k
 obtain ⟨ih0, ih1⟩ := spec_l08Next.mono_l k
 unfold spec_l08Next.f
 with_reducible repeat' first | exact ih0 .. | exact ih1 .. | exact LeO.refl _ | exact LeO.none _ | refine LeO.ite ?_ ?_ | refine LeO.bind ?_ (fun _ => ?_)
theorem spec_l08Next.calls (k : Nat) (a0_0 : Int) (a0_1 : Int) (a1 : Int) (r : List Int) (w : World) (h : spec_l08Next.f k a0_0 a0_1 a1 = some r) :
  Calls Try.prog 87 #[.agg #[.int .i64 a0_0, .int .i64 a0_1], .int .i64 a1] w fun e w' => ∃ v0_ : Value, e = .returned (v0_) ∧ Kd.R (Kd.int .i64) 2 w' w.heap.size (fun _ => True) v0_ r ∧ Below w.heap.size w w' := by
 have hu38 := Try.underlying38
 have HB := am (Below.refl w.heap.size w)
 have H : ((some (([] : List Int) : List Int)).bind fun y265 => (if a0_0 = 30 then (spec_l08Next.j0 k a1 y265 false a0_0 a0_1) else (spec_l08Next.j0 k a1 y265 (a0_0 != 33) a0_0 a0_1))) = some r := h
 clear h
 obtain ⟨y265, hy265⟩ : ∃ y_ : List Int, y_ = (([] : List Int)) := ⟨_, rfl⟩
 replace H : (if a0_0 = 30 then (spec_l08Next.j0 k a1 y265 false a0_0 a0_1) else (spec_l08Next.j0 k a1 y265 (a0_0 != 33) a0_0 a0_1)) = some r := by first | (rw [hy265]; with_reducible exact H) | (have H2_ := (Option.bind_some _ _).symm.trans H; rw [hy265]; with_reducible exact H2_) | (have H2_ := (Option.bind_some _ _).symm.trans H; with_reducible exact H2_) | with_reducible exact H | (rw [hy265]; exact H) | exact H
 have Ny265 := am hy265
 clear hy265
 have HC3 := am H
 clear H
 go_enter Try.func87, Try.ntmps87
 go_upto_region 2 with (first | ((with_reducible refine gd 2 rfl ?_); refine bX 2 #[.int .i64 a0_0, .int .i64 a0_1] 38 HB ?_; clear HB; intro gb264 w4 hg hb BK264 GW264 HB; clear hb hg) | ((with_reducible refine gate_dst (N := 6) rfl ?_); refine Kd.R_lit (Kd.int .i64) _ 2 ?hg (N := 6) ?hd (xs := ([] : List Int)) (inner := []) (ok := fun _ => True) (okp := fun _ => True) ?hr ?hp (fun _ hk => hk) trivial (Below.refl _ _) (Nat.le_refl _) (by simp) ?_; (case hd => rfl); (case hg => rfl); (case hr => exact gs); (case hp => exact (Reps.none _ _)); intro v266 w5 ho6 hb hg_ hnew_; clear hg_ hnew_; (first | rw [← Ny265.out] at ho6 | (simp only [Int.reduceToNat] at ho6; rw [← Ny265.out] at ho6)); have HO267 := am (Kd.R_lower ho6 (below_size (bw HB))); replace BK264 := bb BK264 hb; replace HB := bs HB hb; clear hb ho6))
 (try simp only [Act.put, sa, sz, ss])
 go_cut [14] (fun v14 wc => ∃ (kq : Nat) (x14_2 : Bool), v14 = .bool x14_2 ∧ Aside0 (spec_l08Next.j0 kq a1 y265 x14_2 a0_0 a0_1 = some r) ∧ Aside0 (kq ≤ k) ∧ Aside0 (Kd.R (Kd.int .i64) 2 wc w.heap.size (fun _ => True) v266 y265) ∧ Aside0 (wc.heap[gb264]? = some (.cells #[.int .i64 a0_0, .int .i64 a0_1] 38 (0, 0))) ∧ Aside0 (Below w.heap.size w wc))
 case first =>
  have H := HC3.out
  clear HC3
  refine qE H ?_ ?_ <;> clear H
  ·intro c7b0 c7b1 H
   (first | rw [c7b0] | (simp only [i64_w, i32_w]; rw [c7b0]) | skip)
   have H' := am H
   clear H
   have hcz8 := bK w5 BK264
   have hfz8 := bF BK264
   go_wp2
   go_meet
   case rel => exact ⟨_, (false), dr, H', ⟨lk0⟩, ⟨kR HO267⟩, ⟨bp BK264⟩, ⟨bw HB⟩⟩
  intro c7 c7b0 c7b1 H
  (first | rw [c7b0] | (simp only [i64_w, i32_w]; rw [c7b0]) | skip)
  have H' := am H
  clear H
  have hcz9 := bK w5 BK264
  have hfz9 := bF BK264
  go_wp2
  go_meet
  case rel => exact ⟨_, ((a0_0 != 33)), dr, H', ⟨lk0⟩, ⟨kR HO267⟩, ⟨bp BK264⟩, ⟨bw HB⟩⟩
 clear HC3
 (try clear p2); (try clear c7); (try clear c7b0); (try clear c7b1); (try clear c8); (try clear hcz8); (try clear hcz9); (try clear hfz8); (try clear hfz9)
 obtain ⟨kq, x14_2, rfl, HA, HJ2, HO_5, BK264, HB⟩ := hcut
 rcases kq with _ | kj2
 ·exact absurd HA.out (by simp [spec_l08Next.j0])
 have H := HA.out
 clear HA
 simp only [spec_l08Next.j0] at H
 have HC10 := am H
 clear H
 go_upto_if 14 with (fail)
 go_cut [5] (fun v5 wc => ∃ (kq : Nat) (x5_9 : List Int), Aside0 (spec_l08Next.j1 kq x5_9 a0_0 a0_1 = some r) ∧ Aside0 (kq ≤ kj2) ∧ Aside0 (Kd.R (Kd.int .i64) 2 wc w.heap.size (fun _ => True) v5 x5_9) ∧ Aside0 (wc.heap[gb264]? = some (.cells #[.int .i64 a0_0, .int .i64 a0_1] 38 (0, 0))) ∧ Aside0 (Below w.heap.size w wc))
 case first =>
  have H := HC10.out
  clear HC10
  refine qT H ?_ ?_ <;> clear H <;> intro c11 H <;> subst c11
  ·refine iN H ?_; clear H; intro c12 H
   have LMc12 := am c12
   clear c12
   obtain ⟨y268, hy268⟩ : ∃ y_ : List Int, y_ = (y265 ++ [wrap64 (a1 + 1)]) := ⟨_, rfl⟩
   replace H : (spec_l08Next.j1 kj2 y268 a0_0 a0_1) = some r := by first | (rw [hy268]; with_reducible exact H) | (have H2_ := (Option.bind_some _ _).symm.trans H; rw [hy268]; with_reducible exact H2_) | (have H2_ := (Option.bind_some _ _).symm.trans H; with_reducible exact H2_) | with_reducible exact H | (rw [hy268]; exact H) | exact H
   have Ny268 := am hy268
   clear hy268
   have H' := am H
   clear H
   go_wp2_with (first | ((with_reducible refine gate_builtin (b := .append) (xs := #[.tmp 15, .tmp 18]) rfl ?_); at_builtin; refine Kd.R_append (Kd.int .i64) (w0 := w) w.heap.size rfl (.tmp 15) (.tmp 18) 31 2 (.int .i64 0) 8 rfl Try.underlying31 info2 rfl (by decide) (by omega) v266 y265 (wrap64 (a1 + 1)) [.int .i64 (wrap64 (a1 + 1))] (fun _ => True) (fun _ => False) rfl rfl ?aP (fun _ hk => hk.elim) ?aF ?aO ?aB ?aS ?aL ?_; (case aP => exact rfl); (case aB => exact (bw HB)); (case aF => exact (fun _ _ => trivial)); (case aO => exact (kR HO_5)); (case aS => exact (below_size (bw HB))); (case aL => have := LMc12.out; omega); intro v269 w13 ho hb hg hat; rw [← Ny268.out] at ho; replace BK264 := bg BK264 hg (Kd.R_ne HO_5.out BK264.out (by decide)); replace HB := am (hb); have HO270 := am (ho); clear HO_5; clear ho hb hg hat))
   go_meet
   case rel => exact ⟨_, (y268), H', ⟨lk1 HJ2⟩, ⟨kR HO270⟩, ⟨bp BK264⟩, ⟨bw HB⟩⟩
  have H' := am H
  clear H
  go_wp2
  go_meet
  case rel => exact ⟨_, (y265), H', ⟨lk1 HJ2⟩, ⟨kR HO_5⟩, ⟨bp BK264⟩, ⟨bw HB⟩⟩
 clear HC10
 (try clear c1); (try clear p6); (try clear c11); (try clear c12)
 obtain ⟨kq, x5_9, HA, HJ9, HO_5, BK264, HB⟩ := hcut
 rcases kq with _ | kj9
 ·exact absurd HA.out (by simp [spec_l08Next.j1])
 have H := HA.out
 clear HA
 simp only [spec_l08Next.j1] at H
 refine qE H ?_ ?_ <;> clear H
 ·intro c14b0 c14b1 H
  refine iN H ?_; clear H; intro c15 H
  have LMc15 := am c15
  clear c15
  obtain ⟨y271, hy271⟩ : ∃ y_ : List Int, y_ = (x5_9 ++ [a0_1]) := ⟨_, rfl⟩
  replace H : (some y271) = some r := by first | (rw [hy271]; with_reducible exact H) | (have H2_ := (Option.bind_some _ _).symm.trans H; rw [hy271]; with_reducible exact H2_) | (have H2_ := (Option.bind_some _ _).symm.trans H; with_reducible exact H2_) | with_reducible exact H | (rw [hy271]; exact H) | exact H
  have Ny271 := am hy271
  clear hy271
  obtain rfl := Option.some.inj H
  have hcz16 := bK wc BK264
  have hfz16 := bF BK264
  go_wp2_with (first | ((with_reducible refine gate_builtin (b := .append) (xs := #[.tmp 28, .tmp 31]) rfl ?_); at_builtin; refine Kd.R_append (Kd.int .i64) (w0 := w) w.heap.size rfl (.tmp 28) (.tmp 31) 31 2 (.int .i64 0) 8 rfl Try.underlying31 info2 rfl (by decide) (by omega) u5 x5_9 a0_1 [.int .i64 a0_1] (fun _ => True) (fun _ => False) rfl rfl ?aP (fun _ hk => hk.elim) ?aF ?aO ?aB ?aS ?aL ?_; (case aP => exact rfl); (case aB => exact (bw HB)); (case aF => exact (fun _ _ => trivial)); (case aO => exact (kR HO_5)); (case aS => exact (below_size (bw HB))); (case aL => have := LMc15.out; omega); intro v272 w17 ho hb hg hat; rw [← Ny271.out] at ho; replace BK264 := bg BK264 hg (Kd.R_ne HO_5.out BK264.out (by decide)); replace HB := am (hb); have HO273 := am (ho); clear HO_5; clear ho hb hg hat))
  go_ret
  exact ⟨_, er, kR HO273, bw HB⟩
 intro c14 c14b0 c14b1 H
 refine qE H ?_ ?_ <;> clear H
 ·intro c18b0 c18b1 H
  refine iN H ?_; clear H; intro c19 H
  have LMc19 := am c19
  clear c19
  obtain ⟨y274, hy274⟩ : ∃ y_ : List Int, y_ = (x5_9 ++ [a0_1]) := ⟨_, rfl⟩
  replace H : (some y274) = some r := by first | (rw [hy274]; with_reducible exact H) | (have H2_ := (Option.bind_some _ _).symm.trans H; rw [hy274]; with_reducible exact H2_) | (have H2_ := (Option.bind_some _ _).symm.trans H; with_reducible exact H2_) | with_reducible exact H | (rw [hy274]; exact H) | exact H
  have Ny274 := am hy274
  clear hy274
  obtain rfl := Option.some.inj H
  have hcz20 := bK wc BK264
  have hfz20 := bF BK264
  go_wp2_with (first | ((with_reducible refine gate_builtin (b := .append) (xs := #[.tmp 28, .tmp 31]) rfl ?_); at_builtin; refine Kd.R_append (Kd.int .i64) (w0 := w) w.heap.size rfl (.tmp 28) (.tmp 31) 31 2 (.int .i64 0) 8 rfl Try.underlying31 info2 rfl (by decide) (by omega) u5 x5_9 a0_1 [.int .i64 a0_1] (fun _ => True) (fun _ => False) rfl rfl ?aP (fun _ hk => hk.elim) ?aF ?aO ?aB ?aS ?aL ?_; (case aP => exact rfl); (case aB => exact (bw HB)); (case aF => exact (fun _ _ => trivial)); (case aO => exact (kR HO_5)); (case aS => exact (below_size (bw HB))); (case aL => have := LMc19.out; omega); intro v275 w21 ho hb hg hat; rw [← Ny274.out] at ho; replace BK264 := bg BK264 hg (Kd.R_ne HO_5.out BK264.out (by decide)); replace HB := am (hb); have HO276 := am (ho); clear HO_5; clear ho hb hg hat))
  go_ret
  exact ⟨_, er, kR HO276, bw HB⟩
 intro c18 c18b0 c18b1 H
 obtain rfl := Option.some.inj H
 have hcz22 := bK wc BK264
 have hfz22 := bF BK264
 go_wp2
 go_ret
 exact ⟨_, er, kR HO_5, bw HB⟩

def spec_l08Reads.f (k : Nat) (l0_0 : List (S35)) (a1_0 : Int) (a1_1 : Int) (a2 : Int) : Option (Int) := if a1_0 = 2 then ((spec_l08Bit.f a1_1).bind fun t279 => (some t279)) else ((spec_Takes.f k l0_0 a1_0 a1_1).bind fun t280 => ((spec_l08Mask.f k (wrap64 (a2 - t280)) a2).bind fun t281 => (some t281)))
theorem spec_l08Reads.mono : ∀ a0 a1 a2 a3 k, LeO (spec_l08Reads.f k a0 a1 a2 a3) (spec_l08Reads.f (k + 1) a0 a1 a2 a3) := by
 intro a0 a1 a2 a3 k
 unfold spec_l08Reads.f
 with_reducible repeat' first | exact spec_Takes.mono .. | exact spec_l08Mask.mono .. | exact LeO.refl _ | exact LeO.none _ | refine LeO.ite ?_ ?_ | refine LeO.bind ?_ (fun _ => ?_)
theorem spec_l08Reads.calls (k : Nat) (A0_0 : Option Addr) (c0_0 : Nat) (l0_0 : List (S35)) (a1_0 : Int) (a1_1 : Int) (a2 : Int) (r : Int) (w : World) (hr0_0 : Kd.C k35 w A0_0 l0_0.length l0_0) (hc0_0 : l0_0.length ≤ c0_0) (h : spec_l08Reads.f k l0_0 a1_0 a1_1 a2 = some r) :
  Calls Try.prog 89 #[.agg #[.slice A0_0 l0_0.length c0_0], .agg #[.int .i64 a1_0, .int .i64 a1_1], .int .i64 a2] w fun e w' => e = .returned (.int .i64 r) ∧ Below w.heap.size w w' := by
 have hu25 := Try.underlying25
 have hu38 := Try.underlying38
 have HR0_0 := am hr0_0
 have HC0_0 := am hc0_0
 clear hr0_0 hc0_0
 have HB := am (Below.refl w.heap.size w)
 have H : (if a1_0 = 2 then ((spec_l08Bit.f a1_1).bind fun t279 => (some t279)) else ((spec_Takes.f k l0_0 a1_0 a1_1).bind fun t280 => ((spec_l08Mask.f k (wrap64 (a2 - t280)) a2).bind fun t281 => (some t281)))) = some r := h
 clear h
 have HC4 := am H
 clear H
 go_enter Try.func89, Try.ntmps89
 go_upto_if 9 with (first | ((with_reducible refine gd 3 rfl ?_); refine bX 3 #[.slice A0_0 l0_0.length c0_0] 25 HB ?_; clear HB; intro gb277 w5 hg hb BK277 GW277 HB; clear hb hg) | ((with_reducible refine gd 4 rfl ?_); refine bX 4 #[.int .i64 a1_0, .int .i64 a1_1] 38 HB ?_; clear HB; intro gb278 w6 hg hb BK278 GW278 HB; obtain ⟨NB277_278, NB278_277, BK277⟩ := b3 hg BK277 hb; clear hb hg; have hnb7 := NB278_277.out; have hnc7 := NB277_278.out; have hcz8 := bK w6 BK278; have hfz8 := bF BK278))
 (try simp only [Act.put, sa, sz, ss])
 have H := HC4.out
 clear HC4
 refine qE H ?_ ?_ <;> clear H
 ·intro c9b0 c9b1 H
  (first | rw [c9b0] | (simp only [i64_w, i32_w]; rw [c9b0]) | skip)
  refine be H ?_; clear H; intro t279 A10 H
  obtain rfl := Option.some.inj H
  have hnb11 := NB278_277.out
  have hnc11 := NB277_278.out
  have hcz12 := bK w6 BK278
  have hfz12 := bF BK278
  go_wp2_with (first | ((with_reducible refine gate_callee (f := 68) rfl ?_); refine goesL_ (some 12) rfl rfl Try.func68 (by kernel_rfl) rfl #[.int .i64 a1_1] rfl gl ?_; (with_reducible refine (spec_l08Bit.calls a1_1 t279 _ A10.out).mono ?_); rintro e w' ⟨rfl, ⟨nd, rfl⟩⟩; refine ⟨_, rfl, ?_⟩))
  go_ret
  exact ⟨er, bw HB⟩
 intro c9 c9b0 c9b1 H
 (first | rw [c9b0] | (simp only [i64_w, i32_w]; rw [c9b0]) | skip)
 refine be H ?_; clear H; intro t280 A13 H
 refine be H ?_; clear H; intro t281 A14 H
 obtain rfl := Option.some.inj H
 have hnb15 := NB277_278.out
 have hnc15 := NB278_277.out
 have hcz16 := bK w6 BK277
 have hfz16 := bF BK277
 have hcz17 := bK w6 BK278
 have hfz17 := bF BK278
 go_wp2_with (first | ((with_reducible refine gk 95 rfl ?_); refine gB 95 (some 16) Try.func95 #[.agg #[.slice A0_0 l0_0.length c0_0], .agg #[.int .i64 a1_0, .int .i64 a1_1]] (spec_Takes.calls k _ _ l0_0 a1_0 a1_1 t280 _ (cc (Kd.C_below HR0_0.out HB.out)) HC0_0.out A13.out) ?_; intro w18 hb; replace BK277 := bb BK277 hb; replace BK278 := bb BK278 hb; replace HB := bs HB hb; clear hb) | ((with_reducible refine gate_callee (f := 88) rfl ?_); refine goesL_ (some 19) rfl rfl Try.func88 (by kernel_rfl) rfl #[.int .i64 (wrap64 (a2 - t280)), .int .i64 a2] rfl gl ?_; (with_reducible refine (spec_l08Mask.calls k (wrap64 (a2 - t280)) a2 t281 _ A14.out).mono ?_); rintro e w' ⟨rfl, ⟨nd, rfl⟩⟩; refine ⟨_, rfl, ?_⟩))
 go_ret
 exact ⟨er, bw HB⟩

end Go.Proofs.Ytopaefhfjioecaa.QFnRanges
