import Derived.Test.YtbmjmaahcaoajaaCFnExactLivex0
import Derived.Test.YtbmjmaahcaoajaaCFnExactLivex3
import Derived.Test.YtbmjmaahcaoajaaCFnExactLivex4
namespace Go.Proofs.Ytbmjmaahcaoajaa.QFnExactLive
open Go.RowKit Go.Proofs.YtbmjmaahcaoajaaW
open PrintWords PrintLast PrintMore PrintShort PrintIsh
attribute [local go_sem] max2_int min2_int max_two min_two max_three min_three max_four min_four   -- for this text's walks alone
set_option linter.unusedVariables false
set_option maxHeartbeats 8000000
set_option maxRecDepth 100000
set_option linter.unusedSimpArgs false

mutual
def spec_l08Next.j0 : Nat → Int → List Int → Bool → Int → Int → Option (List Int)
 | 0, _, _, _, _, _ => none
 | k + 1, x1, x5, x14, x246000, x246001 => if x14 = true then (if x5.length < 17592186044416 then (spec_l08Next.j1 k (x5 ++ [wrap64 (x1 + 1)]) x246000 x246001) else (none)) else (spec_l08Next.j1 k x5 x246000 x246001)
def spec_l08Next.j1 : Nat → List Int → Int → Int → Option (List Int)
 | 0, _, _, _ => none
 | k + 1, x5, x246000, x246001 => if x246000 = 30 then (if x5.length < 17592186044416 then (some (x5 ++ [x246001])) else (none)) else (if x246000 = 31 then (if x5.length < 17592186044416 then (some (x5 ++ [x246001])) else (none)) else (some x5))
end
def spec_l08Next.f (k : Nat) (a0_0 : Int) (a0_1 : Int) (a1 : Int) : Option (List Int) := (some (([] : List Int) : List Int)).bind fun y246 => (if a0_0 = 30 then (spec_l08Next.j0 k a1 y246 false a0_0 a0_1) else (spec_l08Next.j0 k a1 y246 (a0_0 != 33) a0_0 a0_1))
theorem spec_l08Next.mono_l : ∀ k, (∀ y0 y1 y2 y3 y4, LeO (spec_l08Next.j0 k y0 y1 y2 y3 y4) (spec_l08Next.j0 (k + 1) y0 y1 y2 y3 y4)) ∧ (∀ y0 y1 y2, LeO (spec_l08Next.j1 k y0 y1 y2) (spec_l08Next.j1 (k + 1) y0 y1 y2))
 | 0 => ⟨fun _ _ _ _ _ r h => by simp [spec_l08Next.j0] at h, fun _ _ _ r h => by simp [spec_l08Next.j1] at h⟩
 | k + 1 => by
  obtain ⟨ih0, ih1⟩ := spec_l08Next.mono_l k
  refine ⟨?_, ?_⟩
  ·intro y0 y1 y2 y3 y4
   unfold spec_l08Next.j0
   with_reducible repeat' first | exact ih0 .. | exact ih1 .. | exact LeO.refl _ | exact LeO.none _ | refine LeO.ite ?_ ?_ | refine LeO.bind ?_ (fun _ => ?_)
  ·intro y0 y1 y2
   unfold spec_l08Next.j1
   with_reducible repeat' first | exact ih0 .. | exact ih1 .. | exact LeO.refl _ | exact LeO.none _ | refine LeO.ite ?_ ?_ | refine LeO.bind ?_ (fun _ => ?_)
theorem spec_l08Next.mono : ∀ a0 a1 a2 k, LeO (spec_l08Next.f k a0 a1 a2) (spec_l08Next.f (k + 1) a0 a1 a2) := by
 intro a0 a1 a2 k
 obtain ⟨ih0, ih1⟩ := spec_l08Next.mono_l k
 unfold spec_l08Next.f
 with_reducible repeat' first | exact ih0 .. | exact ih1 .. | exact LeO.refl _ | exact LeO.none _ | refine LeO.ite ?_ ?_ | refine LeO.bind ?_ (fun _ => ?_)
theorem spec_l08Next.calls (k : Nat) (a0_0 : Int) (a0_1 : Int) (a1 : Int) (r : List Int) (w : World) (h : spec_l08Next.f k a0_0 a0_1 a1 = some r) :
  Calls Try.prog 143 #[.agg #[.int .i64 a0_0, .int .i64 a0_1], .int .i64 a1] w fun e w' => ∃ v0_ : Value, e = .returned (v0_) ∧ Kd.R (Kd.int .i64) 2 w' w.heap.size (fun _ => True) v0_ r ∧ Below w.heap.size w w' := by
 have hu102 := Try.underlying102
 have HB := am (Below.refl w.heap.size w)
 have H : ((some (([] : List Int) : List Int)).bind fun y246 => (if a0_0 = 30 then (spec_l08Next.j0 k a1 y246 false a0_0 a0_1) else (spec_l08Next.j0 k a1 y246 (a0_0 != 33) a0_0 a0_1))) = some r := h
 clear h
 obtain ⟨y246, hy246⟩ : ∃ y_ : List Int, y_ = (([] : List Int)) := ⟨_, rfl⟩
 replace H : (if a0_0 = 30 then (spec_l08Next.j0 k a1 y246 false a0_0 a0_1) else (spec_l08Next.j0 k a1 y246 (a0_0 != 33) a0_0 a0_1)) = some r := by first | (rw [hy246]; with_reducible exact H) | (have H2_ := (Option.bind_some _ _).symm.trans H; rw [hy246]; with_reducible exact H2_) | (have H2_ := (Option.bind_some _ _).symm.trans H; with_reducible exact H2_) | with_reducible exact H | (rw [hy246]; exact H) | exact H
 have Ny246 := am hy246
 clear hy246
 have HC3 := am H
 clear H
 go_enter Try.func143, Try.ntmps143
 go_upto_region 2 with (first | ((with_reducible refine gd 2 rfl ?_); refine bX 2 #[.int .i64 a0_0, .int .i64 a0_1] 102 HB ?_; clear HB; intro gb245 w4 hg hb BK245 GW245 HB; clear hb hg) | ((with_reducible refine gate_dst (N := 6) rfl ?_); refine Kd.R_lit (Kd.int .i64) _ 2 ?hg (N := 6) ?hd (xs := ([] : List Int)) (inner := []) (ok := fun _ => True) (okp := fun _ => True) ?hr ?hp (fun _ hk => hk) trivial (Below.refl _ _) (Nat.le_refl _) (by simp) ?_; (case hd => rfl); (case hg => rfl); (case hr => exact gs); (case hp => exact (Reps.none _ _)); intro v247 w5 ho6 hb hg_ hnew_; clear hg_ hnew_; (first | rw [← Ny246.out] at ho6 | (simp only [Int.reduceToNat] at ho6; rw [← Ny246.out] at ho6)); have HO248 := am (Kd.R_lower ho6 (below_size (bw HB))); replace BK245 := bb BK245 hb; replace HB := bs HB hb; clear hb ho6))
 (try simp only [Act.put, sa, sz, ss])
 go_cut [14] (fun v14 wc => ∃ (kq : Nat) (x14_2 : Bool), v14 = .bool x14_2 ∧ Aside0 (spec_l08Next.j0 kq a1 y246 x14_2 a0_0 a0_1 = some r) ∧ Aside0 (kq ≤ k) ∧ Aside0 (Kd.R (Kd.int .i64) 2 wc w.heap.size (fun _ => True) v247 y246) ∧ Aside0 (wc.heap[gb245]? = some (.cells #[.int .i64 a0_0, .int .i64 a0_1] 102 (0, 0))) ∧ Aside0 (Below w.heap.size w wc))
 case first =>
  have H := HC3.out
  clear HC3
  refine qE H ?_ ?_ <;> clear H
  ·intro c7b0 c7b1 H
   (first | rw [c7b0] | (simp only [i64_w, i32_w]; rw [c7b0]) | skip)
   have H' := am H
   clear H
   have hcz8 := bK w5 BK245
   have hfz8 := bF BK245
   go_wp2
   go_meet
   case rel => exact ⟨_, (false), dr, H', ⟨lk0⟩, ⟨kR HO248⟩, ⟨bp BK245⟩, ⟨bw HB⟩⟩
  intro c7 c7b0 c7b1 H
  (first | rw [c7b0] | (simp only [i64_w, i32_w]; rw [c7b0]) | skip)
  have H' := am H
  clear H
  have hcz9 := bK w5 BK245
  have hfz9 := bF BK245
  go_wp2
  go_meet
  case rel => exact ⟨_, ((a0_0 != 33)), dr, H', ⟨lk0⟩, ⟨kR HO248⟩, ⟨bp BK245⟩, ⟨bw HB⟩⟩
 clear HC3
 (try clear c1); (try clear p2); (try clear c7); (try clear c7b0); (try clear c7b1); (try clear hcz8); (try clear hcz9); (try clear hfz8); (try clear hfz9)
 obtain ⟨kq, x14_2, rfl, HA, HJ2, HO_5, BK245, HB⟩ := hcut
 rcases kq with _ | kj2
 ·exact absurd HA.out (by simp [spec_l08Next.j0])
 have H := HA.out
 clear HA
 simp only [spec_l08Next.j0] at H
 have HC10 := am H
 clear H
 go_upto_if 14 with (fail)
 go_cut [5] (fun v5 wc => ∃ (kq : Nat) (x5_9 : List Int), Aside0 (spec_l08Next.j1 kq x5_9 a0_0 a0_1 = some r) ∧ Aside0 (kq ≤ kj2) ∧ Aside0 (Kd.R (Kd.int .i64) 2 wc w.heap.size (fun _ => True) v5 x5_9) ∧ Aside0 (wc.heap[gb245]? = some (.cells #[.int .i64 a0_0, .int .i64 a0_1] 102 (0, 0))) ∧ Aside0 (Below w.heap.size w wc))
 case first =>
  have H := HC10.out
  clear HC10
  refine qT H ?_ ?_ <;> clear H <;> intro c11 H <;> subst c11
  ·refine iN H ?_; clear H; intro c12 H
   have LMc12 := am c12
   clear c12
   obtain ⟨y249, hy249⟩ : ∃ y_ : List Int, y_ = (y246 ++ [wrap64 (a1 + 1)]) := ⟨_, rfl⟩
   replace H : (spec_l08Next.j1 kj2 y249 a0_0 a0_1) = some r := by first | (rw [hy249]; with_reducible exact H) | (have H2_ := (Option.bind_some _ _).symm.trans H; rw [hy249]; with_reducible exact H2_) | (have H2_ := (Option.bind_some _ _).symm.trans H; with_reducible exact H2_) | with_reducible exact H | (rw [hy249]; exact H) | exact H
   have Ny249 := am hy249
   clear hy249
   have H' := am H
   clear H
   go_wp2_with (first | ((with_reducible refine gate_builtin (b := .append) (xs := #[.tmp 15, .tmp 18]) rfl ?_); at_builtin; refine Kd.R_append (Kd.int .i64) (w0 := w) w.heap.size rfl (.tmp 15) (.tmp 18) 26 2 (.int .i64 0) 8 rfl Try.underlying26 info2 rfl (by decide) (by omega) v247 y246 (wrap64 (a1 + 1)) [.int .i64 (wrap64 (a1 + 1))] (fun _ => True) (fun _ => False) rfl rfl ?aP (fun _ hk => hk.elim) ?aF ?aO ?aB ?aS ?aL ?_; (case aP => exact rfl); (case aB => exact (bw HB)); (case aF => exact (fun _ _ => trivial)); (case aO => exact (kR HO_5)); (case aS => exact (below_size (bw HB))); (case aL => have := LMc12.out; omega); intro v250 w13 ho hb hg hat; rw [← Ny249.out] at ho; replace BK245 := bg BK245 hg (Kd.R_ne HO_5.out BK245.out (by decide)); replace HB := am (hb); have HO251 := am (ho); clear HO_5; clear ho hb hg hat))
   go_meet
   case rel => exact ⟨_, (y249), H', ⟨lk1 HJ2⟩, ⟨kR HO251⟩, ⟨bp BK245⟩, ⟨bw HB⟩⟩
  have H' := am H
  clear H
  go_wp2
  go_meet
  case rel => exact ⟨_, (y246), H', ⟨lk1 HJ2⟩, ⟨kR HO_5⟩, ⟨bp BK245⟩, ⟨bw HB⟩⟩
 clear HC10
 (try clear p6); (try clear c11); (try clear c12)
 obtain ⟨kq, x5_9, HA, HJ9, HO_5, BK245, HB⟩ := hcut
 rcases kq with _ | kj9
 ·exact absurd HA.out (by simp [spec_l08Next.j1])
 have H := HA.out
 clear HA
 simp only [spec_l08Next.j1] at H
 refine qE H ?_ ?_ <;> clear H
 ·intro c14b0 c14b1 H
  refine iN H ?_; clear H; intro c15 H
  have LMc15 := am c15
  clear c15
  obtain ⟨y252, hy252⟩ : ∃ y_ : List Int, y_ = (x5_9 ++ [a0_1]) := ⟨_, rfl⟩
  replace H : (some y252) = some r := by first | (rw [hy252]; with_reducible exact H) | (have H2_ := (Option.bind_some _ _).symm.trans H; rw [hy252]; with_reducible exact H2_) | (have H2_ := (Option.bind_some _ _).symm.trans H; with_reducible exact H2_) | with_reducible exact H | (rw [hy252]; exact H) | exact H
  have Ny252 := am hy252
  clear hy252
  obtain rfl := Option.some.inj H
  have hcz16 := bK wc BK245
  have hfz16 := bF BK245
  go_wp2_with (first | ((with_reducible refine gate_builtin (b := .append) (xs := #[.tmp 28, .tmp 31]) rfl ?_); at_builtin; refine Kd.R_append (Kd.int .i64) (w0 := w) w.heap.size rfl (.tmp 28) (.tmp 31) 26 2 (.int .i64 0) 8 rfl Try.underlying26 info2 rfl (by decide) (by omega) u5 x5_9 a0_1 [.int .i64 a0_1] (fun _ => True) (fun _ => False) rfl rfl ?aP (fun _ hk => hk.elim) ?aF ?aO ?aB ?aS ?aL ?_; (case aP => exact rfl); (case aB => exact (bw HB)); (case aF => exact (fun _ _ => trivial)); (case aO => exact (kR HO_5)); (case aS => exact (below_size (bw HB))); (case aL => have := LMc15.out; omega); intro v253 w17 ho hb hg hat; rw [← Ny252.out] at ho; replace BK245 := bg BK245 hg (Kd.R_ne HO_5.out BK245.out (by decide)); replace HB := am (hb); have HO254 := am (ho); clear HO_5; clear ho hb hg hat))
  go_ret
  exact ⟨_, er, kR HO254, bw HB⟩
 intro c14 c14b0 c14b1 H
 refine qE H ?_ ?_ <;> clear H
 ·intro c18b0 c18b1 H
  refine iN H ?_; clear H; intro c19 H
  have LMc19 := am c19
  clear c19
  obtain ⟨y255, hy255⟩ : ∃ y_ : List Int, y_ = (x5_9 ++ [a0_1]) := ⟨_, rfl⟩
  replace H : (some y255) = some r := by first | (rw [hy255]; with_reducible exact H) | (have H2_ := (Option.bind_some _ _).symm.trans H; rw [hy255]; with_reducible exact H2_) | (have H2_ := (Option.bind_some _ _).symm.trans H; with_reducible exact H2_) | with_reducible exact H | (rw [hy255]; exact H) | exact H
  have Ny255 := am hy255
  clear hy255
  obtain rfl := Option.some.inj H
  have hcz20 := bK wc BK245
  have hfz20 := bF BK245
  go_wp2_with (first | ((with_reducible refine gate_builtin (b := .append) (xs := #[.tmp 28, .tmp 31]) rfl ?_); at_builtin; refine Kd.R_append (Kd.int .i64) (w0 := w) w.heap.size rfl (.tmp 28) (.tmp 31) 26 2 (.int .i64 0) 8 rfl Try.underlying26 info2 rfl (by decide) (by omega) u5 x5_9 a0_1 [.int .i64 a0_1] (fun _ => True) (fun _ => False) rfl rfl ?aP (fun _ hk => hk.elim) ?aF ?aO ?aB ?aS ?aL ?_; (case aP => exact rfl); (case aB => exact (bw HB)); (case aF => exact (fun _ _ => trivial)); (case aO => exact (kR HO_5)); (case aS => exact (below_size (bw HB))); (case aL => have := LMc19.out; omega); intro v256 w21 ho hb hg hat; rw [← Ny255.out] at ho; replace BK245 := bg BK245 hg (Kd.R_ne HO_5.out BK245.out (by decide)); replace HB := am (hb); have HO257 := am (ho); clear HO_5; clear ho hb hg hat))
  go_ret
  exact ⟨_, er, kR HO257, bw HB⟩
 intro c18 c18b0 c18b1 H
 obtain rfl := Option.some.inj H
 have hcz22 := bK wc BK245
 have hfz22 := bF BK245
 go_wp2
 go_ret
 exact ⟨_, er, kR HO_5, bw HB⟩

def spec_l08Bit.f (a0 : Int) : Option (Int) := if 0 ≤ (IntKind.u64.wrap (a0)) then (some (shl .i64 1 (IntKind.u64.wrap (a0)))) else (none)
theorem spec_l08Bit.calls (a0 : Int) (r : Int) (w : World) (h : spec_l08Bit.f a0 = some r) :
  Calls Try.prog 151 #[.int .i64 a0] w fun e w' => e = .returned (.int .i64 r) ∧ Drawn0 w w' := by
 have H : (if 0 ≤ (IntKind.u64.wrap (a0)) then (some (shl .i64 1 (IntKind.u64.wrap (a0)))) else (none)) = some r := h
 clear h
 obtain ⟨ji2, hji2⟩ : ∃ j_ : Int, (IntKind.u64.wrap (a0)) = j_ := ⟨_, rfl⟩
 replace H : (if 0 ≤ (ji2) then (some (shl .i64 1 (ji2))) else (none)) = some r := by first | (rw [hji2] at H; exact H) | (simp only [hji2] at H ⊢; exact H)
 refine iN H ?_; clear H; intro c3 H
 have c3b0 := eq_true c3
 have c3b1 := decide_eq_true c3
 clear c3
 obtain ⟨ji4, hji4⟩ : ∃ j_ : Int, (shl .i64 1 (ji2)) = j_ := ⟨_, rfl⟩
 replace H : (some ji4) = some r := by first | (rw [hji4] at H; exact H) | (simp only [hji4] at H ⊢; exact H)
 have hji4_ : (IntKind.i64.wrap (1 * 2 ^ min (ji2).toNat 64)) = ji4 := hji4
 have hji4z : (ji2) ≤ 64 → (IntKind.i64.wrap (1 * 2 ^ (ji2).toNat)) = ji4 := shl_small hji4
 have hji4u : (IntKind.i64.wrap (2 ^ min (ji2).toNat 64)) = ji4 := by have h_ := hji4_; rw [Int.one_mul] at h_; exact h_
 have hji4v : (ji2) ≤ 64 → (IntKind.i64.wrap (2 ^ (ji2).toNat)) = ji4 := fun hle_ => by have h_ := hji4z hle_; rw [Int.one_mul] at h_; exact h_
 have hji4y : (wrap64 (1 * 2 ^ min (ji2).toNat 64)) = ji4 := (i64_w _).symm.trans hji4_
 have hji4x : (ji2) ≤ 64 → (wrap64 (1 * 2 ^ (ji2).toNat)) = ji4 := fun h_ => (i64_w _).symm.trans (hji4z h_)
 obtain rfl := Option.some.inj H
 go_enter Try.func151, Try.ntmps151
 go_wp2
 go_ret
 exact ⟨by first | rfl | (simp; done) | (simp only [← hji2, ← hji4] <;> (first | rfl | simp)) | (simp [*]; done), by repeat (first | exact Drawn0.refl _ | apply Drawn0.step)⟩

def spec_l08Mask.l0 : Nat → Int → Int → Int → Option (Int)
 | 0, _, _, _ => none
 | k + 1, x1, x5, x6 => if x6 < x1 then ((spec_l08Bit.f x6).bind fun t258 => (spec_l08Mask.l0 k x1 (Go.bits .or .i64 x5 t258) (wrap64 (x6 + 1)))) else (some x5)
def spec_l08Mask.f (k : Nat) (a0 : Int) (a1 : Int) : Option (Int) := spec_l08Mask.l0 k a1 0 a0
theorem spec_l08Mask.mono_l : ∀ k, (∀ y0 y1 y2, LeO (spec_l08Mask.l0 k y0 y1 y2) (spec_l08Mask.l0 (k + 1) y0 y1 y2))
 | 0 => fun _ _ _ r h => by simp [spec_l08Mask.l0] at h
 | k + 1 => by
  have ih0 := spec_l08Mask.mono_l k
  ·intro y0 y1 y2
   unfold spec_l08Mask.l0
   with_reducible repeat' first | exact ih0 .. | exact LeO.refl _ | exact LeO.none _ | refine LeO.ite ?_ ?_ | refine LeO.bind ?_ (fun _ => ?_)
theorem spec_l08Mask.mono : ∀ a0 a1 k, LeO (spec_l08Mask.f k a0 a1) (spec_l08Mask.f (k + 1) a0 a1) := by
 intro a0 a1 k
 have ih0 := spec_l08Mask.mono_l k
 unfold spec_l08Mask.f
 with_reducible repeat' first | exact ih0 .. | exact LeO.refl _ | exact LeO.none _ | refine LeO.ite ?_ ?_ | refine LeO.bind ?_ (fun _ => ?_)
theorem spec_l08Mask.calls (k : Nat) (a0 : Int) (a1 : Int) (r : Int) (w : World) (h : spec_l08Mask.f k a0 a1 = some r) :
  Calls Try.prog 145 #[.int .i64 a0, .int .i64 a1] w fun e w' => e = .returned (.int .i64 r) ∧ Drawn0 w w' := by
 have H : (spec_l08Mask.l0 k a1 0 a0) = some r := h
 clear h
 have H' := am H
 clear H
 go_enter Try.func145, Try.ntmps145
 go_wp2
 go_loopg [5, 6] k (fun kq v5 v6 w' => ∃ (x5_1 : Int) (x6_1 : Int), v5 = .int .i64 x5_1 ∧ v6 = .int .i64 x6_1 ∧ Aside0 (spec_l08Mask.l0 kq a1 x5_1 x6_1 = some r) ∧ Aside0 (kq ≤ k) ∧ Drawn0 w w')
 case atStart => exact ⟨(0), (a0), dr, dr, H', ⟨Nat.le_refl _⟩, by repeat (first | exact Drawn0.refl _ | apply Drawn0.step)⟩
 clear H'
 (try clear c1); (try clear p2)
 obtain ⟨x5_1, x6_1, rfl, rfl, HA, HK1, ⟨m1, rfl⟩⟩ := hrel
 rcases gk with _ | k1
 ·exact absurd HA.out (by simp [spec_l08Mask.l0])
 have H := HA.out
 clear HA
 simp only [spec_l08Mask.l0] at H
 refine qI H ?_ ?_ <;> clear H <;> intro c3b0 H
 ·refine be H ?_; clear H; intro t258 A4 H
  have H' := am H
  clear H
  go_wp2_with (first | ((with_reducible refine gate_callee (f := 151) rfl ?_); refine goesL_ (some 15) rfl rfl Try.func151 (by kernel_rfl) rfl #[.int .i64 x6_1] rfl gl ?_; (with_reducible refine (spec_l08Bit.calls x6_1 t258 _ A4.out).mono ?_); rintro e w' ⟨rfl, ⟨nd, rfl⟩⟩; refine ⟨_, rfl, ?_⟩))
  go_roundg k1
  case measure => have := HK1.out; omega
  case rel => exact ⟨(Go.bits .or .i64 x5_1 t258), (wrap64 (x6_1 + 1)), dr, dr, H', ⟨by have := HK1.out; omega⟩, by repeat (first | exact Drawn0.refl _ | apply Drawn0.step)⟩
 obtain rfl := Option.some.inj H
 go_wp2
 go_ret
 exact ⟨by first | rfl | (simp; done) | (simp [*]; done), by repeat (first | exact Drawn0.refl _ | apply Drawn0.step)⟩

def spec_l08Writes.f (k : Nat) (l0_0 : List (S100)) (a1_0 : Int) (a1_1 : Int) (a2 : Int) : Option (Int) := if a1_0 = 3 then ((spec_l08Bit.f a1_1).bind fun t261 => (some t261)) else ((spec_Takes.f k l0_0 a1_0 a1_1).bind fun t262 => ((spec_Puts.f k a1_0 a1_1).bind fun t263 => ((spec_l08Mask.f k (wrap64 (a2 - t262)) (wrap64 ((wrap64 (a2 - t262)) + t263))).bind fun t264 => (some t264))))
theorem spec_l08Writes.mono : ∀ a0 a1 a2 a3 k, LeO (spec_l08Writes.f k a0 a1 a2 a3) (spec_l08Writes.f (k + 1) a0 a1 a2 a3) := by
 intro a0 a1 a2 a3 k
 unfold spec_l08Writes.f
 with_reducible repeat' first | exact spec_Puts.mono .. | exact spec_Takes.mono .. | exact spec_l08Mask.mono .. | exact LeO.refl _ | exact LeO.none _ | refine LeO.ite ?_ ?_ | refine LeO.bind ?_ (fun _ => ?_)
theorem spec_l08Writes.calls (k : Nat) (A0_0 : Option Addr) (c0_0 : Nat) (l0_0 : List (S100)) (a1_0 : Int) (a1_1 : Int) (a2 : Int) (r : Int) (w : World) (hr0_0 : Kd.C k100 w A0_0 l0_0.length l0_0) (hc0_0 : l0_0.length ≤ c0_0) (h : spec_l08Writes.f k l0_0 a1_0 a1_1 a2 = some r) :
  Calls Try.prog 144 #[.agg #[.slice A0_0 l0_0.length c0_0], .agg #[.int .i64 a1_0, .int .i64 a1_1], .int .i64 a2] w fun e w' => e = .returned (.int .i64 r) ∧ Below w.heap.size w w' := by
 have hu30 := Try.underlying30
 have hu102 := Try.underlying102
 have HR0_0 := am hr0_0
 have HC0_0 := am hc0_0
 clear hr0_0 hc0_0
 have HB := am (Below.refl w.heap.size w)
 have H : (if a1_0 = 3 then ((spec_l08Bit.f a1_1).bind fun t261 => (some t261)) else ((spec_Takes.f k l0_0 a1_0 a1_1).bind fun t262 => ((spec_Puts.f k a1_0 a1_1).bind fun t263 => ((spec_l08Mask.f k (wrap64 (a2 - t262)) (wrap64 ((wrap64 (a2 - t262)) + t263))).bind fun t264 => (some t264))))) = some r := h
 clear h
 have HC4 := am H
 clear H
 go_enter Try.func144, Try.ntmps144
 go_upto_if 9 with (first | ((with_reducible refine gd 3 rfl ?_); refine bX 3 #[.slice A0_0 l0_0.length c0_0] 30 HB ?_; clear HB; intro gb259 w5 hg hb BK259 GW259 HB; clear hb hg) | ((with_reducible refine gd 4 rfl ?_); refine bX 4 #[.int .i64 a1_0, .int .i64 a1_1] 102 HB ?_; clear HB; intro gb260 w6 hg hb BK260 GW260 HB; obtain ⟨NB259_260, NB260_259, BK259⟩ := b3 hg BK259 hb; clear hb hg; have hnb7 := NB260_259.out; have hnc7 := NB259_260.out; have hcz8 := bK w6 BK260; have hfz8 := bF BK260))
 (try simp only [Act.put, sa, sz, ss])
 have H := HC4.out
 clear HC4
 refine qE H ?_ ?_ <;> clear H
 ·intro c9b0 c9b1 H
  (first | rw [c9b0] | (simp only [i64_w, i32_w]; rw [c9b0]) | skip)
  refine be H ?_; clear H; intro t261 A10 H
  obtain rfl := Option.some.inj H
  have hnb11 := NB260_259.out
  have hnc11 := NB259_260.out
  have hcz12 := bK w6 BK260
  have hfz12 := bF BK260
  go_wp2_with (first | ((with_reducible refine gate_callee (f := 151) rfl ?_); refine goesL_ (some 12) rfl rfl Try.func151 (by kernel_rfl) rfl #[.int .i64 a1_1] rfl gl ?_; (with_reducible refine (spec_l08Bit.calls a1_1 t261 _ A10.out).mono ?_); rintro e w' ⟨rfl, ⟨nd, rfl⟩⟩; refine ⟨_, rfl, ?_⟩))
  go_ret
  exact ⟨er, bw HB⟩
 intro c9 c9b0 c9b1 H
 (first | rw [c9b0] | (simp only [i64_w, i32_w]; rw [c9b0]) | skip)
 refine be H ?_; clear H; intro t262 A13 H
 refine be H ?_; clear H; intro t263 A14 H
 refine be H ?_; clear H; intro t264 A15 H
 obtain rfl := Option.some.inj H
 have hnb16 := NB259_260.out
 have hnc16 := NB260_259.out
 have hcz17 := bK w6 BK259
 have hfz17 := bF BK259
 have hcz18 := bK w6 BK260
 have hfz18 := bF BK260
 go_wp2_with (first | ((with_reducible refine gk 118 rfl ?_); refine gB 118 (some 16) Try.func118 #[.agg #[.slice A0_0 l0_0.length c0_0], .agg #[.int .i64 a1_0, .int .i64 a1_1]] (spec_Takes.calls k _ _ l0_0 a1_0 a1_1 t262 _ (cc (Kd.C_below HR0_0.out HB.out)) HC0_0.out A13.out) ?_; intro w19 hb; replace BK259 := bb BK259 hb; replace BK260 := bb BK260 hb; replace HB := bs HB hb; clear hb; have hcz20 := bK w19 BK260; have hfz20 := bF BK260) | ((with_reducible refine gate_callee (f := 119) rfl ?_); refine goesL_ (some 21) rfl rfl Try.func119 (by kernel_rfl) rfl #[.agg #[.int .i64 a1_0, .int .i64 a1_1]] rfl gl ?_; (with_reducible refine (spec_Puts.calls k a1_0 a1_1 t263 _ A14.out).mono ?_); rintro e w21 ⟨rfl, hb⟩; refine ⟨_, rfl, ?_⟩; replace BK259 := bb BK259 hb; replace BK260 := bb BK260 hb; replace HB := bs HB hb; clear hb) | ((with_reducible refine gate_callee (f := 145) rfl ?_); refine goesL_ (some 23) rfl rfl Try.func145 (by kernel_rfl) rfl #[.int .i64 (wrap64 (a2 - t262)), .int .i64 (wrap64 ((wrap64 (a2 - t262)) + t263))] rfl gl ?_; (with_reducible refine (spec_l08Mask.calls k (wrap64 (a2 - t262)) (wrap64 ((wrap64 (a2 - t262)) + t263)) t264 _ A15.out).mono ?_); rintro e w' ⟨rfl, ⟨nd, rfl⟩⟩; refine ⟨_, rfl, ?_⟩))
 go_ret
 exact ⟨er, bw HB⟩

def spec_l08Reads.f (k : Nat) (l0_0 : List (S100)) (a1_0 : Int) (a1_1 : Int) (a2 : Int) : Option (Int) := if a1_0 = 2 then ((spec_l08Bit.f a1_1).bind fun t267 => (some t267)) else ((spec_Takes.f k l0_0 a1_0 a1_1).bind fun t268 => ((spec_l08Mask.f k (wrap64 (a2 - t268)) a2).bind fun t269 => (some t269)))
theorem spec_l08Reads.mono : ∀ a0 a1 a2 a3 k, LeO (spec_l08Reads.f k a0 a1 a2 a3) (spec_l08Reads.f (k + 1) a0 a1 a2 a3) := by
 intro a0 a1 a2 a3 k
 unfold spec_l08Reads.f
 with_reducible repeat' first | exact spec_Takes.mono .. | exact spec_l08Mask.mono .. | exact LeO.refl _ | exact LeO.none _ | refine LeO.ite ?_ ?_ | refine LeO.bind ?_ (fun _ => ?_)
theorem spec_l08Reads.calls (k : Nat) (A0_0 : Option Addr) (c0_0 : Nat) (l0_0 : List (S100)) (a1_0 : Int) (a1_1 : Int) (a2 : Int) (r : Int) (w : World) (hr0_0 : Kd.C k100 w A0_0 l0_0.length l0_0) (hc0_0 : l0_0.length ≤ c0_0) (h : spec_l08Reads.f k l0_0 a1_0 a1_1 a2 = some r) :
  Calls Try.prog 146 #[.agg #[.slice A0_0 l0_0.length c0_0], .agg #[.int .i64 a1_0, .int .i64 a1_1], .int .i64 a2] w fun e w' => e = .returned (.int .i64 r) ∧ Below w.heap.size w w' := by
 have hu30 := Try.underlying30
 have hu102 := Try.underlying102
 have HR0_0 := am hr0_0
 have HC0_0 := am hc0_0
 clear hr0_0 hc0_0
 have HB := am (Below.refl w.heap.size w)
 have H : (if a1_0 = 2 then ((spec_l08Bit.f a1_1).bind fun t267 => (some t267)) else ((spec_Takes.f k l0_0 a1_0 a1_1).bind fun t268 => ((spec_l08Mask.f k (wrap64 (a2 - t268)) a2).bind fun t269 => (some t269)))) = some r := h
 clear h
 have HC4 := am H
 clear H
 go_enter Try.func146, Try.ntmps146
 go_upto_if 9 with (first | ((with_reducible refine gd 3 rfl ?_); refine bX 3 #[.slice A0_0 l0_0.length c0_0] 30 HB ?_; clear HB; intro gb265 w5 hg hb BK265 GW265 HB; clear hb hg) | ((with_reducible refine gd 4 rfl ?_); refine bX 4 #[.int .i64 a1_0, .int .i64 a1_1] 102 HB ?_; clear HB; intro gb266 w6 hg hb BK266 GW266 HB; obtain ⟨NB265_266, NB266_265, BK265⟩ := b3 hg BK265 hb; clear hb hg; have hnb7 := NB266_265.out; have hnc7 := NB265_266.out; have hcz8 := bK w6 BK266; have hfz8 := bF BK266))
 (try simp only [Act.put, sa, sz, ss])
 have H := HC4.out
 clear HC4
 refine qE H ?_ ?_ <;> clear H
 ·intro c9b0 c9b1 H
  (first | rw [c9b0] | (simp only [i64_w, i32_w]; rw [c9b0]) | skip)
  refine be H ?_; clear H; intro t267 A10 H
  obtain rfl := Option.some.inj H
  have hnb11 := NB266_265.out
  have hnc11 := NB265_266.out
  have hcz12 := bK w6 BK266
  have hfz12 := bF BK266
  go_wp2_with (first | ((with_reducible refine gate_callee (f := 151) rfl ?_); refine goesL_ (some 12) rfl rfl Try.func151 (by kernel_rfl) rfl #[.int .i64 a1_1] rfl gl ?_; (with_reducible refine (spec_l08Bit.calls a1_1 t267 _ A10.out).mono ?_); rintro e w' ⟨rfl, ⟨nd, rfl⟩⟩; refine ⟨_, rfl, ?_⟩))
  go_ret
  exact ⟨er, bw HB⟩
 intro c9 c9b0 c9b1 H
 (first | rw [c9b0] | (simp only [i64_w, i32_w]; rw [c9b0]) | skip)
 refine be H ?_; clear H; intro t268 A13 H
 refine be H ?_; clear H; intro t269 A14 H
 obtain rfl := Option.some.inj H
 have hnb15 := NB265_266.out
 have hnc15 := NB266_265.out
 have hcz16 := bK w6 BK265
 have hfz16 := bF BK265
 have hcz17 := bK w6 BK266
 have hfz17 := bF BK266
 go_wp2_with (first | ((with_reducible refine gk 118 rfl ?_); refine gB 118 (some 16) Try.func118 #[.agg #[.slice A0_0 l0_0.length c0_0], .agg #[.int .i64 a1_0, .int .i64 a1_1]] (spec_Takes.calls k _ _ l0_0 a1_0 a1_1 t268 _ (cc (Kd.C_below HR0_0.out HB.out)) HC0_0.out A13.out) ?_; intro w18 hb; replace BK265 := bb BK265 hb; replace BK266 := bb BK266 hb; replace HB := bs HB hb; clear hb) | ((with_reducible refine gate_callee (f := 145) rfl ?_); refine goesL_ (some 19) rfl rfl Try.func145 (by kernel_rfl) rfl #[.int .i64 (wrap64 (a2 - t268)), .int .i64 a2] rfl gl ?_; (with_reducible refine (spec_l08Mask.calls k (wrap64 (a2 - t268)) a2 t269 _ A14.out).mono ?_); rintro e w' ⟨rfl, ⟨nd, rfl⟩⟩; refine ⟨_, rfl, ?_⟩))
 go_ret
 exact ⟨er, bw HB⟩

end Go.Proofs.Ytbmjmaahcaoajaa.QFnExactLive
