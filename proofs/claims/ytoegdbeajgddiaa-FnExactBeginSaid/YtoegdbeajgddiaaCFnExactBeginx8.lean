import Derived.Test.YtoegdbeajgddiaaCFnExactBeginx0
import Derived.Test.YtoegdbeajgddiaaCFnExactBeginx7
namespace Go.Proofs.Ytoegdbeajgddiaa.QFnExactBegin
open Go.RowKit Go.Proofs.YtoegdbeajgddiaaW
open PrintWords PrintLast PrintMore PrintShort PrintIsh
attribute [local go_sem] max2_int min2_int max_two min_two max_three min_three max_four min_four   -- for this text's walks alone
set_option linter.unusedVariables false
set_option maxHeartbeats 8000000
set_option maxRecDepth 100000
set_option linter.unusedSimpArgs false

def impl_Puts.j0 : Nat → Bool → Int → Int → Option (Int)
 | 0, _, _, _ => none
 | k + 1, x7, x282000, x282001 => if x7 = true then (some 1) else ((impl_isArith.f x282000).bind fun t282 => (if t282 = true then (some 1) else (some 0)))
def impl_Puts.f (k : Nat) (a0_0 : Int) (a0_1 : Int) : Option (Int) := if a0_0 = 4 then (some 2) else (if a0_0 = 1 then (impl_Puts.j0 k (a0_0 == 1) a0_0 a0_1) else (if a0_0 = 2 then (impl_Puts.j0 k (a0_0 == 2) a0_0 a0_1) else (if a0_0 = 32 then (impl_Puts.j0 k (a0_0 == 32) a0_0 a0_1) else (if a0_0 = 34 then (impl_Puts.j0 k (a0_0 == 34) a0_0 a0_1) else (if a0_0 = 35 then (impl_Puts.j0 k (a0_0 == 35) a0_0 a0_1) else (impl_Puts.j0 k (a0_0 == 37) a0_0 a0_1))))))
theorem impl_Puts.mono_l : ∀ k, (∀ y0 y1 y2, LeO (impl_Puts.j0 k y0 y1 y2) (impl_Puts.j0 (k + 1) y0 y1 y2))
 | 0 => fun _ _ _ r h => by simp [impl_Puts.j0] at h
 | k + 1 => by
  have ih0 := impl_Puts.mono_l k
  ·intro y0 y1 y2
   unfold impl_Puts.j0
   with_reducible repeat' first | exact ih0 .. | exact LeO.refl _ | exact LeO.none _ | refine LeO.ite ?_ ?_ | refine LeO.bind ?_ (fun _ => ?_)
theorem impl_Puts.mono : ∀ a0 a1 k, LeO (impl_Puts.f k a0 a1) (impl_Puts.f (k + 1) a0 a1) := by
 intro a0 a1 k
 have ih0 := impl_Puts.mono_l k
 unfold impl_Puts.f
 with_reducible repeat' first | exact ih0 .. | exact LeO.refl _ | exact LeO.none _ | refine LeO.ite ?_ ?_ | refine LeO.bind ?_ (fun _ => ?_)
theorem impl_Puts.calls (k : Nat) (a0_0 : Int) (a0_1 : Int) (r : Int) (w : World) (h : impl_Puts.f k a0_0 a0_1 = some r) :
  Calls Try.prog 53 #[.agg #[.int .i64 a0_0, .int .i64 a0_1]] w fun e w' => e = .returned (.int .i64 r) ∧ Below w.heap.size w w' := by
 have hu85 := Try.underlying85
 have HB := am (Below.refl w.heap.size w)
 have H : (if a0_0 = 4 then (some 2) else (if a0_0 = 1 then (impl_Puts.j0 k (a0_0 == 1) a0_0 a0_1) else (if a0_0 = 2 then (impl_Puts.j0 k (a0_0 == 2) a0_0 a0_1) else (if a0_0 = 32 then (impl_Puts.j0 k (a0_0 == 32) a0_0 a0_1) else (if a0_0 = 34 then (impl_Puts.j0 k (a0_0 == 34) a0_0 a0_1) else (if a0_0 = 35 then (impl_Puts.j0 k (a0_0 == 35) a0_0 a0_1) else (impl_Puts.j0 k (a0_0 == 37) a0_0 a0_1))))))) = some r := h
 clear h
 have HC2 := am H
 clear H
 go_enter Try.func53, Try.ntmps53
 go_upto_if 5 with (first | ((with_reducible refine gd 1 rfl ?_); refine bX 1 #[.int .i64 a0_0, .int .i64 a0_1] 85 HB ?_; clear HB; intro gb281 w3 hg hb BK281 GW281 HB; clear hb hg; have hcz4 := bK w3 BK281; have hfz4 := bF BK281))
 (try simp only [Act.put, sa, sz, ss])
 have H := HC2.out
 clear HC2
 refine qE H ?_ ?_ <;> clear H
 ·intro c5b0 c5b1 H
  (first | rw [c5b0] | (simp only [i64_w, i32_w]; rw [c5b0]) | skip)
  obtain rfl := Option.some.inj H
  go_wp2
  go_ret
  exact ⟨er, bw HB⟩
 intro c5 c5b0 c5b1 H
 (first | rw [c5b0] | (simp only [i64_w, i32_w]; rw [c5b0]) | skip)
 have HC6 := am H
 clear H
 go_upto_if 7 with (fail)
 go_cut [7] (fun v7 wc => ∃ (kq : Nat) (x7_5 : Bool), v7 = .bool x7_5 ∧ Aside0 (impl_Puts.j0 kq x7_5 a0_0 a0_1 = some r) ∧ Aside0 (kq ≤ k) ∧ Aside0 (wc.heap[gb281]? = some (.cells #[.int .i64 a0_0, .int .i64 a0_1] 85 (0, 0))) ∧ Aside0 (Below w.heap.size w wc))
 case first =>
  have H := HC6.out
  clear HC6
  refine qE H ?_ ?_ <;> clear H
  ·intro c7b0 c7b1 H
   (first | rw [c7b0] | (simp only [i64_w, i32_w]; rw [c7b0]) | skip)
   have H' := am H
   clear H
   go_wp2
   go_meet
   case rel => exact ⟨_, ((a0_0 == 1)), dr, H', ⟨lk0⟩, ⟨bp BK281⟩, ⟨bw HB⟩⟩
  intro c7 c7b0 c7b1 H
  (first | rw [c7b0] | (simp only [i64_w, i32_w]; rw [c7b0]) | skip)
  refine qE H ?_ ?_ <;> clear H
  ·intro c8b0 c8b1 H
   have H' := am H
   clear H
   go_wp2
   go_meet
   case rel => exact ⟨_, ((a0_0 == 2)), dr, H', ⟨lk0⟩, ⟨bp BK281⟩, ⟨bw HB⟩⟩
  intro c8 c8b0 c8b1 H
  refine qE H ?_ ?_ <;> clear H
  ·intro c9b0 c9b1 H
   have H' := am H
   clear H
   go_wp2
   go_meet
   case rel => exact ⟨_, ((a0_0 == 32)), dr, H', ⟨lk0⟩, ⟨bp BK281⟩, ⟨bw HB⟩⟩
  intro c9 c9b0 c9b1 H
  refine qE H ?_ ?_ <;> clear H
  ·intro c10b0 c10b1 H
   have H' := am H
   clear H
   go_wp2
   go_meet
   case rel => exact ⟨_, ((a0_0 == 34)), dr, H', ⟨lk0⟩, ⟨bp BK281⟩, ⟨bw HB⟩⟩
  intro c10 c10b0 c10b1 H
  refine qE H ?_ ?_ <;> clear H
  ·intro c11b0 c11b1 H
   have H' := am H
   clear H
   go_wp2
   go_meet
   case rel => exact ⟨_, ((a0_0 == 35)), dr, H', ⟨lk0⟩, ⟨bp BK281⟩, ⟨bw HB⟩⟩
  intro c11 c11b0 c11b1 H
  have H' := am H
  clear H
  go_wp2
  go_meet
  case rel => exact ⟨_, ((a0_0 == 37)), dr, H', ⟨lk0⟩, ⟨bp BK281⟩, ⟨bw HB⟩⟩
 clear HC6
 (try clear c1); (try clear p2); (try clear c5); (try clear c5b0); (try clear c5b1); (try clear c7); (try clear c7b0); (try clear c7b1); (try clear c8); (try clear c8b0); (try clear c8b1); (try clear c9); (try clear c9b0); (try clear c9b1); (try clear c10); (try clear c10b0); (try clear c10b1); (try clear c11); (try clear c11b0); (try clear c11b1); (try clear hcz4); (try clear hfz4)
 obtain ⟨kq, x7_5, rfl, HA, HJ5, BK281, HB⟩ := hcut
 rcases kq with _ | kj5
 ·exact absurd HA.out (by simp [impl_Puts.j0])
 have H := HA.out
 clear HA
 simp only [impl_Puts.j0] at H
 refine qT H ?_ ?_ <;> clear H <;> intro c12 H <;> subst c12
 ·obtain rfl := Option.some.inj H
  go_wp2
  go_ret
  exact ⟨er, bw HB⟩
 refine be H ?_; clear H; intro t282 A13 H
 have HC14 := am H
 clear H
 have hcz15 := bK wc BK281
 have hfz15 := bF BK281
 go_upto_if 16 with (first | ((with_reducible refine gate_callee (f := 60) rfl ?_); refine goesL_ (some 16) rfl rfl Try.func60 (by kernel_rfl) rfl #[.int .i64 a0_0] rfl gl ?_; (with_reducible refine (impl_isArith.calls a0_0 t282 _ A13.out).mono ?_); rintro e w' ⟨rfl, ⟨nd, rfl⟩⟩; refine ⟨_, rfl, ?_⟩))
 (try simp only [Act.put, sa, sz, ss])
 (try simp only [World.drewN_drewN])
 generalize hq_ : World.drewN wc _ = w16
 replace BK281 : Aside0 (w16.heap[gb281]? = some (.cells #[.int .i64 a0_0, .int .i64 a0_1] 85 (0, 0))) := ⟨by rw [← hq_]; exact (bp BK281)⟩
 replace HB : Aside0 (Below w.heap.size w w16) := ⟨by rw [← hq_]; exact (bw HB)⟩
 clear hq_
 have H := HC14.out
 clear HC14
 refine qT H ?_ ?_ <;> clear H <;> intro c17 H <;> subst c17
 ·obtain rfl := Option.some.inj H
  go_wp2
  go_ret
  exact ⟨er, bw HB⟩
 obtain rfl := Option.some.inj H
 go_wp2
 go_ret
 exact ⟨er, bw HB⟩

def impl_next.f (a0_0 : Int) (a0_1 : Int) (a1 : Int) : Option (List Int) := if a0_0 = 33 then (some ([] : List Int)) else (if a0_0 = 30 then (some (([a0_1] : List Int))) else (if a0_0 = 31 then (some (([wrap64 (a1 + 1), a0_1] : List Int))) else (some (([wrap64 (a1 + 1)] : List Int)))))
theorem impl_next.calls (a0_0 : Int) (a0_1 : Int) (a1 : Int) (r : List Int) (w : World) (h : impl_next.f a0_0 a0_1 a1 = some r) :
  Calls Try.prog 54 #[.agg #[.int .i64 a0_0, .int .i64 a0_1], .int .i64 a1] w fun e w' => ∃ v0_ : Value, e = .returned (v0_) ∧ Kd.R (Kd.int .i64) 2 w' w.heap.size (fun _ => True) v0_ r ∧ Below w.heap.size w w' := by
 have hu85 := Try.underlying85
 have HB := am (Below.refl w.heap.size w)
 have H : (if a0_0 = 33 then (some ([] : List Int)) else (if a0_0 = 30 then (some (([a0_1] : List Int))) else (if a0_0 = 31 then (some (([wrap64 (a1 + 1), a0_1] : List Int))) else (some (([wrap64 (a1 + 1)] : List Int)))))) = some r := h
 clear h
 have HC3 := am H
 clear H
 go_enter Try.func54, Try.ntmps54
 go_upto_if 7 with (first | ((with_reducible refine gd 2 rfl ?_); refine bX 2 #[.int .i64 a0_0, .int .i64 a0_1] 85 HB ?_; clear HB; intro gb283 w4 hg hb BK283 GW283 HB; clear hb hg; have hcz5 := bK w4 BK283; have hfz5 := bF BK283))
 (try simp only [Act.put, sa, sz, ss])
 have H := HC3.out
 clear HC3
 refine qE H ?_ ?_ <;> clear H
 ·intro c6b0 c6b1 H
  (first | rw [c6b0] | (simp only [i64_w, i32_w]; rw [c6b0]) | skip)
  obtain rfl := Option.some.inj H
  go_wp2
  go_ret
  exact ⟨_, er, by first | exact Kd.R_nil _ _ _ _ _ | exact Kd.N_nil _ _ _ _ _ | exact Kd.V_nil _ _ _ _ _ | exact Kd.Q_nil _ _ _ _ _ | exact Kd.S_nil _ _ _ _ _, bw HB⟩
 intro c6 c6b0 c6b1 H
 (first | rw [c6b0] | (simp only [i64_w, i32_w]; rw [c6b0]) | skip)
 refine qE H ?_ ?_ <;> clear H
 ·intro c7b0 c7b1 H
  obtain ⟨y284, hy284⟩ : ∃ y_ : List Int, y_ = (([a0_1] : List Int)) := ⟨_, rfl⟩
  replace H : (some y284) = some r := by first | (rw [hy284]; with_reducible exact H) | (have H2_ := (Option.bind_some _ _).symm.trans H; rw [hy284]; with_reducible exact H2_) | (have H2_ := (Option.bind_some _ _).symm.trans H; with_reducible exact H2_) | with_reducible exact H | (rw [hy284]; exact H) | exact H
  have Ny284 := am hy284
  clear hy284
  obtain rfl := Option.some.inj H
  have hcz8 := bK w4 BK283
  have hfz8 := bF BK283
  go_wp2_with (first | ((with_reducible refine gate_dst (N := 13) rfl ?_); refine Kd.R_lit (Kd.int .i64) _ 2 ?hg (N := 13) ?hd (xs := ([a0_1] : List Int)) (inner := [.int .i64 a0_1]) (ok := fun _ => True) (okp := fun _ => True) ?hr ?hp (fun _ hk => hk) trivial (Below.refl _ _) (Nat.le_refl _) (by simp) ?_; (case hd => rfl); (case hg => rfl); (case hr => exact gs); (case hp => exact (Reps.one (show Kd.M (Kd.int .i64) _ _ _ a0_1 [.int .i64 a0_1] from rfl) (Reps.none _ _))); intro v285 w9 ho10 hb hg_ hnew_; clear hg_ hnew_; (first | rw [← Ny284.out] at ho10 | (simp only [Int.reduceToNat] at ho10; rw [← Ny284.out] at ho10)); have HO286 := am (Kd.R_lower ho10 (below_size (bw HB))); replace BK283 := bb BK283 hb; replace HB := bs HB hb; clear hb ho10))
  go_ret
  exact ⟨_, er, kR HO286, bw HB⟩
 intro c7 c7b0 c7b1 H
 refine qE H ?_ ?_ <;> clear H
 ·intro c11b0 c11b1 H
  obtain ⟨y287, hy287⟩ : ∃ y_ : List Int, y_ = (([wrap64 (a1 + 1), a0_1] : List Int)) := ⟨_, rfl⟩
  replace H : (some y287) = some r := by first | (rw [hy287]; with_reducible exact H) | (have H2_ := (Option.bind_some _ _).symm.trans H; rw [hy287]; with_reducible exact H2_) | (have H2_ := (Option.bind_some _ _).symm.trans H; with_reducible exact H2_) | with_reducible exact H | (rw [hy287]; exact H) | exact H
  have Ny287 := am hy287
  clear hy287
  obtain rfl := Option.some.inj H
  have hcz12 := bK w4 BK283
  have hfz12 := bF BK283
  go_wp2_with (first | ((with_reducible refine gate_dst (N := 20) rfl ?_); refine Kd.R_lit (Kd.int .i64) _ 2 ?hg (N := 20) ?hd (xs := ([wrap64 (a1 + 1), a0_1] : List Int)) (inner := [.int .i64 (wrap64 (a1 + 1)), .int .i64 a0_1]) (ok := fun _ => True) (okp := fun _ => True) ?hr ?hp (fun _ hk => hk) trivial (Below.refl _ _) (Nat.le_refl _) (by simp) ?_; (case hd => rfl); (case hg => rfl); (case hr => exact gs); (case hp => exact (Reps.one (show Kd.M (Kd.int .i64) _ _ _ (wrap64 (a1 + 1)) [.int .i64 (wrap64 (a1 + 1))] from rfl) (Reps.one (show Kd.M (Kd.int .i64) _ _ _ a0_1 [.int .i64 a0_1] from rfl) (Reps.none _ _)))); intro v288 w13 ho14 hb hg_ hnew_; clear hg_ hnew_; (first | rw [← Ny287.out] at ho14 | (simp only [Int.reduceToNat] at ho14; rw [← Ny287.out] at ho14)); have HO289 := am (Kd.R_lower ho14 (below_size (bw HB))); replace BK283 := bb BK283 hb; replace HB := bs HB hb; clear hb ho14))
  go_ret
  exact ⟨_, er, kR HO289, bw HB⟩
 intro c11 c11b0 c11b1 H
 obtain ⟨y290, hy290⟩ : ∃ y_ : List Int, y_ = (([wrap64 (a1 + 1)] : List Int)) := ⟨_, rfl⟩
 replace H : (some y290) = some r := by first | (rw [hy290]; with_reducible exact H) | (have H2_ := (Option.bind_some _ _).symm.trans H; rw [hy290]; with_reducible exact H2_) | (have H2_ := (Option.bind_some _ _).symm.trans H; with_reducible exact H2_) | with_reducible exact H | (rw [hy290]; exact H) | exact H
 have Ny290 := am hy290
 clear hy290
 obtain rfl := Option.some.inj H
 go_wp2_with (first | ((with_reducible refine gate_dst (N := 23) rfl ?_); refine Kd.R_lit (Kd.int .i64) _ 2 ?hg (N := 23) ?hd (xs := ([wrap64 (a1 + 1)] : List Int)) (inner := [.int .i64 (wrap64 (a1 + 1))]) (ok := fun _ => True) (okp := fun _ => True) ?hr ?hp (fun _ hk => hk) trivial (Below.refl _ _) (Nat.le_refl _) (by simp) ?_; (case hd => rfl); (case hg => rfl); (case hr => exact gs); (case hp => exact (Reps.one (show Kd.M (Kd.int .i64) _ _ _ (wrap64 (a1 + 1)) [.int .i64 (wrap64 (a1 + 1))] from rfl) (Reps.none _ _))); intro v291 w15 ho16 hb hg_ hnew_; clear hg_ hnew_; (first | rw [← Ny290.out] at ho16 | (simp only [Int.reduceToNat] at ho16; rw [← Ny290.out] at ho16)); have HO292 := am (Kd.R_lower ho16 (below_size (bw HB))); replace BK283 := bb BK283 hb; replace HB := bs HB hb; clear hb ho16))
 go_ret
 exact ⟨_, er, kR HO292, bw HB⟩

end Go.Proofs.Ytoegdbeajgddiaa.QFnExactBegin
