import Derived.Test.YtcdohkilplgmjaaCFnExactPlainx0
import Derived.Test.YtcdohkilplgmjaaCFnExactPlainx1
namespace Go.Proofs.Ytcdohkilplgmjaa.QFnExactPlain
open Go.RowKit Go.Proofs.YtcdohkilplgmjaaW
open PrintWords PrintLast PrintMore PrintShort PrintIsh
attribute [local go_sem] max2_int min2_int max_two min_two max_three min_three max_four min_four   -- for this text's walks alone
set_option linter.unusedVariables false
set_option maxHeartbeats 8000000
set_option maxRecDepth 100000
set_option linter.unusedSimpArgs false

mutual
def spec_Puts.j0 : Nat → Bool → Int → Int → Option (Int)
 | 0, _, _, _ => none
 | k + 1, x10, x114000, x114001 => if x10 = true then (some 1) else (if x114000 = 4 then (some 2) else (if x114000 = 1 then (spec_Puts.j1 k (x114000 == 1)) else (if x114000 = 2 then (spec_Puts.j1 k (x114000 == 2)) else (if x114000 = 32 then (spec_Puts.j1 k (x114000 == 32)) else (if x114000 = 34 then (spec_Puts.j1 k (x114000 == 34)) else (if x114000 = 35 then (spec_Puts.j1 k (x114000 == 35)) else (spec_Puts.j1 k (x114000 == 37))))))))
def spec_Puts.j1 : Nat → Bool → Option (Int)
 | 0, _ => none
 | k + 1, x15 => if x15 = true then (some 1) else (some 0)
end
def spec_Puts.f (k : Nat) (a0_0 : Int) (a0_1 : Int) : Option (Int) := (spec_l03Binary.f a0_0).bind fun t114 => (if t114 = true then (spec_Puts.j0 k true a0_0 a0_1) else ((spec_l03Unary.f a0_0).bind fun t115 => (spec_Puts.j0 k t115 a0_0 a0_1)))
theorem spec_Puts.mono_l : ∀ k, (∀ y0 y1 y2, LeO (spec_Puts.j0 k y0 y1 y2) (spec_Puts.j0 (k + 1) y0 y1 y2)) ∧ (∀ y0, LeO (spec_Puts.j1 k y0) (spec_Puts.j1 (k + 1) y0))
 | 0 => ⟨fun _ _ _ r h => by simp [spec_Puts.j0] at h, fun _ r h => by simp [spec_Puts.j1] at h⟩
 | k + 1 => by
  obtain ⟨ih0, ih1⟩ := spec_Puts.mono_l k
  refine ⟨?_, ?_⟩
  ·intro y0 y1 y2
   unfold spec_Puts.j0
   with_reducible repeat' first | exact ih0 .. | exact ih1 .. | exact LeO.refl _ | exact LeO.none _ | refine LeO.ite ?_ ?_ | refine LeO.bind ?_ (fun _ => ?_)
  ·intro y0
   unfold spec_Puts.j1
   with_reducible repeat' first | exact ih0 .. | exact ih1 .. | exact LeO.refl _ | exact LeO.none _ | refine LeO.ite ?_ ?_ | refine LeO.bind ?_ (fun _ => ?_)
theorem spec_Puts.mono : ∀ a0 a1 k, LeO (spec_Puts.f k a0 a1) (spec_Puts.f (k + 1) a0 a1) := by
 intro a0 a1 k
 obtain ⟨ih0, ih1⟩ := spec_Puts.mono_l k
 unfold spec_Puts.f
 with_reducible repeat' first | exact ih0 .. | exact ih1 .. | exact LeO.refl _ | exact LeO.none _ | refine LeO.ite ?_ ?_ | refine LeO.bind ?_ (fun _ => ?_)
theorem spec_Puts.calls (k : Nat) (a0_0 : Int) (a0_1 : Int) (r : Int) (w : World) (h : spec_Puts.f k a0_0 a0_1 = some r) :
  Calls Try.prog 33 #[.agg #[.int .i64 a0_0, .int .i64 a0_1]] w fun e w' => e = .returned (.int .i64 r) ∧ Below w.heap.size w w' := by
 have hu59 := Try.underlying59
 have HB := am (Below.refl w.heap.size w)
 have H : ((spec_l03Binary.f a0_0).bind fun t114 => (if t114 = true then (spec_Puts.j0 k true a0_0 a0_1) else ((spec_l03Unary.f a0_0).bind fun t115 => (spec_Puts.j0 k t115 a0_0 a0_1)))) = some r := h
 clear h
 have HC2 := am H
 clear H
 go_enter Try.func33, Try.ntmps33
 go_upto_region 1 with (first | ((with_reducible refine gd 1 rfl ?_); refine bX 1 #[.int .i64 a0_0, .int .i64 a0_1] 59 HB ?_; clear HB; intro gb113 w3 hg hb BK113 GW113 HB; clear hb hg))
 (try simp only [Act.put, sa, sz, ss])
 go_cut [10] (fun v10 wc => ∃ (kq : Nat) (x10_1 : Bool), v10 = .bool x10_1 ∧ Aside0 (spec_Puts.j0 kq x10_1 a0_0 a0_1 = some r) ∧ Aside0 (kq ≤ k) ∧ Aside0 (wc.heap[gb113]? = some (.cells #[.int .i64 a0_0, .int .i64 a0_1] 59 (0, 0))) ∧ Aside0 (Below w.heap.size w wc))
 case first =>
  have H := HC2.out
  clear HC2
  refine be H ?_; clear H; intro t114 A4 H
  refine qT H ?_ ?_ <;> clear H <;> intro c5 H <;> subst c5
  ·have H' := am H
   clear H
   have hcz6 := bK w3 BK113
   have hfz6 := bF BK113
   go_wp2_with (first | ((with_reducible refine gate_callee (f := 58) rfl ?_); refine goesL_ (some 5) rfl rfl Try.func58 (by kernel_rfl) rfl #[.int .i64 a0_0] rfl gl ?_; (with_reducible refine (spec_l03Binary.calls a0_0 true _ A4.out).mono ?_); rintro e w' ⟨rfl, ⟨nd, rfl⟩⟩; refine ⟨_, rfl, ?_⟩))
   go_meet
   case rel => exact ⟨_, (true), dr, H', ⟨lk0⟩, ⟨bp BK113⟩, ⟨bw HB⟩⟩
  refine be H ?_; clear H; intro t115 A7 H
  have H' := am H
  clear H
  have hcz8 := bK w3 BK113
  have hfz8 := bF BK113
  go_wp2_with (first | ((with_reducible refine gate_callee (f := 58) rfl ?_); refine goesL_ (some 5) rfl rfl Try.func58 (by kernel_rfl) rfl #[.int .i64 a0_0] rfl gl ?_; (with_reducible refine (spec_l03Binary.calls a0_0 false _ A4.out).mono ?_); rintro e w' ⟨rfl, ⟨nd, rfl⟩⟩; refine ⟨_, rfl, ?_⟩) | (go_at_call 59; (with_reducible refine (spec_l03Unary.calls a0_0 t115 _ A7.out).mono ?_); rintro e w' ⟨rfl, ⟨nd, rfl⟩⟩))
  go_meet
  case rel => exact ⟨_, (t115), dr, H', ⟨lk0⟩, ⟨bp BK113⟩, ⟨bw HB⟩⟩
 clear HC2
 (try clear p2); (try clear c3); (try clear c5); (try clear hcz6); (try clear hcz8); (try clear hfz6); (try clear hfz8)
 obtain ⟨kq, x10_1, rfl, HA, HJ1, BK113, HB⟩ := hcut
 rcases kq with _ | kj1
 ·exact absurd HA.out (by simp [spec_Puts.j0])
 have H := HA.out
 clear HA
 simp only [spec_Puts.j0] at H
 refine qT H ?_ ?_ <;> clear H <;> intro c9 H <;> subst c9
 ·obtain rfl := Option.some.inj H
  go_wp2
  go_ret
  exact ⟨er, bw HB⟩
 refine qE H ?_ ?_ <;> clear H
 ·intro c10b0 c10b1 H
  obtain rfl := Option.some.inj H
  have hcz11 := bK wc BK113
  have hfz11 := bF BK113
  go_wp2
  go_ret
  exact ⟨er, bw HB⟩
 intro c10 c10b0 c10b1 H
 have HC12 := am H
 clear H
 have hcz13 := bK wc BK113
 have hfz13 := bF BK113
 go_upto_if 15 with (fail)
 go_cut [15] (fun v15 wc => ∃ (kq : Nat) (x15_11 : Bool), v15 = .bool x15_11 ∧ Aside0 (spec_Puts.j1 kq x15_11 = some r) ∧ Aside0 (kq ≤ kj1) ∧ Aside0 (wc.heap[gb113]? = some (.cells #[.int .i64 a0_0, .int .i64 a0_1] 59 (0, 0))) ∧ Aside0 (Below w.heap.size w wc))
 case first =>
  have H := HC12.out
  clear HC12
  refine qE H ?_ ?_ <;> clear H
  ·intro c14b0 c14b1 H
   (first | rw [c14b0] | (simp only [i64_w, i32_w]; rw [c14b0]) | skip)
   have H' := am H
   clear H
   go_wp2
   go_meet
   case rel => exact ⟨_, ((a0_0 == 1)), dr, H', ⟨lk1 HJ1⟩, ⟨bp BK113⟩, ⟨bw HB⟩⟩
  intro c14 c14b0 c14b1 H
  (first | rw [c14b0] | (simp only [i64_w, i32_w]; rw [c14b0]) | skip)
  refine qE H ?_ ?_ <;> clear H
  ·intro c15b0 c15b1 H
   have H' := am H
   clear H
   go_wp2
   go_meet
   case rel => exact ⟨_, ((a0_0 == 2)), dr, H', ⟨lk1 HJ1⟩, ⟨bp BK113⟩, ⟨bw HB⟩⟩
  intro c15 c15b0 c15b1 H
  refine qE H ?_ ?_ <;> clear H
  ·intro c16b0 c16b1 H
   have H' := am H
   clear H
   go_wp2
   go_meet
   case rel => exact ⟨_, ((a0_0 == 32)), dr, H', ⟨lk1 HJ1⟩, ⟨bp BK113⟩, ⟨bw HB⟩⟩
  intro c16 c16b0 c16b1 H
  refine qE H ?_ ?_ <;> clear H
  ·intro c17b0 c17b1 H
   have H' := am H
   clear H
   go_wp2
   go_meet
   case rel => exact ⟨_, ((a0_0 == 34)), dr, H', ⟨lk1 HJ1⟩, ⟨bp BK113⟩, ⟨bw HB⟩⟩
  intro c17 c17b0 c17b1 H
  refine qE H ?_ ?_ <;> clear H
  ·intro c18b0 c18b1 H
   have H' := am H
   clear H
   go_wp2
   go_meet
   case rel => exact ⟨_, ((a0_0 == 35)), dr, H', ⟨lk1 HJ1⟩, ⟨bp BK113⟩, ⟨bw HB⟩⟩
  intro c18 c18b0 c18b1 H
  have H' := am H
  clear H
  go_wp2
  go_meet
  case rel => exact ⟨_, ((a0_0 == 37)), dr, H', ⟨lk1 HJ1⟩, ⟨bp BK113⟩, ⟨bw HB⟩⟩
 clear HC12
 (try clear c1); (try clear c9); (try clear c10); (try clear c10b0); (try clear c10b1); (try clear c14); (try clear c14b0); (try clear c14b1); (try clear c15); (try clear c15b0); (try clear c15b1); (try clear c16); (try clear c16b0); (try clear c16b1); (try clear c17); (try clear c17b0); (try clear c17b1); (try clear c18); (try clear c18b0); (try clear c18b1); (try clear hcz11); (try clear hcz13); (try clear hfz11); (try clear hfz13)
 obtain ⟨kq, x15_11, rfl, HA, HJ11, BK113, HB⟩ := hcut
 rcases kq with _ | kj11
 ·exact absurd HA.out (by simp [spec_Puts.j1])
 have H := HA.out
 clear HA
 simp only [spec_Puts.j1] at H
 refine qT H ?_ ?_ <;> clear H <;> intro c19 H <;> subst c19
 ·obtain rfl := Option.some.inj H
  go_wp2
  go_ret
  exact ⟨er, bw HB⟩
 obtain rfl := Option.some.inj H
 go_wp2
 go_ret
 exact ⟨er, bw HB⟩

end Go.Proofs.Ytcdohkilplgmjaa.QFnExactPlain
