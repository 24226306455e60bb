-- Written by this session's own program (wip/tools/xprint.py) on the seat's printed words. Lean checks it.
import Derived.Test.YtkmohnlkldkhdaaQFnNumsx0
import Derived.Test.YtkmohnlkldkhdaaQFnNumsx1
import Derived.Test.YtkmohnlkldkhdaaQFnNumsx2
import Derived.Test.YtkmohnlkldkhdaaQFnNumsx4
namespace Go.Proofs.Ytkmohnlkldkhdaa.QFnNums
open Go.RowKit Go.Proofs.YtkmohnlkldkhdaaW.PrintWords Go.Proofs.YtkmohnlkldkhdaaW.PrintLast Go.Proofs.YtkmohnlkldkhdaaW.PrintMore
attribute [local go_sem] max2_int min2_int max_two min_two max_three min_three max_four min_four   -- for this text's walks alone
set_option linter.unusedVariables false
set_option linter.unusedSimpArgs false

attribute [local go_sem high] eqA43
/-! ### laws_FnNums: function 8 -/
mutual
def laws_FnNums.j0 : Nat → List Int → List Int → Bool → Option (Bool)
 | 0, _, _, _ => none
 | k + 1, x0, x1, x19 => if x19 = true then (some true) else ((spec_DrawPutNum.f k x0).bind fun t190 => ((impl_PutNum.f k t190).bind fun t191 => ((spec_PutNum.f k t190).bind fun t192 => (if t191.toList = t192.toList then (if (t191.size : Int) < 1 then (laws_FnNums.j1 k x1 t190 t191 true) else (laws_FnNums.j1 k x1 t190 t191 (decide ((t191.size : Int) > 10)))) else (laws_FnNums.j1 k x1 t190 t191 true)))))
def laws_FnNums.j1 : Nat → List Int → Int → ByteArray → Bool → Option (Bool)
 | 0, _, _, _, _ => none
 | k + 1, x1, x5, x6, x37 => if x37 = true then (some false) else (if 2 + x6.size ≤ 9223372036854775807 then (if ((⟨#[120, 121]⟩ : ByteArray) ++ x6).size + 1 ≤ 9223372036854775807 then ((impl_GetNum.f k (((⟨#[120, 121]⟩ : ByteArray) ++ x6) ++ (⟨#[122]⟩ : ByteArray)) 2).bind fun bt193 => (if (!(bt193.1 == x5) || (!(bt193.2.1 == (wrap64 ((x6.size : Int) + 2))) || (!(bt193.2.2 == 0)))) = true then (laws_FnNums.j2 k x1 true) else (if 0 ≤ (wrap64 ((x6.size : Int) - 1)) then (if (wrap64 ((x6.size : Int) - 1)) ≤ (x6.size : Int) then ((impl_GetNum.f k (x6.extract 0 ((wrap64 ((x6.size : Int) - 1)) : Int).toNat) 0).bind fun bt197 => (laws_FnNums.j2 k x1 (bt197.2.2 != 4))) else (none)) else (none)))) else (none)) else (none))
def laws_FnNums.j2 : Nat → List Int → Bool → Option (Bool)
 | 0, _, _ => none
 | k + 1, x1, x58 => if x58 = true then (some false) else ((spec_DrawPutNums.f k x1).bind fun t200 => ((some (([] : List Int) : List Int)).bind fun y203 => (if y203.length + t200.length < 17592186044416 then ((impl_PutNums.f k (y203 ++ t200)).bind fun t209 => ((impl_GetNum.f k t209 0).bind fun bt210 => (if bt210.2.2 = 0 then (laws_FnNums.j3 k t200 t209 (bt210.1 != (t200.length : Int)) bt210.1 bt210.2.1 bt210.2.2) else (laws_FnNums.j3 k t200 t209 true bt210.1 bt210.2.1 bt210.2.2)))) else (none))))
def laws_FnNums.j3 : Nat → List Int → ByteArray → Bool → Int → Int → Int → Option (Bool)
 | 0, _, _, _, _, _, _ => none
 | k + 1, x8, x9, x76, x214000, x214001, x214002 => if x76 = true then (some false) else (laws_FnNums.l0 k x8 x9 0 x214000 x214001 x214002)
def laws_FnNums.l0 : Nat → List Int → ByteArray → Int → Int → Int → Int → Option (Bool)
 | 0, _, _, _, _, _, _ => none
 | k + 1, x8, x9, x11, x214000, x214001, x214002 => if x11 < (x8.length : Int) then ((impl_GetNum.f k x9 x214001).bind fun bt214 => (if bt214.2.2 = 0 then (if 0 ≤ x11 then (if bt214.1 = (rd x8 x11) then (laws_FnNums.l0 k x8 x9 (wrap64 (x11 + 1)) bt214.1 bt214.2.1 bt214.2.2) else (some false)) else (none)) else (some false))) else (some (x214001 == (x9.size : Int)))
end
def laws_FnNums.f (k : Nat) (l0 : List Int) (l1 : List Int) : Option (Bool) := if (l0.length : Int) > 1048576 then (laws_FnNums.j0 k l0 l1 true) else (laws_FnNums.j0 k l0 l1 (decide ((l1.length : Int) > 1048576)))
theorem laws_FnNums.mono_l : ∀ k, (∀ y0 y1 y2, LeO (laws_FnNums.j0 k y0 y1 y2) (laws_FnNums.j0 (k + 1) y0 y1 y2)) ∧ (∀ y0 y1 y2 y3, LeO (laws_FnNums.j1 k y0 y1 y2 y3) (laws_FnNums.j1 (k + 1) y0 y1 y2 y3)) ∧ (∀ y0 y1, LeO (laws_FnNums.j2 k y0 y1) (laws_FnNums.j2 (k + 1) y0 y1)) ∧ (∀ y0 y1 y2 y3 y4 y5, LeO (laws_FnNums.j3 k y0 y1 y2 y3 y4 y5) (laws_FnNums.j3 (k + 1) y0 y1 y2 y3 y4 y5)) ∧ (∀ y0 y1 y2 y3 y4 y5, LeO (laws_FnNums.l0 k y0 y1 y2 y3 y4 y5) (laws_FnNums.l0 (k + 1) y0 y1 y2 y3 y4 y5))
 | 0 => ⟨fun _ _ _ r h => by simp [laws_FnNums.j0] at h, fun _ _ _ _ r h => by simp [laws_FnNums.j1] at h, fun _ _ r h => by simp [laws_FnNums.j2] at h, fun _ _ _ _ _ _ r h => by simp [laws_FnNums.j3] at h, fun _ _ _ _ _ _ r h => by simp [laws_FnNums.l0] at h⟩
 | k + 1 => by
  obtain ⟨ih0, ih1, ih2, ih3, ih4⟩ := laws_FnNums.mono_l k
  refine ⟨?_, ?_, ?_, ?_, ?_⟩
  ·intro y0 y1 y2
   unfold laws_FnNums.j0
   repeat' first
   | (with_reducible exact ih0 _ _ _)
   | (with_reducible exact ih1 _ _ _ _)
   | (with_reducible exact ih2 _ _)
   | (with_reducible exact ih3 _ _ _ _ _ _)
   | (with_reducible exact ih4 _ _ _ _ _ _)
   | (with_reducible exact impl_GetNum.mono _ _ _)
   | (with_reducible exact impl_PutNum.mono _ _)
   | (with_reducible exact impl_PutNums.mono _ _)
   | (with_reducible exact spec_DrawPutNum.mono _ _)
   | (with_reducible exact spec_DrawPutNums.mono _ _)
   | (with_reducible exact spec_PutNum.mono _ _)
   | (with_reducible exact LeO.refl _)
   | (with_reducible exact LeO.none _)
   | (with_reducible refine LeO.ite ?_ ?_)
   | (with_reducible refine LeO.bind ?_ (fun _ => ?_))
   | exact ih0 _ _ _
   | exact ih1 _ _ _ _
   | exact ih2 _ _
   | exact ih3 _ _ _ _ _ _
   | exact ih4 _ _ _ _ _ _
   | exact impl_GetNum.mono _ _ _
   | exact impl_PutNum.mono _ _
   | exact impl_PutNums.mono _ _
   | exact spec_DrawPutNum.mono _ _
   | exact spec_DrawPutNums.mono _ _
   | exact spec_PutNum.mono _ _
   | exact LeO.none _
   | refine LeO.ite ?_ ?_
   | refine LeO.bind ?_ (fun _ => ?_)
  ·intro y0 y1 y2 y3
   unfold laws_FnNums.j1
   repeat' first
   | (with_reducible exact ih0 _ _ _)
   | (with_reducible exact ih1 _ _ _ _)
   | (with_reducible exact ih2 _ _)
   | (with_reducible exact ih3 _ _ _ _ _ _)
   | (with_reducible exact ih4 _ _ _ _ _ _)
   | (with_reducible exact impl_GetNum.mono _ _ _)
   | (with_reducible exact impl_PutNum.mono _ _)
   | (with_reducible exact impl_PutNums.mono _ _)
   | (with_reducible exact spec_DrawPutNum.mono _ _)
   | (with_reducible exact spec_DrawPutNums.mono _ _)
   | (with_reducible exact spec_PutNum.mono _ _)
   | (with_reducible exact LeO.refl _)
   | (with_reducible exact LeO.none _)
   | (with_reducible refine LeO.ite ?_ ?_)
   | (with_reducible refine LeO.bind ?_ (fun _ => ?_))
   | exact ih0 _ _ _
   | exact ih1 _ _ _ _
   | exact ih2 _ _
   | exact ih3 _ _ _ _ _ _
   | exact ih4 _ _ _ _ _ _
   | exact impl_GetNum.mono _ _ _
   | exact impl_PutNum.mono _ _
   | exact impl_PutNums.mono _ _
   | exact spec_DrawPutNum.mono _ _
   | exact spec_DrawPutNums.mono _ _
   | exact spec_PutNum.mono _ _
   | exact LeO.none _
   | refine LeO.ite ?_ ?_
   | refine LeO.bind ?_ (fun _ => ?_)
  ·intro y0 y1
   unfold laws_FnNums.j2
   repeat' first
   | (with_reducible exact ih0 _ _ _)
   | (with_reducible exact ih1 _ _ _ _)
   | (with_reducible exact ih2 _ _)
   | (with_reducible exact ih3 _ _ _ _ _ _)
   | (with_reducible exact ih4 _ _ _ _ _ _)
   | (with_reducible exact impl_GetNum.mono _ _ _)
   | (with_reducible exact impl_PutNum.mono _ _)
   | (with_reducible exact impl_PutNums.mono _ _)
   | (with_reducible exact spec_DrawPutNum.mono _ _)
   | (with_reducible exact spec_DrawPutNums.mono _ _)
   | (with_reducible exact spec_PutNum.mono _ _)
   | (with_reducible exact LeO.refl _)
   | (with_reducible exact LeO.none _)
   | (with_reducible refine LeO.ite ?_ ?_)
   | (with_reducible refine LeO.bind ?_ (fun _ => ?_))
   | exact ih0 _ _ _
   | exact ih1 _ _ _ _
   | exact ih2 _ _
   | exact ih3 _ _ _ _ _ _
   | exact ih4 _ _ _ _ _ _
   | exact impl_GetNum.mono _ _ _
   | exact impl_PutNum.mono _ _
   | exact impl_PutNums.mono _ _
   | exact spec_DrawPutNum.mono _ _
   | exact spec_DrawPutNums.mono _ _
   | exact spec_PutNum.mono _ _
   | exact LeO.none _
   | refine LeO.ite ?_ ?_
   | refine LeO.bind ?_ (fun _ => ?_)
  ·intro y0 y1 y2 y3 y4 y5
   unfold laws_FnNums.j3
   repeat' first
   | (with_reducible exact ih0 _ _ _)
   | (with_reducible exact ih1 _ _ _ _)
   | (with_reducible exact ih2 _ _)
   | (with_reducible exact ih3 _ _ _ _ _ _)
   | (with_reducible exact ih4 _ _ _ _ _ _)
   | (with_reducible exact impl_GetNum.mono _ _ _)
   | (with_reducible exact impl_PutNum.mono _ _)
   | (with_reducible exact impl_PutNums.mono _ _)
   | (with_reducible exact spec_DrawPutNum.mono _ _)
   | (with_reducible exact spec_DrawPutNums.mono _ _)
   | (with_reducible exact spec_PutNum.mono _ _)
   | (with_reducible exact LeO.refl _)
   | (with_reducible exact LeO.none _)
   | (with_reducible refine LeO.ite ?_ ?_)
   | (with_reducible refine LeO.bind ?_ (fun _ => ?_))
   | exact ih0 _ _ _
   | exact ih1 _ _ _ _
   | exact ih2 _ _
   | exact ih3 _ _ _ _ _ _
   | exact ih4 _ _ _ _ _ _
   | exact impl_GetNum.mono _ _ _
   | exact impl_PutNum.mono _ _
   | exact impl_PutNums.mono _ _
   | exact spec_DrawPutNum.mono _ _
   | exact spec_DrawPutNums.mono _ _
   | exact spec_PutNum.mono _ _
   | exact LeO.none _
   | refine LeO.ite ?_ ?_
   | refine LeO.bind ?_ (fun _ => ?_)
  ·intro y0 y1 y2 y3 y4 y5
   unfold laws_FnNums.l0
   repeat' first
   | (with_reducible exact ih0 _ _ _)
   | (with_reducible exact ih1 _ _ _ _)
   | (with_reducible exact ih2 _ _)
   | (with_reducible exact ih3 _ _ _ _ _ _)
   | (with_reducible exact ih4 _ _ _ _ _ _)
   | (with_reducible exact impl_GetNum.mono _ _ _)
   | (with_reducible exact impl_PutNum.mono _ _)
   | (with_reducible exact impl_PutNums.mono _ _)
   | (with_reducible exact spec_DrawPutNum.mono _ _)
   | (with_reducible exact spec_DrawPutNums.mono _ _)
   | (with_reducible exact spec_PutNum.mono _ _)
   | (with_reducible exact LeO.refl _)
   | (with_reducible exact LeO.none _)
   | (with_reducible refine LeO.ite ?_ ?_)
   | (with_reducible refine LeO.bind ?_ (fun _ => ?_))
   | exact ih0 _ _ _
   | exact ih1 _ _ _ _
   | exact ih2 _ _
   | exact ih3 _ _ _ _ _ _
   | exact ih4 _ _ _ _ _ _
   | exact impl_GetNum.mono _ _ _
   | exact impl_PutNum.mono _ _
   | exact impl_PutNums.mono _ _
   | exact spec_DrawPutNum.mono _ _
   | exact spec_DrawPutNums.mono _ _
   | exact spec_PutNum.mono _ _
   | exact LeO.none _
   | refine LeO.ite ?_ ?_
   | refine LeO.bind ?_ (fun _ => ?_)
theorem laws_FnNums.mono : ∀ a0 a1 k, LeO (laws_FnNums.f k a0 a1) (laws_FnNums.f (k + 1) a0 a1) := by
 intro a0 a1 k
 obtain ⟨ih0, ih1, ih2, ih3, ih4⟩ := laws_FnNums.mono_l k
 unfold laws_FnNums.f
 repeat' first
   | (with_reducible exact ih0 _ _ _)
   | (with_reducible exact ih1 _ _ _ _)
   | (with_reducible exact ih2 _ _)
   | (with_reducible exact ih3 _ _ _ _ _ _)
   | (with_reducible exact ih4 _ _ _ _ _ _)
   | (with_reducible exact impl_GetNum.mono _ _ _)
   | (with_reducible exact impl_PutNum.mono _ _)
   | (with_reducible exact impl_PutNums.mono _ _)
   | (with_reducible exact spec_DrawPutNum.mono _ _)
   | (with_reducible exact spec_DrawPutNums.mono _ _)
   | (with_reducible exact spec_PutNum.mono _ _)
   | (with_reducible exact LeO.refl _)
   | (with_reducible exact LeO.none _)
   | (with_reducible refine LeO.ite ?_ ?_)
   | (with_reducible refine LeO.bind ?_ (fun _ => ?_))
   | exact ih0 _ _ _
   | exact ih1 _ _ _ _
   | exact ih2 _ _
   | exact ih3 _ _ _ _ _ _
   | exact ih4 _ _ _ _ _ _
   | exact impl_GetNum.mono _ _ _
   | exact impl_PutNum.mono _ _
   | exact impl_PutNums.mono _ _
   | exact spec_DrawPutNum.mono _ _
   | exact spec_DrawPutNums.mono _ _
   | exact spec_PutNum.mono _ _
   | exact LeO.none _
   | refine LeO.ite ?_ ?_
   | refine LeO.bind ?_ (fun _ => ?_)
set_option maxHeartbeats 8000000 in
set_option maxRecDepth 100000 in
theorem laws_FnNums.calls (k : Nat) (A0 : Option Addr) (c0 : Nat) (l0 : List Int) (A1 : Option Addr) (c1 : Nat) (l1 : List Int) (r : Bool) (w : World) (hr0 : Kd.C (Kd.int .u8) w A0 l0.length l0) (hc0 : l0.length ≤ c0) (hr1 : Kd.C (Kd.int .u8) w A1 l1.length l1) (hc1 : l1.length ≤ c1) (h : laws_FnNums.f k l0 l1 = some r) :
  Calls Try.prog 8 #[.slice A0 l0.length c0, .slice A1 l1.length c1] w fun e w' => e = .returned (.bool r) ∧ Below w.heap.size w w' := by
 have hu43 := Try.underlying43
 have hfd43_2 : ∀ (v0_ v1_ v2_ : Value) (W : World), (Instr.field 43 (.agg #[v0_, v1_, v2_]) 2).run Try.prog W = .ok (v2_) W := fun v0_ v1_ v2_ W => by kernel_rfl
 have HR0 := Aside0.mk hr0
 have HC0 := Aside0.mk hc0
 clear hr0 hc0
 have HR1 := Aside0.mk hr1
 have HC1 := Aside0.mk hc1
 clear hr1 hc1
 have HB := Aside0.mk (Below.refl w.heap.size w)
 have H : (if (l0.length : Int) > 1048576 then (laws_FnNums.j0 k l0 l1 true) else (laws_FnNums.j0 k l0 l1 (decide ((l1.length : Int) > 1048576)))) = some r := h
 clear h
 have HC3 := Aside0.mk H
 clear H
 go_enter Try.func8, Try.ntmps8
 go_upto_region 1 with (fail)
 repeat (go_quiet (fail); go_upto_region 1 with (fail))
 go_cut [19] (fun v19 wc => ∃ (kq : Nat) (x19_2 : Bool), v19 = .bool x19_2 ∧ Aside0 (laws_FnNums.j0 kq l0 l1 x19_2 = some r) ∧ Aside0 (kq ≤ k) ∧ Aside0 (Below w.heap.size w wc))
 case first =>
  have H := HC3.out
  clear HC3
  by_cases c4 : (l0.length : Int) > 1048576
  ·rw [if_pos c4] at H
   have c4b0 : decide (1048576 < (l0.length : Int)) = true := decide_eq_true c4
   have c4b1 : decide (1048576 < l0.length) = true := decide_eq_true (by omega)
   clear c4
   (first | rw [c4b0] | (simp only [i64_w, i32_w]; rw [c4b0]) | skip)
   have H' := Aside0.mk H
   clear H
   go_wp2
   repeat (go_quiet (fail); try go_wp2)
   go_meet
   case rel => exact ⟨_, (true), (by first | rfl | (simp; done) | (simp [*]; done)), H', ⟨by first | omega | exact Nat.le_refl _⟩, ⟨by repeat (first | (with_reducible first | exact HB.out | apply below_alloc | apply pw_below_drewN | apply below_drew1) | exact HB.out)⟩⟩
  ·rw [if_neg c4] at H
   have c4b0 : decide (1048576 < (l0.length : Int)) = false := decide_eq_false c4
   have c4b1 : decide (1048576 < l0.length) = false := decide_eq_false (by omega)
   clear c4
   (first | rw [c4b0] | (simp only [i64_w, i32_w]; rw [c4b0]) | skip)
   have H' := Aside0.mk H
   clear H
   go_wp2
   repeat (go_quiet (fail); try go_wp2)
   go_meet
   case rel => exact ⟨_, (decide ((l1.length : Int) > 1048576)), (by first | rfl | (simp; done) | (simp [*]; done)), H', ⟨by first | omega | exact Nat.le_refl _⟩, ⟨by repeat (first | (with_reducible first | exact HB.out | apply below_alloc | apply pw_below_drewN | apply below_drew1) | exact HB.out)⟩⟩
 case rest =>
  clear HC3
  (try clear c1); (try clear p2); (try clear c4); (try clear c4b0); (try clear c4b1)
  obtain ⟨kq, x19_2, rfl, HA, HJ2, HB⟩ := hcut
  cases kq with
  | zero => exact absurd HA.out (by simp [laws_FnNums.j0])
  | succ kj2 =>
   have H := HA.out
   clear HA
   simp only [laws_FnNums.j0] at H
   by_cases c5 : x19_2 = true
   ·subst c5
    have H1 : (some true) = some r := by rw [if_pos rfl] at H; exact H
    clear H
    have H := H1
    clear H1
    obtain rfl := Option.some.inj H
    go_wp2
    repeat (go_quiet (fail); try go_wp2)
    go_ret
    exact ⟨by first | rfl | (simp [errW_none, errW_some] <;> rfl) | (simp [*, errW_none, errW_some] <;> rfl), by repeat (first | (with_reducible first | exact HB.out | apply below_alloc | apply pw_below_drewN | apply below_drew1) | exact HB.out)⟩
   ·replace c5 := Bool.eq_false_iff.mpr c5
    subst c5
    have H1 : ((spec_DrawPutNum.f kj2 l0).bind fun t190 => ((impl_PutNum.f kj2 t190).bind fun t191 => ((spec_PutNum.f kj2 t190).bind fun t192 => (if t191.toList = t192.toList then (if (t191.size : Int) < 1 then (laws_FnNums.j1 kj2 l1 t190 t191 true) else (laws_FnNums.j1 kj2 l1 t190 t191 (decide ((t191.size : Int) > 10)))) else (laws_FnNums.j1 kj2 l1 t190 t191 true))))) = some r := by rw [if_neg (show ¬ (false = true) by decide)] at H; exact H
    clear H
    have H := H1
    clear H1
    replace H := Option.bind_eq_some_iff.mp H
    obtain ⟨t190, A60, H⟩ := H
    replace H : ((impl_PutNum.f kj2 t190).bind fun t191 => ((spec_PutNum.f kj2 t190).bind fun t192 => (if t191.toList = t192.toList then (if (t191.size : Int) < 1 then (laws_FnNums.j1 kj2 l1 t190 t191 true) else (laws_FnNums.j1 kj2 l1 t190 t191 (decide ((t191.size : Int) > 10)))) else (laws_FnNums.j1 kj2 l1 t190 t191 true)))) = some r := H
    have A6 := Aside0.mk A60
    clear A60
    replace H := Option.bind_eq_some_iff.mp H
    obtain ⟨t191, A70, H⟩ := H
    replace H : ((spec_PutNum.f kj2 t190).bind fun t192 => (if t191.toList = t192.toList then (if (t191.size : Int) < 1 then (laws_FnNums.j1 kj2 l1 t190 t191 true) else (laws_FnNums.j1 kj2 l1 t190 t191 (decide ((t191.size : Int) > 10)))) else (laws_FnNums.j1 kj2 l1 t190 t191 true))) = some r := H
    have A7 := Aside0.mk A70
    clear A70
    have HC8 := Aside0.mk H
    clear H
    go_upto_region 5 with (first | (go_at_call 29; (with_reducible refine (spec_DrawPutNum.calls kj2 _ _ l0 t190 _ ?side1 ?side2 A6.out).mono ?_); (case side1 => repeat (first | exact (Kd.C_below HR0.out HB.out) | (with_reducible refine Kd.C_alloc ?_ _) | (with_reducible refine Kd.C_drewN ?_ _) | (with_reducible refine Kd.C_drew ?_))); (case side2 => exact HC0.out); rintro e w9 ⟨rfl, hb⟩; have n0_ := Aside0.mk (below_step (by repeat (first | (with_reducible first | exact HB.out | apply below_alloc | apply pw_below_drewN | apply below_drew1) | exact HB.out)) hb); clear HB; have HB := n0_; clear n0_; (try clear hb); (try clear hb2); (try clear hk); (try clear hi)) | (go_at_call 30; (with_reducible refine (impl_PutNum.calls kj2 t190 t191 _ A7.out).mono ?_); rintro e w10 ⟨rfl, hb⟩; have n0_ := Aside0.mk (below_step (by repeat (first | (with_reducible first | exact HB.out | apply below_alloc | apply pw_below_drewN | apply below_drew1) | exact HB.out)) hb); clear HB; have HB := n0_; clear n0_; (try clear hb); (try clear hb2); (try clear hk); (try clear hi)))
    repeat (go_quiet (first | (go_at_call 29; (with_reducible refine (spec_DrawPutNum.calls kj2 _ _ l0 t190 _ ?side1 ?side2 A6.out).mono ?_); (case side1 => repeat (first | exact (Kd.C_below HR0.out HB.out) | (with_reducible refine Kd.C_alloc ?_ _) | (with_reducible refine Kd.C_drewN ?_ _) | (with_reducible refine Kd.C_drew ?_))); (case side2 => exact HC0.out); rintro e w9 ⟨rfl, hb⟩; have n0_ := Aside0.mk (below_step (by repeat (first | (with_reducible first | exact HB.out | apply below_alloc | apply pw_below_drewN | apply below_drew1) | exact HB.out)) hb); clear HB; have HB := n0_; clear n0_; (try clear hb); (try clear hb2); (try clear hk); (try clear hi)) | (go_at_call 30; (with_reducible refine (impl_PutNum.calls kj2 t190 t191 _ A7.out).mono ?_); rintro e w10 ⟨rfl, hb⟩; have n0_ := Aside0.mk (below_step (by repeat (first | (with_reducible first | exact HB.out | apply below_alloc | apply pw_below_drewN | apply below_drew1) | exact HB.out)) hb); clear HB; have HB := n0_; clear n0_; (try clear hb); (try clear hb2); (try clear hk); (try clear hi))); go_upto_region 5 with (first | (go_at_call 29; (with_reducible refine (spec_DrawPutNum.calls kj2 _ _ l0 t190 _ ?side1 ?side2 A6.out).mono ?_); (case side1 => repeat (first | exact (Kd.C_below HR0.out HB.out) | (with_reducible refine Kd.C_alloc ?_ _) | (with_reducible refine Kd.C_drewN ?_ _) | (with_reducible refine Kd.C_drew ?_))); (case side2 => exact HC0.out); rintro e w9 ⟨rfl, hb⟩; have n0_ := Aside0.mk (below_step (by repeat (first | (with_reducible first | exact HB.out | apply below_alloc | apply pw_below_drewN | apply below_drew1) | exact HB.out)) hb); clear HB; have HB := n0_; clear n0_; (try clear hb); (try clear hb2); (try clear hk); (try clear hi)) | (go_at_call 30; (with_reducible refine (impl_PutNum.calls kj2 t190 t191 _ A7.out).mono ?_); rintro e w10 ⟨rfl, hb⟩; have n0_ := Aside0.mk (below_step (by repeat (first | (with_reducible first | exact HB.out | apply below_alloc | apply pw_below_drewN | apply below_drew1) | exact HB.out)) hb); clear HB; have HB := n0_; clear n0_; (try clear hb); (try clear hb2); (try clear hk); (try clear hi))))
    (try simp only [Act.put, List.setIfInBounds_toArray, List.set_cons_zero, List.set_cons_succ])
    go_cut [37] (fun v37 wc => ∃ (kq : Nat) (x37_7 : Bool), v37 = .bool x37_7 ∧ Aside0 (laws_FnNums.j1 kq l1 t190 t191 x37_7 = some r) ∧ Aside0 (kq ≤ kj2) ∧ Aside0 (Below w.heap.size w wc))
    case first =>
     have H := HC8.out
     clear HC8
     replace H := Option.bind_eq_some_iff.mp H
     obtain ⟨t192, A110, H⟩ := H
     replace H : (if t191.toList = t192.toList then (if (t191.size : Int) < 1 then (laws_FnNums.j1 kj2 l1 t190 t191 true) else (laws_FnNums.j1 kj2 l1 t190 t191 (decide ((t191.size : Int) > 10)))) else (laws_FnNums.j1 kj2 l1 t190 t191 true)) = some r := H
     have A11 := Aside0.mk A110
     clear A110
     by_cases c12 : t191.toList = t192.toList
     ·rw [if_pos c12] at H
      have c12b0 : (t191.toList == t192.toList) = true := beq_iff_eq.mpr c12
      have c12b1 : (t191.toList != t192.toList) = false := bne_eq_false_iff_eq.mpr c12
      clear c12
      (first | rw [c12b0] | (simp only [i64_w, i32_w]; rw [c12b0]) | skip)
      by_cases c13 : (t191.size : Int) < 1
      ·rw [if_pos c13] at H
       have c13b0 : decide ((t191.size : Int) < 1) = true := decide_eq_true c13
       have c13b1 : decide (t191.size < 1) = true := decide_eq_true (by omega)
       clear c13
       have H' := Aside0.mk H
       clear H
       go_wp2_with (first | (go_at_call 31; (with_reducible refine (spec_PutNum.calls kj2 t190 t192 _ A11.out).mono ?_); rintro e w14 ⟨rfl, hb⟩; have n0_ := Aside0.mk (below_step (by repeat (first | (with_reducible first | exact HB.out | apply below_alloc | apply pw_below_drewN | apply below_drew1) | exact HB.out)) hb); clear HB; have HB := n0_; clear n0_; (try clear hb); (try clear hb2); (try clear hk); (try clear hi)))
       repeat (go_quiet (first | (go_at_call 31; (with_reducible refine (spec_PutNum.calls kj2 t190 t192 _ A11.out).mono ?_); rintro e w14 ⟨rfl, hb⟩; have n0_ := Aside0.mk (below_step (by repeat (first | (with_reducible first | exact HB.out | apply below_alloc | apply pw_below_drewN | apply below_drew1) | exact HB.out)) hb); clear HB; have HB := n0_; clear n0_; (try clear hb); (try clear hb2); (try clear hk); (try clear hi))); try go_wp2_with (first | (go_at_call 31; (with_reducible refine (spec_PutNum.calls kj2 t190 t192 _ A11.out).mono ?_); rintro e w14 ⟨rfl, hb⟩; have n0_ := Aside0.mk (below_step (by repeat (first | (with_reducible first | exact HB.out | apply below_alloc | apply pw_below_drewN | apply below_drew1) | exact HB.out)) hb); clear HB; have HB := n0_; clear n0_; (try clear hb); (try clear hb2); (try clear hk); (try clear hi))))
       go_meet
       case rel => exact ⟨_, (true), (by first | rfl | (simp; done) | (simp [*]; done)), H', ⟨by have := HJ2.out; first | omega | exact Nat.le_refl _⟩, ⟨by repeat (first | (with_reducible first | exact HB.out | apply below_alloc | apply pw_below_drewN | apply below_drew1) | exact HB.out)⟩⟩
      ·rw [if_neg c13] at H
       have c13b0 : decide ((t191.size : Int) < 1) = false := decide_eq_false c13
       have c13b1 : decide (t191.size < 1) = false := decide_eq_false (by omega)
       clear c13
       have H' := Aside0.mk H
       clear H
       go_wp2_with (first | (go_at_call 31; (with_reducible refine (spec_PutNum.calls kj2 t190 t192 _ A11.out).mono ?_); rintro e w15 ⟨rfl, hb⟩; have n0_ := Aside0.mk (below_step (by repeat (first | (with_reducible first | exact HB.out | apply below_alloc | apply pw_below_drewN | apply below_drew1) | exact HB.out)) hb); clear HB; have HB := n0_; clear n0_; (try clear hb); (try clear hb2); (try clear hk); (try clear hi)))
       repeat (go_quiet (first | (go_at_call 31; (with_reducible refine (spec_PutNum.calls kj2 t190 t192 _ A11.out).mono ?_); rintro e w15 ⟨rfl, hb⟩; have n0_ := Aside0.mk (below_step (by repeat (first | (with_reducible first | exact HB.out | apply below_alloc | apply pw_below_drewN | apply below_drew1) | exact HB.out)) hb); clear HB; have HB := n0_; clear n0_; (try clear hb); (try clear hb2); (try clear hk); (try clear hi))); try go_wp2_with (first | (go_at_call 31; (with_reducible refine (spec_PutNum.calls kj2 t190 t192 _ A11.out).mono ?_); rintro e w15 ⟨rfl, hb⟩; have n0_ := Aside0.mk (below_step (by repeat (first | (with_reducible first | exact HB.out | apply below_alloc | apply pw_below_drewN | apply below_drew1) | exact HB.out)) hb); clear HB; have HB := n0_; clear n0_; (try clear hb); (try clear hb2); (try clear hk); (try clear hi))))
       go_meet
       case rel => exact ⟨_, (decide ((t191.size : Int) > 10)), (by first | rfl | (simp; done) | (simp [*]; done)), H', ⟨by have := HJ2.out; first | omega | exact Nat.le_refl _⟩, ⟨by repeat (first | (with_reducible first | exact HB.out | apply below_alloc | apply pw_below_drewN | apply below_drew1) | exact HB.out)⟩⟩
     ·rw [if_neg c12] at H
      have c12b0 : (t191.toList == t192.toList) = false := beq_eq_false_iff_ne.mpr c12
      have c12b1 : (t191.toList != t192.toList) = true := bne_iff_ne.mpr c12
      (first | rw [c12b0] | (simp only [i64_w, i32_w]; rw [c12b0]) | skip)
      have H' := Aside0.mk H
      clear H
      go_wp2_with (first | (go_at_call 31; (with_reducible refine (spec_PutNum.calls kj2 t190 t192 _ A11.out).mono ?_); rintro e w16 ⟨rfl, hb⟩; have n0_ := Aside0.mk (below_step (by repeat (first | (with_reducible first | exact HB.out | apply below_alloc | apply pw_below_drewN | apply below_drew1) | exact HB.out)) hb); clear HB; have HB := n0_; clear n0_; (try clear hb); (try clear hb2); (try clear hk); (try clear hi)))
      repeat (go_quiet (first | (go_at_call 31; (with_reducible refine (spec_PutNum.calls kj2 t190 t192 _ A11.out).mono ?_); rintro e w16 ⟨rfl, hb⟩; have n0_ := Aside0.mk (below_step (by repeat (first | (with_reducible first | exact HB.out | apply below_alloc | apply pw_below_drewN | apply below_drew1) | exact HB.out)) hb); clear HB; have HB := n0_; clear n0_; (try clear hb); (try clear hb2); (try clear hk); (try clear hi))); try go_wp2_with (first | (go_at_call 31; (with_reducible refine (spec_PutNum.calls kj2 t190 t192 _ A11.out).mono ?_); rintro e w16 ⟨rfl, hb⟩; have n0_ := Aside0.mk (below_step (by repeat (first | (with_reducible first | exact HB.out | apply below_alloc | apply pw_below_drewN | apply below_drew1) | exact HB.out)) hb); clear HB; have HB := n0_; clear n0_; (try clear hb); (try clear hb2); (try clear hk); (try clear hi))))
      go_meet
      case rel => exact ⟨_, (true), (by first | rfl | (simp; done) | (simp [*]; done)), H', ⟨by have := HJ2.out; first | omega | exact Nat.le_refl _⟩, ⟨by repeat (first | (with_reducible first | exact HB.out | apply below_alloc | apply pw_below_drewN | apply below_drew1) | exact HB.out)⟩⟩
    case rest =>
     clear HC8
     (try clear c1); (try clear p2); (try clear c4); (try clear c4b0); (try clear c4b1); (try clear c5); (try clear c8); (try clear c12); (try clear c12b0); (try clear c12b1); (try clear c13); (try clear c13b0); (try clear c13b1); (try clear p2)
     obtain ⟨kq, x37_7, rfl, HA, HJ7, HB⟩ := hcut
     cases kq with
     | zero => exact absurd HA.out (by simp [laws_FnNums.j1])
     | succ kj7 =>
      have H := HA.out
      clear HA
      simp only [laws_FnNums.j1] at H
      by_cases c17 : x37_7 = true
      ·subst c17
       have H1 : (some false) = some r := by rw [if_pos rfl] at H; exact H
       clear H
       have H := H1
       clear H1
       obtain rfl := Option.some.inj H
       go_wp2
       repeat (go_quiet (fail); try go_wp2)
       go_ret
       exact ⟨by first | rfl | (simp [errW_none, errW_some] <;> rfl) | (simp [*, errW_none, errW_some] <;> rfl), by repeat (first | (with_reducible first | exact HB.out | apply below_alloc | apply pw_below_drewN | apply below_drew1) | exact HB.out)⟩
      ·replace c17 := Bool.eq_false_iff.mpr c17
       subst c17
       have H1 : (if 2 + t191.size ≤ 9223372036854775807 then (if ((⟨#[120, 121]⟩ : ByteArray) ++ t191).size + 1 ≤ 9223372036854775807 then ((impl_GetNum.f kj7 (((⟨#[120, 121]⟩ : ByteArray) ++ t191) ++ (⟨#[122]⟩ : ByteArray)) 2).bind fun bt193 => (if (!(bt193.1 == t190) || (!(bt193.2.1 == (wrap64 ((t191.size : Int) + 2))) || (!(bt193.2.2 == 0)))) = true then (laws_FnNums.j2 kj7 l1 true) else (if 0 ≤ (wrap64 ((t191.size : Int) - 1)) then (if (wrap64 ((t191.size : Int) - 1)) ≤ (t191.size : Int) then ((impl_GetNum.f kj7 (t191.extract 0 ((wrap64 ((t191.size : Int) - 1)) : Int).toNat) 0).bind fun bt197 => (laws_FnNums.j2 kj7 l1 (bt197.2.2 != 4))) else (none)) else (none)))) else (none)) else (none)) = some r := by rw [if_neg (show ¬ (false = true) by decide)] at H; exact H
       clear H
       have H := H1
       clear H1
       by_cases c18 : 2 + t191.size ≤ 9223372036854775807
       ·rw [if_pos c18] at H
        have c18b0 := eq_true c18
        have c18b1 : decide (2 + t191.size ≤ 9223372036854775807) = true := decide_eq_true c18
        try have c18b2 : (9223372036854775807 < 2 + t191.size) = False := eq_false (Nat.not_lt.2 c18)
        by_cases c19 : ((⟨#[120, 121]⟩ : ByteArray) ++ t191).size + 1 ≤ 9223372036854775807
        ·rw [if_pos c19] at H
         have c19b0 := eq_true c19
         have c19b1 : decide (((⟨#[120, 121]⟩ : ByteArray) ++ t191).size + 1 ≤ 9223372036854775807) = true := decide_eq_true c19
         try have c19b2 : (9223372036854775807 < ((⟨#[120, 121]⟩ : ByteArray) ++ t191).size + 1) = False := eq_false (Nat.not_lt.2 c19)
         have c19b3 : (9223372036854775807 < 2 + t191.size + 1) = False := eq_false (Nat.not_lt.2 (by have h_ := c19; rw [ByteArray.size_append] at h_; exact h_))
         replace H := Option.bind_eq_some_iff.mp H
         obtain ⟨⟨t193, t194, t195⟩, A200, H⟩ := H
         replace H : (if (!(t193 == t190) || (!(t194 == (wrap64 ((t191.size : Int) + 2))) || (!(t195 == 0)))) = true then (laws_FnNums.j2 kj7 l1 true) else (if 0 ≤ (wrap64 ((t191.size : Int) - 1)) then (if (wrap64 ((t191.size : Int) - 1)) ≤ (t191.size : Int) then ((impl_GetNum.f kj7 (t191.extract 0 ((wrap64 ((t191.size : Int) - 1)) : Int).toNat) 0).bind fun bt197 => (laws_FnNums.j2 kj7 l1 (bt197.2.2 != 4))) else (none)) else (none))) = some r := H
         have A20 := Aside0.mk A200
         clear A200
         have HC21 := Aside0.mk H
         clear H
         go_upto_region 8 with (first | (go_at_call 32; (with_reducible refine (impl_GetNum.calls kj7 (((⟨#[120, 121]⟩ : ByteArray) ++ t191) ++ (⟨#[122]⟩ : ByteArray)) 2 t193 t194 t195 _ A20.out).mono ?_); rintro e w22 ⟨rfl, hb⟩; have n0_ := Aside0.mk (below_step (by repeat (first | (with_reducible first | exact HB.out | apply below_alloc | apply pw_below_drewN | apply below_drew1) | exact HB.out)) hb); clear HB; have HB := n0_; clear n0_; (try clear hb); (try clear hb2); (try clear hk); (try clear hi)) | ((with_reducible refine gate_dst (N := 7) rfl ?_); (try (refine gate_guard (by rfl) ?_; dsimp only)); refine box_event ?hg (N := 7) ?hd (cs := #[.int .i64 0, .int .i64 0, .int .i64 0]) (t := 43) ?hr ?_; (case hd => rfl); (case hg => rfl); (case hr => first | (go_simp; done) | (go_simp; rfl)); intro gb196 hg w23 hbox hb; have n0_ := Aside0.mk (below_step (by repeat (first | (with_reducible first | exact HB.out | apply below_alloc | apply pw_below_drewN | apply below_drew1) | exact HB.out)) hb); have n1_ := Aside0.mk (hbox); have n2_ := Aside0.mk ((by rw [hg]; exact (below_size (by repeat (first | (with_reducible first | exact HB.out | apply below_alloc | apply pw_below_drewN | apply below_drew1) | exact HB.out))) : w.heap.size ≤ gb196)); have n3_ := Aside0.mk ((by rw [hg]; exact (below_size (by repeat (first | (with_reducible first | exact HB.out | apply below_alloc | apply pw_below_drewN | apply below_drew1) | exact HB.out))) : w.heap.size ≤ gb196)); clear HB; have HB := n0_; have BK196 := n1_; have GW196 := n2_; have GE196 := n3_; clear n0_ n1_ n2_ n3_; clear hb hbox hg; have hcz24_0 : w23.cell? ⟨gb196, 0, none⟩ = some (.int .i64 0) := (blk_cell BK196.out 0).trans rfl; have hcz24_1 : w23.cell? ⟨gb196, 1, none⟩ = some (.int .i64 0) := (blk_cell BK196.out 1).trans rfl; have hcz24_2 : w23.cell? ⟨gb196, 2, none⟩ = some (.int .i64 0) := (blk_cell BK196.out 2).trans rfl; have hfz24_0 := blk_frozen BK196.out 0; have hfz24_1 := blk_frozen BK196.out 1; have hfz24_2 := blk_frozen BK196.out 2))
         repeat (go_quiet (first | (go_at_call 32; (with_reducible refine (impl_GetNum.calls kj7 (((⟨#[120, 121]⟩ : ByteArray) ++ t191) ++ (⟨#[122]⟩ : ByteArray)) 2 t193 t194 t195 _ A20.out).mono ?_); rintro e w22 ⟨rfl, hb⟩; have n0_ := Aside0.mk (below_step (by repeat (first | (with_reducible first | exact HB.out | apply below_alloc | apply pw_below_drewN | apply below_drew1) | exact HB.out)) hb); clear HB; have HB := n0_; clear n0_; (try clear hb); (try clear hb2); (try clear hk); (try clear hi)) | ((with_reducible refine gate_dst (N := 7) rfl ?_); (try (refine gate_guard (by rfl) ?_; dsimp only)); refine box_event ?hg (N := 7) ?hd (cs := #[.int .i64 0, .int .i64 0, .int .i64 0]) (t := 43) ?hr ?_; (case hd => rfl); (case hg => rfl); (case hr => first | (go_simp; done) | (go_simp; rfl)); intro gb196 hg w23 hbox hb; have n0_ := Aside0.mk (below_step (by repeat (first | (with_reducible first | exact HB.out | apply below_alloc | apply pw_below_drewN | apply below_drew1) | exact HB.out)) hb); have n1_ := Aside0.mk (hbox); have n2_ := Aside0.mk ((by rw [hg]; exact (below_size (by repeat (first | (with_reducible first | exact HB.out | apply below_alloc | apply pw_below_drewN | apply below_drew1) | exact HB.out))) : w.heap.size ≤ gb196)); have n3_ := Aside0.mk ((by rw [hg]; exact (below_size (by repeat (first | (with_reducible first | exact HB.out | apply below_alloc | apply pw_below_drewN | apply below_drew1) | exact HB.out))) : w.heap.size ≤ gb196)); clear HB; have HB := n0_; have BK196 := n1_; have GW196 := n2_; have GE196 := n3_; clear n0_ n1_ n2_ n3_; clear hb hbox hg; have hcz24_0 : w23.cell? ⟨gb196, 0, none⟩ = some (.int .i64 0) := (blk_cell BK196.out 0).trans rfl; have hcz24_1 : w23.cell? ⟨gb196, 1, none⟩ = some (.int .i64 0) := (blk_cell BK196.out 1).trans rfl; have hcz24_2 : w23.cell? ⟨gb196, 2, none⟩ = some (.int .i64 0) := (blk_cell BK196.out 2).trans rfl; have hfz24_0 := blk_frozen BK196.out 0; have hfz24_1 := blk_frozen BK196.out 1; have hfz24_2 := blk_frozen BK196.out 2)); go_upto_region 8 with (first | (go_at_call 32; (with_reducible refine (impl_GetNum.calls kj7 (((⟨#[120, 121]⟩ : ByteArray) ++ t191) ++ (⟨#[122]⟩ : ByteArray)) 2 t193 t194 t195 _ A20.out).mono ?_); rintro e w22 ⟨rfl, hb⟩; have n0_ := Aside0.mk (below_step (by repeat (first | (with_reducible first | exact HB.out | apply below_alloc | apply pw_below_drewN | apply below_drew1) | exact HB.out)) hb); clear HB; have HB := n0_; clear n0_; (try clear hb); (try clear hb2); (try clear hk); (try clear hi)) | ((with_reducible refine gate_dst (N := 7) rfl ?_); (try (refine gate_guard (by rfl) ?_; dsimp only)); refine box_event ?hg (N := 7) ?hd (cs := #[.int .i64 0, .int .i64 0, .int .i64 0]) (t := 43) ?hr ?_; (case hd => rfl); (case hg => rfl); (case hr => first | (go_simp; done) | (go_simp; rfl)); intro gb196 hg w23 hbox hb; have n0_ := Aside0.mk (below_step (by repeat (first | (with_reducible first | exact HB.out | apply below_alloc | apply pw_below_drewN | apply below_drew1) | exact HB.out)) hb); have n1_ := Aside0.mk (hbox); have n2_ := Aside0.mk ((by rw [hg]; exact (below_size (by repeat (first | (with_reducible first | exact HB.out | apply below_alloc | apply pw_below_drewN | apply below_drew1) | exact HB.out))) : w.heap.size ≤ gb196)); have n3_ := Aside0.mk ((by rw [hg]; exact (below_size (by repeat (first | (with_reducible first | exact HB.out | apply below_alloc | apply pw_below_drewN | apply below_drew1) | exact HB.out))) : w.heap.size ≤ gb196)); clear HB; have HB := n0_; have BK196 := n1_; have GW196 := n2_; have GE196 := n3_; clear n0_ n1_ n2_ n3_; clear hb hbox hg; have hcz24_0 : w23.cell? ⟨gb196, 0, none⟩ = some (.int .i64 0) := (blk_cell BK196.out 0).trans rfl; have hcz24_1 : w23.cell? ⟨gb196, 1, none⟩ = some (.int .i64 0) := (blk_cell BK196.out 1).trans rfl; have hcz24_2 : w23.cell? ⟨gb196, 2, none⟩ = some (.int .i64 0) := (blk_cell BK196.out 2).trans rfl; have hfz24_0 := blk_frozen BK196.out 0; have hfz24_1 := blk_frozen BK196.out 1; have hfz24_2 := blk_frozen BK196.out 2)))
         (try simp only [Act.put, List.setIfInBounds_toArray, List.set_cons_zero, List.set_cons_succ])
         go_cut [58] (fun v58 wc => ∃ (kq : Nat) (x58_20 : Bool), v58 = .bool x58_20 ∧ Aside0 (laws_FnNums.j2 kq l1 x58_20 = some r) ∧ Aside0 (kq ≤ kj7) ∧ Aside0 (wc.heap[gb196]? = some (.cells #[.int .i64 t193, .int .i64 t194, .int .i64 t195] 43 (0, 0))) ∧ Aside0 (Below w.heap.size w wc))
         case first =>
          have H := HC21.out
          clear HC21
          by_cases c25 : (!(t193 == t190) || (!(t194 == (wrap64 ((t191.size : Int) + 2))) || (!(t195 == 0)))) = true
          ·rw [if_pos c25] at H
           have c25b0 : (!(t193 == t190) || (!(t194 == (wrap64 ((t191.size : Int) + 2))) || (!(t195 == 0)))) = true := c25
           have c25b9 := c25b0
           rw [show wrap64 ((t191.size : Int) + 2) = (t191.size : Int) + 2 by have h_ := c18; unfold wrap64; omega] at c25b9
           clear c25
           (first | rw [c25b0] | (simp only [i64_w, i32_w]; rw [c25b0]) | skip)
           have H' := Aside0.mk H
           clear H
           have hcz26_0 : w23.cell? ⟨gb196, 0, none⟩ = some (.int .i64 0) := (blk_cell BK196.out 0).trans rfl
           have hcz26_1 : w23.cell? ⟨gb196, 1, none⟩ = some (.int .i64 0) := (blk_cell BK196.out 1).trans rfl
           have hcz26_2 : w23.cell? ⟨gb196, 2, none⟩ = some (.int .i64 0) := (blk_cell BK196.out 2).trans rfl
           have hfz26_0 := blk_frozen BK196.out 0
           have hfz26_1 := blk_frozen BK196.out 1
           have hfz26_2 := blk_frozen BK196.out 2
           go_wp2
           repeat (go_quiet (fail); try go_wp2)
           go_meet
           case rel => exact ⟨_, (true), (by first | rfl | (simp; done) | (simp [*]; done)), H', ⟨by have := HJ2.out; have := HJ7.out; first | omega | exact Nat.le_refl _⟩, ⟨by (with_reducible repeat (first | refine blk_drewN ?_ _ | refine blk_drew ?_ | refine blk_alloc ?_ _)); refine blk_put (cs := #[.int .i64 t193, .int .i64 t194, .int .i64 0]) ?_ 2 _ rfl; (with_reducible repeat (first | refine blk_drewN ?_ _ | refine blk_drew ?_ | refine blk_alloc ?_ _)); refine blk_put (cs := #[.int .i64 t193, .int .i64 0, .int .i64 0]) ?_ 1 _ rfl; (with_reducible repeat (first | refine blk_drewN ?_ _ | refine blk_drew ?_ | refine blk_alloc ?_ _)); refine blk_put (cs := #[.int .i64 0, .int .i64 0, .int .i64 0]) ?_ 0 _ rfl; (with_reducible repeat (first | refine blk_drewN ?_ _ | refine blk_drew ?_ | refine blk_alloc ?_ _)); exact BK196.out⟩, ⟨by repeat (first | (with_reducible first | exact HB.out | apply below_alloc | apply pw_below_drewN | apply below_drew1 | refine below_set ?_ GE196.out) | exact HB.out)⟩⟩
          ·rw [if_neg c25] at H
           have c25b0 : (!(t193 == t190) || (!(t194 == (wrap64 ((t191.size : Int) + 2))) || (!(t195 == 0)))) = false := by simpa using c25
           have c25b9 := c25b0
           rw [show wrap64 ((t191.size : Int) + 2) = (t191.size : Int) + 2 by have h_ := c18; unfold wrap64; omega] at c25b9
           clear c25
           (first | rw [c25b0] | (simp only [i64_w, i32_w]; rw [c25b0]) | skip)
           obtain ⟨ji27, hji27⟩ : ∃ j_ : Int, (wrap64 ((t191.size : Int) - 1)) = j_ := ⟨_, rfl⟩
           replace H : (if 0 ≤ (ji27) then (if (ji27) ≤ (t191.size : Int) then ((impl_GetNum.f kj7 (t191.extract 0 ((ji27) : Int).toNat) 0).bind fun bt197 => (laws_FnNums.j2 kj7 l1 (bt197.2.2 != 4))) else (none)) else (none)) = some r := by first | (rw [hji27] at H; exact H) | (simp only [hji27] at H ⊢; exact H)
           have hji27w : (IntKind.i64.wrap ((t191.size : Int) - 1)) = ji27 := (i64_w _).trans hji27
           by_cases c28 : 0 ≤ (ji27)
           ·rw [if_pos c28] at H
            have c28b0 := eq_true c28
            have c28b1 : decide (0 ≤ (ji27)) = true := decide_eq_true c28
            clear c28
            by_cases c29 : (ji27) ≤ (t191.size : Int)
            ·rw [if_pos c29] at H
             have c29b0 := eq_true c29
             have c29b1 : decide ((ji27) ≤ (t191.size : Int)) = true := decide_eq_true c29
             clear c29
             replace H := Option.bind_eq_some_iff.mp H
             obtain ⟨⟨t197, t198, t199⟩, A300, H⟩ := H
             replace H : (laws_FnNums.j2 kj7 l1 (t199 != 4)) = some r := H
             have A30 := Aside0.mk A300
             clear A300
             have H' := Aside0.mk H
             clear H
             have hcz31_0 : w23.cell? ⟨gb196, 0, none⟩ = some (.int .i64 0) := (blk_cell BK196.out 0).trans rfl
             have hcz31_1 : w23.cell? ⟨gb196, 1, none⟩ = some (.int .i64 0) := (blk_cell BK196.out 1).trans rfl
             have hcz31_2 : w23.cell? ⟨gb196, 2, none⟩ = some (.int .i64 0) := (blk_cell BK196.out 2).trans rfl
             have hfz31_0 := blk_frozen BK196.out 0
             have hfz31_1 := blk_frozen BK196.out 1
             have hfz31_2 := blk_frozen BK196.out 2
             go_wp2_with (first | (go_at_call 32; (with_reducible refine (impl_GetNum.calls kj7 (t191.extract 0 ((ji27) : Int).toNat) 0 t197 t198 t199 _ A30.out).mono ?_); rintro e w32 ⟨rfl, hb⟩; have n0_ := Aside0.mk (blk_below (g := gb196) (o := .cells #[.int .i64 t193, .int .i64 t194, .int .i64 t195] 43 (0, 0)) (by (with_reducible repeat (first | refine blk_drewN ?_ _ | refine blk_drew ?_ | refine blk_alloc ?_ _)); refine blk_put (cs := #[.int .i64 t193, .int .i64 t194, .int .i64 0]) ?_ 2 _ rfl; (with_reducible repeat (first | refine blk_drewN ?_ _ | refine blk_drew ?_ | refine blk_alloc ?_ _)); refine blk_put (cs := #[.int .i64 t193, .int .i64 0, .int .i64 0]) ?_ 1 _ rfl; (with_reducible repeat (first | refine blk_drewN ?_ _ | refine blk_drew ?_ | refine blk_alloc ?_ _)); refine blk_put (cs := #[.int .i64 0, .int .i64 0, .int .i64 0]) ?_ 0 _ rfl; (with_reducible repeat (first | refine blk_drewN ?_ _ | refine blk_drew ?_ | refine blk_alloc ?_ _)); exact BK196.out) hb); have n1_ := Aside0.mk (below_step (by repeat (first | (with_reducible first | exact HB.out | apply below_alloc | apply pw_below_drewN | apply below_drew1 | refine below_set ?_ GE196.out) | exact HB.out)) hb); clear BK196; clear HB; have BK196 := n0_; have HB := n1_; clear n0_ n1_; (try clear hb); (try clear hb2); (try clear hk); (try clear hi)))
             repeat (go_quiet (first | (go_at_call 32; (with_reducible refine (impl_GetNum.calls kj7 (t191.extract 0 ((ji27) : Int).toNat) 0 t197 t198 t199 _ A30.out).mono ?_); rintro e w32 ⟨rfl, hb⟩; have n0_ := Aside0.mk (blk_below (g := gb196) (o := .cells #[.int .i64 t193, .int .i64 t194, .int .i64 t195] 43 (0, 0)) (by (with_reducible repeat (first | refine blk_drewN ?_ _ | refine blk_drew ?_ | refine blk_alloc ?_ _)); refine blk_put (cs := #[.int .i64 t193, .int .i64 t194, .int .i64 0]) ?_ 2 _ rfl; (with_reducible repeat (first | refine blk_drewN ?_ _ | refine blk_drew ?_ | refine blk_alloc ?_ _)); refine blk_put (cs := #[.int .i64 t193, .int .i64 0, .int .i64 0]) ?_ 1 _ rfl; (with_reducible repeat (first | refine blk_drewN ?_ _ | refine blk_drew ?_ | refine blk_alloc ?_ _)); refine blk_put (cs := #[.int .i64 0, .int .i64 0, .int .i64 0]) ?_ 0 _ rfl; (with_reducible repeat (first | refine blk_drewN ?_ _ | refine blk_drew ?_ | refine blk_alloc ?_ _)); exact BK196.out) hb); have n1_ := Aside0.mk (below_step (by repeat (first | (with_reducible first | exact HB.out | apply below_alloc | apply pw_below_drewN | apply below_drew1 | refine below_set ?_ GE196.out) | exact HB.out)) hb); clear BK196; clear HB; have BK196 := n0_; have HB := n1_; clear n0_ n1_; (try clear hb); (try clear hb2); (try clear hk); (try clear hi))); try go_wp2_with (first | (go_at_call 32; (with_reducible refine (impl_GetNum.calls kj7 (t191.extract 0 ((ji27) : Int).toNat) 0 t197 t198 t199 _ A30.out).mono ?_); rintro e w32 ⟨rfl, hb⟩; have n0_ := Aside0.mk (blk_below (g := gb196) (o := .cells #[.int .i64 t193, .int .i64 t194, .int .i64 t195] 43 (0, 0)) (by (with_reducible repeat (first | refine blk_drewN ?_ _ | refine blk_drew ?_ | refine blk_alloc ?_ _)); refine blk_put (cs := #[.int .i64 t193, .int .i64 t194, .int .i64 0]) ?_ 2 _ rfl; (with_reducible repeat (first | refine blk_drewN ?_ _ | refine blk_drew ?_ | refine blk_alloc ?_ _)); refine blk_put (cs := #[.int .i64 t193, .int .i64 0, .int .i64 0]) ?_ 1 _ rfl; (with_reducible repeat (first | refine blk_drewN ?_ _ | refine blk_drew ?_ | refine blk_alloc ?_ _)); refine blk_put (cs := #[.int .i64 0, .int .i64 0, .int .i64 0]) ?_ 0 _ rfl; (with_reducible repeat (first | refine blk_drewN ?_ _ | refine blk_drew ?_ | refine blk_alloc ?_ _)); exact BK196.out) hb); have n1_ := Aside0.mk (below_step (by repeat (first | (with_reducible first | exact HB.out | apply below_alloc | apply pw_below_drewN | apply below_drew1 | refine below_set ?_ GE196.out) | exact HB.out)) hb); clear BK196; clear HB; have BK196 := n0_; have HB := n1_; clear n0_ n1_; (try clear hb); (try clear hb2); (try clear hk); (try clear hi))))
             go_meet
             case rel => exact ⟨_, ((t199 != 4)), (by first | rfl | (simp; done) | (simp [*]; done)), H', ⟨by have := HJ2.out; have := HJ7.out; first | omega | exact Nat.le_refl _⟩, ⟨by (with_reducible repeat (first | refine blk_drewN ?_ _ | refine blk_drew ?_ | refine blk_alloc ?_ _)); exact BK196.out⟩, ⟨by repeat (first | (with_reducible first | exact HB.out | apply below_alloc | apply pw_below_drewN | apply below_drew1 | refine below_set ?_ GE196.out) | exact HB.out)⟩⟩
            ·rw [if_neg c29] at H
             exact absurd H (by simp)
           ·rw [if_neg c28] at H
            exact absurd H (by simp)
         case rest =>
          clear HC21
          (try clear c1); (try clear c2); (try clear p2); (try clear c4); (try clear c4b0); (try clear c4b1); (try clear c5); (try clear p6); (try clear c8); (try clear c12); (try clear c12b0); (try clear c12b1); (try clear c13); (try clear c13b0); (try clear c13b1); (try clear c17); (try clear c18); (try clear c18b0); (try clear c18b1); (try clear c18b2); (try clear c19); (try clear c19b0); (try clear c19b1); (try clear c19b2); (try clear c25); (try clear c25b0); (try clear c28); (try clear c28b0); (try clear c28b1); (try clear c29); (try clear c29b0); (try clear c29b1); (try clear hcz24_0); (try clear hcz24_1); (try clear hcz24_2); (try clear hcz26_0); (try clear hcz26_1); (try clear hcz26_2); (try clear hcz31_0); (try clear hcz31_1); (try clear hcz31_2); (try clear hfz24_0); (try clear hfz24_1); (try clear hfz24_2); (try clear hfz26_0); (try clear hfz26_1); (try clear hfz26_2); (try clear hfz31_0); (try clear hfz31_1); (try clear hfz31_2); (try clear p2)
          obtain ⟨kq, x58_20, rfl, HA, HJ20, BK196, HB⟩ := hcut
          cases kq with
          | zero => exact absurd HA.out (by simp [laws_FnNums.j2])
          | succ kj20 =>
           have H := HA.out
           clear HA
           simp only [laws_FnNums.j2] at H
           by_cases c33 : x58_20 = true
           ·subst c33
            have H1 : (some false) = some r := by rw [if_pos rfl] at H; exact H
            clear H
            have H := H1
            clear H1
            obtain rfl := Option.some.inj H
            go_wp2
            repeat (go_quiet (fail); try go_wp2)
            go_ret
            exact ⟨by first | rfl | (simp [errW_none, errW_some] <;> rfl) | (simp [*, errW_none, errW_some] <;> rfl), by repeat (first | (with_reducible first | exact HB.out | apply below_alloc | apply pw_below_drewN | apply below_drew1 | refine below_set ?_ GE196.out) | exact HB.out)⟩
           ·replace c33 := Bool.eq_false_iff.mpr c33
            subst c33
            have H1 : ((spec_DrawPutNums.f kj20 l1).bind fun t200 => ((some (([] : List Int) : List Int)).bind fun y203 => (if y203.length + t200.length < 17592186044416 then ((impl_PutNums.f kj20 (y203 ++ t200)).bind fun t209 => ((impl_GetNum.f kj20 t209 0).bind fun bt210 => (if bt210.2.2 = 0 then (laws_FnNums.j3 kj20 t200 t209 (bt210.1 != (t200.length : Int)) bt210.1 bt210.2.1 bt210.2.2) else (laws_FnNums.j3 kj20 t200 t209 true bt210.1 bt210.2.1 bt210.2.2)))) else (none)))) = some r := by rw [if_neg (show ¬ (false = true) by decide)] at H; exact H
            clear H
            have H := H1
            clear H1
            replace H := Option.bind_eq_some_iff.mp H
            obtain ⟨t200, A340, H⟩ := H
            replace H : ((some (([] : List Int) : List Int)).bind fun y203 => (if y203.length + t200.length < 17592186044416 then ((impl_PutNums.f kj20 (y203 ++ t200)).bind fun t209 => ((impl_GetNum.f kj20 t209 0).bind fun bt210 => (if bt210.2.2 = 0 then (laws_FnNums.j3 kj20 t200 t209 (bt210.1 != (t200.length : Int)) bt210.1 bt210.2.1 bt210.2.2) else (laws_FnNums.j3 kj20 t200 t209 true bt210.1 bt210.2.1 bt210.2.2)))) else (none))) = some r := H
            have A34 := Aside0.mk A340
            clear A340
            obtain ⟨y203, hy203⟩ : ∃ y_ : List Int, y_ = (([] : List Int)) := ⟨_, rfl⟩
            replace H : (if y203.length + t200.length < 17592186044416 then ((impl_PutNums.f kj20 (y203 ++ t200)).bind fun t209 => ((impl_GetNum.f kj20 t209 0).bind fun bt210 => (if bt210.2.2 = 0 then (laws_FnNums.j3 kj20 t200 t209 (bt210.1 != (t200.length : Int)) bt210.1 bt210.2.1 bt210.2.2) else (laws_FnNums.j3 kj20 t200 t209 true bt210.1 bt210.2.1 bt210.2.2)))) else (none)) = some r := by first | (rw [hy203]; with_reducible exact H) | (have H2_ := (Option.bind_some _ _).symm.trans H; rw [hy203]; with_reducible exact H2_) | (have H2_ := (Option.bind_some _ _).symm.trans H; with_reducible exact H2_) | with_reducible exact H | (rw [hy203]; exact H) | exact H
            have Ny203 := Aside0.mk hy203
            clear hy203
            by_cases c35 : y203.length + t200.length < 17592186044416
            ·rw [if_pos c35] at H
             have LMc35 := Aside0.mk c35
             clear c35
             obtain ⟨y206, hy206⟩ : ∃ y_ : List Int, y_ = (y203 ++ t200) := ⟨_, rfl⟩
             replace H : ((impl_PutNums.f kj20 y206).bind fun t209 => ((impl_GetNum.f kj20 t209 0).bind fun bt210 => (if bt210.2.2 = 0 then (laws_FnNums.j3 kj20 t200 t209 (bt210.1 != (t200.length : Int)) bt210.1 bt210.2.1 bt210.2.2) else (laws_FnNums.j3 kj20 t200 t209 true bt210.1 bt210.2.1 bt210.2.2)))) = some r := by first | (rw [hy206]; with_reducible exact H) | (have H2_ := (Option.bind_some _ _).symm.trans H; rw [hy206]; with_reducible exact H2_) | (have H2_ := (Option.bind_some _ _).symm.trans H; with_reducible exact H2_) | with_reducible exact H | (rw [hy206]; exact H) | exact H
             have Ny206 := Aside0.mk hy206
             clear hy206
             replace H := Option.bind_eq_some_iff.mp H
             obtain ⟨t209, A360, H⟩ := H
             replace H : ((impl_GetNum.f kj20 t209 0).bind fun bt210 => (if bt210.2.2 = 0 then (laws_FnNums.j3 kj20 t200 t209 (bt210.1 != (t200.length : Int)) bt210.1 bt210.2.1 bt210.2.2) else (laws_FnNums.j3 kj20 t200 t209 true bt210.1 bt210.2.1 bt210.2.2))) = some r := H
             have A36 := Aside0.mk A360
             clear A360
             replace H := Option.bind_eq_some_iff.mp H
             obtain ⟨⟨t210, t211, t212⟩, A370, H⟩ := H
             replace H : (if t212 = 0 then (laws_FnNums.j3 kj20 t200 t209 (t210 != (t200.length : Int)) t210 t211 t212) else (laws_FnNums.j3 kj20 t200 t209 true t210 t211 t212)) = some r := H
             have A37 := Aside0.mk A370
             clear A370
             have HC38 := Aside0.mk H
             clear H
             go_upto_region 13 with (first | (go_at_call 33; (with_reducible refine (spec_DrawPutNums.calls kj20 _ _ l1 t200 _ ?side1 ?side2 A34.out).mono ?_); (case side1 => repeat (first | exact (Kd.C_below HR1.out HB.out) | (with_reducible refine Kd.C_alloc ?_ _) | (with_reducible refine Kd.C_drewN ?_ _) | (with_reducible refine Kd.C_drew ?_))); (case side2 => exact HC1.out); rintro e w39 ⟨v201, rfl, ho0, hb⟩; have n0_ := Aside0.mk (Kd.R_lower ho0 (below_size (by repeat (first | (with_reducible first | exact HB.out | apply below_alloc | apply pw_below_drewN | apply below_drew1 | refine below_set ?_ GE196.out) | exact HB.out)))); have n1_ := Aside0.mk (blk_below (g := gb196) (o := .cells #[.int .i64 t193, .int .i64 t194, .int .i64 t195] 43 (0, 0)) (by (with_reducible repeat (first | refine blk_drewN ?_ _ | refine blk_drew ?_ | refine blk_alloc ?_ _)); exact BK196.out) hb); have n2_ := Aside0.mk (below_step (by repeat (first | (with_reducible first | exact HB.out | apply below_alloc | apply pw_below_drewN | apply below_drew1 | refine below_set ?_ GE196.out) | exact HB.out)) hb); clear BK196; clear HB; have HO202 := n0_; have BK196 := n1_; have HB := n2_; clear n0_ n1_ n2_; (try clear hb); (try clear hb2); (try clear hk); (try clear hi); (try clear ho0)) | ((with_reducible refine gate_dst (N := 61) rfl ?_); (try (refine gate_guard (by rfl) ?_; dsimp only)); refine Kd.R_lit (Kd.int .i64) _ 2 ?hg (N := 61) ?hd (xs := ([] : List Int)) (inner := []) (ok := fun _ => True) (okp := fun _ => True) ?hr ?hp (fun _ hk => hk) trivial (Below.refl _ _) (Nat.le_refl _) (by simp) ?_; (case hd => rfl); (case hg => rfl); (case hr => first | (go_simp; done) | (go_simp; rfl)); (case hp => exact (Reps.none _ _)); intro v204 w40 ho41 hb hg_ hnew_; clear hg_ hnew_; (first | rw [← Ny203.out] at ho41 | (simp only [Int.reduceToNat] at ho41; rw [← Ny203.out] at ho41)); have n0_ := Aside0.mk (Kd.R_elder' (by (with_reducible repeat (first | apply Kd.R_alloc | apply Kd.R_drewN | apply Kd.R_drew)); exact HO202.out) (Kd.R_base ho41) hb); have n1_ := Aside0.mk (Kd.R_lower (Kd.R_new' ho41 (Kd.R_lt (by (with_reducible repeat (first | apply Kd.R_alloc | apply Kd.R_drewN | apply Kd.R_drew)); exact HO202.out))) (below_size (by repeat (first | (with_reducible first | exact HB.out | apply below_alloc | apply pw_below_drewN | apply below_drew1 | refine below_set ?_ GE196.out) | exact HB.out)))); have n2_ := Aside0.mk (blk_below (g := gb196) (o := .cells #[.int .i64 t193, .int .i64 t194, .int .i64 t195] 43 (0, 0)) (by (with_reducible repeat (first | refine blk_drewN ?_ _ | refine blk_drew ?_ | refine blk_alloc ?_ _)); exact BK196.out) hb); have n3_ := Aside0.mk (below_step (by repeat (first | (with_reducible first | exact HB.out | apply below_alloc | apply pw_below_drewN | apply below_drew1 | refine below_set ?_ GE196.out) | exact HB.out)) hb); clear HO202; clear BK196; clear HB; have HO202 := n0_; have HO205 := n1_; have BK196 := n2_; have HB := n3_; clear n0_ n1_ n2_ n3_; clear hb ho41; obtain ⟨Ao43, co43, eo43⟩ := Kd.R_slice HO202.out; subst eo43) | ((with_reducible refine gate_builtin (b := .append) (xs := #[.tmp 61, .tmp 62]) rfl ?_); (try (refine gate_guard (by rfl) ?_; dsimp only)); at_builtin; refine Kd.R_append_rows (Kd.int .i64) (w0 := w) w.heap.size rfl (.tmp 61) (.tmp 62) 27 2 (.int .i64 0) 8 rfl Try.underlying27 info2 rfl (by decide) (by omega) v204 y203 t200 _ _ _ (fun k_ => some k_ ≠ (.slice Ao43 t200.length co43 : Value).ownBlock) (fun _ => False) rfl rfl ?aO ?aR (fun _ _ h => h) (fun _ h => h.elim) ?aF ?aB ?aS ?aL ?_; (case aR => repeat (first | exact (Kd.R_reads' HO202.out).2.2 | (with_reducible refine Kd.C_alloc ?_ _) | (with_reducible refine Kd.C_drewN ?_ _) | (with_reducible refine Kd.C_drew ?_))); (case aB => exact (by repeat (first | (with_reducible first | exact HB.out | apply below_alloc | apply pw_below_drewN | apply below_drew1 | refine below_set ?_ GE196.out) | exact HB.out))); (case aF => exact (fun k_ hk => Kd.fresh' (Kd.R_lt (by (with_reducible repeat (first | apply Kd.R_alloc | apply Kd.R_drewN | apply Kd.R_drew)); exact HO202.out)) k_ hk)); (case aO => exact (by (with_reducible repeat (first | apply Kd.R_alloc | apply Kd.R_drewN | apply Kd.R_drew)); exact Kd.R_mono HO205.out (fun _ hk => hk.2))); (case aS => exact (below_size (by repeat (first | (with_reducible first | exact HB.out | apply below_alloc | apply pw_below_drewN | apply below_drew1 | refine below_set ?_ GE196.out) | exact HB.out)))); (case aL => have := LMc35.out; omega); intro v207 w42 ho hb hg hat; rw [← Ny206.out] at ho; have n0_ := Aside0.mk (blk_grown (g := gb196) (o := .cells #[.int .i64 t193, .int .i64 t194, .int .i64 t195] 43 (0, 0)) (by (with_reducible repeat (first | refine blk_drewN ?_ _ | refine blk_drew ?_ | refine blk_alloc ?_ _)); exact BK196.out) hg (Kd.R_ne HO205.out BK196.out (by decide))); have n1_ := Aside0.mk (Kd.R_after (ok := (fun _ => True)) (by (with_reducible repeat (first | apply Kd.R_alloc | apply Kd.R_drewN | apply Kd.R_drew)); exact HO202.out) hg hat); have n2_ := Aside0.mk (hb); have n3_ := Aside0.mk (ho); clear BK196; clear HO202; clear HB; clear HO205; have BK196 := n0_; have HO202 := n1_; have HB := n2_; have HO208 := n3_; clear n0_ n1_ n2_ n3_; clear ho hb hg hat; obtain ⟨Ao44, co44, eo44⟩ := Kd.R_slice HO208.out; subst eo44) | (go_at_call 20; (with_reducible refine (impl_PutNums.calls kj20 _ _ y206 t209 _ ?side1 ?side2 A36.out).mono ?_); (case side1 => repeat (first | exact (Kd.R_reads' HO208.out).2.2 | (with_reducible refine Kd.C_alloc ?_ _) | (with_reducible refine Kd.C_drewN ?_ _) | (with_reducible refine Kd.C_drew ?_))); (case side2 => exact (Kd.R_reads' HO208.out).2.1); rintro e w45 ⟨rfl, hb⟩; have n0_ := Aside0.mk (Kd.R_below (by (with_reducible repeat (first | apply Kd.R_alloc | apply Kd.R_drewN | apply Kd.R_drew)); exact HO202.out) hb); have n1_ := Aside0.mk (Kd.R_below (by (with_reducible repeat (first | apply Kd.R_alloc | apply Kd.R_drewN | apply Kd.R_drew)); exact HO208.out) hb); have n2_ := Aside0.mk (blk_below (g := gb196) (o := .cells #[.int .i64 t193, .int .i64 t194, .int .i64 t195] 43 (0, 0)) (by (with_reducible repeat (first | refine blk_drewN ?_ _ | refine blk_drew ?_ | refine blk_alloc ?_ _)); exact BK196.out) hb); have n3_ := Aside0.mk (below_step (by repeat (first | (with_reducible first | exact HB.out | apply below_alloc | apply pw_below_drewN | apply below_drew1 | refine below_set ?_ GE196.out) | exact HB.out)) hb); clear HO202; clear HO208; clear BK196; clear HB; have HO202 := n0_; have HO208 := n1_; have BK196 := n2_; have HB := n3_; clear n0_ n1_ n2_ n3_; (try clear hb); (try clear hb2); (try clear hk); (try clear hi)) | (go_at_call 32; (with_reducible refine (impl_GetNum.calls kj20 t209 0 t210 t211 t212 _ A37.out).mono ?_); rintro e w46 ⟨rfl, hb⟩; have n0_ := Aside0.mk (Kd.R_below (by (with_reducible repeat (first | apply Kd.R_alloc | apply Kd.R_drewN | apply Kd.R_drew)); exact HO202.out) hb); have n1_ := Aside0.mk (Kd.R_below (by (with_reducible repeat (first | apply Kd.R_alloc | apply Kd.R_drewN | apply Kd.R_drew)); exact HO208.out) hb); have n2_ := Aside0.mk (blk_below (g := gb196) (o := .cells #[.int .i64 t193, .int .i64 t194, .int .i64 t195] 43 (0, 0)) (by (with_reducible repeat (first | refine blk_drewN ?_ _ | refine blk_drew ?_ | refine blk_alloc ?_ _)); exact BK196.out) hb); have n3_ := Aside0.mk (below_step (by repeat (first | (with_reducible first | exact HB.out | apply below_alloc | apply pw_below_drewN | apply below_drew1 | refine below_set ?_ GE196.out) | exact HB.out)) hb); clear HO202; clear HO208; clear BK196; clear HB; have HO202 := n0_; have HO208 := n1_; have BK196 := n2_; have HB := n3_; clear n0_ n1_ n2_ n3_; (try clear hb); (try clear hb2); (try clear hk); (try clear hi)) | ((with_reducible refine gate_dst (N := 10) rfl ?_); (try (refine gate_guard (by rfl) ?_; dsimp only)); refine box_event ?hg (N := 10) ?hd (cs := #[.int .i64 0, .int .i64 0, .int .i64 0]) (t := 43) ?hr ?_; (case hd => rfl); (case hg => rfl); (case hr => first | (go_simp; done) | (go_simp; rfl)); intro gb213 hg w47 hbox hb; have n0_ := Aside0.mk (Kd.R_below (by (with_reducible repeat (first | apply Kd.R_alloc | apply Kd.R_drewN | apply Kd.R_drew)); exact HO202.out) hb); have n1_ := Aside0.mk (Kd.R_below (by (with_reducible repeat (first | apply Kd.R_alloc | apply Kd.R_drewN | apply Kd.R_drew)); exact HO208.out) hb); have n2_ := Aside0.mk (blk_below (g := gb196) (o := .cells #[.int .i64 t193, .int .i64 t194, .int .i64 t195] 43 (0, 0)) (by (with_reducible repeat (first | refine blk_drewN ?_ _ | refine blk_drew ?_ | refine blk_alloc ?_ _)); exact BK196.out) hb); have n3_ := Aside0.mk (below_step (by repeat (first | (with_reducible first | exact HB.out | apply below_alloc | apply pw_below_drewN | apply below_drew1 | refine below_set ?_ GE196.out) | exact HB.out)) hb); have n4_ := Aside0.mk (hbox); have n5_ := Aside0.mk ((by rw [hg]; exact (below_size (by repeat (first | (with_reducible first | exact HB.out | apply below_alloc | apply pw_below_drewN | apply below_drew1 | refine below_set ?_ GE196.out) | exact HB.out))) : w.heap.size ≤ gb213)); have n6_ := Aside0.mk ((by rw [hg]; exact (below_size (by repeat (first | (with_reducible first | exact HB.out | apply below_alloc | apply pw_below_drewN | apply below_drew1 | refine below_set ?_ GE196.out) | exact HB.out))) : w.heap.size ≤ gb213)); have n7_ := Aside0.mk ((by rw [hg]; exact Nat.ne_of_lt (blk_lt (g := gb196) (o := .cells #[.int .i64 t193, .int .i64 t194, .int .i64 t195] 43 (0, 0)) (by (with_reducible repeat (first | refine blk_drewN ?_ _ | refine blk_drew ?_ | refine blk_alloc ?_ _)); exact BK196.out)) : gb196 ≠ gb213)); have n8_ := Aside0.mk ((by rw [hg]; exact Nat.ne_of_gt (blk_lt (g := gb196) (o := .cells #[.int .i64 t193, .int .i64 t194, .int .i64 t195] 43 (0, 0)) (by (with_reducible repeat (first | refine blk_drewN ?_ _ | refine blk_drew ?_ | refine blk_alloc ?_ _)); exact BK196.out)) : gb213 ≠ gb196)); clear HO202; clear HO208; clear BK196; clear HB; have HO202 := n0_; have HO208 := n1_; have BK196 := n2_; have HB := n3_; have BK213 := n4_; have GW213 := n5_; have GE213 := n6_; have NB196_213 := n7_; have NB213_196 := n8_; clear n0_ n1_ n2_ n3_ n4_ n5_ n6_ n7_ n8_; clear hb hbox hg; have hnb48 := NB213_196.out; have hnc48 := NB196_213.out; have hcz49_0 : w47.cell? ⟨gb213, 0, none⟩ = some (.int .i64 0) := (blk_cell BK213.out 0).trans rfl; have hcz49_1 : w47.cell? ⟨gb213, 1, none⟩ = some (.int .i64 0) := (blk_cell BK213.out 1).trans rfl; have hcz49_2 : w47.cell? ⟨gb213, 2, none⟩ = some (.int .i64 0) := (blk_cell BK213.out 2).trans rfl; have hfz49_0 := blk_frozen BK213.out 0; have hfz49_1 := blk_frozen BK213.out 1; have hfz49_2 := blk_frozen BK213.out 2))
             repeat (go_quiet (first | (go_at_call 33; (with_reducible refine (spec_DrawPutNums.calls kj20 _ _ l1 t200 _ ?side1 ?side2 A34.out).mono ?_); (case side1 => repeat (first | exact (Kd.C_below HR1.out HB.out) | (with_reducible refine Kd.C_alloc ?_ _) | (with_reducible refine Kd.C_drewN ?_ _) | (with_reducible refine Kd.C_drew ?_))); (case side2 => exact HC1.out); rintro e w39 ⟨v201, rfl, ho0, hb⟩; have n0_ := Aside0.mk (Kd.R_lower ho0 (below_size (by repeat (first | (with_reducible first | exact HB.out | apply below_alloc | apply pw_below_drewN | apply below_drew1 | refine below_set ?_ GE196.out) | exact HB.out)))); have n1_ := Aside0.mk (blk_below (g := gb196) (o := .cells #[.int .i64 t193, .int .i64 t194, .int .i64 t195] 43 (0, 0)) (by (with_reducible repeat (first | refine blk_drewN ?_ _ | refine blk_drew ?_ | refine blk_alloc ?_ _)); exact BK196.out) hb); have n2_ := Aside0.mk (below_step (by repeat (first | (with_reducible first | exact HB.out | apply below_alloc | apply pw_below_drewN | apply below_drew1 | refine below_set ?_ GE196.out) | exact HB.out)) hb); clear BK196; clear HB; have HO202 := n0_; have BK196 := n1_; have HB := n2_; clear n0_ n1_ n2_; (try clear hb); (try clear hb2); (try clear hk); (try clear hi); (try clear ho0)) | ((with_reducible refine gate_dst (N := 61) rfl ?_); (try (refine gate_guard (by rfl) ?_; dsimp only)); refine Kd.R_lit (Kd.int .i64) _ 2 ?hg (N := 61) ?hd (xs := ([] : List Int)) (inner := []) (ok := fun _ => True) (okp := fun _ => True) ?hr ?hp (fun _ hk => hk) trivial (Below.refl _ _) (Nat.le_refl _) (by simp) ?_; (case hd => rfl); (case hg => rfl); (case hr => first | (go_simp; done) | (go_simp; rfl)); (case hp => exact (Reps.none _ _)); intro v204 w40 ho41 hb hg_ hnew_; clear hg_ hnew_; (first | rw [← Ny203.out] at ho41 | (simp only [Int.reduceToNat] at ho41; rw [← Ny203.out] at ho41)); have n0_ := Aside0.mk (Kd.R_elder' (by (with_reducible repeat (first | apply Kd.R_alloc | apply Kd.R_drewN | apply Kd.R_drew)); exact HO202.out) (Kd.R_base ho41) hb); have n1_ := Aside0.mk (Kd.R_lower (Kd.R_new' ho41 (Kd.R_lt (by (with_reducible repeat (first | apply Kd.R_alloc | apply Kd.R_drewN | apply Kd.R_drew)); exact HO202.out))) (below_size (by repeat (first | (with_reducible first | exact HB.out | apply below_alloc | apply pw_below_drewN | apply below_drew1 | refine below_set ?_ GE196.out) | exact HB.out)))); have n2_ := Aside0.mk (blk_below (g := gb196) (o := .cells #[.int .i64 t193, .int .i64 t194, .int .i64 t195] 43 (0, 0)) (by (with_reducible repeat (first | refine blk_drewN ?_ _ | refine blk_drew ?_ | refine blk_alloc ?_ _)); exact BK196.out) hb); have n3_ := Aside0.mk (below_step (by repeat (first | (with_reducible first | exact HB.out | apply below_alloc | apply pw_below_drewN | apply below_drew1 | refine below_set ?_ GE196.out) | exact HB.out)) hb); clear HO202; clear BK196; clear HB; have HO202 := n0_; have HO205 := n1_; have BK196 := n2_; have HB := n3_; clear n0_ n1_ n2_ n3_; clear hb ho41; obtain ⟨Ao43, co43, eo43⟩ := Kd.R_slice HO202.out; subst eo43) | ((with_reducible refine gate_builtin (b := .append) (xs := #[.tmp 61, .tmp 62]) rfl ?_); (try (refine gate_guard (by rfl) ?_; dsimp only)); at_builtin; refine Kd.R_append_rows (Kd.int .i64) (w0 := w) w.heap.size rfl (.tmp 61) (.tmp 62) 27 2 (.int .i64 0) 8 rfl Try.underlying27 info2 rfl (by decide) (by omega) v204 y203 t200 _ _ _ (fun k_ => some k_ ≠ (.slice Ao43 t200.length co43 : Value).ownBlock) (fun _ => False) rfl rfl ?aO ?aR (fun _ _ h => h) (fun _ h => h.elim) ?aF ?aB ?aS ?aL ?_; (case aR => repeat (first | exact (Kd.R_reads' HO202.out).2.2 | (with_reducible refine Kd.C_alloc ?_ _) | (with_reducible refine Kd.C_drewN ?_ _) | (with_reducible refine Kd.C_drew ?_))); (case aB => exact (by repeat (first | (with_reducible first | exact HB.out | apply below_alloc | apply pw_below_drewN | apply below_drew1 | refine below_set ?_ GE196.out) | exact HB.out))); (case aF => exact (fun k_ hk => Kd.fresh' (Kd.R_lt (by (with_reducible repeat (first | apply Kd.R_alloc | apply Kd.R_drewN | apply Kd.R_drew)); exact HO202.out)) k_ hk)); (case aO => exact (by (with_reducible repeat (first | apply Kd.R_alloc | apply Kd.R_drewN | apply Kd.R_drew)); exact Kd.R_mono HO205.out (fun _ hk => hk.2))); (case aS => exact (below_size (by repeat (first | (with_reducible first | exact HB.out | apply below_alloc | apply pw_below_drewN | apply below_drew1 | refine below_set ?_ GE196.out) | exact HB.out)))); (case aL => have := LMc35.out; omega); intro v207 w42 ho hb hg hat; rw [← Ny206.out] at ho; have n0_ := Aside0.mk (blk_grown (g := gb196) (o := .cells #[.int .i64 t193, .int .i64 t194, .int .i64 t195] 43 (0, 0)) (by (with_reducible repeat (first | refine blk_drewN ?_ _ | refine blk_drew ?_ | refine blk_alloc ?_ _)); exact BK196.out) hg (Kd.R_ne HO205.out BK196.out (by decide))); have n1_ := Aside0.mk (Kd.R_after (ok := (fun _ => True)) (by (with_reducible repeat (first | apply Kd.R_alloc | apply Kd.R_drewN | apply Kd.R_drew)); exact HO202.out) hg hat); have n2_ := Aside0.mk (hb); have n3_ := Aside0.mk (ho); clear BK196; clear HO202; clear HB; clear HO205; have BK196 := n0_; have HO202 := n1_; have HB := n2_; have HO208 := n3_; clear n0_ n1_ n2_ n3_; clear ho hb hg hat; obtain ⟨Ao44, co44, eo44⟩ := Kd.R_slice HO208.out; subst eo44) | (go_at_call 20; (with_reducible refine (impl_PutNums.calls kj20 _ _ y206 t209 _ ?side1 ?side2 A36.out).mono ?_); (case side1 => repeat (first | exact (Kd.R_reads' HO208.out).2.2 | (with_reducible refine Kd.C_alloc ?_ _) | (with_reducible refine Kd.C_drewN ?_ _) | (with_reducible refine Kd.C_drew ?_))); (case side2 => exact (Kd.R_reads' HO208.out).2.1); rintro e w45 ⟨rfl, hb⟩; have n0_ := Aside0.mk (Kd.R_below (by (with_reducible repeat (first | apply Kd.R_alloc | apply Kd.R_drewN | apply Kd.R_drew)); exact HO202.out) hb); have n1_ := Aside0.mk (Kd.R_below (by (with_reducible repeat (first | apply Kd.R_alloc | apply Kd.R_drewN | apply Kd.R_drew)); exact HO208.out) hb); have n2_ := Aside0.mk (blk_below (g := gb196) (o := .cells #[.int .i64 t193, .int .i64 t194, .int .i64 t195] 43 (0, 0)) (by (with_reducible repeat (first | refine blk_drewN ?_ _ | refine blk_drew ?_ | refine blk_alloc ?_ _)); exact BK196.out) hb); have n3_ := Aside0.mk (below_step (by repeat (first | (with_reducible first | exact HB.out | apply below_alloc | apply pw_below_drewN | apply below_drew1 | refine below_set ?_ GE196.out) | exact HB.out)) hb); clear HO202; clear HO208; clear BK196; clear HB; have HO202 := n0_; have HO208 := n1_; have BK196 := n2_; have HB := n3_; clear n0_ n1_ n2_ n3_; (try clear hb); (try clear hb2); (try clear hk); (try clear hi)) | (go_at_call 32; (with_reducible refine (impl_GetNum.calls kj20 t209 0 t210 t211 t212 _ A37.out).mono ?_); rintro e w46 ⟨rfl, hb⟩; have n0_ := Aside0.mk (Kd.R_below (by (with_reducible repeat (first | apply Kd.R_alloc | apply Kd.R_drewN | apply Kd.R_drew)); exact HO202.out) hb); have n1_ := Aside0.mk (Kd.R_below (by (with_reducible repeat (first | apply Kd.R_alloc | apply Kd.R_drewN | apply Kd.R_drew)); exact HO208.out) hb); have n2_ := Aside0.mk (blk_below (g := gb196) (o := .cells #[.int .i64 t193, .int .i64 t194, .int .i64 t195] 43 (0, 0)) (by (with_reducible repeat (first | refine blk_drewN ?_ _ | refine blk_drew ?_ | refine blk_alloc ?_ _)); exact BK196.out) hb); have n3_ := Aside0.mk (below_step (by repeat (first | (with_reducible first | exact HB.out | apply below_alloc | apply pw_below_drewN | apply below_drew1 | refine below_set ?_ GE196.out) | exact HB.out)) hb); clear HO202; clear HO208; clear BK196; clear HB; have HO202 := n0_; have HO208 := n1_; have BK196 := n2_; have HB := n3_; clear n0_ n1_ n2_ n3_; (try clear hb); (try clear hb2); (try clear hk); (try clear hi)) | ((with_reducible refine gate_dst (N := 10) rfl ?_); (try (refine gate_guard (by rfl) ?_; dsimp only)); refine box_event ?hg (N := 10) ?hd (cs := #[.int .i64 0, .int .i64 0, .int .i64 0]) (t := 43) ?hr ?_; (case hd => rfl); (case hg => rfl); (case hr => first | (go_simp; done) | (go_simp; rfl)); intro gb213 hg w47 hbox hb; have n0_ := Aside0.mk (Kd.R_below (by (with_reducible repeat (first | apply Kd.R_alloc | apply Kd.R_drewN | apply Kd.R_drew)); exact HO202.out) hb); have n1_ := Aside0.mk (Kd.R_below (by (with_reducible repeat (first | apply Kd.R_alloc | apply Kd.R_drewN | apply Kd.R_drew)); exact HO208.out) hb); have n2_ := Aside0.mk (blk_below (g := gb196) (o := .cells #[.int .i64 t193, .int .i64 t194, .int .i64 t195] 43 (0, 0)) (by (with_reducible repeat (first | refine blk_drewN ?_ _ | refine blk_drew ?_ | refine blk_alloc ?_ _)); exact BK196.out) hb); have n3_ := Aside0.mk (below_step (by repeat (first | (with_reducible first | exact HB.out | apply below_alloc | apply pw_below_drewN | apply below_drew1 | refine below_set ?_ GE196.out) | exact HB.out)) hb); have n4_ := Aside0.mk (hbox); have n5_ := Aside0.mk ((by rw [hg]; exact (below_size (by repeat (first | (with_reducible first | exact HB.out | apply below_alloc | apply pw_below_drewN | apply below_drew1 | refine below_set ?_ GE196.out) | exact HB.out))) : w.heap.size ≤ gb213)); have n6_ := Aside0.mk ((by rw [hg]; exact (below_size (by repeat (first | (with_reducible first | exact HB.out | apply below_alloc | apply pw_below_drewN | apply below_drew1 | refine below_set ?_ GE196.out) | exact HB.out))) : w.heap.size ≤ gb213)); have n7_ := Aside0.mk ((by rw [hg]; exact Nat.ne_of_lt (blk_lt (g := gb196) (o := .cells #[.int .i64 t193, .int .i64 t194, .int .i64 t195] 43 (0, 0)) (by (with_reducible repeat (first | refine blk_drewN ?_ _ | refine blk_drew ?_ | refine blk_alloc ?_ _)); exact BK196.out)) : gb196 ≠ gb213)); have n8_ := Aside0.mk ((by rw [hg]; exact Nat.ne_of_gt (blk_lt (g := gb196) (o := .cells #[.int .i64 t193, .int .i64 t194, .int .i64 t195] 43 (0, 0)) (by (with_reducible repeat (first | refine blk_drewN ?_ _ | refine blk_drew ?_ | refine blk_alloc ?_ _)); exact BK196.out)) : gb213 ≠ gb196)); clear HO202; clear HO208; clear BK196; clear HB; have HO202 := n0_; have HO208 := n1_; have BK196 := n2_; have HB := n3_; have BK213 := n4_; have GW213 := n5_; have GE213 := n6_; have NB196_213 := n7_; have NB213_196 := n8_; clear n0_ n1_ n2_ n3_ n4_ n5_ n6_ n7_ n8_; clear hb hbox hg; have hnb48 := NB213_196.out; have hnc48 := NB196_213.out; have hcz49_0 : w47.cell? ⟨gb213, 0, none⟩ = some (.int .i64 0) := (blk_cell BK213.out 0).trans rfl; have hcz49_1 : w47.cell? ⟨gb213, 1, none⟩ = some (.int .i64 0) := (blk_cell BK213.out 1).trans rfl; have hcz49_2 : w47.cell? ⟨gb213, 2, none⟩ = some (.int .i64 0) := (blk_cell BK213.out 2).trans rfl; have hfz49_0 := blk_frozen BK213.out 0; have hfz49_1 := blk_frozen BK213.out 1; have hfz49_2 := blk_frozen BK213.out 2)); go_upto_region 13 with (first | (go_at_call 33; (with_reducible refine (spec_DrawPutNums.calls kj20 _ _ l1 t200 _ ?side1 ?side2 A34.out).mono ?_); (case side1 => repeat (first | exact (Kd.C_below HR1.out HB.out) | (with_reducible refine Kd.C_alloc ?_ _) | (with_reducible refine Kd.C_drewN ?_ _) | (with_reducible refine Kd.C_drew ?_))); (case side2 => exact HC1.out); rintro e w39 ⟨v201, rfl, ho0, hb⟩; have n0_ := Aside0.mk (Kd.R_lower ho0 (below_size (by repeat (first | (with_reducible first | exact HB.out | apply below_alloc | apply pw_below_drewN | apply below_drew1 | refine below_set ?_ GE196.out) | exact HB.out)))); have n1_ := Aside0.mk (blk_below (g := gb196) (o := .cells #[.int .i64 t193, .int .i64 t194, .int .i64 t195] 43 (0, 0)) (by (with_reducible repeat (first | refine blk_drewN ?_ _ | refine blk_drew ?_ | refine blk_alloc ?_ _)); exact BK196.out) hb); have n2_ := Aside0.mk (below_step (by repeat (first | (with_reducible first | exact HB.out | apply below_alloc | apply pw_below_drewN | apply below_drew1 | refine below_set ?_ GE196.out) | exact HB.out)) hb); clear BK196; clear HB; have HO202 := n0_; have BK196 := n1_; have HB := n2_; clear n0_ n1_ n2_; (try clear hb); (try clear hb2); (try clear hk); (try clear hi); (try clear ho0)) | ((with_reducible refine gate_dst (N := 61) rfl ?_); (try (refine gate_guard (by rfl) ?_; dsimp only)); refine Kd.R_lit (Kd.int .i64) _ 2 ?hg (N := 61) ?hd (xs := ([] : List Int)) (inner := []) (ok := fun _ => True) (okp := fun _ => True) ?hr ?hp (fun _ hk => hk) trivial (Below.refl _ _) (Nat.le_refl _) (by simp) ?_; (case hd => rfl); (case hg => rfl); (case hr => first | (go_simp; done) | (go_simp; rfl)); (case hp => exact (Reps.none _ _)); intro v204 w40 ho41 hb hg_ hnew_; clear hg_ hnew_; (first | rw [← Ny203.out] at ho41 | (simp only [Int.reduceToNat] at ho41; rw [← Ny203.out] at ho41)); have n0_ := Aside0.mk (Kd.R_elder' (by (with_reducible repeat (first | apply Kd.R_alloc | apply Kd.R_drewN | apply Kd.R_drew)); exact HO202.out) (Kd.R_base ho41) hb); have n1_ := Aside0.mk (Kd.R_lower (Kd.R_new' ho41 (Kd.R_lt (by (with_reducible repeat (first | apply Kd.R_alloc | apply Kd.R_drewN | apply Kd.R_drew)); exact HO202.out))) (below_size (by repeat (first | (with_reducible first | exact HB.out | apply below_alloc | apply pw_below_drewN | apply below_drew1 | refine below_set ?_ GE196.out) | exact HB.out)))); have n2_ := Aside0.mk (blk_below (g := gb196) (o := .cells #[.int .i64 t193, .int .i64 t194, .int .i64 t195] 43 (0, 0)) (by (with_reducible repeat (first | refine blk_drewN ?_ _ | refine blk_drew ?_ | refine blk_alloc ?_ _)); exact BK196.out) hb); have n3_ := Aside0.mk (below_step (by repeat (first | (with_reducible first | exact HB.out | apply below_alloc | apply pw_below_drewN | apply below_drew1 | refine below_set ?_ GE196.out) | exact HB.out)) hb); clear HO202; clear BK196; clear HB; have HO202 := n0_; have HO205 := n1_; have BK196 := n2_; have HB := n3_; clear n0_ n1_ n2_ n3_; clear hb ho41; obtain ⟨Ao43, co43, eo43⟩ := Kd.R_slice HO202.out; subst eo43) | ((with_reducible refine gate_builtin (b := .append) (xs := #[.tmp 61, .tmp 62]) rfl ?_); (try (refine gate_guard (by rfl) ?_; dsimp only)); at_builtin; refine Kd.R_append_rows (Kd.int .i64) (w0 := w) w.heap.size rfl (.tmp 61) (.tmp 62) 27 2 (.int .i64 0) 8 rfl Try.underlying27 info2 rfl (by decide) (by omega) v204 y203 t200 _ _ _ (fun k_ => some k_ ≠ (.slice Ao43 t200.length co43 : Value).ownBlock) (fun _ => False) rfl rfl ?aO ?aR (fun _ _ h => h) (fun _ h => h.elim) ?aF ?aB ?aS ?aL ?_; (case aR => repeat (first | exact (Kd.R_reads' HO202.out).2.2 | (with_reducible refine Kd.C_alloc ?_ _) | (with_reducible refine Kd.C_drewN ?_ _) | (with_reducible refine Kd.C_drew ?_))); (case aB => exact (by repeat (first | (with_reducible first | exact HB.out | apply below_alloc | apply pw_below_drewN | apply below_drew1 | refine below_set ?_ GE196.out) | exact HB.out))); (case aF => exact (fun k_ hk => Kd.fresh' (Kd.R_lt (by (with_reducible repeat (first | apply Kd.R_alloc | apply Kd.R_drewN | apply Kd.R_drew)); exact HO202.out)) k_ hk)); (case aO => exact (by (with_reducible repeat (first | apply Kd.R_alloc | apply Kd.R_drewN | apply Kd.R_drew)); exact Kd.R_mono HO205.out (fun _ hk => hk.2))); (case aS => exact (below_size (by repeat (first | (with_reducible first | exact HB.out | apply below_alloc | apply pw_below_drewN | apply below_drew1 | refine below_set ?_ GE196.out) | exact HB.out)))); (case aL => have := LMc35.out; omega); intro v207 w42 ho hb hg hat; rw [← Ny206.out] at ho; have n0_ := Aside0.mk (blk_grown (g := gb196) (o := .cells #[.int .i64 t193, .int .i64 t194, .int .i64 t195] 43 (0, 0)) (by (with_reducible repeat (first | refine blk_drewN ?_ _ | refine blk_drew ?_ | refine blk_alloc ?_ _)); exact BK196.out) hg (Kd.R_ne HO205.out BK196.out (by decide))); have n1_ := Aside0.mk (Kd.R_after (ok := (fun _ => True)) (by (with_reducible repeat (first | apply Kd.R_alloc | apply Kd.R_drewN | apply Kd.R_drew)); exact HO202.out) hg hat); have n2_ := Aside0.mk (hb); have n3_ := Aside0.mk (ho); clear BK196; clear HO202; clear HB; clear HO205; have BK196 := n0_; have HO202 := n1_; have HB := n2_; have HO208 := n3_; clear n0_ n1_ n2_ n3_; clear ho hb hg hat; obtain ⟨Ao44, co44, eo44⟩ := Kd.R_slice HO208.out; subst eo44) | (go_at_call 20; (with_reducible refine (impl_PutNums.calls kj20 _ _ y206 t209 _ ?side1 ?side2 A36.out).mono ?_); (case side1 => repeat (first | exact (Kd.R_reads' HO208.out).2.2 | (with_reducible refine Kd.C_alloc ?_ _) | (with_reducible refine Kd.C_drewN ?_ _) | (with_reducible refine Kd.C_drew ?_))); (case side2 => exact (Kd.R_reads' HO208.out).2.1); rintro e w45 ⟨rfl, hb⟩; have n0_ := Aside0.mk (Kd.R_below (by (with_reducible repeat (first | apply Kd.R_alloc | apply Kd.R_drewN | apply Kd.R_drew)); exact HO202.out) hb); have n1_ := Aside0.mk (Kd.R_below (by (with_reducible repeat (first | apply Kd.R_alloc | apply Kd.R_drewN | apply Kd.R_drew)); exact HO208.out) hb); have n2_ := Aside0.mk (blk_below (g := gb196) (o := .cells #[.int .i64 t193, .int .i64 t194, .int .i64 t195] 43 (0, 0)) (by (with_reducible repeat (first | refine blk_drewN ?_ _ | refine blk_drew ?_ | refine blk_alloc ?_ _)); exact BK196.out) hb); have n3_ := Aside0.mk (below_step (by repeat (first | (with_reducible first | exact HB.out | apply below_alloc | apply pw_below_drewN | apply below_drew1 | refine below_set ?_ GE196.out) | exact HB.out)) hb); clear HO202; clear HO208; clear BK196; clear HB; have HO202 := n0_; have HO208 := n1_; have BK196 := n2_; have HB := n3_; clear n0_ n1_ n2_ n3_; (try clear hb); (try clear hb2); (try clear hk); (try clear hi)) | (go_at_call 32; (with_reducible refine (impl_GetNum.calls kj20 t209 0 t210 t211 t212 _ A37.out).mono ?_); rintro e w46 ⟨rfl, hb⟩; have n0_ := Aside0.mk (Kd.R_below (by (with_reducible repeat (first | apply Kd.R_alloc | apply Kd.R_drewN | apply Kd.R_drew)); exact HO202.out) hb); have n1_ := Aside0.mk (Kd.R_below (by (with_reducible repeat (first | apply Kd.R_alloc | apply Kd.R_drewN | apply Kd.R_drew)); exact HO208.out) hb); have n2_ := Aside0.mk (blk_below (g := gb196) (o := .cells #[.int .i64 t193, .int .i64 t194, .int .i64 t195] 43 (0, 0)) (by (with_reducible repeat (first | refine blk_drewN ?_ _ | refine blk_drew ?_ | refine blk_alloc ?_ _)); exact BK196.out) hb); have n3_ := Aside0.mk (below_step (by repeat (first | (with_reducible first | exact HB.out | apply below_alloc | apply pw_below_drewN | apply below_drew1 | refine below_set ?_ GE196.out) | exact HB.out)) hb); clear HO202; clear HO208; clear BK196; clear HB; have HO202 := n0_; have HO208 := n1_; have BK196 := n2_; have HB := n3_; clear n0_ n1_ n2_ n3_; (try clear hb); (try clear hb2); (try clear hk); (try clear hi)) | ((with_reducible refine gate_dst (N := 10) rfl ?_); (try (refine gate_guard (by rfl) ?_; dsimp only)); refine box_event ?hg (N := 10) ?hd (cs := #[.int .i64 0, .int .i64 0, .int .i64 0]) (t := 43) ?hr ?_; (case hd => rfl); (case hg => rfl); (case hr => first | (go_simp; done) | (go_simp; rfl)); intro gb213 hg w47 hbox hb; have n0_ := Aside0.mk (Kd.R_below (by (with_reducible repeat (first | apply Kd.R_alloc | apply Kd.R_drewN | apply Kd.R_drew)); exact HO202.out) hb); have n1_ := Aside0.mk (Kd.R_below (by (with_reducible repeat (first | apply Kd.R_alloc | apply Kd.R_drewN | apply Kd.R_drew)); exact HO208.out) hb); have n2_ := Aside0.mk (blk_below (g := gb196) (o := .cells #[.int .i64 t193, .int .i64 t194, .int .i64 t195] 43 (0, 0)) (by (with_reducible repeat (first | refine blk_drewN ?_ _ | refine blk_drew ?_ | refine blk_alloc ?_ _)); exact BK196.out) hb); have n3_ := Aside0.mk (below_step (by repeat (first | (with_reducible first | exact HB.out | apply below_alloc | apply pw_below_drewN | apply below_drew1 | refine below_set ?_ GE196.out) | exact HB.out)) hb); have n4_ := Aside0.mk (hbox); have n5_ := Aside0.mk ((by rw [hg]; exact (below_size (by repeat (first | (with_reducible first | exact HB.out | apply below_alloc | apply pw_below_drewN | apply below_drew1 | refine below_set ?_ GE196.out) | exact HB.out))) : w.heap.size ≤ gb213)); have n6_ := Aside0.mk ((by rw [hg]; exact (below_size (by repeat (first | (with_reducible first | exact HB.out | apply below_alloc | apply pw_below_drewN | apply below_drew1 | refine below_set ?_ GE196.out) | exact HB.out))) : w.heap.size ≤ gb213)); have n7_ := Aside0.mk ((by rw [hg]; exact Nat.ne_of_lt (blk_lt (g := gb196) (o := .cells #[.int .i64 t193, .int .i64 t194, .int .i64 t195] 43 (0, 0)) (by (with_reducible repeat (first | refine blk_drewN ?_ _ | refine blk_drew ?_ | refine blk_alloc ?_ _)); exact BK196.out)) : gb196 ≠ gb213)); have n8_ := Aside0.mk ((by rw [hg]; exact Nat.ne_of_gt (blk_lt (g := gb196) (o := .cells #[.int .i64 t193, .int .i64 t194, .int .i64 t195] 43 (0, 0)) (by (with_reducible repeat (first | refine blk_drewN ?_ _ | refine blk_drew ?_ | refine blk_alloc ?_ _)); exact BK196.out)) : gb213 ≠ gb196)); clear HO202; clear HO208; clear BK196; clear HB; have HO202 := n0_; have HO208 := n1_; have BK196 := n2_; have HB := n3_; have BK213 := n4_; have GW213 := n5_; have GE213 := n6_; have NB196_213 := n7_; have NB213_196 := n8_; clear n0_ n1_ n2_ n3_ n4_ n5_ n6_ n7_ n8_; clear hb hbox hg; have hnb48 := NB213_196.out; have hnc48 := NB196_213.out; have hcz49_0 : w47.cell? ⟨gb213, 0, none⟩ = some (.int .i64 0) := (blk_cell BK213.out 0).trans rfl; have hcz49_1 : w47.cell? ⟨gb213, 1, none⟩ = some (.int .i64 0) := (blk_cell BK213.out 1).trans rfl; have hcz49_2 : w47.cell? ⟨gb213, 2, none⟩ = some (.int .i64 0) := (blk_cell BK213.out 2).trans rfl; have hfz49_0 := blk_frozen BK213.out 0; have hfz49_1 := blk_frozen BK213.out 1; have hfz49_2 := blk_frozen BK213.out 2)))
             (try simp only [Act.put, List.setIfInBounds_toArray, List.set_cons_zero, List.set_cons_succ])
             go_cut [76] (fun v76 wc => ∃ (kq : Nat) (x76_37 : Bool), v76 = .bool x76_37 ∧ Aside0 (laws_FnNums.j3 kq t200 t209 x76_37 t210 t211 t212 = some r) ∧ Aside0 (kq ≤ kj20) ∧ Aside0 (Kd.R (Kd.int .i64) 2 wc w.heap.size (fun _ => True) (.slice Ao43 t200.length co43) t200) ∧ Aside0 (wc.heap[gb196]? = some (.cells #[.int .i64 t193, .int .i64 t194, .int .i64 t195] 43 (0, 0))) ∧ Aside0 (wc.heap[gb213]? = some (.cells #[.int .i64 t210, .int .i64 t211, .int .i64 t212] 43 (0, 0))) ∧ Aside0 (Below w.heap.size w wc))
             case first =>
              have H := HC38.out
              clear HC38
              by_cases c50 : t212 = 0
              ·rw [if_pos c50] at H
               have c50b0 : (t212 == 0) = true := beq_iff_eq.mpr c50
               have c50b1 : (t212 != 0) = false := bne_eq_false_iff_eq.mpr c50
               clear c50
               (first | rw [c50b0] | (simp only [i64_w, i32_w]; rw [c50b0]) | skip)
               have H' := Aside0.mk H
               clear H
               have hnb51 := NB213_196.out
               have hnc51 := NB196_213.out
               have hcz52_0 : w47.cell? ⟨gb213, 0, none⟩ = some (.int .i64 0) := (blk_cell BK213.out 0).trans rfl
               have hcz52_1 : w47.cell? ⟨gb213, 1, none⟩ = some (.int .i64 0) := (blk_cell BK213.out 1).trans rfl
               have hcz52_2 : w47.cell? ⟨gb213, 2, none⟩ = some (.int .i64 0) := (blk_cell BK213.out 2).trans rfl
               have hfz52_0 := blk_frozen BK213.out 0
               have hfz52_1 := blk_frozen BK213.out 1
               have hfz52_2 := blk_frozen BK213.out 2
               go_wp2
               repeat (go_quiet (fail); try go_wp2)
               go_meet
               case rel => exact ⟨_, ((t210 != (t200.length : Int))), (by first | rfl | (simp; done) | (simp [*]; done)), H', ⟨by have := HJ2.out; have := HJ7.out; have := HJ20.out; first | omega | exact Nat.le_refl _⟩, ⟨by (with_reducible repeat (first | apply Kd.R_alloc | apply Kd.R_drewN | apply Kd.R_drew)); exact Kd.R_mono (Kd.R_far (p := ⟨gb213, 2, none⟩) (Kd.R_far (p := ⟨gb213, 1, none⟩) (Kd.R_far (p := ⟨gb213, 0, none⟩) (Kd.R_types HO202.out BK213.out (by decide)) (fun _ hk => hk.2) (.int .i64 t210)) (fun _ hk => hk.2) (.int .i64 t211)) (fun _ hk => hk.2) (.int .i64 t212)) (fun _ hk => trivial)⟩, ⟨by (with_reducible repeat (first | refine blk_drewN ?_ _ | refine blk_drew ?_ | refine blk_alloc ?_ _)); refine blk_far ?_ NB196_213.out _; (with_reducible repeat (first | refine blk_drewN ?_ _ | refine blk_drew ?_ | refine blk_alloc ?_ _)); refine blk_far ?_ NB196_213.out _; (with_reducible repeat (first | refine blk_drewN ?_ _ | refine blk_drew ?_ | refine blk_alloc ?_ _)); refine blk_far ?_ NB196_213.out _; (with_reducible repeat (first | refine blk_drewN ?_ _ | refine blk_drew ?_ | refine blk_alloc ?_ _)); exact BK196.out⟩, ⟨by (with_reducible repeat (first | refine blk_drewN ?_ _ | refine blk_drew ?_ | refine blk_alloc ?_ _)); refine blk_put (cs := #[.int .i64 t210, .int .i64 t211, .int .i64 0]) ?_ 2 _ rfl; (with_reducible repeat (first | refine blk_drewN ?_ _ | refine blk_drew ?_ | refine blk_alloc ?_ _)); refine blk_put (cs := #[.int .i64 t210, .int .i64 0, .int .i64 0]) ?_ 1 _ rfl; (with_reducible repeat (first | refine blk_drewN ?_ _ | refine blk_drew ?_ | refine blk_alloc ?_ _)); refine blk_put (cs := #[.int .i64 0, .int .i64 0, .int .i64 0]) ?_ 0 _ rfl; (with_reducible repeat (first | refine blk_drewN ?_ _ | refine blk_drew ?_ | refine blk_alloc ?_ _)); exact BK213.out⟩, ⟨by repeat (first | (with_reducible first | exact HB.out | apply below_alloc | apply pw_below_drewN | apply below_drew1 | refine below_set ?_ GE196.out | refine below_set ?_ GE213.out) | exact HB.out)⟩⟩
              ·rw [if_neg c50] at H
               have c50b0 : (t212 == 0) = false := beq_eq_false_iff_ne.mpr c50
               have c50b1 : (t212 != 0) = true := bne_iff_ne.mpr c50
               (first | rw [c50b0] | (simp only [i64_w, i32_w]; rw [c50b0]) | skip)
               have H' := Aside0.mk H
               clear H
               have hnb53 := NB213_196.out
               have hnc53 := NB196_213.out
               have hcz54_0 : w47.cell? ⟨gb213, 0, none⟩ = some (.int .i64 0) := (blk_cell BK213.out 0).trans rfl
               have hcz54_1 : w47.cell? ⟨gb213, 1, none⟩ = some (.int .i64 0) := (blk_cell BK213.out 1).trans rfl
               have hcz54_2 : w47.cell? ⟨gb213, 2, none⟩ = some (.int .i64 0) := (blk_cell BK213.out 2).trans rfl
               have hfz54_0 := blk_frozen BK213.out 0
               have hfz54_1 := blk_frozen BK213.out 1
               have hfz54_2 := blk_frozen BK213.out 2
               go_wp2
               repeat (go_quiet (fail); try go_wp2)
               go_meet
               case rel => exact ⟨_, (true), (by first | rfl | (simp; done) | (simp [*]; done)), H', ⟨by have := HJ2.out; have := HJ7.out; have := HJ20.out; first | omega | exact Nat.le_refl _⟩, ⟨by (with_reducible repeat (first | apply Kd.R_alloc | apply Kd.R_drewN | apply Kd.R_drew)); exact Kd.R_mono (Kd.R_far (p := ⟨gb213, 2, none⟩) (Kd.R_far (p := ⟨gb213, 1, none⟩) (Kd.R_far (p := ⟨gb213, 0, none⟩) (Kd.R_types HO202.out BK213.out (by decide)) (fun _ hk => hk.2) (.int .i64 t210)) (fun _ hk => hk.2) (.int .i64 t211)) (fun _ hk => hk.2) (.int .i64 t212)) (fun _ hk => trivial)⟩, ⟨by (with_reducible repeat (first | refine blk_drewN ?_ _ | refine blk_drew ?_ | refine blk_alloc ?_ _)); refine blk_far ?_ NB196_213.out _; (with_reducible repeat (first | refine blk_drewN ?_ _ | refine blk_drew ?_ | refine blk_alloc ?_ _)); refine blk_far ?_ NB196_213.out _; (with_reducible repeat (first | refine blk_drewN ?_ _ | refine blk_drew ?_ | refine blk_alloc ?_ _)); refine blk_far ?_ NB196_213.out _; (with_reducible repeat (first | refine blk_drewN ?_ _ | refine blk_drew ?_ | refine blk_alloc ?_ _)); exact BK196.out⟩, ⟨by (with_reducible repeat (first | refine blk_drewN ?_ _ | refine blk_drew ?_ | refine blk_alloc ?_ _)); refine blk_put (cs := #[.int .i64 t210, .int .i64 t211, .int .i64 0]) ?_ 2 _ rfl; (with_reducible repeat (first | refine blk_drewN ?_ _ | refine blk_drew ?_ | refine blk_alloc ?_ _)); refine blk_put (cs := #[.int .i64 t210, .int .i64 0, .int .i64 0]) ?_ 1 _ rfl; (with_reducible repeat (first | refine blk_drewN ?_ _ | refine blk_drew ?_ | refine blk_alloc ?_ _)); refine blk_put (cs := #[.int .i64 0, .int .i64 0, .int .i64 0]) ?_ 0 _ rfl; (with_reducible repeat (first | refine blk_drewN ?_ _ | refine blk_drew ?_ | refine blk_alloc ?_ _)); exact BK213.out⟩, ⟨by repeat (first | (with_reducible first | exact HB.out | apply below_alloc | apply pw_below_drewN | apply below_drew1 | refine below_set ?_ GE196.out | refine below_set ?_ GE213.out) | exact HB.out)⟩⟩
             case rest =>
              clear HC38
              (try clear c1); (try clear c2); (try clear p2); (try clear c3); (try clear c4); (try clear c4b0); (try clear c4b1); (try clear c5); (try clear p6); (try clear c8); (try clear c12); (try clear c12b0); (try clear c12b1); (try clear c13); (try clear c13b0); (try clear c13b1); (try clear c17); (try clear c18); (try clear c18b0); (try clear c18b1); (try clear c18b2); (try clear c19); (try clear c19b0); (try clear c19b1); (try clear c19b2); (try clear c25); (try clear c25b0); (try clear c28); (try clear c28b0); (try clear c28b1); (try clear c29); (try clear c29b0); (try clear c29b1); (try clear c33); (try clear c35); (try clear c48); (try clear c50); (try clear c50b0); (try clear c50b1); (try clear c51); (try clear c53); (try clear hcz24_0); (try clear hcz24_1); (try clear hcz24_2); (try clear hcz26_0); (try clear hcz26_1); (try clear hcz26_2); (try clear hcz31_0); (try clear hcz31_1); (try clear hcz31_2); (try clear hcz49_0); (try clear hcz49_1); (try clear hcz49_2); (try clear hcz52_0); (try clear hcz52_1); (try clear hcz52_2); (try clear hcz54_0); (try clear hcz54_1); (try clear hcz54_2); (try clear hfz24_0); (try clear hfz24_1); (try clear hfz24_2); (try clear hfz26_0); (try clear hfz26_1); (try clear hfz26_2); (try clear hfz31_0); (try clear hfz31_1); (try clear hfz31_2); (try clear hfz49_0); (try clear hfz49_1); (try clear hfz49_2); (try clear hfz52_0); (try clear hfz52_1); (try clear hfz52_2); (try clear hfz54_0); (try clear hfz54_1); (try clear hfz54_2); (try clear p2); (try clear p6)
              obtain ⟨kq, x76_37, rfl, HA, HJ37, HO_8, BK196, BK213, HB⟩ := hcut
              cases kq with
              | zero => exact absurd HA.out (by simp [laws_FnNums.j3])
              | succ kj37 =>
               have H := HA.out
               clear HA
               simp only [laws_FnNums.j3] at H
               by_cases c55 : x76_37 = true
               ·subst c55
                have H1 : (some false) = some r := by rw [if_pos rfl] at H; exact H
                clear H
                have H := H1
                clear H1
                obtain rfl := Option.some.inj H
                go_wp2
                repeat (go_quiet (fail); try go_wp2)
                go_ret
                exact ⟨by first | rfl | (simp [errW_none, errW_some] <;> rfl) | (simp [*, errW_none, errW_some] <;> rfl), by repeat (first | (with_reducible first | exact HB.out | apply below_alloc | apply pw_below_drewN | apply below_drew1 | refine below_set ?_ GE196.out | refine below_set ?_ GE213.out) | exact HB.out)⟩
               ·replace c55 := Bool.eq_false_iff.mpr c55
                subst c55
                have H1 : (laws_FnNums.l0 kj37 t200 t209 0 t210 t211 t212) = some r := by rw [if_neg (show ¬ (false = true) by decide)] at H; exact H
                clear H
                have H := H1
                clear H1
                have H' := Aside0.mk H
                clear H
                go_wp2
                repeat (go_quiet (fail); try go_wp2)
                go_loopg [11] kj37 (fun kq v11 w' => ∃ (x11_5 : Int) (x214000_5 : Int) (x214001_5 : Int) (x214002_5 : Int), v11 = .int .i64 x11_5 ∧ Aside0 (laws_FnNums.l0 kq t200 t209 x11_5 x214000_5 x214001_5 x214002_5 = some r) ∧ Aside0 (kq ≤ kj37) ∧ Aside0 (Kd.R (Kd.int .i64) 2 w' w.heap.size (fun _ => True) (.slice Ao43 t200.length co43) t200) ∧ Aside0 (w'.heap[gb196]? = some (.cells #[.int .i64 t193, .int .i64 t194, .int .i64 t195] 43 (0, 0))) ∧ Aside0 (w'.heap[gb213]? = some (.cells #[.int .i64 x214000_5, .int .i64 x214001_5, .int .i64 x214002_5] 43 (0, 0))) ∧ Aside0 (Below w.heap.size w w'))
                case atStart => exact ⟨(0), (t210), (t211), (t212), (by first | rfl | (simp; done) | (simp [*]; done)), H', ⟨Nat.le_refl _⟩, ⟨by (with_reducible repeat (first | apply Kd.R_alloc | apply Kd.R_drewN | apply Kd.R_drew)); exact HO_8.out⟩, ⟨by (with_reducible repeat (first | refine blk_drewN ?_ _ | refine blk_drew ?_ | refine blk_alloc ?_ _)); exact BK196.out⟩, ⟨by (with_reducible repeat (first | refine blk_drewN ?_ _ | refine blk_drew ?_ | refine blk_alloc ?_ _)); exact BK213.out⟩, ⟨by repeat (first | (with_reducible first | exact HB.out | apply below_alloc | apply pw_below_drewN | apply below_drew1 | refine below_set ?_ GE196.out | refine below_set ?_ GE213.out) | exact HB.out)⟩⟩
                case round =>
                 clear H'
                 (try clear c1); (try clear c2); (try clear p2); (try clear c3); (try clear c4); (try clear c4b0); (try clear c4b1); (try clear c5); (try clear p6); (try clear c8); (try clear c12); (try clear c12b0); (try clear c12b1); (try clear c13); (try clear c13b0); (try clear c13b1); (try clear c17); (try clear c18); (try clear c18b0); (try clear c18b1); (try clear c18b2); (try clear c19); (try clear c19b0); (try clear c19b1); (try clear c19b2); (try clear c25); (try clear c25b0); (try clear c28); (try clear c28b0); (try clear c28b1); (try clear c29); (try clear c29b0); (try clear c29b1); (try clear c33); (try clear c35); (try clear c48); (try clear c50); (try clear c50b0); (try clear c50b1); (try clear c51); (try clear c53); (try clear c55); (try clear hcz24_0); (try clear hcz24_1); (try clear hcz24_2); (try clear hcz26_0); (try clear hcz26_1); (try clear hcz26_2); (try clear hcz31_0); (try clear hcz31_1); (try clear hcz31_2); (try clear hcz49_0); (try clear hcz49_1); (try clear hcz49_2); (try clear hcz52_0); (try clear hcz52_1); (try clear hcz52_2); (try clear hcz54_0); (try clear hcz54_1); (try clear hcz54_2); (try clear hfz24_0); (try clear hfz24_1); (try clear hfz24_2); (try clear hfz26_0); (try clear hfz26_1); (try clear hfz26_2); (try clear hfz31_0); (try clear hfz31_1); (try clear hfz31_2); (try clear hfz49_0); (try clear hfz49_1); (try clear hfz49_2); (try clear hfz52_0); (try clear hfz52_1); (try clear hfz52_2); (try clear hfz54_0); (try clear hfz54_1); (try clear hfz54_2); (try clear p2); (try clear p6)
                 obtain ⟨x11_5, x214000_5, x214001_5, x214002_5, rfl, HA, HK5, HO_8, BK196, BK213, HB⟩ := hrel
                 cases gk with
                 | zero => exact absurd HA.out (by simp [laws_FnNums.l0])
                 | succ k5 =>
                  have H := HA.out
                  clear HA
                  simp only [laws_FnNums.l0] at H
                  by_cases c56 : x11_5 < (t200.length : Int)
                  ·rw [if_pos c56] at H
                   have c56b0 : decide (x11_5 < (t200.length : Int)) = true := decide_eq_true c56
                   clear c56
                   replace H := Option.bind_eq_some_iff.mp H
                   obtain ⟨⟨t214, t215, t216⟩, A570, H⟩ := H
                   replace H : (if t216 = 0 then (if 0 ≤ x11_5 then (if t214 = (rd t200 x11_5) then (laws_FnNums.l0 k5 t200 t209 (wrap64 (x11_5 + 1)) t214 t215 t216) else (some false)) else (none)) else (some false)) = some r := H
                   have A57 := Aside0.mk A570
                   clear A570
                   by_cases c58 : t216 = 0
                   ·rw [if_pos c58] at H
                    have c58b0 : (t216 == 0) = true := beq_iff_eq.mpr c58
                    have c58b1 : (t216 != 0) = false := bne_eq_false_iff_eq.mpr c58
                    clear c58
                    by_cases c59 : 0 ≤ x11_5
                    ·rw [if_pos c59] at H
                     have c59b0 : decide (0 ≤ x11_5) = true := decide_eq_true c59
                     clear c59
                     by_cases c60 : t214 = (rd t200 x11_5)
                     ·rw [if_pos c60] at H
                      have c60b0 : (t214 == (rd t200 x11_5)) = true := beq_iff_eq.mpr c60
                      have c60b1 : (t214 != (rd t200 x11_5)) = false := bne_eq_false_iff_eq.mpr c60
                      clear c60
                      have H' := Aside0.mk H
                      clear H
                      have hnb61 := NB213_196.out
                      have hnc61 := NB196_213.out
                      have hcz62_0 : wr.cell? ⟨gb213, 0, none⟩ = some (.int .i64 x214000_5) := (blk_cell BK213.out 0).trans rfl
                      have hcz62_1 : wr.cell? ⟨gb213, 1, none⟩ = some (.int .i64 x214001_5) := (blk_cell BK213.out 1).trans rfl
                      have hcz62_2 : wr.cell? ⟨gb213, 2, none⟩ = some (.int .i64 x214002_5) := (blk_cell BK213.out 2).trans rfl
                      have hfz62_0 := blk_frozen BK213.out 0
                      have hfz62_1 := blk_frozen BK213.out 1
                      have hfz62_2 := blk_frozen BK213.out 2
                      go_wp2_with (first | (go_at_call 32; (with_reducible refine (impl_GetNum.calls k5 t209 x214001_5 t214 t215 t216 _ A57.out).mono ?_); rintro e w63 ⟨rfl, hb⟩; have n0_ := Aside0.mk (Kd.R_below (by (with_reducible repeat (first | apply Kd.R_alloc | apply Kd.R_drewN | apply Kd.R_drew)); exact HO_8.out) hb); have n1_ := Aside0.mk (blk_below (g := gb196) (o := .cells #[.int .i64 t193, .int .i64 t194, .int .i64 t195] 43 (0, 0)) (by (with_reducible repeat (first | refine blk_drewN ?_ _ | refine blk_drew ?_ | refine blk_alloc ?_ _)); exact BK196.out) hb); have n2_ := Aside0.mk (blk_below (g := gb213) (o := .cells #[.int .i64 x214000_5, .int .i64 x214001_5, .int .i64 x214002_5] 43 (0, 0)) (by (with_reducible repeat (first | refine blk_drewN ?_ _ | refine blk_drew ?_ | refine blk_alloc ?_ _)); exact BK213.out) hb); have n3_ := Aside0.mk (below_step (by repeat (first | (with_reducible first | exact HB.out | apply below_alloc | apply pw_below_drewN | apply below_drew1 | refine below_set ?_ GE196.out | refine below_set ?_ GE213.out) | exact HB.out)) hb); clear HO_8; clear BK196; clear BK213; clear HB; have HO_8 := n0_; have BK196 := n1_; have BK213 := n2_; have HB := n3_; clear n0_ n1_ n2_ n3_; (try clear hb); (try clear hb2); (try clear hk); (try clear hi); have hcz64_0 : w63.cell? ⟨gb213, 0, none⟩ = some (.int .i64 x214000_5) := (blk_cell BK213.out 0).trans rfl; have hcz64_1 : w63.cell? ⟨gb213, 1, none⟩ = some (.int .i64 x214001_5) := (blk_cell BK213.out 1).trans rfl; have hcz64_2 : w63.cell? ⟨gb213, 2, none⟩ = some (.int .i64 x214002_5) := (blk_cell BK213.out 2).trans rfl; have hfz64_0 := blk_frozen BK213.out 0; have hfz64_1 := blk_frozen BK213.out 1; have hfz64_2 := blk_frozen BK213.out 2; have p217 : 0 ≤ (x11_5 : Int) := of_decide_eq_true (by first | (with_reducible assumption) | assumption); have q217 : x11_5 < (t200.length : Int) := of_decide_eq_true (by first | (with_reducible assumption) | assumption); obtain ⟨ad217, e217, hx217_0⟩ := Kd.at_int (Kd.R_reads' HO_8.out).2.2 x11_5 p217 q217; cases e217; have hn217_0 : ad217.block ≠ gb213 := Kd.own_blk (Kd.R_ne HO_8.out BK213.out (by decide)); have hn217_1 : ad217.block ≠ gb213 := Kd.own_blk (Kd.R_ne HO_8.out BK213.out (by decide)); have hn217_2 : ad217.block ≠ gb213 := Kd.own_blk (Kd.R_ne HO_8.out BK213.out (by decide)); replace hx217_0 := (cell_far (p := ⟨gb213, 0, none⟩) (by first | (rw [add_block]; exact hn217_0) | (show (Addr.add _ _).block ≠ _; rw [add_block]; exact hn217_0) | exact hn217_0) (.int .i64 t214)).trans hx217_0; replace hx217_0 := (cell_far (p := ⟨gb213, 1, none⟩) (by first | (rw [add_block]; exact hn217_1) | (show (Addr.add _ _).block ≠ _; rw [add_block]; exact hn217_1) | exact hn217_1) (.int .i64 t215)).trans hx217_0; replace hx217_0 := (cell_far (p := ⟨gb213, 2, none⟩) (by first | (rw [add_block]; exact hn217_2) | (show (Addr.add _ _).block ≠ _; rw [add_block]; exact hn217_2) | exact hn217_2) (.int .i64 t216)).trans hx217_0; (try have hy217_0 := fun (n_ : Nat) => (show (((((w63.drewN n_).setCell ⟨gb213, 0, none⟩ (.int .i64 t214)).setCell ⟨gb213, 1, none⟩ (.int .i64 t215)).setCell ⟨gb213, 2, none⟩ (.int .i64 t216))).cell? _ = some _ from hx217_0)); clear hn217_0; clear hn217_1; clear hn217_2; replace p217 := eq_true p217; replace q217 := eq_true q217))
                      repeat (go_quiet (first | (go_at_call 32; (with_reducible refine (impl_GetNum.calls k5 t209 x214001_5 t214 t215 t216 _ A57.out).mono ?_); rintro e w63 ⟨rfl, hb⟩; have n0_ := Aside0.mk (Kd.R_below (by (with_reducible repeat (first | apply Kd.R_alloc | apply Kd.R_drewN | apply Kd.R_drew)); exact HO_8.out) hb); have n1_ := Aside0.mk (blk_below (g := gb196) (o := .cells #[.int .i64 t193, .int .i64 t194, .int .i64 t195] 43 (0, 0)) (by (with_reducible repeat (first | refine blk_drewN ?_ _ | refine blk_drew ?_ | refine blk_alloc ?_ _)); exact BK196.out) hb); have n2_ := Aside0.mk (blk_below (g := gb213) (o := .cells #[.int .i64 x214000_5, .int .i64 x214001_5, .int .i64 x214002_5] 43 (0, 0)) (by (with_reducible repeat (first | refine blk_drewN ?_ _ | refine blk_drew ?_ | refine blk_alloc ?_ _)); exact BK213.out) hb); have n3_ := Aside0.mk (below_step (by repeat (first | (with_reducible first | exact HB.out | apply below_alloc | apply pw_below_drewN | apply below_drew1 | refine below_set ?_ GE196.out | refine below_set ?_ GE213.out) | exact HB.out)) hb); clear HO_8; clear BK196; clear BK213; clear HB; have HO_8 := n0_; have BK196 := n1_; have BK213 := n2_; have HB := n3_; clear n0_ n1_ n2_ n3_; (try clear hb); (try clear hb2); (try clear hk); (try clear hi); have hcz64_0 : w63.cell? ⟨gb213, 0, none⟩ = some (.int .i64 x214000_5) := (blk_cell BK213.out 0).trans rfl; have hcz64_1 : w63.cell? ⟨gb213, 1, none⟩ = some (.int .i64 x214001_5) := (blk_cell BK213.out 1).trans rfl; have hcz64_2 : w63.cell? ⟨gb213, 2, none⟩ = some (.int .i64 x214002_5) := (blk_cell BK213.out 2).trans rfl; have hfz64_0 := blk_frozen BK213.out 0; have hfz64_1 := blk_frozen BK213.out 1; have hfz64_2 := blk_frozen BK213.out 2; have p217 : 0 ≤ (x11_5 : Int) := of_decide_eq_true (by first | (with_reducible assumption) | assumption); have q217 : x11_5 < (t200.length : Int) := of_decide_eq_true (by first | (with_reducible assumption) | assumption); obtain ⟨ad217, e217, hx217_0⟩ := Kd.at_int (Kd.R_reads' HO_8.out).2.2 x11_5 p217 q217; cases e217; have hn217_0 : ad217.block ≠ gb213 := Kd.own_blk (Kd.R_ne HO_8.out BK213.out (by decide)); have hn217_1 : ad217.block ≠ gb213 := Kd.own_blk (Kd.R_ne HO_8.out BK213.out (by decide)); have hn217_2 : ad217.block ≠ gb213 := Kd.own_blk (Kd.R_ne HO_8.out BK213.out (by decide)); replace hx217_0 := (cell_far (p := ⟨gb213, 0, none⟩) (by first | (rw [add_block]; exact hn217_0) | (show (Addr.add _ _).block ≠ _; rw [add_block]; exact hn217_0) | exact hn217_0) (.int .i64 t214)).trans hx217_0; replace hx217_0 := (cell_far (p := ⟨gb213, 1, none⟩) (by first | (rw [add_block]; exact hn217_1) | (show (Addr.add _ _).block ≠ _; rw [add_block]; exact hn217_1) | exact hn217_1) (.int .i64 t215)).trans hx217_0; replace hx217_0 := (cell_far (p := ⟨gb213, 2, none⟩) (by first | (rw [add_block]; exact hn217_2) | (show (Addr.add _ _).block ≠ _; rw [add_block]; exact hn217_2) | exact hn217_2) (.int .i64 t216)).trans hx217_0; (try have hy217_0 := fun (n_ : Nat) => (show (((((w63.drewN n_).setCell ⟨gb213, 0, none⟩ (.int .i64 t214)).setCell ⟨gb213, 1, none⟩ (.int .i64 t215)).setCell ⟨gb213, 2, none⟩ (.int .i64 t216))).cell? _ = some _ from hx217_0)); clear hn217_0; clear hn217_1; clear hn217_2; replace p217 := eq_true p217; replace q217 := eq_true q217)); try go_wp2_with (first | (go_at_call 32; (with_reducible refine (impl_GetNum.calls k5 t209 x214001_5 t214 t215 t216 _ A57.out).mono ?_); rintro e w63 ⟨rfl, hb⟩; have n0_ := Aside0.mk (Kd.R_below (by (with_reducible repeat (first | apply Kd.R_alloc | apply Kd.R_drewN | apply Kd.R_drew)); exact HO_8.out) hb); have n1_ := Aside0.mk (blk_below (g := gb196) (o := .cells #[.int .i64 t193, .int .i64 t194, .int .i64 t195] 43 (0, 0)) (by (with_reducible repeat (first | refine blk_drewN ?_ _ | refine blk_drew ?_ | refine blk_alloc ?_ _)); exact BK196.out) hb); have n2_ := Aside0.mk (blk_below (g := gb213) (o := .cells #[.int .i64 x214000_5, .int .i64 x214001_5, .int .i64 x214002_5] 43 (0, 0)) (by (with_reducible repeat (first | refine blk_drewN ?_ _ | refine blk_drew ?_ | refine blk_alloc ?_ _)); exact BK213.out) hb); have n3_ := Aside0.mk (below_step (by repeat (first | (with_reducible first | exact HB.out | apply below_alloc | apply pw_below_drewN | apply below_drew1 | refine below_set ?_ GE196.out | refine below_set ?_ GE213.out) | exact HB.out)) hb); clear HO_8; clear BK196; clear BK213; clear HB; have HO_8 := n0_; have BK196 := n1_; have BK213 := n2_; have HB := n3_; clear n0_ n1_ n2_ n3_; (try clear hb); (try clear hb2); (try clear hk); (try clear hi); have hcz64_0 : w63.cell? ⟨gb213, 0, none⟩ = some (.int .i64 x214000_5) := (blk_cell BK213.out 0).trans rfl; have hcz64_1 : w63.cell? ⟨gb213, 1, none⟩ = some (.int .i64 x214001_5) := (blk_cell BK213.out 1).trans rfl; have hcz64_2 : w63.cell? ⟨gb213, 2, none⟩ = some (.int .i64 x214002_5) := (blk_cell BK213.out 2).trans rfl; have hfz64_0 := blk_frozen BK213.out 0; have hfz64_1 := blk_frozen BK213.out 1; have hfz64_2 := blk_frozen BK213.out 2; have p217 : 0 ≤ (x11_5 : Int) := of_decide_eq_true (by first | (with_reducible assumption) | assumption); have q217 : x11_5 < (t200.length : Int) := of_decide_eq_true (by first | (with_reducible assumption) | assumption); obtain ⟨ad217, e217, hx217_0⟩ := Kd.at_int (Kd.R_reads' HO_8.out).2.2 x11_5 p217 q217; cases e217; have hn217_0 : ad217.block ≠ gb213 := Kd.own_blk (Kd.R_ne HO_8.out BK213.out (by decide)); have hn217_1 : ad217.block ≠ gb213 := Kd.own_blk (Kd.R_ne HO_8.out BK213.out (by decide)); have hn217_2 : ad217.block ≠ gb213 := Kd.own_blk (Kd.R_ne HO_8.out BK213.out (by decide)); replace hx217_0 := (cell_far (p := ⟨gb213, 0, none⟩) (by first | (rw [add_block]; exact hn217_0) | (show (Addr.add _ _).block ≠ _; rw [add_block]; exact hn217_0) | exact hn217_0) (.int .i64 t214)).trans hx217_0; replace hx217_0 := (cell_far (p := ⟨gb213, 1, none⟩) (by first | (rw [add_block]; exact hn217_1) | (show (Addr.add _ _).block ≠ _; rw [add_block]; exact hn217_1) | exact hn217_1) (.int .i64 t215)).trans hx217_0; replace hx217_0 := (cell_far (p := ⟨gb213, 2, none⟩) (by first | (rw [add_block]; exact hn217_2) | (show (Addr.add _ _).block ≠ _; rw [add_block]; exact hn217_2) | exact hn217_2) (.int .i64 t216)).trans hx217_0; (try have hy217_0 := fun (n_ : Nat) => (show (((((w63.drewN n_).setCell ⟨gb213, 0, none⟩ (.int .i64 t214)).setCell ⟨gb213, 1, none⟩ (.int .i64 t215)).setCell ⟨gb213, 2, none⟩ (.int .i64 t216))).cell? _ = some _ from hx217_0)); clear hn217_0; clear hn217_1; clear hn217_2; replace p217 := eq_true p217; replace q217 := eq_true q217)))
                      go_roundg k5
                      case measure => have := HJ2.out; have := HJ7.out; have := HJ20.out; have := HJ37.out; have := HK5.out; omega
                      case rel => exact ⟨(wrap64 (x11_5 + 1)), (t214), (t215), (t216), (by first | rfl | (simp; done) | (simp [*]; done)), H', ⟨by have := HJ2.out; have := HJ7.out; have := HJ20.out; have := HJ37.out; have := HK5.out; omega⟩, ⟨by (with_reducible repeat (first | apply Kd.R_alloc | apply Kd.R_drewN | apply Kd.R_drew)); exact Kd.R_mono (Kd.R_far (p := ⟨gb213, 2, none⟩) (Kd.R_far (p := ⟨gb213, 1, none⟩) (Kd.R_far (p := ⟨gb213, 0, none⟩) (Kd.R_types HO_8.out BK213.out (by decide)) (fun _ hk => hk.2) (.int .i64 t214)) (fun _ hk => hk.2) (.int .i64 t215)) (fun _ hk => hk.2) (.int .i64 t216)) (fun _ hk => trivial)⟩, ⟨by (with_reducible repeat (first | refine blk_drewN ?_ _ | refine blk_drew ?_ | refine blk_alloc ?_ _)); refine blk_far ?_ NB196_213.out _; (with_reducible repeat (first | refine blk_drewN ?_ _ | refine blk_drew ?_ | refine blk_alloc ?_ _)); refine blk_far ?_ NB196_213.out _; (with_reducible repeat (first | refine blk_drewN ?_ _ | refine blk_drew ?_ | refine blk_alloc ?_ _)); refine blk_far ?_ NB196_213.out _; (with_reducible repeat (first | refine blk_drewN ?_ _ | refine blk_drew ?_ | refine blk_alloc ?_ _)); exact BK196.out⟩, ⟨by (with_reducible repeat (first | refine blk_drewN ?_ _ | refine blk_drew ?_ | refine blk_alloc ?_ _)); refine blk_put (cs := #[.int .i64 t214, .int .i64 t215, .int .i64 x214002_5]) ?_ 2 _ rfl; (with_reducible repeat (first | refine blk_drewN ?_ _ | refine blk_drew ?_ | refine blk_alloc ?_ _)); refine blk_put (cs := #[.int .i64 t214, .int .i64 x214001_5, .int .i64 x214002_5]) ?_ 1 _ rfl; (with_reducible repeat (first | refine blk_drewN ?_ _ | refine blk_drew ?_ | refine blk_alloc ?_ _)); refine blk_put (cs := #[.int .i64 x214000_5, .int .i64 x214001_5, .int .i64 x214002_5]) ?_ 0 _ rfl; (with_reducible repeat (first | refine blk_drewN ?_ _ | refine blk_drew ?_ | refine blk_alloc ?_ _)); exact BK213.out⟩, ⟨by repeat (first | (with_reducible first | exact HB.out | apply below_alloc | apply pw_below_drewN | apply below_drew1 | refine below_set ?_ GE196.out | refine below_set ?_ GE213.out) | exact HB.out)⟩⟩
                     ·rw [if_neg c60] at H
                      have c60b0 : (t214 == (rd t200 x11_5)) = false := beq_eq_false_iff_ne.mpr c60
                      have c60b1 : (t214 != (rd t200 x11_5)) = true := bne_iff_ne.mpr c60
                      obtain rfl := Option.some.inj H
                      have hnb65 := NB213_196.out
                      have hnc65 := NB196_213.out
                      have hcz66_0 : wr.cell? ⟨gb213, 0, none⟩ = some (.int .i64 x214000_5) := (blk_cell BK213.out 0).trans rfl
                      have hcz66_1 : wr.cell? ⟨gb213, 1, none⟩ = some (.int .i64 x214001_5) := (blk_cell BK213.out 1).trans rfl
                      have hcz66_2 : wr.cell? ⟨gb213, 2, none⟩ = some (.int .i64 x214002_5) := (blk_cell BK213.out 2).trans rfl
                      have hfz66_0 := blk_frozen BK213.out 0
                      have hfz66_1 := blk_frozen BK213.out 1
                      have hfz66_2 := blk_frozen BK213.out 2
                      go_wp2_with (first | (go_at_call 32; (with_reducible refine (impl_GetNum.calls k5 t209 x214001_5 t214 t215 t216 _ A57.out).mono ?_); rintro e w67 ⟨rfl, hb⟩; have n0_ := Aside0.mk (Kd.R_below (by (with_reducible repeat (first | apply Kd.R_alloc | apply Kd.R_drewN | apply Kd.R_drew)); exact HO_8.out) hb); have n1_ := Aside0.mk (blk_below (g := gb196) (o := .cells #[.int .i64 t193, .int .i64 t194, .int .i64 t195] 43 (0, 0)) (by (with_reducible repeat (first | refine blk_drewN ?_ _ | refine blk_drew ?_ | refine blk_alloc ?_ _)); exact BK196.out) hb); have n2_ := Aside0.mk (blk_below (g := gb213) (o := .cells #[.int .i64 x214000_5, .int .i64 x214001_5, .int .i64 x214002_5] 43 (0, 0)) (by (with_reducible repeat (first | refine blk_drewN ?_ _ | refine blk_drew ?_ | refine blk_alloc ?_ _)); exact BK213.out) hb); have n3_ := Aside0.mk (below_step (by repeat (first | (with_reducible first | exact HB.out | apply below_alloc | apply pw_below_drewN | apply below_drew1 | refine below_set ?_ GE196.out | refine below_set ?_ GE213.out) | exact HB.out)) hb); clear HO_8; clear BK196; clear BK213; clear HB; have HO_8 := n0_; have BK196 := n1_; have BK213 := n2_; have HB := n3_; clear n0_ n1_ n2_ n3_; (try clear hb); (try clear hb2); (try clear hk); (try clear hi); have hcz68_0 : w67.cell? ⟨gb213, 0, none⟩ = some (.int .i64 x214000_5) := (blk_cell BK213.out 0).trans rfl; have hcz68_1 : w67.cell? ⟨gb213, 1, none⟩ = some (.int .i64 x214001_5) := (blk_cell BK213.out 1).trans rfl; have hcz68_2 : w67.cell? ⟨gb213, 2, none⟩ = some (.int .i64 x214002_5) := (blk_cell BK213.out 2).trans rfl; have hfz68_0 := blk_frozen BK213.out 0; have hfz68_1 := blk_frozen BK213.out 1; have hfz68_2 := blk_frozen BK213.out 2; have p217 : 0 ≤ (x11_5 : Int) := of_decide_eq_true (by first | (with_reducible assumption) | assumption); have q217 : x11_5 < (t200.length : Int) := of_decide_eq_true (by first | (with_reducible assumption) | assumption); obtain ⟨ad217, e217, hx217_0⟩ := Kd.at_int (Kd.R_reads' HO_8.out).2.2 x11_5 p217 q217; cases e217; have hn217_0 : ad217.block ≠ gb213 := Kd.own_blk (Kd.R_ne HO_8.out BK213.out (by decide)); have hn217_1 : ad217.block ≠ gb213 := Kd.own_blk (Kd.R_ne HO_8.out BK213.out (by decide)); have hn217_2 : ad217.block ≠ gb213 := Kd.own_blk (Kd.R_ne HO_8.out BK213.out (by decide)); replace hx217_0 := (cell_far (p := ⟨gb213, 0, none⟩) (by first | (rw [add_block]; exact hn217_0) | (show (Addr.add _ _).block ≠ _; rw [add_block]; exact hn217_0) | exact hn217_0) (.int .i64 t214)).trans hx217_0; replace hx217_0 := (cell_far (p := ⟨gb213, 1, none⟩) (by first | (rw [add_block]; exact hn217_1) | (show (Addr.add _ _).block ≠ _; rw [add_block]; exact hn217_1) | exact hn217_1) (.int .i64 t215)).trans hx217_0; replace hx217_0 := (cell_far (p := ⟨gb213, 2, none⟩) (by first | (rw [add_block]; exact hn217_2) | (show (Addr.add _ _).block ≠ _; rw [add_block]; exact hn217_2) | exact hn217_2) (.int .i64 t216)).trans hx217_0; (try have hy217_0 := fun (n_ : Nat) => (show (((((w67.drewN n_).setCell ⟨gb213, 0, none⟩ (.int .i64 t214)).setCell ⟨gb213, 1, none⟩ (.int .i64 t215)).setCell ⟨gb213, 2, none⟩ (.int .i64 t216))).cell? _ = some _ from hx217_0)); clear hn217_0; clear hn217_1; clear hn217_2; replace p217 := eq_true p217; replace q217 := eq_true q217))
                      repeat (go_quiet (first | (go_at_call 32; (with_reducible refine (impl_GetNum.calls k5 t209 x214001_5 t214 t215 t216 _ A57.out).mono ?_); rintro e w67 ⟨rfl, hb⟩; have n0_ := Aside0.mk (Kd.R_below (by (with_reducible repeat (first | apply Kd.R_alloc | apply Kd.R_drewN | apply Kd.R_drew)); exact HO_8.out) hb); have n1_ := Aside0.mk (blk_below (g := gb196) (o := .cells #[.int .i64 t193, .int .i64 t194, .int .i64 t195] 43 (0, 0)) (by (with_reducible repeat (first | refine blk_drewN ?_ _ | refine blk_drew ?_ | refine blk_alloc ?_ _)); exact BK196.out) hb); have n2_ := Aside0.mk (blk_below (g := gb213) (o := .cells #[.int .i64 x214000_5, .int .i64 x214001_5, .int .i64 x214002_5] 43 (0, 0)) (by (with_reducible repeat (first | refine blk_drewN ?_ _ | refine blk_drew ?_ | refine blk_alloc ?_ _)); exact BK213.out) hb); have n3_ := Aside0.mk (below_step (by repeat (first | (with_reducible first | exact HB.out | apply below_alloc | apply pw_below_drewN | apply below_drew1 | refine below_set ?_ GE196.out | refine below_set ?_ GE213.out) | exact HB.out)) hb); clear HO_8; clear BK196; clear BK213; clear HB; have HO_8 := n0_; have BK196 := n1_; have BK213 := n2_; have HB := n3_; clear n0_ n1_ n2_ n3_; (try clear hb); (try clear hb2); (try clear hk); (try clear hi); have hcz68_0 : w67.cell? ⟨gb213, 0, none⟩ = some (.int .i64 x214000_5) := (blk_cell BK213.out 0).trans rfl; have hcz68_1 : w67.cell? ⟨gb213, 1, none⟩ = some (.int .i64 x214001_5) := (blk_cell BK213.out 1).trans rfl; have hcz68_2 : w67.cell? ⟨gb213, 2, none⟩ = some (.int .i64 x214002_5) := (blk_cell BK213.out 2).trans rfl; have hfz68_0 := blk_frozen BK213.out 0; have hfz68_1 := blk_frozen BK213.out 1; have hfz68_2 := blk_frozen BK213.out 2; have p217 : 0 ≤ (x11_5 : Int) := of_decide_eq_true (by first | (with_reducible assumption) | assumption); have q217 : x11_5 < (t200.length : Int) := of_decide_eq_true (by first | (with_reducible assumption) | assumption); obtain ⟨ad217, e217, hx217_0⟩ := Kd.at_int (Kd.R_reads' HO_8.out).2.2 x11_5 p217 q217; cases e217; have hn217_0 : ad217.block ≠ gb213 := Kd.own_blk (Kd.R_ne HO_8.out BK213.out (by decide)); have hn217_1 : ad217.block ≠ gb213 := Kd.own_blk (Kd.R_ne HO_8.out BK213.out (by decide)); have hn217_2 : ad217.block ≠ gb213 := Kd.own_blk (Kd.R_ne HO_8.out BK213.out (by decide)); replace hx217_0 := (cell_far (p := ⟨gb213, 0, none⟩) (by first | (rw [add_block]; exact hn217_0) | (show (Addr.add _ _).block ≠ _; rw [add_block]; exact hn217_0) | exact hn217_0) (.int .i64 t214)).trans hx217_0; replace hx217_0 := (cell_far (p := ⟨gb213, 1, none⟩) (by first | (rw [add_block]; exact hn217_1) | (show (Addr.add _ _).block ≠ _; rw [add_block]; exact hn217_1) | exact hn217_1) (.int .i64 t215)).trans hx217_0; replace hx217_0 := (cell_far (p := ⟨gb213, 2, none⟩) (by first | (rw [add_block]; exact hn217_2) | (show (Addr.add _ _).block ≠ _; rw [add_block]; exact hn217_2) | exact hn217_2) (.int .i64 t216)).trans hx217_0; (try have hy217_0 := fun (n_ : Nat) => (show (((((w67.drewN n_).setCell ⟨gb213, 0, none⟩ (.int .i64 t214)).setCell ⟨gb213, 1, none⟩ (.int .i64 t215)).setCell ⟨gb213, 2, none⟩ (.int .i64 t216))).cell? _ = some _ from hx217_0)); clear hn217_0; clear hn217_1; clear hn217_2; replace p217 := eq_true p217; replace q217 := eq_true q217)); try go_wp2_with (first | (go_at_call 32; (with_reducible refine (impl_GetNum.calls k5 t209 x214001_5 t214 t215 t216 _ A57.out).mono ?_); rintro e w67 ⟨rfl, hb⟩; have n0_ := Aside0.mk (Kd.R_below (by (with_reducible repeat (first | apply Kd.R_alloc | apply Kd.R_drewN | apply Kd.R_drew)); exact HO_8.out) hb); have n1_ := Aside0.mk (blk_below (g := gb196) (o := .cells #[.int .i64 t193, .int .i64 t194, .int .i64 t195] 43 (0, 0)) (by (with_reducible repeat (first | refine blk_drewN ?_ _ | refine blk_drew ?_ | refine blk_alloc ?_ _)); exact BK196.out) hb); have n2_ := Aside0.mk (blk_below (g := gb213) (o := .cells #[.int .i64 x214000_5, .int .i64 x214001_5, .int .i64 x214002_5] 43 (0, 0)) (by (with_reducible repeat (first | refine blk_drewN ?_ _ | refine blk_drew ?_ | refine blk_alloc ?_ _)); exact BK213.out) hb); have n3_ := Aside0.mk (below_step (by repeat (first | (with_reducible first | exact HB.out | apply below_alloc | apply pw_below_drewN | apply below_drew1 | refine below_set ?_ GE196.out | refine below_set ?_ GE213.out) | exact HB.out)) hb); clear HO_8; clear BK196; clear BK213; clear HB; have HO_8 := n0_; have BK196 := n1_; have BK213 := n2_; have HB := n3_; clear n0_ n1_ n2_ n3_; (try clear hb); (try clear hb2); (try clear hk); (try clear hi); have hcz68_0 : w67.cell? ⟨gb213, 0, none⟩ = some (.int .i64 x214000_5) := (blk_cell BK213.out 0).trans rfl; have hcz68_1 : w67.cell? ⟨gb213, 1, none⟩ = some (.int .i64 x214001_5) := (blk_cell BK213.out 1).trans rfl; have hcz68_2 : w67.cell? ⟨gb213, 2, none⟩ = some (.int .i64 x214002_5) := (blk_cell BK213.out 2).trans rfl; have hfz68_0 := blk_frozen BK213.out 0; have hfz68_1 := blk_frozen BK213.out 1; have hfz68_2 := blk_frozen BK213.out 2; have p217 : 0 ≤ (x11_5 : Int) := of_decide_eq_true (by first | (with_reducible assumption) | assumption); have q217 : x11_5 < (t200.length : Int) := of_decide_eq_true (by first | (with_reducible assumption) | assumption); obtain ⟨ad217, e217, hx217_0⟩ := Kd.at_int (Kd.R_reads' HO_8.out).2.2 x11_5 p217 q217; cases e217; have hn217_0 : ad217.block ≠ gb213 := Kd.own_blk (Kd.R_ne HO_8.out BK213.out (by decide)); have hn217_1 : ad217.block ≠ gb213 := Kd.own_blk (Kd.R_ne HO_8.out BK213.out (by decide)); have hn217_2 : ad217.block ≠ gb213 := Kd.own_blk (Kd.R_ne HO_8.out BK213.out (by decide)); replace hx217_0 := (cell_far (p := ⟨gb213, 0, none⟩) (by first | (rw [add_block]; exact hn217_0) | (show (Addr.add _ _).block ≠ _; rw [add_block]; exact hn217_0) | exact hn217_0) (.int .i64 t214)).trans hx217_0; replace hx217_0 := (cell_far (p := ⟨gb213, 1, none⟩) (by first | (rw [add_block]; exact hn217_1) | (show (Addr.add _ _).block ≠ _; rw [add_block]; exact hn217_1) | exact hn217_1) (.int .i64 t215)).trans hx217_0; replace hx217_0 := (cell_far (p := ⟨gb213, 2, none⟩) (by first | (rw [add_block]; exact hn217_2) | (show (Addr.add _ _).block ≠ _; rw [add_block]; exact hn217_2) | exact hn217_2) (.int .i64 t216)).trans hx217_0; (try have hy217_0 := fun (n_ : Nat) => (show (((((w67.drewN n_).setCell ⟨gb213, 0, none⟩ (.int .i64 t214)).setCell ⟨gb213, 1, none⟩ (.int .i64 t215)).setCell ⟨gb213, 2, none⟩ (.int .i64 t216))).cell? _ = some _ from hx217_0)); clear hn217_0; clear hn217_1; clear hn217_2; replace p217 := eq_true p217; replace q217 := eq_true q217)))
                      go_ret
                      exact ⟨by first | rfl | (simp [errW_none, errW_some] <;> rfl) | (simp [*, errW_none, errW_some] <;> rfl), by repeat (first | (with_reducible first | exact HB.out | apply below_alloc | apply pw_below_drewN | apply below_drew1 | refine below_set ?_ GE196.out | refine below_set ?_ GE213.out) | exact HB.out)⟩
                    ·rw [if_neg c59] at H
                     exact absurd H (by simp)
                   ·rw [if_neg c58] at H
                    have c58b0 : (t216 == 0) = false := beq_eq_false_iff_ne.mpr c58
                    have c58b1 : (t216 != 0) = true := bne_iff_ne.mpr c58
                    obtain rfl := Option.some.inj H
                    have hnb69 := NB213_196.out
                    have hnc69 := NB196_213.out
                    have hcz70_0 : wr.cell? ⟨gb213, 0, none⟩ = some (.int .i64 x214000_5) := (blk_cell BK213.out 0).trans rfl
                    have hcz70_1 : wr.cell? ⟨gb213, 1, none⟩ = some (.int .i64 x214001_5) := (blk_cell BK213.out 1).trans rfl
                    have hcz70_2 : wr.cell? ⟨gb213, 2, none⟩ = some (.int .i64 x214002_5) := (blk_cell BK213.out 2).trans rfl
                    have hfz70_0 := blk_frozen BK213.out 0
                    have hfz70_1 := blk_frozen BK213.out 1
                    have hfz70_2 := blk_frozen BK213.out 2
                    go_wp2_with (first | (go_at_call 32; (with_reducible refine (impl_GetNum.calls k5 t209 x214001_5 t214 t215 t216 _ A57.out).mono ?_); rintro e w71 ⟨rfl, hb⟩; have n0_ := Aside0.mk (Kd.R_below (by (with_reducible repeat (first | apply Kd.R_alloc | apply Kd.R_drewN | apply Kd.R_drew)); exact HO_8.out) hb); have n1_ := Aside0.mk (blk_below (g := gb196) (o := .cells #[.int .i64 t193, .int .i64 t194, .int .i64 t195] 43 (0, 0)) (by (with_reducible repeat (first | refine blk_drewN ?_ _ | refine blk_drew ?_ | refine blk_alloc ?_ _)); exact BK196.out) hb); have n2_ := Aside0.mk (blk_below (g := gb213) (o := .cells #[.int .i64 x214000_5, .int .i64 x214001_5, .int .i64 x214002_5] 43 (0, 0)) (by (with_reducible repeat (first | refine blk_drewN ?_ _ | refine blk_drew ?_ | refine blk_alloc ?_ _)); exact BK213.out) hb); have n3_ := Aside0.mk (below_step (by repeat (first | (with_reducible first | exact HB.out | apply below_alloc | apply pw_below_drewN | apply below_drew1 | refine below_set ?_ GE196.out | refine below_set ?_ GE213.out) | exact HB.out)) hb); clear HO_8; clear BK196; clear BK213; clear HB; have HO_8 := n0_; have BK196 := n1_; have BK213 := n2_; have HB := n3_; clear n0_ n1_ n2_ n3_; (try clear hb); (try clear hb2); (try clear hk); (try clear hi); have hcz72_0 : w71.cell? ⟨gb213, 0, none⟩ = some (.int .i64 x214000_5) := (blk_cell BK213.out 0).trans rfl; have hcz72_1 : w71.cell? ⟨gb213, 1, none⟩ = some (.int .i64 x214001_5) := (blk_cell BK213.out 1).trans rfl; have hcz72_2 : w71.cell? ⟨gb213, 2, none⟩ = some (.int .i64 x214002_5) := (blk_cell BK213.out 2).trans rfl; have hfz72_0 := blk_frozen BK213.out 0; have hfz72_1 := blk_frozen BK213.out 1; have hfz72_2 := blk_frozen BK213.out 2))
                    repeat (go_quiet (first | (go_at_call 32; (with_reducible refine (impl_GetNum.calls k5 t209 x214001_5 t214 t215 t216 _ A57.out).mono ?_); rintro e w71 ⟨rfl, hb⟩; have n0_ := Aside0.mk (Kd.R_below (by (with_reducible repeat (first | apply Kd.R_alloc | apply Kd.R_drewN | apply Kd.R_drew)); exact HO_8.out) hb); have n1_ := Aside0.mk (blk_below (g := gb196) (o := .cells #[.int .i64 t193, .int .i64 t194, .int .i64 t195] 43 (0, 0)) (by (with_reducible repeat (first | refine blk_drewN ?_ _ | refine blk_drew ?_ | refine blk_alloc ?_ _)); exact BK196.out) hb); have n2_ := Aside0.mk (blk_below (g := gb213) (o := .cells #[.int .i64 x214000_5, .int .i64 x214001_5, .int .i64 x214002_5] 43 (0, 0)) (by (with_reducible repeat (first | refine blk_drewN ?_ _ | refine blk_drew ?_ | refine blk_alloc ?_ _)); exact BK213.out) hb); have n3_ := Aside0.mk (below_step (by repeat (first | (with_reducible first | exact HB.out | apply below_alloc | apply pw_below_drewN | apply below_drew1 | refine below_set ?_ GE196.out | refine below_set ?_ GE213.out) | exact HB.out)) hb); clear HO_8; clear BK196; clear BK213; clear HB; have HO_8 := n0_; have BK196 := n1_; have BK213 := n2_; have HB := n3_; clear n0_ n1_ n2_ n3_; (try clear hb); (try clear hb2); (try clear hk); (try clear hi); have hcz72_0 : w71.cell? ⟨gb213, 0, none⟩ = some (.int .i64 x214000_5) := (blk_cell BK213.out 0).trans rfl; have hcz72_1 : w71.cell? ⟨gb213, 1, none⟩ = some (.int .i64 x214001_5) := (blk_cell BK213.out 1).trans rfl; have hcz72_2 : w71.cell? ⟨gb213, 2, none⟩ = some (.int .i64 x214002_5) := (blk_cell BK213.out 2).trans rfl; have hfz72_0 := blk_frozen BK213.out 0; have hfz72_1 := blk_frozen BK213.out 1; have hfz72_2 := blk_frozen BK213.out 2)); try go_wp2_with (first | (go_at_call 32; (with_reducible refine (impl_GetNum.calls k5 t209 x214001_5 t214 t215 t216 _ A57.out).mono ?_); rintro e w71 ⟨rfl, hb⟩; have n0_ := Aside0.mk (Kd.R_below (by (with_reducible repeat (first | apply Kd.R_alloc | apply Kd.R_drewN | apply Kd.R_drew)); exact HO_8.out) hb); have n1_ := Aside0.mk (blk_below (g := gb196) (o := .cells #[.int .i64 t193, .int .i64 t194, .int .i64 t195] 43 (0, 0)) (by (with_reducible repeat (first | refine blk_drewN ?_ _ | refine blk_drew ?_ | refine blk_alloc ?_ _)); exact BK196.out) hb); have n2_ := Aside0.mk (blk_below (g := gb213) (o := .cells #[.int .i64 x214000_5, .int .i64 x214001_5, .int .i64 x214002_5] 43 (0, 0)) (by (with_reducible repeat (first | refine blk_drewN ?_ _ | refine blk_drew ?_ | refine blk_alloc ?_ _)); exact BK213.out) hb); have n3_ := Aside0.mk (below_step (by repeat (first | (with_reducible first | exact HB.out | apply below_alloc | apply pw_below_drewN | apply below_drew1 | refine below_set ?_ GE196.out | refine below_set ?_ GE213.out) | exact HB.out)) hb); clear HO_8; clear BK196; clear BK213; clear HB; have HO_8 := n0_; have BK196 := n1_; have BK213 := n2_; have HB := n3_; clear n0_ n1_ n2_ n3_; (try clear hb); (try clear hb2); (try clear hk); (try clear hi); have hcz72_0 : w71.cell? ⟨gb213, 0, none⟩ = some (.int .i64 x214000_5) := (blk_cell BK213.out 0).trans rfl; have hcz72_1 : w71.cell? ⟨gb213, 1, none⟩ = some (.int .i64 x214001_5) := (blk_cell BK213.out 1).trans rfl; have hcz72_2 : w71.cell? ⟨gb213, 2, none⟩ = some (.int .i64 x214002_5) := (blk_cell BK213.out 2).trans rfl; have hfz72_0 := blk_frozen BK213.out 0; have hfz72_1 := blk_frozen BK213.out 1; have hfz72_2 := blk_frozen BK213.out 2)))
                    go_ret
                    exact ⟨by first | rfl | (simp [errW_none, errW_some] <;> rfl) | (simp [*, errW_none, errW_some] <;> rfl), by repeat (first | (with_reducible first | exact HB.out | apply below_alloc | apply pw_below_drewN | apply below_drew1 | refine below_set ?_ GE196.out | refine below_set ?_ GE213.out) | exact HB.out)⟩
                  ·rw [if_neg c56] at H
                   have c56b0 : decide (x11_5 < (t200.length : Int)) = false := decide_eq_false c56
                   clear c56
                   obtain rfl := Option.some.inj H
                   have hnb73 := NB213_196.out
                   have hnc73 := NB196_213.out
                   have hcz74_0 : wr.cell? ⟨gb213, 0, none⟩ = some (.int .i64 x214000_5) := (blk_cell BK213.out 0).trans rfl
                   have hcz74_1 : wr.cell? ⟨gb213, 1, none⟩ = some (.int .i64 x214001_5) := (blk_cell BK213.out 1).trans rfl
                   have hcz74_2 : wr.cell? ⟨gb213, 2, none⟩ = some (.int .i64 x214002_5) := (blk_cell BK213.out 2).trans rfl
                   have hfz74_0 := blk_frozen BK213.out 0
                   have hfz74_1 := blk_frozen BK213.out 1
                   have hfz74_2 := blk_frozen BK213.out 2
                   go_wp2
                   repeat (go_quiet (fail); try go_wp2)
                   go_ret
                   exact ⟨by first | rfl | (simp [errW_none, errW_some] <;> rfl) | (simp [*, errW_none, errW_some] <;> rfl), by repeat (first | (with_reducible first | exact HB.out | apply below_alloc | apply pw_below_drewN | apply below_drew1 | refine below_set ?_ GE196.out | refine below_set ?_ GE213.out) | exact HB.out)⟩
            ·rw [if_neg c35] at H
             exact absurd H (by simp)
        ·rw [if_neg c19] at H
         exact absurd H (by simp)
       ·rw [if_neg c18] at H
        exact absurd H (by simp)

/-- THE ONE PURE STATEMENT of laws_FnNums: yours. -/
def laws_FnNums.Pure : Prop := ∀ (l0 : List Int) (l1 : List Int), l0.length ≤ maxLen → l0.length * 1 ≤ 140737488351232 → (∀ x ∈ l0, (Lit.int .u8 x).wf = true) → l1.length ≤ maxLen → l1.length * 1 ≤ 140737488351232 → (∀ x ∈ l1, (Lit.int .u8 x).wf = true) → ∃ k, laws_FnNums.f k l0 l1 = some true
theorem laws_FnNums.walk (P : laws_FnNums.Pure) (a0 : Option Addr) (len0 cap0 : Nat) (z0 : List Int) (a1 : Option Addr) (len1 cap1 : Nat) (z1 : List Int) (w : World) (w0 : (a0 = none ∧ len0 = 0 ∧ cap0 = 0 ∧ z0 = []) ∨ ∃ x, a0 = some x ∧ len0 ≤ cap0 ∧ cap0 ≤ maxLen ∧ z0.length = cap0 ∧ (∀ i, i < z0.length → w.cell? (x.add i) = some (.int .u8 (z0.getD i 0))) ∧ ∀ n ∈ z0, (Lit.int .u8 n).wf = true) (y0 : len0 * 1 ≤ 140737488351232) (w1 : (a1 = none ∧ len1 = 0 ∧ cap1 = 0 ∧ z1 = []) ∨ ∃ x, a1 = some x ∧ len1 ≤ cap1 ∧ cap1 ≤ maxLen ∧ z1.length = cap1 ∧ (∀ i, i < z1.length → w.cell? (x.add i) = some (.int .u8 (z1.getD i 0))) ∧ ∀ n ∈ z1, (Lit.int .u8 n).wf = true) (y1 : len1 * 1 ≤ 140737488351232) :
  Calls Try.prog 8 #[.slice a0 len0 cap0, .slice a1 len1 cap1] w fun e w' => e = .returned (.bool true) ∧ Below w.heap.size w w' := by
 obtain ⟨l0, rfl, hr0, hm0, hw0, hc0⟩ := ReadsInt.ofRowC w0
 obtain ⟨l1, rfl, hr1, hm1, hw1, hc1⟩ := ReadsInt.ofRowC w1
 obtain ⟨k, h⟩ := P l0 l1 hm0 y0 hw0 hm1 y1 hw1
 refine (laws_FnNums.calls k _ _ l0 _ _ l1 true w (Kd.C_of_reads (d := (0 : Int)) (h1 := fun _ => rfl) hr0) hc0 (Kd.C_of_reads (d := (0 : Int)) (h1 := fun _ => rfl) hr1) hc1 h).mono ?_
 rintro e w' ⟨rfl, hd⟩
 exact ⟨rfl, hd⟩

end Go.Proofs.Ytkmohnlkldkhdaa.QFnNums
