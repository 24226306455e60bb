import Derived.Test.YtmfhmfhkknijeaaCFnExactAsmRightx0
import Derived.Test.YtmfhmfhkknijeaaCFnExactAsmRightx12
import Derived.Test.YtmfhmfhkknijeaaCFnExactAsmRightx13
import Derived.Test.YtmfhmfhkknijeaaCFnExactAsmRightx16
namespace Go.Proofs.Ytmfhmfhkknijeaa.QFnExactAsmRight
open Go.RowKit Go.Proofs.YtmfhmfhkknijeaaW
open PrintWords PrintLast PrintMore PrintShort
attribute [local go_sem] max2_int min2_int max_two min_two max_three min_three max_four min_four   -- for this text's walks alone
set_option linter.unusedVariables false
set_option maxHeartbeats 8000000
set_option maxRecDepth 100000
set_option linter.unusedSimpArgs false

mutual
def impl_prog_insRight.j0 : Nat → Int → Bool → List (S50) → List (List Int) → List (S93) → Int → Int → List (S63) → Int → Option (Bool)
 | 0, _, _, _, _, _, _, _, _, _ => none
 | k + 1, x1, x31, x1000, x1001, x472000, x472001, x472002, x472003, x472004 => if x31 = true then (some false) else (impl_prog_insRight.l0 k x1 x472000 (x472000.length : Int) 0 x1000 x1001 x472000 x472001 x472002 x472003 x472004)
def impl_prog_insRight.l0 : Nat → Int → List (S93) → Int → Int → List (S50) → List (List Int) → List (S93) → Int → Int → List (S63) → Int → Option (Bool)
 | 0, _, _, _, _, _, _, _, _, _, _, _ => none
 | k + 1, x1, x33, x34, x35, x1000, x1001, x472000, x472001, x472002, x472003, x472004 => if x35 < x34 then (if 0 ≤ x35 then (if x35 < (x33.length : Int) then ((impl_isLoc.f ((rd_T93 x33 x35).f0)).bind fun t476 => (if t476 = true then ((impl_Val_some.f ((rd_T93 x33 x35).f1.f0) ((rd_T93 x33 x35).f1.f1)).bind fun t477 => (if t477 = true then (impl_prog_insRight.l0 k x1 x33 x34 (wrap64 (x35 + 1)) x1000 x1001 x472000 x472001 x472002 x472003 x472004) else (some false))) else (some false))) else (none)) else (none)) else (if x472001 = 0 then (if x472002 = (-1) then (if (x472003.length : Int) = 0 then (some (x472004 == 0)) else (some false)) else (some false)) else (if x472001 = 1 then (if (x472002 = (-1)) then (some false) else (if (x472003.length : Int) = 1 then (some (x472004 == 0)) else (some false))) else (if x472001 = 3 then (if x472002 = (-1) then (if (x472003.length : Int) = 1 then (if x472004 = 1 then (some true) else (some (x472004 == 2))) else (some false)) else (some false)) else (if x472001 = 30 then (if x472002 = (-1) then (if (x472003.length : Int) = 0 then ((impl_prog_place.f x1000 x1001 x1 x472004).bind fun t478 => (some t478)) else (some false)) else (some false)) else (if x472001 = 31 then (if x472002 = (-1) then (if (x472003.length : Int) = 1 then ((impl_prog_place.f x1000 x1001 x1 x472004).bind fun t479 => (some t479)) else (some false)) else (some false)) else (if x472001 = 32 then ((impl_hasFunc.f x1000 x472004).bind fun t480 => (if t480 = true then (if 0 ≤ x472004 then (if x472004 < (x1000.length : Int) then (some ((x472003.length : Int) == ((rd_T50 x1000 x472004).f0))) else (none)) else (none)) else (some false))) else (if x472001 = 36 then (impl_prog_insRight.j2 k (x472003.length : Int) (x472002 == (-1)) true x1000 x1001 x472000 x472001 x472002 x472003 x472004) else (if x472001 = 38 then (impl_prog_insRight.j2 k (x472003.length : Int) (x472002 == (-1)) true x1000 x1001 x472000 x472001 x472002 x472003 x472004) else (impl_prog_insRight.j2 k (x472003.length : Int) (x472002 == (-1)) (x472001 == 33) x1000 x1001 x472000 x472001 x472002 x472003 x472004)))))))))
def impl_prog_insRight.j2 : Nat → Int → Bool → Bool → List (S50) → List (List Int) → List (S93) → Int → Int → List (S63) → Int → Option (Bool)
 | 0, _, _, _, _, _, _, _, _, _, _ => none
 | k + 1, x9, x10, x161, x1000, x1001, x472000, x472001, x472002, x472003, x472004 => if x161 = true then (if x10 = true then ((impl_Takes.f k x1000 x472001 0).bind fun t482 => (if x9 = t482 then (some (x472004 == 0)) else (some false))) else (some false)) else ((impl_isArith.f x472001).bind fun t483 => (if t483 = true then (impl_prog_insRight.j3 k x9 true x1000 x1001 x472000 x472001 x472002 x472003 x472004) else (if x472001 = 34 then (impl_prog_insRight.j3 k x9 true x1000 x1001 x472000 x472001 x472002 x472003 x472004) else (if x472001 = 35 then (impl_prog_insRight.j3 k x9 true x1000 x1001 x472000 x472001 x472002 x472003 x472004) else (impl_prog_insRight.j3 k x9 (x472001 == 37) x1000 x1001 x472000 x472001 x472002 x472003 x472004)))))
def impl_prog_insRight.j3 : Nat → Int → Bool → List (S50) → List (List Int) → List (S93) → Int → Int → List (S63) → Int → Option (Bool)
 | 0, _, _, _, _, _, _, _, _, _ => none
 | k + 1, x9, x193, x1000, x1001, x472000, x472001, x472002, x472003, x472004 => if x193 = true then ((impl_Takes.f k x1000 x472001 0).bind fun t484 => (if x9 = t484 then (some (x472004 == 0)) else (some false))) else (some false)
end
def impl_prog_insRight.f (k : Nat) (l0_0 : List (S50)) (l0_1 : List (List Int)) (a1 : Int) (l2_0 : List (S93)) (a2_1 : Int) (a2_2 : Int) (l2_3 : List (S63)) (a2_4 : Int) : Option (Bool) := if (l2_0.length : Int) > 16 then (impl_prog_insRight.j0 k a1 true l0_0 l0_1 l2_0 a2_1 a2_2 l2_3 a2_4) else ((impl_someAll.f k l2_3).bind fun t472 => (if t472 = true then (if a2_2 = (-1) then (impl_prog_insRight.j0 k a1 false l0_0 l0_1 l2_0 a2_1 a2_2 l2_3 a2_4) else ((impl_isLoc.f a2_2).bind fun t473 => (impl_prog_insRight.j0 k a1 (!t473) l0_0 l0_1 l2_0 a2_1 a2_2 l2_3 a2_4))) else (impl_prog_insRight.j0 k a1 true l0_0 l0_1 l2_0 a2_1 a2_2 l2_3 a2_4)))
theorem impl_prog_insRight.mono_l : ∀ k, (∀ y0 y1 y2 y3 y4 y5 y6 y7 y8, LeO (impl_prog_insRight.j0 k y0 y1 y2 y3 y4 y5 y6 y7 y8) (impl_prog_insRight.j0 (k + 1) y0 y1 y2 y3 y4 y5 y6 y7 y8)) ∧ (∀ y0 y1 y2 y3 y4 y5 y6 y7 y8 y9 y10, LeO (impl_prog_insRight.l0 k y0 y1 y2 y3 y4 y5 y6 y7 y8 y9 y10) (impl_prog_insRight.l0 (k + 1) y0 y1 y2 y3 y4 y5 y6 y7 y8 y9 y10)) ∧ (∀ y0 y1 y2 y3 y4 y5 y6 y7 y8 y9, LeO (impl_prog_insRight.j2 k y0 y1 y2 y3 y4 y5 y6 y7 y8 y9) (impl_prog_insRight.j2 (k + 1) y0 y1 y2 y3 y4 y5 y6 y7 y8 y9)) ∧ (∀ y0 y1 y2 y3 y4 y5 y6 y7 y8, LeO (impl_prog_insRight.j3 k y0 y1 y2 y3 y4 y5 y6 y7 y8) (impl_prog_insRight.j3 (k + 1) y0 y1 y2 y3 y4 y5 y6 y7 y8))
 | 0 => ⟨fun _ _ _ _ _ _ _ _ _ r h => by simp [impl_prog_insRight.j0] at h, fun _ _ _ _ _ _ _ _ _ _ _ r h => by simp [impl_prog_insRight.l0] at h, fun _ _ _ _ _ _ _ _ _ _ r h => by simp [impl_prog_insRight.j2] at h, fun _ _ _ _ _ _ _ _ _ r h => by simp [impl_prog_insRight.j3] at h⟩
 | k + 1 => by
  obtain ⟨ih0, ih1, ih2, ih3⟩ := impl_prog_insRight.mono_l k
  refine ⟨?_, ?_, ?_, ?_⟩
  ·intro y0 y1 y2 y3 y4 y5 y6 y7 y8
   unfold impl_prog_insRight.j0
   with_reducible repeat' first | exact ih0 .. | exact ih1 .. | exact ih2 .. | exact ih3 .. | exact impl_Takes.mono .. | exact impl_someAll.mono .. | exact LeO.refl _ | exact LeO.none _ | refine LeO.ite ?_ ?_ | refine LeO.bind ?_ (fun _ => ?_)
  ·intro y0 y1 y2 y3 y4 y5 y6 y7 y8 y9 y10
   unfold impl_prog_insRight.l0
   with_reducible repeat' first | exact ih0 .. | exact ih1 .. | exact ih2 .. | exact ih3 .. | exact impl_Takes.mono .. | exact impl_someAll.mono .. | exact LeO.refl _ | exact LeO.none _ | refine LeO.ite ?_ ?_ | refine LeO.bind ?_ (fun _ => ?_)
  ·intro y0 y1 y2 y3 y4 y5 y6 y7 y8 y9
   unfold impl_prog_insRight.j2
   with_reducible repeat' first | exact ih0 .. | exact ih1 .. | exact ih2 .. | exact ih3 .. | exact impl_Takes.mono .. | exact impl_someAll.mono .. | exact LeO.refl _ | exact LeO.none _ | refine LeO.ite ?_ ?_ | refine LeO.bind ?_ (fun _ => ?_)
  ·intro y0 y1 y2 y3 y4 y5 y6 y7 y8
   unfold impl_prog_insRight.j3
   with_reducible repeat' first | exact ih0 .. | exact ih1 .. | exact ih2 .. | exact ih3 .. | exact impl_Takes.mono .. | exact impl_someAll.mono .. | exact LeO.refl _ | exact LeO.none _ | refine LeO.ite ?_ ?_ | refine LeO.bind ?_ (fun _ => ?_)
theorem impl_prog_insRight.mono : ∀ a0 a1 a2 a3 a4 a5 a6 a7 k, LeO (impl_prog_insRight.f k a0 a1 a2 a3 a4 a5 a6 a7) (impl_prog_insRight.f (k + 1) a0 a1 a2 a3 a4 a5 a6 a7) := by
 intro a0 a1 a2 a3 a4 a5 a6 a7 k
 obtain ⟨ih0, ih1, ih2, ih3⟩ := impl_prog_insRight.mono_l k
 unfold impl_prog_insRight.f
 with_reducible repeat' first | exact ih0 .. | exact ih1 .. | exact ih2 .. | exact ih3 .. | exact impl_Takes.mono .. | exact impl_someAll.mono .. | exact LeO.refl _ | exact LeO.none _ | refine LeO.ite ?_ ?_ | refine LeO.bind ?_ (fun _ => ?_)
def impl_prog_insRight.T22 : Bool × List (List Nat × List Nat) := (true, [([], []), ([0], [0]), ([1], [1]), ([2], [2]), ([], []), ([4], [4]), ([3, 5], [3, 5]), ([6, 6], [6]), ([7], [7]), ([7], [7]), ([9, 7], [7, 9]), ([10, 7], [7, 10]), ([11, 7], [7, 11]), ([12, 7], [7, 12]), ([7], [7]), ([14, 7], [7, 14]), ([13, 15, 7], [7, 13, 15]), ([16, 7], [7, 16]), ([17, 7], [7, 17]), ([8, 18, 7], [7, 8, 18]), ([7, 19], [7, 19]), ([20, 7, 0, 1, 2, 3, 4, 5, 6, 7, 8, 9, 10, 11, 12, 13, 14, 15, 16, 17, 18, 19, 20], [20])])
def impl_prog_insRight.B22 : List Nat := [0, 1, 3, 7, 0, 16, 63, 127, 255, 255, 767, 1791, 3839, 7935, 255, 16639, 65279, 130815, 261887, 524287, 1048575, 2097151]
theorem impl_prog_insRight.tab22 : rtab .any (opsOf Try.f48 22) = impl_prog_insRight.T22 := by kernel_rfl
theorem impl_prog_insRight.bits22 : waitsOk impl_prog_insRight.T22.2 impl_prog_insRight.B22 = true := by kernel_rfl
def impl_prog_insRight.T24 : Bool × List (List Nat × List Nat) := (true, [([], []), ([0], [0]), ([1], [1]), ([1], [1]), ([3, 1], [1, 3]), ([4, 1], [1, 4]), ([5, 1], [1, 5]), ([1], [1]), ([7, 1], [1, 7]), ([8, 1], [1, 8]), ([6, 9, 1, 1], [1, 6, 9]), ([2, 10, 1], [1, 2, 10]), ([1, 11], [1, 11]), ([12, 10], [12]), ([13], [13]), ([14, 13], [13, 14]), ([15, 13], [13, 15]), ([13, 16], [13, 16]), ([17, 13, 0, 1, 2, 3, 4, 5, 6, 7, 8, 9, 10, 11, 12, 13, 14, 15, 16, 17], [17])])
def impl_prog_insRight.B24 : List Nat := [0, 1, 3, 3, 11, 27, 59, 3, 131, 387, 1019, 2047, 4095, 8191, 16383, 32767, 65535, 131071, 262143]
theorem impl_prog_insRight.tab24 : rtab .any (opsOf Try.f48 24) = impl_prog_insRight.T24 := by kernel_rfl
theorem impl_prog_insRight.bits24 : waitsOk impl_prog_insRight.T24.2 impl_prog_insRight.B24 = true := by kernel_rfl
def impl_prog_insRight.T26 : Bool × List (List Nat × List Nat) := (true, [([], []), ([], []), ([1], [1]), ([2], [2]), ([3], [3]), ([], []), ([5], [5]), ([6], [6]), ([4, 7], [4, 7]), ([0, 8], [0, 8]), ([9, 8], [9]), ([10], [10]), ([11, 10], [10, 11]), ([12, 10], [10, 12]), ([10, 13], [10, 13]), ([14, 10, 0, 1, 2, 3, 4, 5, 6, 7, 8, 9, 10, 11, 12, 13, 14], [14])])
def impl_prog_insRight.B26 : List Nat := [0, 0, 2, 6, 14, 0, 32, 96, 254, 511, 1023, 2047, 4095, 8191, 16383, 32767]
theorem impl_prog_insRight.tab26 : rtab .any (opsOf Try.f48 26) = impl_prog_insRight.T26 := by kernel_rfl
theorem impl_prog_insRight.bits26 : waitsOk impl_prog_insRight.T26.2 impl_prog_insRight.B26 = true := by kernel_rfl
theorem impl_prog_insRight.calls (k : Nat) (g0_ : Nat) (A0_0 : Option Addr) (c0_0 : Nat) (l0_0 : List (S50)) (A0_1 : Option Addr) (c0_1 : Nat) (l0_1 : List (List Int)) (a1 : Int) (A2_0 : Option Addr) (c2_0 : Nat) (l2_0 : List (S93)) (a2_1 : Int) (a2_2 : Int) (A2_3 : Option Addr) (c2_3 : Nat) (l2_3 : List (S63)) (a2_4 : Int) (r : Bool) (w : World) (hp0 : w.heap[g0_]? = some (.cells #[.slice A0_0 l0_0.length c0_0, .slice A0_1 l0_1.length c0_1] 101 (0, 0))) (hr0_0 : Kd.C k50 w A0_0 l0_0.length l0_0) (hc0_0 : l0_0.length ≤ c0_0) (hr0_1 : Kd.C (Kd.slice 2 (Kd.int .i64)) w A0_1 l0_1.length l0_1) (hc0_1 : l0_1.length ≤ c0_1) (hr2_0 : Kd.C k93 w A2_0 l2_0.length l2_0) (hc2_0 : l2_0.length ≤ c2_0) (hr2_3 : Kd.C k63 w A2_3 l2_3.length l2_3) (hc2_3 : l2_3.length ≤ c2_3) (h : impl_prog_insRight.f k l0_0 l0_1 a1 l2_0 a2_1 a2_2 l2_3 a2_4 = some r) :
  Calls Try.prog 48 #[.pointer (some ⟨g0_, 0, none⟩), .int .i64 a1, .agg #[.slice A2_0 l2_0.length c2_0, .int .i64 a2_1, .int .i64 a2_2, .slice A2_3 l2_3.length c2_3, .int .i64 a2_4]] w fun e w' => e = .returned (.bool r) ∧ Below w.heap.size w w' := by
 have hu59 := Try.underlying59
 have hu93 := Try.underlying93
 have hu63 := Try.underlying63
 have hu34 := Try.underlying34
 have hu88 := Try.underlying88
 have HP0_ := am hp0
 clear hp0
 have HR0_0 := am hr0_0
 have HC0_0 := am hc0_0
 clear hr0_0 hc0_0
 have HR0_1 := am hr0_1
 have HC0_1 := am hc0_1
 clear hr0_1 hc0_1
 have HR2_0 := am hr2_0
 have HC2_0 := am hc2_0
 clear hr2_0 hc2_0
 have HR2_3 := am hr2_3
 have HC2_3 := am hc2_3
 clear hr2_3 hc2_3
 have HB := am (Below.refl w.heap.size w)
 have H : (if (l2_0.length : Int) > 16 then (impl_prog_insRight.j0 k a1 true l0_0 l0_1 l2_0 a2_1 a2_2 l2_3 a2_4) else ((impl_someAll.f k l2_3).bind fun t472 => (if t472 = true then (if a2_2 = (-1) then (impl_prog_insRight.j0 k a1 false l0_0 l0_1 l2_0 a2_1 a2_2 l2_3 a2_4) else ((impl_isLoc.f a2_2).bind fun t473 => (impl_prog_insRight.j0 k a1 (!t473) l0_0 l0_1 l2_0 a2_1 a2_2 l2_3 a2_4))) else (impl_prog_insRight.j0 k a1 true l0_0 l0_1 l2_0 a2_1 a2_2 l2_3 a2_4)))) = some r := h
 clear h
 have HC4 := am H
 clear H
 go_enter Try.func48, Try.ntmps48
 go_upto_region 1 with (first | ((with_reducible refine gd 5 rfl ?_); refine bX 5 #[.slice A2_0 l2_0.length c2_0, .int .i64 a2_1, .int .i64 a2_2, .slice A2_3 l2_3.length c2_3, .int .i64 a2_4] 59 HB ?_; clear HB; intro gb471 w5 hg hb BK471 GW471 HB; obtain ⟨NB0_471, NB471_0, HP0_⟩ := b3 hg HP0_ hb; clear hb hg))
 (try simp only [Act.put, sa, sz, ss])
 go_cut [31] (fun v31 wc => ∃ (kq : Nat) (x31_3 : Bool), v31 = .bool x31_3 ∧ Aside0 (impl_prog_insRight.j0 kq a1 x31_3 l0_0 l0_1 l2_0 a2_1 a2_2 l2_3 a2_4 = some r) ∧ Aside0 (kq ≤ k) ∧ Aside0 (wc.heap[g0_]? = some (.cells #[(.slice A0_0 l0_0.length c0_0), (.slice A0_1 l0_1.length c0_1)] 101 (0, 0))) ∧ Aside0 (wc.heap[gb471]? = some (.cells #[(.slice A2_0 l2_0.length c2_0), .int .i64 a2_1, .int .i64 a2_2, (.slice A2_3 l2_3.length c2_3), .int .i64 a2_4] 59 (0, 0))) ∧ Aside0 (Below w.heap.size w wc))
 case first => as_aux_lemma =>
  have H := HC4.out
  clear HC4
  refine qG H ?_ ?_ <;> clear H <;> intro c6b0 H
  ·have c6 := of_decide_eq_true c6b0
   have c6b1 : decide (16 < l2_0.length) = true := decide_eq_true (by omega)
   clear c6
   (first | rw [c6b0] | (simp only [i64_w, i32_w]; rw [c6b0]) | skip)
   have H' := am H
   clear H
   have hnb7 := NB471_0.out
   have hnc7 := NB0_471.out
   have hcz8_0 := bk w5 BK471 0
   have hcz8_1 := bk w5 BK471 1
   have hcz8_2 := bk w5 BK471 2
   have hcz8_3 := bk w5 BK471 3
   have hcz8_4 := bk w5 BK471 4
   have hfz8_0 := bf BK471 0
   have hfz8_1 := bf BK471 1
   have hfz8_2 := bf BK471 2
   have hfz8_3 := bf BK471 3
   have hfz8_4 := bf BK471 4
   go_wp2
   go_meet
   case rel => exact ⟨_, (true), dr, H', ⟨lk0⟩, ⟨bp HP0_⟩, ⟨bp BK471⟩, ⟨bw HB⟩⟩
  have c6 := of_decide_eq_false c6b0
  have c6b1 : decide (16 < l2_0.length) = false := decide_eq_false (by omega)
  clear c6
  (first | rw [c6b0] | (simp only [i64_w, i32_w]; rw [c6b0]) | skip)
  refine be H ?_; clear H; intro t472 A9 H
  refine qT H ?_ ?_ <;> clear H <;> intro c10 H <;> subst c10
  ·refine qE H ?_ ?_ <;> clear H
   ·intro c11b0 c11b1 H
    have H' := am H
    clear H
    have hnb12 := NB471_0.out
    have hnc12 := NB0_471.out
    have hcz13_0 := bk w5 BK471 0
    have hcz13_1 := bk w5 BK471 1
    have hcz13_2 := bk w5 BK471 2
    have hcz13_3 := bk w5 BK471 3
    have hcz13_4 := bk w5 BK471 4
    have hfz13_0 := bf BK471 0
    have hfz13_1 := bf BK471 1
    have hfz13_2 := bf BK471 2
    have hfz13_3 := bf BK471 3
    have hfz13_4 := bf BK471 4
    go_wp2_with (first | (go_at_call 64; refine (impl_someAll.calls k _ _ l2_3 true _ (cc (Kd.C_below HR2_3.out HB.out)) HC2_3.out A9.out).mono ?_; rintro e w14 ⟨rfl, hb⟩; replace HP0_ := bb HP0_ hb; replace BK471 := bb BK471 hb; replace HB := bs HB hb; clear hb; have hcz15_0 := bk w14 BK471 0; have hcz15_1 := bk w14 BK471 1; have hcz15_2 := bk w14 BK471 2; have hcz15_3 := bk w14 BK471 3; have hcz15_4 := bk w14 BK471 4; have hfz15_0 := bf BK471 0; have hfz15_1 := bf BK471 1; have hfz15_2 := bf BK471 2; have hfz15_3 := bf BK471 3; have hfz15_4 := bf BK471 4))
    go_meet
    case rel => exact ⟨_, (false), dr, H', ⟨lk0⟩, ⟨bp HP0_⟩, ⟨bp BK471⟩, ⟨bw HB⟩⟩
   intro c11 c11b0 c11b1 H
   refine be H ?_; clear H; intro t473 A16 H
   have H' := am H
   clear H
   have hnb17 := NB471_0.out
   have hnc17 := NB0_471.out
   have hcz18_0 := bk w5 BK471 0
   have hcz18_1 := bk w5 BK471 1
   have hcz18_2 := bk w5 BK471 2
   have hcz18_3 := bk w5 BK471 3
   have hcz18_4 := bk w5 BK471 4
   have hfz18_0 := bf BK471 0
   have hfz18_1 := bf BK471 1
   have hfz18_2 := bf BK471 2
   have hfz18_3 := bf BK471 3
   have hfz18_4 := bf BK471 4
   go_wp2_with (first | (go_at_call 64; refine (impl_someAll.calls k _ _ l2_3 true _ (cc (Kd.C_below HR2_3.out HB.out)) HC2_3.out A9.out).mono ?_; rintro e w19 ⟨rfl, hb⟩; replace HP0_ := bb HP0_ hb; replace BK471 := bb BK471 hb; replace HB := bs HB hb; clear hb; have hcz20_0 := bk w19 BK471 0; have hcz20_1 := bk w19 BK471 1; have hcz20_2 := bk w19 BK471 2; have hcz20_3 := bk w19 BK471 3; have hcz20_4 := bk w19 BK471 4; have hfz20_0 := bf BK471 0; have hfz20_1 := bf BK471 1; have hfz20_2 := bf BK471 2; have hfz20_3 := bf BK471 3; have hfz20_4 := bf BK471 4) | (go_at_call 65; (with_reducible refine (impl_isLoc.calls a2_2 t473 _ A16.out).mono ?_); rintro e w' ⟨rfl, ⟨nd, rfl⟩⟩))
   go_meet
   case rel => exact ⟨_, (!t473), dr, H', ⟨lk0⟩, ⟨bp HP0_⟩, ⟨bp BK471⟩, ⟨bw HB⟩⟩
  have H' := am H
  clear H
  have hnb21 := NB471_0.out
  have hnc21 := NB0_471.out
  have hcz22_0 := bk w5 BK471 0
  have hcz22_1 := bk w5 BK471 1
  have hcz22_2 := bk w5 BK471 2
  have hcz22_3 := bk w5 BK471 3
  have hcz22_4 := bk w5 BK471 4
  have hfz22_0 := bf BK471 0
  have hfz22_1 := bf BK471 1
  have hfz22_2 := bf BK471 2
  have hfz22_3 := bf BK471 3
  have hfz22_4 := bf BK471 4
  go_wp2_with (first | (go_at_call 64; refine (impl_someAll.calls k _ _ l2_3 false _ (cc (Kd.C_below HR2_3.out HB.out)) HC2_3.out A9.out).mono ?_; rintro e w23 ⟨rfl, hb⟩; replace HP0_ := bb HP0_ hb; replace BK471 := bb BK471 hb; replace HB := bs HB hb; clear hb))
  go_meet
  case rel => exact ⟨_, (true), dr, H', ⟨lk0⟩, ⟨bp HP0_⟩, ⟨bp BK471⟩, ⟨bw HB⟩⟩
 clear HC4
 (try clear c1); (try clear c2); (try clear p2); (try clear c4); (try clear c6); (try clear c6b0); (try clear c6b1); (try clear c7); (try clear c10); (try clear c11); (try clear c11b0); (try clear c11b1); (try clear c12); (try clear c17); (try clear c21); (try clear hcz13_0); (try clear hcz13_1); (try clear hcz13_2); (try clear hcz13_3); (try clear hcz13_4); (try clear hcz15_0); (try clear hcz15_1); (try clear hcz15_2); (try clear hcz15_3); (try clear hcz15_4); (try clear hcz18_0); (try clear hcz18_1); (try clear hcz18_2); (try clear hcz18_3); (try clear hcz18_4); (try clear hcz20_0); (try clear hcz20_1); (try clear hcz20_2); (try clear hcz20_3); (try clear hcz20_4); (try clear hcz22_0); (try clear hcz22_1); (try clear hcz22_2); (try clear hcz22_3); (try clear hcz22_4); (try clear hcz8_0); (try clear hcz8_1); (try clear hcz8_2); (try clear hcz8_3); (try clear hcz8_4); (try clear hfz13_0); (try clear hfz13_1); (try clear hfz13_2); (try clear hfz13_3); (try clear hfz13_4); (try clear hfz15_0); (try clear hfz15_1); (try clear hfz15_2); (try clear hfz15_3); (try clear hfz15_4); (try clear hfz18_0); (try clear hfz18_1); (try clear hfz18_2); (try clear hfz18_3); (try clear hfz18_4); (try clear hfz20_0); (try clear hfz20_1); (try clear hfz20_2); (try clear hfz20_3); (try clear hfz20_4); (try clear hfz22_0); (try clear hfz22_1); (try clear hfz22_2); (try clear hfz22_3); (try clear hfz22_4); (try clear hfz8_0); (try clear hfz8_1); (try clear hfz8_2); (try clear hfz8_3); (try clear hfz8_4)
 obtain ⟨kq, x31_3, rfl, HA, HJ3, HP0_, BK471, HB⟩ := hcut
 as_aux_lemma =>
 rcases kq with _ | kj3
 ·exact absurd HA.out (by simp [impl_prog_insRight.j0])
 have H := HA.out
 clear HA
 simp only [impl_prog_insRight.j0] at H
 refine qT H ?_ ?_ <;> clear H <;> intro c24 H <;> subst c24
 ·obtain rfl := Option.some.inj H
  go_wp2
  go_ret
  exact ⟨er, bw HB⟩
 have H' := am H
 clear H
 have hnb25 := NB471_0.out
 have hnc25 := NB0_471.out
 have hcz26_0 := bk wc BK471 0
 have hcz26_1 := bk wc BK471 1
 have hcz26_2 := bk wc BK471 2
 have hcz26_3 := bk wc BK471 3
 have hcz26_4 := bk wc BK471 4
 have hfz26_0 := bf BK471 0
 have hfz26_1 := bf BK471 1
 have hfz26_2 := bf BK471 2
 have hfz26_3 := bf BK471 3
 have hfz26_4 := bf BK471 4
 go_wp2
 go_loopg [35] kj3 (fun kq v35 w' => ∃ (x35_2 : Int), v35 = .int .i64 x35_2 ∧ Aside0 (impl_prog_insRight.l0 kq a1 l2_0 (l2_0.length : Int) x35_2 l0_0 l0_1 l2_0 a2_1 a2_2 l2_3 a2_4 = some r) ∧ Aside0 (kq ≤ kj3) ∧ Aside0 (w'.heap[g0_]? = some (.cells #[(.slice A0_0 l0_0.length c0_0), (.slice A0_1 l0_1.length c0_1)] 101 (0, 0))) ∧ Aside0 (w'.heap[gb471]? = some (.cells #[(.slice A2_0 l2_0.length c2_0), .int .i64 a2_1, .int .i64 a2_2, (.slice A2_3 l2_3.length c2_3), .int .i64 a2_4] 59 (0, 0))) ∧ Aside0 (Below w.heap.size w w'))
 case atStart => exact ⟨(0), dr, H', ⟨Nat.le_refl _⟩, ⟨bp HP0_⟩, ⟨bp BK471⟩, ⟨bw HB⟩⟩
 clear H'
 (try clear c24); (try clear c25); (try clear hcz26_0); (try clear hcz26_1); (try clear hcz26_2); (try clear hcz26_3); (try clear hcz26_4); (try clear hfz26_0); (try clear hfz26_1); (try clear hfz26_2); (try clear hfz26_3); (try clear hfz26_4)
 obtain ⟨x35_2, rfl, HA, HK2, HP0_, BK471, HB⟩ := hrel
 as_aux_lemma =>
 rcases gk with _ | k2
 ·exact absurd HA.out (by simp [impl_prog_insRight.l0])
 have H := HA.out
 clear HA
 simp only [impl_prog_insRight.l0] at H
 refine qI H ?_ ?_ <;> clear H <;> intro c27b0 H
 ·as_aux_lemma =>
  refine iM H ?_; clear H; intro c28b0 H
  refine iM H ?_; clear H; intro c29b0 H
  refine be H ?_; clear H; intro t476 A30 H
  refine qT H ?_ ?_ <;> clear H <;> intro c31 H <;> subst c31
  ·refine be H ?_; clear H; intro t477 A32 H
   have HC33 := am H
   clear H
   have p474 : 0 ≤ (x35_2 : Int) := of_decide_eq_true as1
   have q474 : x35_2 < (l2_0.length : Int) := of_decide_eq_true as1
   obtain ⟨ad474, e474, hx474_0, hx474_1, hx474_2⟩ := at_T93 HR2_0.out x35_2 p474 q474
   cases e474
   replace hx474_0 := cl HB hx474_0
   replace hx474_1 := cl HB hx474_1
   replace hx474_2 := cl HB hx474_2
   replace p474 := eq_true p474
   replace q474 := eq_true q474
   go_upto_if 48 with (first | ((with_reducible refine gd 8 rfl ?_); refine bX 8 #[.int .i64 0, .int .i64 0, .int .i64 0] 93 HB ?_; clear HB; intro gb475 w34 hg hb BK475 GW475 HB; obtain ⟨NB0_475, NB475_0, HP0_⟩ := b3 hg HP0_ hb; obtain ⟨NB471_475, NB475_471, BK471⟩ := b3 hg BK471 hb; clear hb hg; have hnb35 := NB475_0.out; have hnc35 := NB0_475.out; have hnb36 := NB475_471.out; have hnc36 := NB471_475.out; have hcz37 := bK w34 BK475; have hfz37 := bF BK475) | ((with_reducible refine gate_callee (f := 65) rfl ?_); refine goesL_ (some 41) rfl rfl Try.func65 (by kernel_rfl) rfl #[.int .i64 ((rd_T93 l2_0 x35_2).f0)] rfl gl ?_; (with_reducible refine (impl_isLoc.calls ((rd_T93 l2_0 x35_2).f0) true _ A30.out).mono ?_); rintro e w' ⟨rfl, ⟨nd, rfl⟩⟩; refine ⟨_, rfl, ?_⟩) | (go_at_call 66; (with_reducible refine (impl_Val_some.calls ((rd_T93 l2_0 x35_2).f1.f0) ((rd_T93 l2_0 x35_2).f1.f1) t477 _ A32.out).mono ?_); rintro e w38 ⟨rfl, hb⟩; replace HP0_ := bb2 HP0_ hb; replace BK471 := bb2 BK471 hb; replace BK475 := bo #[.int .i64 ((rd_T93 l2_0 x35_2).f0), .int .i64 ((rd_T93 l2_0 x35_2).f1.f0), .int .i64 ((rd_T93 l2_0 x35_2).f1.f1)] BK475 hb; replace HB := bs HB hb; clear hb))
   (try simp only [Act.put, sa, sz, ss])
   have H := HC33.out
   clear HC33
   refine qT H ?_ ?_ <;> clear H <;> intro c39 H <;> subst c39
   ·have H' := am H
    clear H
    go_wp2
    go_roundg k2
    case measure => have := HJ3.out; have := HK2.out; omega
    case rel => exact ⟨(wrap64 (x35_2 + 1)), dr, H', ⟨by have := HJ3.out; have := HK2.out; omega⟩, ⟨bp HP0_⟩, ⟨bp BK471⟩, ⟨bw HB⟩⟩
   obtain rfl := Option.some.inj H
   go_wp2
   go_ret
   exact ⟨er, bw HB⟩
  obtain rfl := Option.some.inj H
  have p474 : 0 ≤ (x35_2 : Int) := of_decide_eq_true as1
  have q474 : x35_2 < (l2_0.length : Int) := of_decide_eq_true as1
  obtain ⟨ad474, e474, hx474_0, hx474_1, hx474_2⟩ := at_T93 HR2_0.out x35_2 p474 q474
  cases e474
  replace hx474_0 := cl HB hx474_0
  replace hx474_1 := cl HB hx474_1
  replace hx474_2 := cl HB hx474_2
  replace p474 := eq_true p474
  replace q474 := eq_true q474
  go_wp2_with (first | ((with_reducible refine gd 8 rfl ?_); refine bX 8 #[.int .i64 0, .int .i64 0, .int .i64 0] 93 HB ?_; clear HB; intro gb475 w40 hg hb BK475 GW475 HB; obtain ⟨NB0_475, NB475_0, HP0_⟩ := b3 hg HP0_ hb; obtain ⟨NB471_475, NB475_471, BK471⟩ := b3 hg BK471 hb; clear hb hg; have hnb41 := NB475_0.out; have hnc41 := NB0_475.out; have hnb42 := NB475_471.out; have hnc42 := NB471_475.out; have hcz43 := bK w40 BK475; have hfz43 := bF BK475) | ((with_reducible refine gate_callee (f := 65) rfl ?_); refine goesL_ (some 41) rfl rfl Try.func65 (by kernel_rfl) rfl #[.int .i64 ((rd_T93 l2_0 x35_2).f0)] rfl gl ?_; (with_reducible refine (impl_isLoc.calls ((rd_T93 l2_0 x35_2).f0) false _ A30.out).mono ?_); rintro e w' ⟨rfl, ⟨nd, rfl⟩⟩; refine ⟨_, rfl, ?_⟩))
  go_ret
  exact ⟨er, bw HB⟩
 refine qE H ?_ ?_ <;> clear H
 ·as_aux_lemma =>
  intro c44b0 c44b1 H
  (first | rw [c44b0] | (simp only [i64_w, i32_w]; rw [c44b0]) | skip)
  refine qE H ?_ ?_ <;> clear H
  ·as_aux_lemma =>
   intro c45b0 c45b1 H
   by_cases c46 : (l2_3.length : Int) = 0
   ·rw [if_pos c46] at H
    have c46b0 : ((l2_3.length : Int) == 0) = true := beq_iff_eq.mpr c46
    have c46b1 : ((l2_3.length : Int) != 0) = false := bne_eq_false_iff_eq.mpr c46
    clear c46
    obtain rfl := Option.some.inj H
    have hnb47 := NB471_0.out
    have hnc47 := NB0_471.out
    have hcz48_0 := bk wr BK471 0
    have hcz48_1 := bk wr BK471 1
    have hcz48_2 := bk wr BK471 2
    have hcz48_3 := bk wr BK471 3
    have hcz48_4 := bk wr BK471 4
    have hfz48_0 := bf BK471 0
    have hfz48_1 := bf BK471 1
    have hfz48_2 := bf BK471 2
    have hfz48_3 := bf BK471 3
    have hfz48_4 := bf BK471 4
    go_wp2
    go_ret
    exact ⟨er, bw HB⟩
   rw [if_neg c46] at H
   have c46b0 : ((l2_3.length : Int) == 0) = false := beq_eq_false_iff_ne.mpr c46
   have c46b1 : ((l2_3.length : Int) != 0) = true := bne_iff_ne.mpr c46
   have c46b2 : ¬ (l2_3 = []) := fun h_ => c46 (by rw [h_]; rfl)
   obtain rfl := Option.some.inj H
   have hnb49 := NB471_0.out
   have hnc49 := NB0_471.out
   have hcz50_0 := bk wr BK471 0
   have hcz50_1 := bk wr BK471 1
   have hcz50_2 := bk wr BK471 2
   have hcz50_3 := bk wr BK471 3
   have hcz50_4 := bk wr BK471 4
   have hfz50_0 := bf BK471 0
   have hfz50_1 := bf BK471 1
   have hfz50_2 := bf BK471 2
   have hfz50_3 := bf BK471 3
   have hfz50_4 := bf BK471 4
   go_wp2
   go_ret
   exact ⟨er, bw HB⟩
  intro c45 c45b0 c45b1 H
  obtain rfl := Option.some.inj H
  have hnb51 := NB471_0.out
  have hnc51 := NB0_471.out
  have hcz52_0 := bk wr BK471 0
  have hcz52_1 := bk wr BK471 1
  have hcz52_2 := bk wr BK471 2
  have hcz52_3 := bk wr BK471 3
  have hcz52_4 := bk wr BK471 4
  have hfz52_0 := bf BK471 0
  have hfz52_1 := bf BK471 1
  have hfz52_2 := bf BK471 2
  have hfz52_3 := bf BK471 3
  have hfz52_4 := bf BK471 4
  go_wp2
  go_ret
  exact ⟨er, bw HB⟩
 intro c44 c44b0 c44b1 H
 (first | rw [c44b0] | (simp only [i64_w, i32_w]; rw [c44b0]) | skip)
 refine qE H ?_ ?_ <;> clear H
 ·as_aux_lemma =>
  intro c53b0 c53b1 H
  refine qE H ?_ ?_ <;> clear H
  ·intro c54b0 c54b1 H
   obtain rfl := Option.some.inj H
   have hnb55 := NB471_0.out
   have hnc55 := NB0_471.out
   have hcz56_0 := bk wr BK471 0
   have hcz56_1 := bk wr BK471 1
   have hcz56_2 := bk wr BK471 2
   have hcz56_3 := bk wr BK471 3
   have hcz56_4 := bk wr BK471 4
   have hfz56_0 := bf BK471 0
   have hfz56_1 := bf BK471 1
   have hfz56_2 := bf BK471 2
   have hfz56_3 := bf BK471 3
   have hfz56_4 := bf BK471 4
   go_wp2
   go_ret
   exact ⟨er, bw HB⟩
  intro c54 c54b0 c54b1 H
  by_cases c57 : (l2_3.length : Int) = 1
  ·rw [if_pos c57] at H
   have c57b0 : ((l2_3.length : Int) == 1) = true := beq_iff_eq.mpr c57
   have c57b1 : ((l2_3.length : Int) != 1) = false := bne_eq_false_iff_eq.mpr c57
   clear c57
   obtain rfl := Option.some.inj H
   have hnb58 := NB471_0.out
   have hnc58 := NB0_471.out
   have hcz59_0 := bk wr BK471 0
   have hcz59_1 := bk wr BK471 1
   have hcz59_2 := bk wr BK471 2
   have hcz59_3 := bk wr BK471 3
   have hcz59_4 := bk wr BK471 4
   have hfz59_0 := bf BK471 0
   have hfz59_1 := bf BK471 1
   have hfz59_2 := bf BK471 2
   have hfz59_3 := bf BK471 3
   have hfz59_4 := bf BK471 4
   go_wp2
   go_ret
   exact ⟨er, bw HB⟩
  rw [if_neg c57] at H
  have c57b0 : ((l2_3.length : Int) == 1) = false := beq_eq_false_iff_ne.mpr c57
  have c57b1 : ((l2_3.length : Int) != 1) = true := bne_iff_ne.mpr c57
  obtain rfl := Option.some.inj H
  have hnb60 := NB471_0.out
  have hnc60 := NB0_471.out
  have hcz61_0 := bk wr BK471 0
  have hcz61_1 := bk wr BK471 1
  have hcz61_2 := bk wr BK471 2
  have hcz61_3 := bk wr BK471 3
  have hcz61_4 := bk wr BK471 4
  have hfz61_0 := bf BK471 0
  have hfz61_1 := bf BK471 1
  have hfz61_2 := bf BK471 2
  have hfz61_3 := bf BK471 3
  have hfz61_4 := bf BK471 4
  go_wp2
  go_ret
  exact ⟨er, bw HB⟩
 intro c53 c53b0 c53b1 H
 refine qE H ?_ ?_ <;> clear H
 ·as_aux_lemma =>
  intro c62b0 c62b1 H
  refine qE H ?_ ?_ <;> clear H
  ·as_aux_lemma =>
   intro c63b0 c63b1 H
   by_cases c64 : (l2_3.length : Int) = 1
   ·rw [if_pos c64] at H
    have c64b0 : ((l2_3.length : Int) == 1) = true := beq_iff_eq.mpr c64
    have c64b1 : ((l2_3.length : Int) != 1) = false := bne_eq_false_iff_eq.mpr c64
    clear c64
    refine qE H ?_ ?_ <;> clear H
    ·intro c65b0 c65b1 H
     obtain rfl := Option.some.inj H
     have hnb66 := NB471_0.out
     have hnc66 := NB0_471.out
     have hcz67_0 := bk wr BK471 0
     have hcz67_1 := bk wr BK471 1
     have hcz67_2 := bk wr BK471 2
     have hcz67_3 := bk wr BK471 3
     have hcz67_4 := bk wr BK471 4
     have hfz67_0 := bf BK471 0
     have hfz67_1 := bf BK471 1
     have hfz67_2 := bf BK471 2
     have hfz67_3 := bf BK471 3
     have hfz67_4 := bf BK471 4
     go_wp2
     go_ret
     exact ⟨er, bw HB⟩
    intro c65 c65b0 c65b1 H
    obtain rfl := Option.some.inj H
    have hnb68 := NB471_0.out
    have hnc68 := NB0_471.out
    have hcz69_0 := bk wr BK471 0
    have hcz69_1 := bk wr BK471 1
    have hcz69_2 := bk wr BK471 2
    have hcz69_3 := bk wr BK471 3
    have hcz69_4 := bk wr BK471 4
    have hfz69_0 := bf BK471 0
    have hfz69_1 := bf BK471 1
    have hfz69_2 := bf BK471 2
    have hfz69_3 := bf BK471 3
    have hfz69_4 := bf BK471 4
    go_wp2
    go_ret
    exact ⟨er, bw HB⟩
   rw [if_neg c64] at H
   have c64b0 : ((l2_3.length : Int) == 1) = false := beq_eq_false_iff_ne.mpr c64
   have c64b1 : ((l2_3.length : Int) != 1) = true := bne_iff_ne.mpr c64
   obtain rfl := Option.some.inj H
   have hnb70 := NB471_0.out
   have hnc70 := NB0_471.out
   have hcz71_0 := bk wr BK471 0
   have hcz71_1 := bk wr BK471 1
   have hcz71_2 := bk wr BK471 2
   have hcz71_3 := bk wr BK471 3
   have hcz71_4 := bk wr BK471 4
   have hfz71_0 := bf BK471 0
   have hfz71_1 := bf BK471 1
   have hfz71_2 := bf BK471 2
   have hfz71_3 := bf BK471 3
   have hfz71_4 := bf BK471 4
   go_wp2
   go_ret
   exact ⟨er, bw HB⟩
  intro c63 c63b0 c63b1 H
  obtain rfl := Option.some.inj H
  have hnb72 := NB471_0.out
  have hnc72 := NB0_471.out
  have hcz73_0 := bk wr BK471 0
  have hcz73_1 := bk wr BK471 1
  have hcz73_2 := bk wr BK471 2
  have hcz73_3 := bk wr BK471 3
  have hcz73_4 := bk wr BK471 4
  have hfz73_0 := bf BK471 0
  have hfz73_1 := bf BK471 1
  have hfz73_2 := bf BK471 2
  have hfz73_3 := bf BK471 3
  have hfz73_4 := bf BK471 4
  go_wp2
  go_ret
  exact ⟨er, bw HB⟩
 intro c62 c62b0 c62b1 H
 refine qE H ?_ ?_ <;> clear H
 ·as_aux_lemma =>
  intro c74b0 c74b1 H
  refine qE H ?_ ?_ <;> clear H
  ·as_aux_lemma =>
   intro c75b0 c75b1 H
   by_cases c76 : (l2_3.length : Int) = 0
   ·rw [if_pos c76] at H
    have c76b0 : ((l2_3.length : Int) == 0) = true := beq_iff_eq.mpr c76
    have c76b1 : ((l2_3.length : Int) != 0) = false := bne_eq_false_iff_eq.mpr c76
    clear c76
    refine be H ?_; clear H; intro t478 A77 H
    obtain rfl := Option.some.inj H
    have hnb78 := NB471_0.out
    have hnc78 := NB0_471.out
    have hcz79_0 := bk wr BK471 0
    have hcz79_1 := bk wr BK471 1
    have hcz79_2 := bk wr BK471 2
    have hcz79_3 := bk wr BK471 3
    have hcz79_4 := bk wr BK471 4
    have hfz79_0 := bf BK471 0
    have hfz79_1 := bf BK471 1
    have hfz79_2 := bf BK471 2
    have hfz79_3 := bf BK471 3
    have hfz79_4 := bf BK471 4
    go_wp2_with (first | (go_at_call 67; refine (impl_prog_place.calls g0_ A0_0 c0_0 l0_0 A0_1 c0_1 l0_1 a1 a2_4 t478 _ (bp HP0_) (cc (Kd.C_below HR0_0.out HB.out)) HC0_0.out (cc (Kd.C_below HR0_1.out HB.out)) HC0_1.out A77.out).mono ?_; rintro e w80 ⟨rfl, hb⟩; replace HP0_ := bb HP0_ hb; replace BK471 := bb BK471 hb; replace HB := bs HB hb; clear hb))
    go_ret
    exact ⟨er, bw HB⟩
   rw [if_neg c76] at H
   have c76b0 : ((l2_3.length : Int) == 0) = false := beq_eq_false_iff_ne.mpr c76
   have c76b1 : ((l2_3.length : Int) != 0) = true := bne_iff_ne.mpr c76
   have c76b2 : ¬ (l2_3 = []) := fun h_ => c76 (by rw [h_]; rfl)
   obtain rfl := Option.some.inj H
   have hnb81 := NB471_0.out
   have hnc81 := NB0_471.out
   have hcz82_0 := bk wr BK471 0
   have hcz82_1 := bk wr BK471 1
   have hcz82_2 := bk wr BK471 2
   have hcz82_3 := bk wr BK471 3
   have hcz82_4 := bk wr BK471 4
   have hfz82_0 := bf BK471 0
   have hfz82_1 := bf BK471 1
   have hfz82_2 := bf BK471 2
   have hfz82_3 := bf BK471 3
   have hfz82_4 := bf BK471 4
   go_wp2
   go_ret
   exact ⟨er, bw HB⟩
  intro c75 c75b0 c75b1 H
  obtain rfl := Option.some.inj H
  have hnb83 := NB471_0.out
  have hnc83 := NB0_471.out
  have hcz84_0 := bk wr BK471 0
  have hcz84_1 := bk wr BK471 1
  have hcz84_2 := bk wr BK471 2
  have hcz84_3 := bk wr BK471 3
  have hcz84_4 := bk wr BK471 4
  have hfz84_0 := bf BK471 0
  have hfz84_1 := bf BK471 1
  have hfz84_2 := bf BK471 2
  have hfz84_3 := bf BK471 3
  have hfz84_4 := bf BK471 4
  go_wp2
  go_ret
  exact ⟨er, bw HB⟩
 intro c74 c74b0 c74b1 H
 refine qE H ?_ ?_ <;> clear H
 ·as_aux_lemma =>
  intro c85b0 c85b1 H
  refine qE H ?_ ?_ <;> clear H
  ·as_aux_lemma =>
   intro c86b0 c86b1 H
   by_cases c87 : (l2_3.length : Int) = 1
   ·rw [if_pos c87] at H
    have c87b0 : ((l2_3.length : Int) == 1) = true := beq_iff_eq.mpr c87
    have c87b1 : ((l2_3.length : Int) != 1) = false := bne_eq_false_iff_eq.mpr c87
    clear c87
    refine be H ?_; clear H; intro t479 A88 H
    obtain rfl := Option.some.inj H
    have hnb89 := NB471_0.out
    have hnc89 := NB0_471.out
    have hcz90_0 := bk wr BK471 0
    have hcz90_1 := bk wr BK471 1
    have hcz90_2 := bk wr BK471 2
    have hcz90_3 := bk wr BK471 3
    have hcz90_4 := bk wr BK471 4
    have hfz90_0 := bf BK471 0
    have hfz90_1 := bf BK471 1
    have hfz90_2 := bf BK471 2
    have hfz90_3 := bf BK471 3
    have hfz90_4 := bf BK471 4
    go_wp2_with (first | (go_at_call 67; refine (impl_prog_place.calls g0_ A0_0 c0_0 l0_0 A0_1 c0_1 l0_1 a1 a2_4 t479 _ (bp HP0_) (cc (Kd.C_below HR0_0.out HB.out)) HC0_0.out (cc (Kd.C_below HR0_1.out HB.out)) HC0_1.out A88.out).mono ?_; rintro e w91 ⟨rfl, hb⟩; replace HP0_ := bb HP0_ hb; replace BK471 := bb BK471 hb; replace HB := bs HB hb; clear hb))
    go_ret
    exact ⟨er, bw HB⟩
   rw [if_neg c87] at H
   have c87b0 : ((l2_3.length : Int) == 1) = false := beq_eq_false_iff_ne.mpr c87
   have c87b1 : ((l2_3.length : Int) != 1) = true := bne_iff_ne.mpr c87
   obtain rfl := Option.some.inj H
   have hnb92 := NB471_0.out
   have hnc92 := NB0_471.out
   have hcz93_0 := bk wr BK471 0
   have hcz93_1 := bk wr BK471 1
   have hcz93_2 := bk wr BK471 2
   have hcz93_3 := bk wr BK471 3
   have hcz93_4 := bk wr BK471 4
   have hfz93_0 := bf BK471 0
   have hfz93_1 := bf BK471 1
   have hfz93_2 := bf BK471 2
   have hfz93_3 := bf BK471 3
   have hfz93_4 := bf BK471 4
   go_wp2
   go_ret
   exact ⟨er, bw HB⟩
  intro c86 c86b0 c86b1 H
  obtain rfl := Option.some.inj H
  have hnb94 := NB471_0.out
  have hnc94 := NB0_471.out
  have hcz95_0 := bk wr BK471 0
  have hcz95_1 := bk wr BK471 1
  have hcz95_2 := bk wr BK471 2
  have hcz95_3 := bk wr BK471 3
  have hcz95_4 := bk wr BK471 4
  have hfz95_0 := bf BK471 0
  have hfz95_1 := bf BK471 1
  have hfz95_2 := bf BK471 2
  have hfz95_3 := bf BK471 3
  have hfz95_4 := bf BK471 4
  go_wp2
  go_ret
  exact ⟨er, bw HB⟩
 intro c85 c85b0 c85b1 H
 refine qE H ?_ ?_ <;> clear H
 ·as_aux_lemma =>
  intro c96b0 c96b1 H
  refine be H ?_; clear H; intro t480 A97 H
  refine qT H ?_ ?_ <;> clear H <;> intro c98 H <;> subst c98
  ·as_aux_lemma =>
   refine iM H ?_; clear H; intro c99b0 H
   refine iM H ?_; clear H; intro c100b0 H
   obtain rfl := Option.some.inj H
   have hnb101 := NB471_0.out
   have hnc101 := NB0_471.out
   have hcz102_0 := bk wr BK471 0
   have hcz102_1 := bk wr BK471 1
   have hcz102_2 := bk wr BK471 2
   have hcz102_3 := bk wr BK471 3
   have hcz102_4 := bk wr BK471 4
   have hfz102_0 := bf BK471 0
   have hfz102_1 := bf BK471 1
   have hfz102_2 := bf BK471 2
   have hfz102_3 := bf BK471 3
   have hfz102_4 := bf BK471 4
   try go_wp2
   replace HP0_ := am (blk_drew HP0_.out)
   replace BK471 := am (blk_drew BK471.out)
   replace HB := am (below_drew1 HB.out)
   have p481 : 0 ≤ (a2_4 : Int) := of_decide_eq_true as1
   have q481 : a2_4 < (l0_0.length : Int) := of_decide_eq_true as1
   obtain ⟨ad481, A481_2, c481_2, e481, hx481_0, hx481_1, hx481_2, hl481_2, hi481_2⟩ := at_T50 HR0_0.out a2_4 p481 q481
   have hw481_2 := hx481_2
   have hw481_1 := hx481_1
   have hw481_0 := hx481_0
   cases e481
   replace hx481_0 := cl HB hx481_0
   replace hx481_1 := cl HB hx481_1
   replace hx481_2 := cl HB hx481_2
   have HR481_2 := am hi481_2
   have HC481_2 := am hl481_2
   clear hi481_2 hl481_2
   replace p481 := eq_true p481
   replace q481 := eq_true q481
   refine start_ (n := 22) (S := fun w' => w'.cell? ⟨g0_, 0, none⟩ = some (.slice (some ad481) l0_0.length c0_0) ∧ w'.cell? ⟨g0_, 1, none⟩ = some (.slice A0_1 l0_1.length c0_1) ∧ w'.cell? ⟨gb471, 0, none⟩ = some (.slice A2_0 l2_0.length c2_0) ∧ w'.cell? ⟨gb471, 1, none⟩ = some (.int .i64 a2_1) ∧ w'.cell? ⟨gb471, 2, none⟩ = some (.int .i64 a2_2) ∧ w'.cell? ⟨gb471, 3, none⟩ = some (.slice A2_3 l2_3.length c2_3) ∧ w'.cell? ⟨gb471, 4, none⟩ = some (.int .i64 a2_4) ∧ w'.cell? (ad481.add ((a2_4).toNat * 3)) = some (.int .i64 ((rd_T50 l0_0 a2_4).f0)) ∧ w'.cell? ⟨(ad481.add ((a2_4).toNat * 3)).block, (ad481.add ((a2_4).toNat * 3)).off + 1, none⟩ = some (.int .i64 ((rd_T50 l0_0 a2_4).f1)) ∧ w'.cell? ⟨(ad481.add ((a2_4).toNat * 3)).block, (ad481.add ((a2_4).toNat * 3)).off + 2, none⟩ = some (.slice A481_2 ((rd_T50 l0_0 a2_4).f2).length c481_2)) (ds := []) (bv 22 0) (by kernel_rfl) rfl (by kernel_rfl) ⟨bc HP0_ 0, bc HP0_ 1, bc BK471 0, bc BK471 1, bc BK471 2, bc BK471 3, bc BK471 4, (cq HB hw481_0), (cq HB hw481_1), (cq HB hw481_2)⟩ (fun hHeld => ?_); refine with_tabW impl_prog_insRight.tab22 impl_prog_insRight.bits22 (fun HT_ HW_ => ?_)
   generalize wr.drew = w103 at HP0_ BK471 HB HR481_2 hx481_0 hx481_1 hx481_2 hHeld ⊢
   refine pu 0 140 22 1 HT_ ?_
   refine pu 1 141 22 3 HT_ ?_
   refine pu 2 142 22 7 HT_ ?_
   refine pu 4 144 22 23 HT_ ?_
   refine tk 3 143 22 31 HT_ HW_ hHeld ?_
   refine tk 5 145 22 63 HT_ HW_ hHeld ?_
   refine on 6 (some 146) 22 127 HT_ fun K hK => ?_
   refine goes_ Try.func42 (by kernel_rfl) rfl #[.agg #[.slice (some ad481) l0_0.length c0_0], .int .i64 a2_4] (by rfl) rfl rfl gl ?_
   with_reducible refine (impl_hasFunc.calls _ _ l0_0 a2_4 true _ ?side1 ?side2 A97.out).mono ?_
   (case side1 => exact cc (Kd.C_below HR0_0.out HB.out))
   (case side2 => exact HC0_0.out)
   rintro e w104 ⟨rfl, hb⟩
   refine ⟨_, rfl, ?_⟩
   replace HP0_ := bb HP0_ hb
   replace BK471 := bb BK471 hb
   replace HB := am (below_step (bw HB) hb)
   clear hb
   refine hK.out _ _ ⟨bc HP0_ 0, bc HP0_ 1, bc BK471 0, bc BK471 1, bc BK471 2, bc BK471 3, bc BK471 4, (cq HB hw481_0), (cq HB hw481_1), (cq HB hw481_2)⟩ (fun hHeld => ?_)
   clear hK K
   refine nm (some 146) ?_
   refine pu 7 147 22 255 HT_ ?_
   refine pu 8 148 22 511 HT_ ?_
   refine pu 9 149 22 1023 HT_ ?_
   refine pu 10 150 22 2047 HT_ ?_
   refine pu 11 151 22 4095 HT_ ?_
   refine pu 12 152 22 8191 HT_ ?_
   refine pu 14 154 22 24575 HT_ ?_
   refine tk 13 153 22 32767 HT_ HW_ hHeld ?_
   refine tk 15 155 22 65535 HT_ HW_ hHeld ?_
   refine pu 16 156 22 131071 HT_ ?_
   refine pu 17 157 22 262143 HT_ ?_
   refine tk 18 158 22 524287 HT_ HW_ hHeld ?_
   refine pu 19 159 22 1048575 HT_ ?_
   refine pu 20 160 22 2097151 HT_ ?_
   refine pu 21 6 22 4194303 HT_ ?_
   refine done_ (done_of HT_.out (by kernel_rfl)) ?_
   try go_wp2
   go_ret
   exact ⟨er, bw HB⟩
  obtain rfl := Option.some.inj H
  have hnb105 := NB471_0.out
  have hnc105 := NB0_471.out
  have hcz106_0 := bk wr BK471 0
  have hcz106_1 := bk wr BK471 1
  have hcz106_2 := bk wr BK471 2
  have hcz106_3 := bk wr BK471 3
  have hcz106_4 := bk wr BK471 4
  have hfz106_0 := bf BK471 0
  have hfz106_1 := bf BK471 1
  have hfz106_2 := bf BK471 2
  have hfz106_3 := bf BK471 3
  have hfz106_4 := bf BK471 4
  try go_wp2
  replace HP0_ := am (blk_drew HP0_.out)
  replace BK471 := am (blk_drew BK471.out)
  replace HB := am (below_drew1 HB.out)
  refine start_ (n := 22) (S := fun w' => w'.cell? ⟨g0_, 0, none⟩ = some (.slice A0_0 l0_0.length c0_0) ∧ w'.cell? ⟨g0_, 1, none⟩ = some (.slice A0_1 l0_1.length c0_1) ∧ w'.cell? ⟨gb471, 0, none⟩ = some (.slice A2_0 l2_0.length c2_0) ∧ w'.cell? ⟨gb471, 1, none⟩ = some (.int .i64 a2_1) ∧ w'.cell? ⟨gb471, 2, none⟩ = some (.int .i64 a2_2) ∧ w'.cell? ⟨gb471, 3, none⟩ = some (.slice A2_3 l2_3.length c2_3) ∧ w'.cell? ⟨gb471, 4, none⟩ = some (.int .i64 a2_4)) (ds := []) (bv 22 0) (by kernel_rfl) rfl (by kernel_rfl) ⟨bc HP0_ 0, bc HP0_ 1, bc BK471 0, bc BK471 1, bc BK471 2, bc BK471 3, bc BK471 4⟩ (fun hHeld => ?_); refine with_tabW impl_prog_insRight.tab22 impl_prog_insRight.bits22 (fun HT_ HW_ => ?_)
  generalize wr.drew = w107 at HP0_ BK471 HB hHeld ⊢
  refine pu 0 140 22 1 HT_ ?_
  refine pu 1 141 22 3 HT_ ?_
  refine pu 2 142 22 7 HT_ ?_
  refine pu 4 144 22 23 HT_ ?_
  refine tk 3 143 22 31 HT_ HW_ hHeld ?_
  refine tk 5 145 22 63 HT_ HW_ hHeld ?_
  refine on 6 (some 146) 22 127 HT_ fun K hK => ?_
  refine goes_ Try.func42 (by kernel_rfl) rfl #[.agg #[.slice A0_0 l0_0.length c0_0], .int .i64 a2_4] (by rfl) rfl rfl gl ?_
  with_reducible refine (impl_hasFunc.calls _ _ l0_0 a2_4 false _ ?side1 ?side2 A97.out).mono ?_
  (case side1 => exact cc (Kd.C_below HR0_0.out HB.out))
  (case side2 => exact HC0_0.out)
  rintro e w108 ⟨rfl, hb⟩
  refine ⟨_, rfl, ?_⟩
  replace HP0_ := bb HP0_ hb
  replace BK471 := bb BK471 hb
  replace HB := am (below_step (bw HB) hb)
  clear hb
  refine hK.out _ _ ⟨bc HP0_ 0, bc HP0_ 1, bc BK471 0, bc BK471 1, bc BK471 2, bc BK471 3, bc BK471 4⟩ (fun hHeld => ?_)
  clear hK K
  refine nm (some 146) ?_
  refine pu 7 147 22 255 HT_ ?_
  refine pn 8 148 22 511 HT_ ?_
  refine pn 9 149 22 1023 HT_ ?_
  refine pn 10 150 22 2047 HT_ ?_
  refine pn 11 151 22 4095 HT_ ?_
  refine pn 12 152 22 8191 HT_ ?_
  refine pn 13 153 22 16383 HT_ ?_
  refine pn 14 154 22 32767 HT_ ?_
  refine pn 15 155 22 65535 HT_ ?_
  refine pn 16 156 22 131071 HT_ ?_
  refine pn 17 157 22 262143 HT_ ?_
  refine pn 18 158 22 524287 HT_ ?_
  refine pn 19 159 22 1048575 HT_ ?_
  refine pu 20 160 22 2097151 HT_ ?_
  refine pu 21 6 22 4194303 HT_ ?_
  refine done_ (done_of HT_.out (by kernel_rfl)) ?_
  try go_wp2
  go_ret
  exact ⟨er, bw HB⟩
 intro c96 c96b0 c96b1 H
 have HC109 := am H
 clear H
 have hnb110 := NB471_0.out
 have hnc110 := NB0_471.out
 have hcz111_0 := bk wr BK471 0
 have hcz111_1 := bk wr BK471 1
 have hcz111_2 := bk wr BK471 2
 have hcz111_3 := bk wr BK471 3
 have hcz111_4 := bk wr BK471 4
 have hfz111_0 := bf BK471 0
 have hfz111_1 := bf BK471 1
 have hfz111_2 := bf BK471 2
 have hfz111_3 := bf BK471 3
 have hfz111_4 := bf BK471 4
 go_upto_region 23 with (fail)
 go_cut [161] (fun v161 wc => ∃ (kq : Nat) (x161_108 : Bool), v161 = .bool x161_108 ∧ Aside0 (impl_prog_insRight.j2 kq (l2_3.length : Int) (a2_2 == (-1)) x161_108 l0_0 l0_1 l2_0 a2_1 a2_2 l2_3 a2_4 = some r) ∧ Aside0 (kq ≤ k2) ∧ Aside0 (wc.heap[g0_]? = some (.cells #[(.slice A0_0 l0_0.length c0_0), (.slice A0_1 l0_1.length c0_1)] 101 (0, 0))) ∧ Aside0 (wc.heap[gb471]? = some (.cells #[(.slice A2_0 l2_0.length c2_0), .int .i64 a2_1, .int .i64 a2_2, (.slice A2_3 l2_3.length c2_3), .int .i64 a2_4] 59 (0, 0))) ∧ Aside0 (Below w.heap.size w wc))
 case first => as_aux_lemma =>
  have H := HC109.out
  clear HC109
  refine qE H ?_ ?_ <;> clear H
  ·intro c112b0 c112b1 H
   (first | rw [c112b0] | (simp only [i64_w, i32_w]; rw [c112b0]) | skip)
   have H' := am H
   clear H
   have hnb113 := NB471_0.out
   have hnc113 := NB0_471.out
   have hcz114_0 := bk wr BK471 0
   have hcz114_1 := bk wr BK471 1
   have hcz114_2 := bk wr BK471 2
   have hcz114_3 := bk wr BK471 3
   have hcz114_4 := bk wr BK471 4
   have hfz114_0 := bf BK471 0
   have hfz114_1 := bf BK471 1
   have hfz114_2 := bf BK471 2
   have hfz114_3 := bf BK471 3
   have hfz114_4 := bf BK471 4
   go_wp2
   go_meet
   case rel => exact ⟨_, (true), dr, H', ⟨lk2 HJ3 HK2⟩, ⟨bp HP0_⟩, ⟨bp BK471⟩, ⟨bw HB⟩⟩
  intro c112 c112b0 c112b1 H
  (first | rw [c112b0] | (simp only [i64_w, i32_w]; rw [c112b0]) | skip)
  refine qE H ?_ ?_ <;> clear H
  ·intro c115b0 c115b1 H
   have H' := am H
   clear H
   have hnb116 := NB471_0.out
   have hnc116 := NB0_471.out
   have hcz117_0 := bk wr BK471 0
   have hcz117_1 := bk wr BK471 1
   have hcz117_2 := bk wr BK471 2
   have hcz117_3 := bk wr BK471 3
   have hcz117_4 := bk wr BK471 4
   have hfz117_0 := bf BK471 0
   have hfz117_1 := bf BK471 1
   have hfz117_2 := bf BK471 2
   have hfz117_3 := bf BK471 3
   have hfz117_4 := bf BK471 4
   go_wp2
   go_meet
   case rel => exact ⟨_, (true), dr, H', ⟨lk2 HJ3 HK2⟩, ⟨bp HP0_⟩, ⟨bp BK471⟩, ⟨bw HB⟩⟩
  intro c115 c115b0 c115b1 H
  have H' := am H
  clear H
  have hnb118 := NB471_0.out
  have hnc118 := NB0_471.out
  have hcz119_0 := bk wr BK471 0
  have hcz119_1 := bk wr BK471 1
  have hcz119_2 := bk wr BK471 2
  have hcz119_3 := bk wr BK471 3
  have hcz119_4 := bk wr BK471 4
  have hfz119_0 := bf BK471 0
  have hfz119_1 := bf BK471 1
  have hfz119_2 := bf BK471 2
  have hfz119_3 := bf BK471 3
  have hfz119_4 := bf BK471 4
  go_wp2
  go_meet
  case rel => exact ⟨_, ((a2_1 == 33)), dr, H', ⟨lk2 HJ3 HK2⟩, ⟨bp HP0_⟩, ⟨bp BK471⟩, ⟨bw HB⟩⟩
 clear HC109
 (try clear p4); (try clear q4); (try clear hx4); (try clear c8); (try clear c9); (try clear c42); (try clear c48); (try clear p48); (try clear q48); (try clear hx48); (try clear c85); (try clear c85b0); (try clear c85b1); (try clear c86); (try clear c86b0); (try clear c86b1); (try clear c87); (try clear c87b0); (try clear c87b1); (try clear c92); (try clear c94); (try clear c96); (try clear c96b0); (try clear c96b1); (try clear c98); (try clear c99); (try clear c99b0); (try clear c100); (try clear c100b0); (try clear c101); (try clear c105); (try clear c110); (try clear c112); (try clear c112b0); (try clear c112b1); (try clear c113); (try clear c115); (try clear c115b0); (try clear c115b1); (try clear c116); (try clear c118); (try clear hcz102_0); (try clear hcz102_1); (try clear hcz102_2); (try clear hcz102_3); (try clear hcz102_4); (try clear hcz106_0); (try clear hcz106_1); (try clear hcz106_2); (try clear hcz106_3); (try clear hcz106_4); (try clear hcz111_0); (try clear hcz111_1); (try clear hcz111_2); (try clear hcz111_3); (try clear hcz111_4); (try clear hcz114_0); (try clear hcz114_1); (try clear hcz114_2); (try clear hcz114_3); (try clear hcz114_4); (try clear hcz117_0); (try clear hcz117_1); (try clear hcz117_2); (try clear hcz117_3); (try clear hcz117_4); (try clear hcz119_0); (try clear hcz119_1); (try clear hcz119_2); (try clear hcz119_3); (try clear hcz119_4); (try clear hcz90_0); (try clear hcz90_1); (try clear hcz90_2); (try clear hcz90_3); (try clear hcz90_4); (try clear hcz93_0); (try clear hcz93_1); (try clear hcz93_2); (try clear hcz93_3); (try clear hcz93_4); (try clear hcz95_0); (try clear hcz95_1); (try clear hcz95_2); (try clear hcz95_3); (try clear hcz95_4); (try clear hfz102_0); (try clear hfz102_1); (try clear hfz102_2); (try clear hfz102_3); (try clear hfz102_4); (try clear hfz106_0); (try clear hfz106_1); (try clear hfz106_2); (try clear hfz106_3); (try clear hfz106_4); (try clear hfz111_0); (try clear hfz111_1); (try clear hfz111_2); (try clear hfz111_3); (try clear hfz111_4); (try clear hfz114_0); (try clear hfz114_1); (try clear hfz114_2); (try clear hfz114_3); (try clear hfz114_4); (try clear hfz117_0); (try clear hfz117_1); (try clear hfz117_2); (try clear hfz117_3); (try clear hfz117_4); (try clear hfz119_0); (try clear hfz119_1); (try clear hfz119_2); (try clear hfz119_3); (try clear hfz119_4); (try clear hfz90_0); (try clear hfz90_1); (try clear hfz90_2); (try clear hfz90_3); (try clear hfz90_4); (try clear hfz93_0); (try clear hfz93_1); (try clear hfz93_2); (try clear hfz93_3); (try clear hfz93_4); (try clear hfz95_0); (try clear hfz95_1); (try clear hfz95_2); (try clear hfz95_3); (try clear hfz95_4); (try clear hx481_0); (try clear hx481_1); (try clear hx481_2); (try clear p481); (try clear q481)
 obtain ⟨kq, x161_108, rfl, HA, HJ108, HP0_, BK471, HB⟩ := hcut
 as_aux_lemma =>
 rcases kq with _ | kj108
 ·exact absurd HA.out (by simp [impl_prog_insRight.j2])
 have H := HA.out
 clear HA
 simp only [impl_prog_insRight.j2] at H
 refine qT H ?_ ?_ <;> clear H <;> intro c120 H <;> subst c120
 ·as_aux_lemma =>
  by_cases c121 : (a2_2 == (-1)) = true
  ·as_aux_lemma =>
   rw [if_pos c121] at H
   have c121b0 : (a2_2 == (-1)) = true := c121
   (try (have c121b1 : decide (a2_2 = (-1)) = true := by simpa using c121))
   (try (have c121b2 : (a2_2 == (-1)) = true := by simpa using c121))
   clear c121
   refine be H ?_; clear H; intro t482 A122 H
   by_cases c123 : (l2_3.length : Int) = t482
   ·as_aux_lemma =>
    rw [if_pos c123] at H
    have c123b0 : ((l2_3.length : Int) == t482) = true := beq_iff_eq.mpr c123
    have c123b1 : ((l2_3.length : Int) != t482) = false := bne_eq_false_iff_eq.mpr c123
    clear c123
    obtain rfl := Option.some.inj H
    try go_wp2
    replace HP0_ := am (blk_drew HP0_.out)
    replace BK471 := am (blk_drew BK471.out)
    replace HB := am (below_drew1 HB.out)
    refine start_ (n := 19) (S := fun w' => w'.cell? ⟨g0_, 0, none⟩ = some (.slice A0_0 l0_0.length c0_0) ∧ w'.cell? ⟨g0_, 1, none⟩ = some (.slice A0_1 l0_1.length c0_1) ∧ w'.cell? ⟨gb471, 0, none⟩ = some (.slice A2_0 l2_0.length c2_0) ∧ w'.cell? ⟨gb471, 1, none⟩ = some (.int .i64 a2_1) ∧ w'.cell? ⟨gb471, 2, none⟩ = some (.int .i64 a2_2) ∧ w'.cell? ⟨gb471, 3, none⟩ = some (.slice A2_3 l2_3.length c2_3) ∧ w'.cell? ⟨gb471, 4, none⟩ = some (.int .i64 a2_4)) (ds := []) (bv 19 0) (by kernel_rfl) rfl (by kernel_rfl) ⟨bc HP0_ 0, bc HP0_ 1, bc BK471 0, bc BK471 1, bc BK471 2, bc BK471 3, bc BK471 4⟩ (fun hHeld => ?_); refine with_tabW impl_prog_insRight.tab24 impl_prog_insRight.bits24 (fun HT_ HW_ => ?_)
    generalize wc.drew = w124 at HP0_ BK471 HB hHeld ⊢
    refine pu 0 175 19 1 HT_ ?_
    refine pu 1 176 19 3 HT_ ?_
    refine pu 2 177 19 7 HT_ ?_
    refine pu 3 178 19 15 HT_ ?_
    refine pu 4 179 19 31 HT_ ?_
    refine pu 5 180 19 63 HT_ ?_
    refine pu 7 182 19 191 HT_ ?_
    refine tk 6 181 19 255 HT_ HW_ hHeld ?_
    refine tk 8 183 19 511 HT_ HW_ hHeld ?_
    refine pu 9 184 19 1023 HT_ ?_
    refine on 10 (some 185) 19 2047 HT_ fun K hK => ?_
    refine goes_ Try.func68 (by kernel_rfl) rfl #[.agg #[.slice A0_0 l0_0.length c0_0], .agg #[.int .i64 a2_1, .int .i64 0]] (by rfl) rfl rfl gl ?_
    with_reducible refine (impl_Takes.calls kj108 _ _ l0_0 a2_1 0 t482 _ ?side1 ?side2 A122.out).mono ?_
    (case side1 => exact cc (Kd.C_below HR0_0.out HB.out))
    (case side2 => exact HC0_0.out)
    rintro e w125 ⟨rfl, hb⟩
    refine ⟨_, rfl, ?_⟩
    replace HP0_ := bb HP0_ hb
    replace BK471 := bb BK471 hb
    replace HB := am (below_step (bw HB) hb)
    clear hb
    refine hK.out _ _ ⟨bc HP0_ 0, bc HP0_ 1, bc BK471 0, bc BK471 1, bc BK471 2, bc BK471 3, bc BK471 4⟩ (fun hHeld => ?_)
    clear hK K
    refine nm (some 185) ?_
    refine pu 11 186 19 4095 HT_ ?_
    refine pu 12 187 19 8191 HT_ ?_
    refine pu 13 188 19 16383 HT_ ?_
    refine pu 14 189 19 32767 HT_ ?_
    refine tk 15 190 19 65535 HT_ HW_ hHeld ?_
    refine pu 16 191 19 131071 HT_ ?_
    refine pu 17 192 19 262143 HT_ ?_
    refine pu 18 6 19 524287 HT_ ?_
    refine done_ (done_of HT_.out (by kernel_rfl)) ?_
    try go_wp2
    go_ret
    exact ⟨er, bw HB⟩
   rw [if_neg c123] at H
   have c123b0 : ((l2_3.length : Int) == t482) = false := beq_eq_false_iff_ne.mpr c123
   have c123b1 : ((l2_3.length : Int) != t482) = true := bne_iff_ne.mpr c123
   obtain rfl := Option.some.inj H
   try go_wp2
   replace HP0_ := am (blk_drew HP0_.out)
   replace BK471 := am (blk_drew BK471.out)
   replace HB := am (below_drew1 HB.out)
   refine start_ (n := 19) (S := fun w' => w'.cell? ⟨g0_, 0, none⟩ = some (.slice A0_0 l0_0.length c0_0) ∧ w'.cell? ⟨g0_, 1, none⟩ = some (.slice A0_1 l0_1.length c0_1) ∧ w'.cell? ⟨gb471, 0, none⟩ = some (.slice A2_0 l2_0.length c2_0) ∧ w'.cell? ⟨gb471, 1, none⟩ = some (.int .i64 a2_1) ∧ w'.cell? ⟨gb471, 2, none⟩ = some (.int .i64 a2_2) ∧ w'.cell? ⟨gb471, 3, none⟩ = some (.slice A2_3 l2_3.length c2_3) ∧ w'.cell? ⟨gb471, 4, none⟩ = some (.int .i64 a2_4)) (ds := []) (bv 19 0) (by kernel_rfl) rfl (by kernel_rfl) ⟨bc HP0_ 0, bc HP0_ 1, bc BK471 0, bc BK471 1, bc BK471 2, bc BK471 3, bc BK471 4⟩ (fun hHeld => ?_); refine with_tabW impl_prog_insRight.tab24 impl_prog_insRight.bits24 (fun HT_ HW_ => ?_)
   generalize wc.drew = w126 at HP0_ BK471 HB hHeld ⊢
   refine pu 0 175 19 1 HT_ ?_
   refine pu 1 176 19 3 HT_ ?_
   refine pu 2 177 19 7 HT_ ?_
   refine pu 3 178 19 15 HT_ ?_
   refine pu 4 179 19 31 HT_ ?_
   refine pu 5 180 19 63 HT_ ?_
   refine pu 7 182 19 191 HT_ ?_
   refine tk 6 181 19 255 HT_ HW_ hHeld ?_
   refine tk 8 183 19 511 HT_ HW_ hHeld ?_
   refine pu 9 184 19 1023 HT_ ?_
   refine on 10 (some 185) 19 2047 HT_ fun K hK => ?_
   refine goes_ Try.func68 (by kernel_rfl) rfl #[.agg #[.slice A0_0 l0_0.length c0_0], .agg #[.int .i64 a2_1, .int .i64 0]] (by rfl) rfl rfl gl ?_
   with_reducible refine (impl_Takes.calls kj108 _ _ l0_0 a2_1 0 t482 _ ?side1 ?side2 A122.out).mono ?_
   (case side1 => exact cc (Kd.C_below HR0_0.out HB.out))
   (case side2 => exact HC0_0.out)
   rintro e w127 ⟨rfl, hb⟩
   refine ⟨_, rfl, ?_⟩
   replace HP0_ := bb HP0_ hb
   replace BK471 := bb BK471 hb
   replace HB := am (below_step (bw HB) hb)
   clear hb
   refine hK.out _ _ ⟨bc HP0_ 0, bc HP0_ 1, bc BK471 0, bc BK471 1, bc BK471 2, bc BK471 3, bc BK471 4⟩ (fun hHeld => ?_)
   clear hK K
   refine nm (some 185) ?_
   refine pu 11 186 19 4095 HT_ ?_
   refine pu 12 187 19 8191 HT_ ?_
   refine pu 13 188 19 16383 HT_ ?_
   refine pn 14 189 19 32767 HT_ ?_
   refine pn 15 190 19 65535 HT_ ?_
   refine pn 16 191 19 131071 HT_ ?_
   refine pu 17 192 19 262143 HT_ ?_
   refine pu 18 6 19 524287 HT_ ?_
   refine done_ (done_of HT_.out (by kernel_rfl)) ?_
   try go_wp2
   go_ret
   exact ⟨er, bw HB⟩
  rw [if_neg c121] at H
  have c121b0 : (a2_2 == (-1)) = false := by simpa using c121
  (try (have c121b1 : decide (a2_2 = (-1)) = false := by simpa using c121))
  (try (have c121b2 : (a2_2 == (-1)) = false := by simpa using c121))
  (try (have c121b3 : ¬ (a2_2 = (-1)) := by simpa using c121))
  clear c121
  obtain rfl := Option.some.inj H
  try go_wp2
  replace HP0_ := am (blk_drew HP0_.out)
  replace BK471 := am (blk_drew BK471.out)
  replace HB := am (below_drew1 HB.out)
  refine start_ (n := 19) (S := fun w' => True) (ds := []) (bv 19 0) (by kernel_rfl) rfl (by kernel_rfl) trivial (fun hHeld => ?_); refine with_tabW impl_prog_insRight.tab24 impl_prog_insRight.bits24 (fun HT_ HW_ => ?_)
  generalize wc.drew = w128 at HP0_ BK471 HB hHeld ⊢
  refine pu 0 175 19 1 HT_ ?_
  refine pu 1 176 19 3 HT_ ?_
  refine pn 2 177 19 7 HT_ ?_
  refine pn 3 178 19 15 HT_ ?_
  refine pn 4 179 19 31 HT_ ?_
  refine pn 5 180 19 63 HT_ ?_
  refine pn 6 181 19 127 HT_ ?_
  refine pn 7 182 19 255 HT_ ?_
  refine pn 8 183 19 511 HT_ ?_
  refine pn 9 184 19 1023 HT_ ?_
  refine pn 10 185 19 2047 HT_ ?_
  refine pn 11 186 19 4095 HT_ ?_
  refine pu 12 187 19 8191 HT_ ?_
  refine pu 13 188 19 16383 HT_ ?_
  refine pn 14 189 19 32767 HT_ ?_
  refine pn 15 190 19 65535 HT_ ?_
  refine pn 16 191 19 131071 HT_ ?_
  refine pu 17 192 19 262143 HT_ ?_
  refine pu 18 6 19 524287 HT_ ?_
  refine done_ (done_of HT_.out (by kernel_rfl)) ?_
  try go_wp2
  go_ret
  exact ⟨er, bw HB⟩
 have HC129 := am H
 clear H
 go_upto_region 25 with (fail)
 go_cut [193] (fun v193 wc => ∃ (kq : Nat) (x193_128 : Bool), v193 = .bool x193_128 ∧ Aside0 (impl_prog_insRight.j3 kq (l2_3.length : Int) x193_128 l0_0 l0_1 l2_0 a2_1 a2_2 l2_3 a2_4 = some r) ∧ Aside0 (kq ≤ kj108) ∧ Aside0 (wc.heap[g0_]? = some (.cells #[(.slice A0_0 l0_0.length c0_0), (.slice A0_1 l0_1.length c0_1)] 101 (0, 0))) ∧ Aside0 (wc.heap[gb471]? = some (.cells #[(.slice A2_0 l2_0.length c2_0), .int .i64 a2_1, .int .i64 a2_2, (.slice A2_3 l2_3.length c2_3), .int .i64 a2_4] 59 (0, 0))) ∧ Aside0 (Below w.heap.size w wc))
 case first => as_aux_lemma =>
  have H := HC129.out
  clear HC129
  refine be H ?_; clear H; intro t483 A130 H
  refine qT H ?_ ?_ <;> clear H <;> intro c131 H <;> subst c131
  ·have H' := am H
   clear H
   have hnb132 := NB471_0.out
   have hnc132 := NB0_471.out
   have hcz133_0 := bk wc BK471 0
   have hcz133_1 := bk wc BK471 1
   have hcz133_2 := bk wc BK471 2
   have hcz133_3 := bk wc BK471 3
   have hcz133_4 := bk wc BK471 4
   have hfz133_0 := bf BK471 0
   have hfz133_1 := bf BK471 1
   have hfz133_2 := bf BK471 2
   have hfz133_3 := bf BK471 3
   have hfz133_4 := bf BK471 4
   go_wp2_with (first | ((with_reducible refine gate_callee (f := 69) rfl ?_); refine goesL_ (some 196) rfl rfl Try.func69 (by kernel_rfl) rfl #[.int .i64 a2_1] rfl gl ?_; (with_reducible refine (impl_isArith.calls a2_1 true _ A130.out).mono ?_); rintro e w' ⟨rfl, ⟨nd, rfl⟩⟩; refine ⟨_, rfl, ?_⟩))
   go_meet
   case rel => exact ⟨_, (true), dr, H', ⟨lk3 HJ3 HK2 HJ108⟩, ⟨bp HP0_⟩, ⟨bp BK471⟩, ⟨bw HB⟩⟩
  refine qE H ?_ ?_ <;> clear H
  ·intro c134b0 c134b1 H
   (first | rw [c134b0] | (simp only [i64_w, i32_w]; rw [c134b0]) | skip)
   have H' := am H
   clear H
   have hnb135 := NB471_0.out
   have hnc135 := NB0_471.out
   have hcz136_0 := bk wc BK471 0
   have hcz136_1 := bk wc BK471 1
   have hcz136_2 := bk wc BK471 2
   have hcz136_3 := bk wc BK471 3
   have hcz136_4 := bk wc BK471 4
   have hfz136_0 := bf BK471 0
   have hfz136_1 := bf BK471 1
   have hfz136_2 := bf BK471 2
   have hfz136_3 := bf BK471 3
   have hfz136_4 := bf BK471 4
   go_wp2_with (first | ((with_reducible refine gate_callee (f := 69) rfl ?_); refine goesL_ (some 196) rfl rfl Try.func69 (by kernel_rfl) rfl #[.int .i64 a2_1] rfl gl ?_; (with_reducible refine (impl_isArith.calls a2_1 false _ A130.out).mono ?_); rintro e w' ⟨rfl, ⟨nd, rfl⟩⟩; refine ⟨_, rfl, ?_⟩))
   go_meet
   case rel => exact ⟨_, (true), dr, H', ⟨lk3 HJ3 HK2 HJ108⟩, ⟨bp HP0_⟩, ⟨bp BK471⟩, ⟨bw HB⟩⟩
  intro c134 c134b0 c134b1 H
  (first | rw [c134b0] | (simp only [i64_w, i32_w]; rw [c134b0]) | skip)
  refine qE H ?_ ?_ <;> clear H
  ·intro c137b0 c137b1 H
   have H' := am H
   clear H
   have hnb138 := NB471_0.out
   have hnc138 := NB0_471.out
   have hcz139_0 := bk wc BK471 0
   have hcz139_1 := bk wc BK471 1
   have hcz139_2 := bk wc BK471 2
   have hcz139_3 := bk wc BK471 3
   have hcz139_4 := bk wc BK471 4
   have hfz139_0 := bf BK471 0
   have hfz139_1 := bf BK471 1
   have hfz139_2 := bf BK471 2
   have hfz139_3 := bf BK471 3
   have hfz139_4 := bf BK471 4
   go_wp2_with (first | ((with_reducible refine gate_callee (f := 69) rfl ?_); refine goesL_ (some 196) rfl rfl Try.func69 (by kernel_rfl) rfl #[.int .i64 a2_1] rfl gl ?_; (with_reducible refine (impl_isArith.calls a2_1 false _ A130.out).mono ?_); rintro e w' ⟨rfl, ⟨nd, rfl⟩⟩; refine ⟨_, rfl, ?_⟩))
   go_meet
   case rel => exact ⟨_, (true), dr, H', ⟨lk3 HJ3 HK2 HJ108⟩, ⟨bp HP0_⟩, ⟨bp BK471⟩, ⟨bw HB⟩⟩
  intro c137 c137b0 c137b1 H
  have H' := am H
  clear H
  have hnb140 := NB471_0.out
  have hnc140 := NB0_471.out
  have hcz141_0 := bk wc BK471 0
  have hcz141_1 := bk wc BK471 1
  have hcz141_2 := bk wc BK471 2
  have hcz141_3 := bk wc BK471 3
  have hcz141_4 := bk wc BK471 4
  have hfz141_0 := bf BK471 0
  have hfz141_1 := bf BK471 1
  have hfz141_2 := bf BK471 2
  have hfz141_3 := bf BK471 3
  have hfz141_4 := bf BK471 4
  go_wp2_with (first | ((with_reducible refine gate_callee (f := 69) rfl ?_); refine goesL_ (some 196) rfl rfl Try.func69 (by kernel_rfl) rfl #[.int .i64 a2_1] rfl gl ?_; (with_reducible refine (impl_isArith.calls a2_1 false _ A130.out).mono ?_); rintro e w' ⟨rfl, ⟨nd, rfl⟩⟩; refine ⟨_, rfl, ?_⟩))
  go_meet
  case rel => exact ⟨_, ((a2_1 == 37)), dr, H', ⟨lk3 HJ3 HK2 HJ108⟩, ⟨bp HP0_⟩, ⟨bp BK471⟩, ⟨bw HB⟩⟩
 clear HC129
 (try clear c13); (try clear c14); (try clear c68); (try clear c69); (try clear c120); (try clear c121); (try clear c121b0); (try clear c121b1); (try clear c121b2); (try clear c123); (try clear c123b0); (try clear c123b1); (try clear c131); (try clear c132); (try clear c134); (try clear c134b0); (try clear c134b1); (try clear c135); (try clear c137); (try clear c137b0); (try clear c137b1); (try clear c138); (try clear c140); (try clear hcz133_0); (try clear hcz133_1); (try clear hcz133_2); (try clear hcz133_3); (try clear hcz133_4); (try clear hcz136_0); (try clear hcz136_1); (try clear hcz136_2); (try clear hcz136_3); (try clear hcz136_4); (try clear hcz139_0); (try clear hcz139_1); (try clear hcz139_2); (try clear hcz139_3); (try clear hcz139_4); (try clear hcz141_0); (try clear hcz141_1); (try clear hcz141_2); (try clear hcz141_3); (try clear hcz141_4); (try clear hfz133_0); (try clear hfz133_1); (try clear hfz133_2); (try clear hfz133_3); (try clear hfz133_4); (try clear hfz136_0); (try clear hfz136_1); (try clear hfz136_2); (try clear hfz136_3); (try clear hfz136_4); (try clear hfz139_0); (try clear hfz139_1); (try clear hfz139_2); (try clear hfz139_3); (try clear hfz139_4); (try clear hfz141_0); (try clear hfz141_1); (try clear hfz141_2); (try clear hfz141_3); (try clear hfz141_4)
 obtain ⟨kq, x193_128, rfl, HA, HJ128, HP0_, BK471, HB⟩ := hcut
 as_aux_lemma =>
 rcases kq with _ | kj128
 ·exact absurd HA.out (by simp [impl_prog_insRight.j3])
 have H := HA.out
 clear HA
 simp only [impl_prog_insRight.j3] at H
 refine qT H ?_ ?_ <;> clear H <;> intro c142 H <;> subst c142
 ·as_aux_lemma =>
  refine be H ?_; clear H; intro t484 A143 H
  by_cases c144 : (l2_3.length : Int) = t484
  ·as_aux_lemma =>
   rw [if_pos c144] at H
   have c144b0 : ((l2_3.length : Int) == t484) = true := beq_iff_eq.mpr c144
   have c144b1 : ((l2_3.length : Int) != t484) = false := bne_eq_false_iff_eq.mpr c144
   clear c144
   obtain rfl := Option.some.inj H
   try go_wp2
   replace HP0_ := am (blk_drew HP0_.out)
   replace BK471 := am (blk_drew BK471.out)
   replace HB := am (below_drew1 HB.out)
   refine start_ (n := 16) (S := fun w' => w'.cell? ⟨g0_, 0, none⟩ = some (.slice A0_0 l0_0.length c0_0) ∧ w'.cell? ⟨g0_, 1, none⟩ = some (.slice A0_1 l0_1.length c0_1) ∧ w'.cell? ⟨gb471, 0, none⟩ = some (.slice A2_0 l2_0.length c2_0) ∧ w'.cell? ⟨gb471, 1, none⟩ = some (.int .i64 a2_1) ∧ w'.cell? ⟨gb471, 2, none⟩ = some (.int .i64 a2_2) ∧ w'.cell? ⟨gb471, 3, none⟩ = some (.slice A2_3 l2_3.length c2_3) ∧ w'.cell? ⟨gb471, 4, none⟩ = some (.int .i64 a2_4)) (ds := []) (bv 16 0) (by kernel_rfl) rfl (by kernel_rfl) ⟨bc HP0_ 0, bc HP0_ 1, bc BK471 0, bc BK471 1, bc BK471 2, bc BK471 3, bc BK471 4⟩ (fun hHeld => ?_); refine with_tabW impl_prog_insRight.tab26 impl_prog_insRight.bits26 (fun HT_ HW_ => ?_)
   generalize wc.drew = w145 at HP0_ BK471 HB hHeld ⊢
   refine pu 0 212 16 1 HT_ ?_
   refine pu 1 213 16 3 HT_ ?_
   refine pu 2 214 16 7 HT_ ?_
   refine pu 3 215 16 15 HT_ ?_
   refine pu 5 217 16 47 HT_ ?_
   refine tk 4 216 16 63 HT_ HW_ hHeld ?_
   refine tk 6 218 16 127 HT_ HW_ hHeld ?_
   refine pu 7 219 16 255 HT_ ?_
   refine on 8 (some 220) 16 511 HT_ fun K hK => ?_
   refine goes_ Try.func68 (by kernel_rfl) rfl #[.agg #[.slice A0_0 l0_0.length c0_0], .agg #[.int .i64 a2_1, .int .i64 0]] (by rfl) rfl rfl gl ?_
   with_reducible refine (impl_Takes.calls kj128 _ _ l0_0 a2_1 0 t484 _ ?side1 ?side2 A143.out).mono ?_
   (case side1 => exact cc (Kd.C_below HR0_0.out HB.out))
   (case side2 => exact HC0_0.out)
   rintro e w146 ⟨rfl, hb⟩
   refine ⟨_, rfl, ?_⟩
   replace HP0_ := bb HP0_ hb
   replace BK471 := bb BK471 hb
   replace HB := am (below_step (bw HB) hb)
   clear hb
   refine hK.out _ _ ⟨bc HP0_ 0, bc HP0_ 1, bc BK471 0, bc BK471 1, bc BK471 2, bc BK471 3, bc BK471 4⟩ (fun hHeld => ?_)
   clear hK K
   refine nm (some 220) ?_
   refine pu 9 221 16 1023 HT_ ?_
   refine pu 10 222 16 2047 HT_ ?_
   refine pu 11 223 16 4095 HT_ ?_
   refine tk 12 224 16 8191 HT_ HW_ hHeld ?_
   refine pu 13 225 16 16383 HT_ ?_
   refine pu 14 226 16 32767 HT_ ?_
   refine pu 15 6 16 65535 HT_ ?_
   refine done_ (done_of HT_.out (by kernel_rfl)) ?_
   try go_wp2
   go_ret
   exact ⟨er, bw HB⟩
  rw [if_neg c144] at H
  have c144b0 : ((l2_3.length : Int) == t484) = false := beq_eq_false_iff_ne.mpr c144
  have c144b1 : ((l2_3.length : Int) != t484) = true := bne_iff_ne.mpr c144
  obtain rfl := Option.some.inj H
  try go_wp2
  replace HP0_ := am (blk_drew HP0_.out)
  replace BK471 := am (blk_drew BK471.out)
  replace HB := am (below_drew1 HB.out)
  refine start_ (n := 16) (S := fun w' => w'.cell? ⟨g0_, 0, none⟩ = some (.slice A0_0 l0_0.length c0_0) ∧ w'.cell? ⟨g0_, 1, none⟩ = some (.slice A0_1 l0_1.length c0_1) ∧ w'.cell? ⟨gb471, 0, none⟩ = some (.slice A2_0 l2_0.length c2_0) ∧ w'.cell? ⟨gb471, 1, none⟩ = some (.int .i64 a2_1) ∧ w'.cell? ⟨gb471, 2, none⟩ = some (.int .i64 a2_2) ∧ w'.cell? ⟨gb471, 3, none⟩ = some (.slice A2_3 l2_3.length c2_3) ∧ w'.cell? ⟨gb471, 4, none⟩ = some (.int .i64 a2_4)) (ds := []) (bv 16 0) (by kernel_rfl) rfl (by kernel_rfl) ⟨bc HP0_ 0, bc HP0_ 1, bc BK471 0, bc BK471 1, bc BK471 2, bc BK471 3, bc BK471 4⟩ (fun hHeld => ?_); refine with_tabW impl_prog_insRight.tab26 impl_prog_insRight.bits26 (fun HT_ HW_ => ?_)
  generalize wc.drew = w147 at HP0_ BK471 HB hHeld ⊢
  refine pu 0 212 16 1 HT_ ?_
  refine pu 1 213 16 3 HT_ ?_
  refine pu 2 214 16 7 HT_ ?_
  refine pu 3 215 16 15 HT_ ?_
  refine pu 5 217 16 47 HT_ ?_
  refine tk 4 216 16 63 HT_ HW_ hHeld ?_
  refine tk 6 218 16 127 HT_ HW_ hHeld ?_
  refine pu 7 219 16 255 HT_ ?_
  refine on 8 (some 220) 16 511 HT_ fun K hK => ?_
  refine goes_ Try.func68 (by kernel_rfl) rfl #[.agg #[.slice A0_0 l0_0.length c0_0], .agg #[.int .i64 a2_1, .int .i64 0]] (by rfl) rfl rfl gl ?_
  with_reducible refine (impl_Takes.calls kj128 _ _ l0_0 a2_1 0 t484 _ ?side1 ?side2 A143.out).mono ?_
  (case side1 => exact cc (Kd.C_below HR0_0.out HB.out))
  (case side2 => exact HC0_0.out)
  rintro e w148 ⟨rfl, hb⟩
  refine ⟨_, rfl, ?_⟩
  replace HP0_ := bb HP0_ hb
  replace BK471 := bb BK471 hb
  replace HB := am (below_step (bw HB) hb)
  clear hb
  refine hK.out _ _ ⟨bc HP0_ 0, bc HP0_ 1, bc BK471 0, bc BK471 1, bc BK471 2, bc BK471 3, bc BK471 4⟩ (fun hHeld => ?_)
  clear hK K
  refine nm (some 220) ?_
  refine pu 9 221 16 1023 HT_ ?_
  refine pu 10 222 16 2047 HT_ ?_
  refine pn 11 223 16 4095 HT_ ?_
  refine pn 12 224 16 8191 HT_ ?_
  refine pn 13 225 16 16383 HT_ ?_
  refine pu 14 226 16 32767 HT_ ?_
  refine pu 15 6 16 65535 HT_ ?_
  refine done_ (done_of HT_.out (by kernel_rfl)) ?_
  try go_wp2
  go_ret
  exact ⟨er, bw HB⟩
 obtain rfl := Option.some.inj H
 go_wp2
 go_ret
 exact ⟨er, bw HB⟩

end Go.Proofs.Ytmfhmfhkknijeaa.QFnExactAsmRight
