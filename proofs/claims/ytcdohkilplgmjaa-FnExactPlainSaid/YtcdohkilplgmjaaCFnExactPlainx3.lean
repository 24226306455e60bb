import Derived.Test.YtcdohkilplgmjaaCFnExactPlainx0
import Derived.Test.YtcdohkilplgmjaaCFnExactPlainx1
import Derived.Test.YtcdohkilplgmjaaCFnExactPlainx2
namespace Go.Proofs.Ytcdohkilplgmjaa.QFnExactPlain
open Go.RowKit Go.Proofs.YtcdohkilplgmjaaW
open PrintWords PrintLast PrintMore PrintShort PrintIsh
attribute [local go_sem] max2_int min2_int max_two min_two max_three min_three max_four min_four   -- for this text's walks alone
set_option linter.unusedVariables false
set_option maxHeartbeats 8000000
set_option maxRecDepth 100000
set_option linter.unusedSimpArgs false

mutual
def spec_l04Heights.l0 : Nat → Int → List (S59) → List Int → Int → List (S53) → Option (List Int × Int × Int × Int)
 | 0, _, _, _, _, _ => none
 | k + 1, x1, x6, x7, x8, x117000 => if x8 < (x7.length : Int) then (if 0 ≤ x8 then (spec_l04Heights.l0 k x1 x6 (x7.set (x8 : Int).toNat (-1)) (wrap64 (x8 + 1)) x117000) else (none)) else (if 0 < (x7.length : Int) then (if 0 ≤ (x6.length : Int) then (if ((x6.length : Int) : Int).toNat ≤ 281474976710656 then ((some (List.replicate ((x6.length : Int) : Int).toNat false : List Bool)).bind fun y124 => (if 0 < (y124.length : Int) then (spec_l04Heights.l1 k x1 x6 (x7.set (0 : Int).toNat 0) (y124.set (0 : Int).toNat true) x117000) else (none))) else (none)) else (none)) else (none))
def spec_l04Heights.l1 : Nat → Int → List (S59) → List Int → List Bool → List (S53) → Option (List Int × Int × Int × Int)
 | 0, _, _, _, _, _ => none
 | k + 1, x1, x6, x7, x9, x117000 => (spec_l04Least.f k x9).bind fun t128 => (if t128 < 0 then (some (x7, 0, 0, 0)) else (if 0 ≤ t128 then (if t128 < (x9.length : Int) then ((some (x9.set (t128 : Int).toNat false : List Bool)).bind fun y129 => (if t128 < (x6.length : Int) then ((spec_Takes.f k x117000 ((rd_T59 x6 t128).f0) ((rd_T59 x6 t128).f1)).bind fun t133 => (if t128 < (x7.length : Int) then ((spec_Puts.f k ((rd_T59 x6 t128).f0) ((rd_T59 x6 t128).f1)).bind fun t135 => (if t133 > (rd x7 t128) then (spec_l04Heights.j2 k x1 x6 x7 y129 t128 (wrap64 ((wrap64 ((rd x7 t128) - t133)) + t135)) true x117000 ((rd_T59 x6 t128).f0) ((rd_T59 x6 t128).f1) x1 t128 5) else (spec_l04Heights.j2 k x1 x6 x7 y129 t128 (wrap64 ((wrap64 ((rd x7 t128) - t133)) + t135)) (decide ((wrap64 ((wrap64 ((rd x7 t128) - t133)) + t135)) > 8)) x117000 ((rd_T59 x6 t128).f0) ((rd_T59 x6 t128).f1) x1 t128 5))) else (none))) else (none))) else (none)) else (none)))
def spec_l04Heights.j2 : Nat → Int → List (S59) → List Int → List Bool → Int → Int → Bool → List (S53) → Int → Int → Int → Int → Int → Option (List Int × Int × Int × Int)
 | 0, _, _, _, _, _, _, _, _, _, _, _, _, _ => none
 | k + 1, x1, x6, x7, x9, x10, x14, x79, x117000, x132000, x132001, x133000, x133001, x133002 => if x79 = true then (some (x7, x133000, x133001, x133002)) else ((some (([] : List Int) : List Int)).bind fun y137 => (if x132000 = 30 then (spec_l04Heights.j3 k x1 x6 x7 x9 x10 x14 y137 false x117000 x132000 x132001 x133000 x133001 x133002) else (spec_l04Heights.j3 k x1 x6 x7 x9 x10 x14 y137 (x132000 != 33) x117000 x132000 x132001 x133000 x133001 x133002)))
def spec_l04Heights.j3 : Nat → Int → List (S59) → List Int → List Bool → Int → Int → List Int → Bool → List (S53) → Int → Int → Int → Int → Int → Option (List Int × Int × Int × Int)
 | 0, _, _, _, _, _, _, _, _, _, _, _, _, _, _ => none
 | k + 1, x1, x6, x7, x9, x10, x14, x15, x90, x117000, x132000, x132001, x133000, x133001, x133002 => if x90 = true then (if x15.length < 17592186044416 then (spec_l04Heights.j4 k x1 x6 x7 x9 x14 (x15 ++ [wrap64 (x10 + 1)]) x117000 x132000 x132001 x133000 x133001 x133002) else (none)) else (spec_l04Heights.j4 k x1 x6 x7 x9 x14 x15 x117000 x132000 x132001 x133000 x133001 x133002)
def spec_l04Heights.j4 : Nat → Int → List (S59) → List Int → List Bool → Int → List Int → List (S53) → Int → Int → Int → Int → Int → Option (List Int × Int × Int × Int)
 | 0, _, _, _, _, _, _, _, _, _, _, _, _ => none
 | k + 1, x1, x6, x7, x9, x14, x15, x117000, x132000, x132001, x133000, x133001, x133002 => if x132000 = 30 then (spec_l04Heights.j5 k x1 x6 x7 x9 x14 x15 true x117000 x132000 x132001 x133000 x133001 x133002) else (spec_l04Heights.j5 k x1 x6 x7 x9 x14 x15 (x132000 == 31) x117000 x132000 x132001 x133000 x133001 x133002)
def spec_l04Heights.j5 : Nat → Int → List (S59) → List Int → List Bool → Int → List Int → Bool → List (S53) → Int → Int → Int → Int → Int → Option (List Int × Int × Int × Int)
 | 0, _, _, _, _, _, _, _, _, _, _, _, _, _ => none
 | k + 1, x1, x6, x7, x9, x14, x15, x103, x117000, x132000, x132001, x133000, x133001, x133002 => if x103 = true then (if x15.length < 17592186044416 then (spec_l04Heights.j6 k x1 x6 x7 x9 x14 (x15 ++ [x132001]) x117000 x133000 x133001 x133002) else (none)) else (spec_l04Heights.j6 k x1 x6 x7 x9 x14 x15 x117000 x133000 x133001 x133002)
def spec_l04Heights.j6 : Nat → Int → List (S59) → List Int → List Bool → Int → List Int → List (S53) → Int → Int → Int → Option (List Int × Int × Int × Int)
 | 0, _, _, _, _, _, _, _, _, _, _ => none
 | k + 1, x1, x6, x7, x9, x14, x15, x117000, x133000, x133001, x133002 => spec_l04Heights.l2 k x1 x6 x7 x9 x14 x15 0 x117000 x133000 x133001 x133002
def spec_l04Heights.l2 : Nat → Int → List (S59) → List Int → List Bool → Int → List Int → Int → List (S53) → Int → Int → Int → Option (List Int × Int × Int × Int)
 | 0, _, _, _, _, _, _, _, _, _, _, _ => none
 | k + 1, x1, x6, x7, x9, x14, x15, x16, x117000, x133000, x133001, x133002 => if x16 < (x15.length : Int) then (if 0 ≤ x16 then (if (rd x15 x16) ≥ (x6.length : Int) then (some (x7, x133000, x133001, 6)) else (if 0 ≤ (rd x15 x16) then (if (rd x15 x16) < (x7.length : Int) then (if (rd x7 (rd x15 x16)) ≥ 0 then (spec_l04Heights.j8 k x1 x6 x7 x9 x14 x15 x16 ((rd x7 (rd x15 x16)) != x14) x117000 x133000 x133001 x133002) else (spec_l04Heights.j8 k x1 x6 x7 x9 x14 x15 x16 false x117000 x133000 x133001 x133002)) else (none)) else (none))) else (none)) else (spec_l04Heights.l1 k x1 x6 x7 x9 x117000)
def spec_l04Heights.j8 : Nat → Int → List (S59) → List Int → List Bool → Int → List Int → Int → Bool → List (S53) → Int → Int → Int → Option (List Int × Int × Int × Int)
 | 0, _, _, _, _, _, _, _, _, _, _, _, _ => none
 | k + 1, x1, x6, x7, x9, x14, x15, x16, x143, x117000, x133000, x133001, x133002 => if x143 = true then (some (x7, x133000, x133001, x133002)) else (if 0 ≤ x16 then (if x16 < (x15.length : Int) then (if 0 ≤ (rd x15 x16) then (if (rd x15 x16) < (x7.length : Int) then (if (rd x7 (rd x15 x16)) < 0 then (if (rd x15 x16) < (x9.length : Int) then (spec_l04Heights.l2 k x1 x6 (x7.set ((rd x15 x16) : Int).toNat x14) (x9.set ((rd x15 x16) : Int).toNat true) x14 x15 (wrap64 (x16 + 1)) x117000 x133000 x133001 x133002) else (none)) else (spec_l04Heights.l2 k x1 x6 x7 x9 x14 x15 (wrap64 (x16 + 1)) x117000 x133000 x133001 x133002)) else (none)) else (none)) else (none)) else (none))
end
def spec_l04Heights.f (k : Nat) (l0_0 : List (S53)) (a1 : Int) : Option (List Int × Int × Int × Int) := if 0 ≤ a1 then (if a1 < (l0_0.length : Int) then (if 0 ≤ (((rd_T53 l0_0 a1).f2).length : Int) then (if ((((rd_T53 l0_0 a1).f2).length : Int) : Int).toNat ≤ 35184372088832 then (spec_l04Heights.l0 k a1 ((rd_T53 l0_0 a1).f2) (List.replicate ((((rd_T53 l0_0 a1).f2).length : Int) : Int).toNat 0) 0 l0_0) else (none)) else (none)) else (none)) else (none)
theorem spec_l04Heights.mono_l : ∀ k, (∀ y0 y1 y2 y3 y4, LeO (spec_l04Heights.l0 k y0 y1 y2 y3 y4) (spec_l04Heights.l0 (k + 1) y0 y1 y2 y3 y4)) ∧ (∀ y0 y1 y2 y3 y4, LeO (spec_l04Heights.l1 k y0 y1 y2 y3 y4) (spec_l04Heights.l1 (k + 1) y0 y1 y2 y3 y4)) ∧ (∀ y0 y1 y2 y3 y4 y5 y6 y7 y8 y9 y10 y11 y12, LeO (spec_l04Heights.j2 k y0 y1 y2 y3 y4 y5 y6 y7 y8 y9 y10 y11 y12) (spec_l04Heights.j2 (k + 1) y0 y1 y2 y3 y4 y5 y6 y7 y8 y9 y10 y11 y12)) ∧ (∀ y0 y1 y2 y3 y4 y5 y6 y7 y8 y9 y10 y11 y12 y13, LeO (spec_l04Heights.j3 k y0 y1 y2 y3 y4 y5 y6 y7 y8 y9 y10 y11 y12 y13) (spec_l04Heights.j3 (k + 1) y0 y1 y2 y3 y4 y5 y6 y7 y8 y9 y10 y11 y12 y13)) ∧ (∀ y0 y1 y2 y3 y4 y5 y6 y7 y8 y9 y10 y11, LeO (spec_l04Heights.j4 k y0 y1 y2 y3 y4 y5 y6 y7 y8 y9 y10 y11) (spec_l04Heights.j4 (k + 1) y0 y1 y2 y3 y4 y5 y6 y7 y8 y9 y10 y11)) ∧ (∀ y0 y1 y2 y3 y4 y5 y6 y7 y8 y9 y10 y11 y12, LeO (spec_l04Heights.j5 k y0 y1 y2 y3 y4 y5 y6 y7 y8 y9 y10 y11 y12) (spec_l04Heights.j5 (k + 1) y0 y1 y2 y3 y4 y5 y6 y7 y8 y9 y10 y11 y12)) ∧ (∀ y0 y1 y2 y3 y4 y5 y6 y7 y8 y9, LeO (spec_l04Heights.j6 k y0 y1 y2 y3 y4 y5 y6 y7 y8 y9) (spec_l04Heights.j6 (k + 1) y0 y1 y2 y3 y4 y5 y6 y7 y8 y9)) ∧ (∀ y0 y1 y2 y3 y4 y5 y6 y7 y8 y9 y10, LeO (spec_l04Heights.l2 k y0 y1 y2 y3 y4 y5 y6 y7 y8 y9 y10) (spec_l04Heights.l2 (k + 1) y0 y1 y2 y3 y4 y5 y6 y7 y8 y9 y10)) ∧ (∀ y0 y1 y2 y3 y4 y5 y6 y7 y8 y9 y10 y11, LeO (spec_l04Heights.j8 k y0 y1 y2 y3 y4 y5 y6 y7 y8 y9 y10 y11) (spec_l04Heights.j8 (k + 1) y0 y1 y2 y3 y4 y5 y6 y7 y8 y9 y10 y11))
 | 0 => ⟨fun _ _ _ _ _ r h => by simp [spec_l04Heights.l0] at h, fun _ _ _ _ _ r h => by simp [spec_l04Heights.l1] at h, fun _ _ _ _ _ _ _ _ _ _ _ _ _ r h => by simp [spec_l04Heights.j2] at h, fun _ _ _ _ _ _ _ _ _ _ _ _ _ _ r h => by simp [spec_l04Heights.j3] at h, fun _ _ _ _ _ _ _ _ _ _ _ _ r h => by simp [spec_l04Heights.j4] at h, fun _ _ _ _ _ _ _ _ _ _ _ _ _ r h => by simp [spec_l04Heights.j5] at h, fun _ _ _ _ _ _ _ _ _ _ r h => by simp [spec_l04Heights.j6] at h, fun _ _ _ _ _ _ _ _ _ _ _ r h => by simp [spec_l04Heights.l2] at h, fun _ _ _ _ _ _ _ _ _ _ _ _ r h => by simp [spec_l04Heights.j8] at h⟩
 | k + 1 => by
  obtain ⟨ih0, ih1, ih2, ih3, ih4, ih5, ih6, ih7, ih8⟩ := spec_l04Heights.mono_l k
  refine ⟨?_, ?_, ?_, ?_, ?_, ?_, ?_, ?_, ?_⟩
  ·intro y0 y1 y2 y3 y4
   unfold spec_l04Heights.l0
   with_reducible repeat' first | exact ih0 .. | exact ih1 .. | exact ih2 .. | exact ih3 .. | exact ih4 .. | exact ih5 .. | exact ih6 .. | exact ih7 .. | exact ih8 .. | exact spec_Puts.mono .. | exact spec_Takes.mono .. | exact spec_l04Least.mono .. | exact LeO.refl _ | exact LeO.none _ | refine LeO.ite ?_ ?_ | refine LeO.bind ?_ (fun _ => ?_)
  ·intro y0 y1 y2 y3 y4
   unfold spec_l04Heights.l1
   with_reducible repeat' first | exact ih0 .. | exact ih1 .. | exact ih2 .. | exact ih3 .. | exact ih4 .. | exact ih5 .. | exact ih6 .. | exact ih7 .. | exact ih8 .. | exact spec_Puts.mono .. | exact spec_Takes.mono .. | exact spec_l04Least.mono .. | exact LeO.refl _ | exact LeO.none _ | refine LeO.ite ?_ ?_ | refine LeO.bind ?_ (fun _ => ?_)
  ·intro y0 y1 y2 y3 y4 y5 y6 y7 y8 y9 y10 y11 y12
   unfold spec_l04Heights.j2
   with_reducible repeat' first | exact ih0 .. | exact ih1 .. | exact ih2 .. | exact ih3 .. | exact ih4 .. | exact ih5 .. | exact ih6 .. | exact ih7 .. | exact ih8 .. | exact spec_Puts.mono .. | exact spec_Takes.mono .. | exact spec_l04Least.mono .. | exact LeO.refl _ | exact LeO.none _ | refine LeO.ite ?_ ?_ | refine LeO.bind ?_ (fun _ => ?_)
  ·intro y0 y1 y2 y3 y4 y5 y6 y7 y8 y9 y10 y11 y12 y13
   unfold spec_l04Heights.j3
   with_reducible repeat' first | exact ih0 .. | exact ih1 .. | exact ih2 .. | exact ih3 .. | exact ih4 .. | exact ih5 .. | exact ih6 .. | exact ih7 .. | exact ih8 .. | exact spec_Puts.mono .. | exact spec_Takes.mono .. | exact spec_l04Least.mono .. | exact LeO.refl _ | exact LeO.none _ | refine LeO.ite ?_ ?_ | refine LeO.bind ?_ (fun _ => ?_)
  ·intro y0 y1 y2 y3 y4 y5 y6 y7 y8 y9 y10 y11
   unfold spec_l04Heights.j4
   with_reducible repeat' first | exact ih0 .. | exact ih1 .. | exact ih2 .. | exact ih3 .. | exact ih4 .. | exact ih5 .. | exact ih6 .. | exact ih7 .. | exact ih8 .. | exact spec_Puts.mono .. | exact spec_Takes.mono .. | exact spec_l04Least.mono .. | exact LeO.refl _ | exact LeO.none _ | refine LeO.ite ?_ ?_ | refine LeO.bind ?_ (fun _ => ?_)
  ·intro y0 y1 y2 y3 y4 y5 y6 y7 y8 y9 y10 y11 y12
   unfold spec_l04Heights.j5
   with_reducible repeat' first | exact ih0 .. | exact ih1 .. | exact ih2 .. | exact ih3 .. | exact ih4 .. | exact ih5 .. | exact ih6 .. | exact ih7 .. | exact ih8 .. | exact spec_Puts.mono .. | exact spec_Takes.mono .. | exact spec_l04Least.mono .. | exact LeO.refl _ | exact LeO.none _ | refine LeO.ite ?_ ?_ | refine LeO.bind ?_ (fun _ => ?_)
  ·intro y0 y1 y2 y3 y4 y5 y6 y7 y8 y9
   unfold spec_l04Heights.j6
   with_reducible repeat' first | exact ih0 .. | exact ih1 .. | exact ih2 .. | exact ih3 .. | exact ih4 .. | exact ih5 .. | exact ih6 .. | exact ih7 .. | exact ih8 .. | exact spec_Puts.mono .. | exact spec_Takes.mono .. | exact spec_l04Least.mono .. | exact LeO.refl _ | exact LeO.none _ | refine LeO.ite ?_ ?_ | refine LeO.bind ?_ (fun _ => ?_)
  ·intro y0 y1 y2 y3 y4 y5 y6 y7 y8 y9 y10
   unfold spec_l04Heights.l2
   with_reducible repeat' first | exact ih0 .. | exact ih1 .. | exact ih2 .. | exact ih3 .. | exact ih4 .. | exact ih5 .. | exact ih6 .. | exact ih7 .. | exact ih8 .. | exact spec_Puts.mono .. | exact spec_Takes.mono .. | exact spec_l04Least.mono .. | exact LeO.refl _ | exact LeO.none _ | refine LeO.ite ?_ ?_ | refine LeO.bind ?_ (fun _ => ?_)
  ·intro y0 y1 y2 y3 y4 y5 y6 y7 y8 y9 y10 y11
   unfold spec_l04Heights.j8
   with_reducible repeat' first | exact ih0 .. | exact ih1 .. | exact ih2 .. | exact ih3 .. | exact ih4 .. | exact ih5 .. | exact ih6 .. | exact ih7 .. | exact ih8 .. | exact spec_Puts.mono .. | exact spec_Takes.mono .. | exact spec_l04Least.mono .. | exact LeO.refl _ | exact LeO.none _ | refine LeO.ite ?_ ?_ | refine LeO.bind ?_ (fun _ => ?_)
theorem spec_l04Heights.mono : ∀ a0 a1 k, LeO (spec_l04Heights.f k a0 a1) (spec_l04Heights.f (k + 1) a0 a1) := by
 intro a0 a1 k
 obtain ⟨ih0, ih1, ih2, ih3, ih4, ih5, ih6, ih7, ih8⟩ := spec_l04Heights.mono_l k
 unfold spec_l04Heights.f
 with_reducible repeat' first | exact ih0 .. | exact ih1 .. | exact ih2 .. | exact ih3 .. | exact ih4 .. | exact ih5 .. | exact ih6 .. | exact ih7 .. | exact ih8 .. | exact spec_Puts.mono .. | exact spec_Takes.mono .. | exact spec_l04Least.mono .. | exact LeO.refl _ | exact LeO.none _ | refine LeO.ite ?_ ?_ | refine LeO.bind ?_ (fun _ => ?_)
def spec_l04Heights.T17 : Bool × List (List Nat × List Nat) := (true, [([], []), ([], []), ([0, 1], [0, 1]), ([2], [2]), ([], []), ([3, 4], [3, 4]), ([], []), ([6], [6]), ([5, 7], [5, 7]), ([8, 7, 0, 1, 2, 3, 4, 5, 6, 7, 8], [8])])
def spec_l04Heights.B17 : List Nat := [0, 0, 3, 7, 0, 31, 0, 64, 255, 511]
theorem spec_l04Heights.tab17 : rtab .any (opsOf Try.f15 17) = spec_l04Heights.T17 := by kernel_rfl
theorem spec_l04Heights.bits17 : waitsOk spec_l04Heights.T17.2 spec_l04Heights.B17 = true := by kernel_rfl
theorem spec_l04Heights.calls (k : Nat) (A0_0 : Option Addr) (c0_0 : Nat) (l0_0 : List (S53)) (a1 : Int) (r1 : List Int) (r2 : Int) (r3 : Int) (r4 : Int) (w : World) (hr0_0 : Kd.C k53 w A0_0 l0_0.length l0_0) (hc0_0 : l0_0.length ≤ c0_0) (h : spec_l04Heights.f k l0_0 a1 = some (r1, r2, r3, r4)) :
  Calls Try.prog 15 #[.agg #[.slice A0_0 l0_0.length c0_0], .int .i64 a1] w fun e w' => ∃ v0_ : Value, e = .returned (.tuple #[v0_, .agg #[.int .i64 r2, .int .i64 r3, .int .i64 r4]]) ∧ Kd.R (Kd.int .i64) 2 w' w.heap.size (fun _ => True) v0_ r1 ∧ Below w.heap.size w w' := by
 have hu33 := Try.underlying33
 have hu44 := Try.underlying44
 have hu59 := Try.underlying59
 have HR0_0 := am hr0_0
 have HC0_0 := am hc0_0
 clear hr0_0 hc0_0
 have HB := am (Below.refl w.heap.size w)
 have H : (if 0 ≤ a1 then (if a1 < (l0_0.length : Int) then (if 0 ≤ (((rd_T53 l0_0 a1).f2).length : Int) then (if ((((rd_T53 l0_0 a1).f2).length : Int) : Int).toNat ≤ 35184372088832 then (spec_l04Heights.l0 k a1 ((rd_T53 l0_0 a1).f2) (List.replicate ((((rd_T53 l0_0 a1).f2).length : Int) : Int).toNat 0) 0 l0_0) else (none)) else (none)) else (none)) else (none)) = some (r1, r2, r3, r4) := h
 clear h
 refine iN H ?_; clear H; intro c3 H
 have c3b0 := decide_eq_true c3
 clear c3
 refine iN H ?_; clear H; intro c4 H
 have c4b0 := decide_eq_true c4
 clear c4
 refine iN H ?_; clear H; intro c5 H
 have c5b0 := eq_true c5
 have c5b1 := decide_eq_true c5
 clear c5
 refine iN H ?_; clear H; intro c6 H
 have c6b0 := eq_true c6
 have c6b1 := decide_eq_true c6
 clear c6
 obtain ⟨y119, hy119⟩ : ∃ y_ : List Int, y_ = (List.replicate ((((rd_T53 l0_0 a1).f2).length : Int) : Int).toNat 0) := ⟨_, rfl⟩
 replace H : (spec_l04Heights.l0 k a1 ((rd_T53 l0_0 a1).f2) y119 0 l0_0) = some (r1, r2, r3, r4) := by first | (rw [hy119]; with_reducible exact H) | (have H2_ := (Option.bind_some _ _).symm.trans H; rw [hy119]; with_reducible exact H2_) | (have H2_ := (Option.bind_some _ _).symm.trans H; with_reducible exact H2_) | with_reducible exact H | (rw [hy119]; exact H) | exact H
 have Ny119 := am hy119
 clear hy119
 have H' := am H
 clear H
 go_enter Try.func15, Try.ntmps15
 go_wp2_with (first | ((with_reducible refine gd 2 rfl ?_); refine bX 2 #[.slice A0_0 l0_0.length c0_0] 33 HB ?_; clear HB; intro gb116 w7 hg hb BK116 GW116 HB; clear hb hg) | ((with_reducible refine gd 5 rfl ?_); refine bX 5 #[.int .i64 0, .int .i64 0, .int .i64 0] 44 HB ?_; clear HB; intro gb117 w8 hg hb BK117 GW117 HB; obtain ⟨NB116_117, NB117_116, BK116⟩ := b3 hg BK116 hb; clear hb hg; have hnb9 := NB116_117.out; have hnc9 := NB117_116.out; have hcz10 := bK w8 BK116; have hfz10 := bF BK116; have p118 : 0 ≤ (a1 : Int) := of_decide_eq_true as1; have q118 : a1 < (l0_0.length : Int) := of_decide_eq_true as1; obtain ⟨ad118, A118_2, c118_2, e118, hx118_0, hx118_1, hx118_2, hl118_2, hi118_2⟩ := at_T53 HR0_0.out a1 p118 q118; cases e118; replace hx118_0 := cl HB hx118_0; replace hx118_1 := cl HB hx118_1; replace hx118_2 := cl HB hx118_2; have HR118_2 := am hi118_2; have HC118_2 := am hl118_2; clear hi118_2 hl118_2; replace p118 := eq_true p118; replace q118 := eq_true q118) | ((with_reducible refine gate_dst (N := 25) rfl ?_); refine Kd.R_make (Kd.int .i64) _ 2 rfl (N := 25) rfl 42 _ _ rfl (((rd_T53 l0_0 a1).f2).length : Int) rfl rfl Try.underlying42 (.int .i64 0) 8 info2 rfl (by decide) (by omega) 0 (ok := fun _ => True) (okp := fun _ => True) rfl (fun _ hk => hk) trivial (of_decide_eq_true as1) (Nat.le_trans (Nat.mul_le_mul_right _ (of_decide_eq_true as1 : (((rd_T53 l0_0 a1).f2).length : Int).toNat ≤ 35184372088832)) (by omega)) (Below.refl _ _) (Nat.le_refl _) ?_; intro v120 w11 ho12 hb hg_ hnew_; clear hg_ hnew_; (first | rw [← Ny119.out] at ho12 | (simp only [Int.reduceToNat] at ho12; rw [← Ny119.out] at ho12)); have HO121 := am (Kd.R_lower ho12 (below_size (bw HB))); replace BK116 := bb BK116 hb; replace BK117 := bb BK117 hb; replace HB := bs HB hb; clear hb ho12))
 go_loopg [8] k (fun kq v8 w' => ∃ (x7_1 : List Int) (x8_1 : Int), v8 = .int .i64 x8_1 ∧ Aside0 (spec_l04Heights.l0 kq a1 ((rd_T53 l0_0 a1).f2) x7_1 x8_1 l0_0 = some (r1, r2, r3, r4)) ∧ Aside0 (kq ≤ k) ∧ Aside0 (Kd.R (Kd.int .i64) 2 w' w.heap.size (fun _ => True) v120 x7_1) ∧ Aside0 (w'.heap[gb116]? = some (.cells #[(.slice (some ad118) l0_0.length c0_0)] 33 (0, 0))) ∧ Aside0 (w'.heap[gb117]? = some (.cells #[.int .i64 0, .int .i64 0, .int .i64 0] 44 (0, 0))) ∧ Aside0 (Below w.heap.size w w'))
 case atStart => exact ⟨(y119), (0), dr, H', ⟨Nat.le_refl _⟩, ⟨kR HO121⟩, ⟨bp BK116⟩, ⟨bp BK117⟩, ⟨bw HB⟩⟩
 clear H'
 (try clear c1); (try clear p1); (try clear q1); (try clear hx1); (try clear p2); (try clear c3); (try clear c3b0); (try clear c4); (try clear c4b0); (try clear c5); (try clear c5b0); (try clear c5b1); (try clear c6); (try clear c6b0); (try clear c6b1); (try clear c9); (try clear c11); (try clear p11); (try clear q11); (try clear hx11); (try clear hcz10); (try clear hfz10); (try clear hx118_0); (try clear hx118_1); (try clear hx118_2); (try clear p118); (try clear q118)
 obtain ⟨x7_1, x8_1, rfl, HA, HK1, HO_7, BK116, BK117, HB⟩ := hrel
 rcases gk with _ | k1
 ·exact absurd HA.out (by simp [spec_l04Heights.l0])
 have H := HA.out
 clear HA
 simp only [spec_l04Heights.l0] at H
 by_cases c13 : x8_1 < (x7_1.length : Int)
 ·rw [if_pos c13] at H
  have c13b0 := decide_eq_true c13
  clear c13
  refine iM H ?_; clear H; intro c14b0 H
  obtain ⟨y122, hy122⟩ : ∃ y_ : List Int, y_ = (x7_1.set (x8_1 : Int).toNat (-1)) := ⟨_, rfl⟩
  replace H : (spec_l04Heights.l0 k1 a1 ((rd_T53 l0_0 a1).f2) y122 (wrap64 (x8_1 + 1)) l0_0) = some (r1, r2, r3, r4) := by first | (rw [hy122]; with_reducible exact H) | (have H2_ := (Option.bind_some _ _).symm.trans H; rw [hy122]; with_reducible exact H2_) | (have H2_ := (Option.bind_some _ _).symm.trans H; with_reducible exact H2_) | with_reducible exact H | (rw [hy122]; exact H) | exact H
  have Ny122 := am hy122
  clear hy122
  have H' := am H
  clear H
  obtain ⟨Ao16, co16, eo16⟩ := Kd.R_slice HO_7.out
  subst eo16
  have p15 : 0 ≤ (x8_1 : Int) := of_decide_eq_true as1
  have q15 : (x8_1 : Int) < ((x7_1.length : Int) : Int) := of_decide_eq_true as1
  obtain ⟨go15, co15, eo15, gb15, gl15, cl15, HG15⟩ := Kd.R_form HO_7.out (by omega)
  (first | cases eo15 | (injection eo15 with ea_ en_ ec_; (first | subst ea_ | (injection ea_ with ea_; subst ea_)); subst ec_; clear en_))
  have GB15 := am gb15
  have GG15 := am HG15
  clear gb15 gl15 HG15
  obtain ⟨hx15_0, hf15_0⟩ := Kd.R_celln 0 HO_7.out (x8_1 : Int) p15 q15
  replace p15 := eq_true p15
  replace q15 := eq_true q15
  have HP17 := Kd.R_putg HO_7.out (x8_1 : Int) (-1)
  go_wp2_with (first | ((with_reducible refine gt 2 34 rfl ?_); refine sE 2 34 (wr.setCell ⟨go15, (x8_1 : Int).toNat, none⟩ (.int .i64 (-1))) ?_; intro w18 hw; have hg : wr.grownBy w18 (some go15) := (by rw [hw]; exact HP17.2); have hp_ : Kd.R (Kd.int .i64) 2 w18 w.heap.size (fun _ => True) (.slice (some ⟨go15, 0, none⟩) x7_1.length co16) y122 := (by rw [hw, Ny122.out]; exact HP17.1); clear HP17; replace BK116 := bg BK116 hg (Kd.R_ne HO_7.out BK116.out (by decide)); replace BK117 := bg BK117 hg (Kd.R_ne HO_7.out BK117.out (by decide)); replace HO_7 := am (hp_); replace HB := am ((by rw [hw]; exact below_set (HB.out) GB15.out : Below w.heap.size w w18)); clear hg hw hp_))
  go_roundg k1
  case measure => have := HK1.out; omega
  case rel => exact ⟨(y122), (wrap64 (x8_1 + 1)), dr, H', ⟨by have := HK1.out; omega⟩, ⟨kR HO_7⟩, ⟨bp BK116⟩, ⟨bp BK117⟩, ⟨bw HB⟩⟩
 rw [if_neg c13] at H
 have c13b0 := decide_eq_false c13
 clear c13
 refine iN H ?_; clear H; intro c19 H
 have c19b0 := decide_eq_true c19
 have c19b1 : decide (0 < x7_1.length) = true := decide_eq_true (by omega)
 clear c19
 obtain ⟨y123, hy123⟩ : ∃ y_ : List Int, y_ = (x7_1.set (0 : Int).toNat 0) := ⟨_, rfl⟩
 replace H : (if 0 ≤ (((rd_T53 l0_0 a1).f2).length : Int) then (if ((((rd_T53 l0_0 a1).f2).length : Int) : Int).toNat ≤ 281474976710656 then ((some (List.replicate ((((rd_T53 l0_0 a1).f2).length : Int) : Int).toNat false : List Bool)).bind fun y124 => (if 0 < (y124.length : Int) then (spec_l04Heights.l1 k1 a1 ((rd_T53 l0_0 a1).f2) y123 (y124.set (0 : Int).toNat true) l0_0) else (none))) else (none)) else (none)) = some (r1, r2, r3, r4) := by first | (rw [hy123]; with_reducible exact H) | (have H2_ := (Option.bind_some _ _).symm.trans H; rw [hy123]; with_reducible exact H2_) | (have H2_ := (Option.bind_some _ _).symm.trans H; with_reducible exact H2_) | with_reducible exact H | (rw [hy123]; exact H) | exact H
 have Ny123 := am hy123
 clear hy123
 refine iN H ?_; clear H; intro c21 H
 have c21b0 := eq_true c21
 have c21b1 := decide_eq_true c21
 clear c21
 refine iN H ?_; clear H; intro c22 H
 have c22b0 := eq_true c22
 have c22b1 := decide_eq_true c22
 clear c22
 obtain ⟨y124, hy124⟩ : ∃ y_ : List Bool, y_ = (List.replicate ((((rd_T53 l0_0 a1).f2).length : Int) : Int).toNat false) := ⟨_, rfl⟩
 replace H : (if 0 < (y124.length : Int) then (spec_l04Heights.l1 k1 a1 ((rd_T53 l0_0 a1).f2) y123 (y124.set (0 : Int).toNat true) l0_0) else (none)) = some (r1, r2, r3, r4) := by first | (rw [hy124]; with_reducible exact H) | (have H2_ := (Option.bind_some _ _).symm.trans H; rw [hy124]; with_reducible exact H2_) | (have H2_ := (Option.bind_some _ _).symm.trans H; with_reducible exact H2_) | with_reducible exact H | (rw [hy124]; exact H) | exact H
 have Ny124 := am hy124
 clear hy124
 refine iN H ?_; clear H; intro c23 H
 have c23b0 := decide_eq_true c23
 have c23b1 : decide (0 < y124.length) = true := decide_eq_true (by omega)
 clear c23
 obtain ⟨y127, hy127⟩ : ∃ y_ : List Bool, y_ = (y124.set (0 : Int).toNat true) := ⟨_, rfl⟩
 replace H : (spec_l04Heights.l1 k1 a1 ((rd_T53 l0_0 a1).f2) y123 y127 l0_0) = some (r1, r2, r3, r4) := by first | (rw [hy127]; with_reducible exact H) | (have H2_ := (Option.bind_some _ _).symm.trans H; rw [hy127]; with_reducible exact H2_) | (have H2_ := (Option.bind_some _ _).symm.trans H; with_reducible exact H2_) | with_reducible exact H | (rw [hy127]; exact H) | exact H
 have Ny127 := am hy127
 clear hy127
 have H' := am H
 clear H
 obtain ⟨Ao25, co25, eo25⟩ := Kd.R_slice HO_7.out
 subst eo25
 have p20 : 0 ≤ (0 : Int) := (by omega)
 have q20 : (0 : Int) < ((x7_1.length : Int) : Int) := of_decide_eq_true as1
 have qi20 : (0 < x7_1.length) = True := eq_true (by omega)
 obtain ⟨go20, co20, eo20, gb20, gl20, cl20, HG20⟩ := Kd.R_form HO_7.out (by omega)
 (first | cases eo20 | (injection eo20 with ea_ en_ ec_; (first | subst ea_ | (injection ea_ with ea_; subst ea_)); subst ec_; clear en_))
 have GB20 := am gb20
 have GG20 := am HG20
 clear gb20 gl20 HG20
 obtain ⟨hx20_0, hf20_0⟩ := Kd.R_celln 0 HO_7.out (0 : Int) p20 q20
 (try rw [show ((0 : Int)).toNat = 0 from rfl] at hx20_0)
 (try simp only [Nat.reduceMul, Nat.zero_mul, Nat.zero_add, Nat.reduceAdd] at hx20_0)
 (try rw [show ((0 : Int)).toNat = 0 from rfl] at hf20_0)
 (try simp only [Nat.reduceMul, Nat.zero_mul, Nat.zero_add, Nat.reduceAdd] at hf20_0)
 replace p20 := eq_true p20
 replace q20 := eq_true q20
 have HP26 := Kd.R_putg HO_7.out (0 : Int) 0
 go_wp2_with (first | ((with_reducible refine gt 2 36 rfl ?_); refine sE 2 36 (wr.setCell ⟨go20, (0 : Int).toNat, none⟩ (.int .i64 0)) ?_; intro w27 hw; have hg : wr.grownBy w27 (some go20) := (by rw [hw]; exact HP26.2); have hp_ : Kd.R (Kd.int .i64) 2 w27 w.heap.size (fun _ => True) (.slice (some ⟨go20, 0, none⟩) x7_1.length co25) y123 := (by rw [hw, Ny123.out]; exact HP26.1); clear HP26; replace BK116 := bg BK116 hg (Kd.R_ne HO_7.out BK116.out (by decide)); replace BK117 := bg BK117 hg (Kd.R_ne HO_7.out BK117.out (by decide)); replace HO_7 := am (hp_); replace HB := am ((by rw [hw]; exact below_set (HB.out) GB20.out : Below w.heap.size w w27)); clear hg hw hp_) | ((with_reducible refine gate_dst (N := 39) rfl ?_); refine Kd.R_make Kd.bool _ 4 rfl (N := 39) rfl 76 _ _ rfl (((rd_T53 l0_0 a1).f2).length : Int) rfl rfl Try.underlying76 (.bool false) 1 info4 rfl (by decide) (by omega) false (ok := fun _ => True) (okp := fun _ => True) rfl (fun _ hk => hk) trivial (of_decide_eq_true as1) (Nat.le_trans (Nat.mul_le_mul_right _ (of_decide_eq_true as1 : (((rd_T53 l0_0 a1).f2).length : Int).toNat ≤ 281474976710656)) (by omega)) (Below.refl _ _) (Nat.le_refl _) ?_; intro v125 w28 ho29 hb hg_ hnew_; clear hg_ hnew_; (first | rw [← Ny124.out] at ho29 | (simp only [Int.reduceToNat] at ho29; rw [← Ny124.out] at ho29)); replace HO_7 := am (Kd.R_below (kR HO_7) hb); have HO126 := am (Kd.R_lower ho29 (below_size (bw HB))); replace BK116 := bb BK116 hb; replace BK117 := bb BK117 hb; replace HB := bs HB hb; clear hb ho29; have p24 : 0 ≤ (0 : Int) := (by omega); have q24 : (0 : Int) < ((y124.length : Int) : Int) := of_decide_eq_true as1; have qi24 : (0 < y124.length) = True := eq_true (by omega); obtain ⟨go24, co24, eo24, gb24, gl24, cl24, HG24⟩ := Kd.R_form HO126.out (by omega); (first | cases eo24 | (injection eo24 with ea_ en_ ec_; (first | subst ea_ | (injection ea_ with ea_; subst ea_)); subst ec_; clear en_)); have GB24 := am gb24; have GG24 := am HG24; clear gb24 gl24 HG24; obtain ⟨hx24_0, hf24_0⟩ := Kd.R_celln false HO126.out (0 : Int) p24 q24; (try rw [show ((0 : Int)).toNat = 0 from rfl] at hx24_0); (try simp only [Nat.reduceMul, Nat.zero_mul, Nat.zero_add, Nat.reduceAdd] at hx24_0); (try rw [show ((0 : Int)).toNat = 0 from rfl] at hf24_0); (try simp only [Nat.reduceMul, Nat.zero_mul, Nat.zero_add, Nat.reduceAdd] at hf24_0); replace p24 := eq_true p24; replace q24 := eq_true q24; obtain ⟨hy30_, hz30_⟩ := Kd.R_celln false HO126.out (0 : Int) (by omega) (of_decide_eq_true as1); (try simp only [Int.reduceToNat, Int.toNat_zero, Int.toNat_ofNat, Nat.reduceMul, Nat.zero_mul, Nat.zero_add] at hy30_ hz30_); (try rw [show ((0 : Int)).toNat = 0 from rfl] at hy30_); (try rw [show ((0 : Int)).toNat = 0 from rfl] at hz30_); have HP30 := Kd.R_putg HO126.out (0 : Int) true) | ((with_reducible refine gt 4 41 rfl ?_); refine sE 4 41 (w28.setCell ⟨go24, (0 : Int).toNat, none⟩ (.bool true)) ?_; intro w31 hw; have hg : w28.grownBy w31 (some go24) := (by rw [hw]; exact HP30.2); have hp_ : Kd.R Kd.bool 4 w31 w.heap.size (fun _ => True) (.slice (some ⟨go24, 0, none⟩) y124.length co24) y127 := (by rw [hw, Ny127.out]; exact HP30.1); clear HP30; replace HO_7 := am (Kd.R_over' (v := (.slice (some ⟨go24, 0, none⟩) y124.length co24)) (kR HO_7) (Kd.R_typed HO126.out) (by decide) hg); replace BK116 := bg BK116 hg (Kd.R_ne HO126.out BK116.out (by decide)); replace BK117 := bg BK117 hg (Kd.R_ne HO126.out BK117.out (by decide)); replace HO126 := am (hp_); replace HB := am ((by rw [hw]; exact below_set (HB.out) GB24.out : Below w.heap.size w w31)); clear hg hw hp_))
 go_loopg [] k1 (fun kq w' => ∃ (x7_2 : List Int) (x9_2 : List Bool) (x118000_2 : Int) (x118001_2 : Int) (x118002_2 : Int), Aside0 (spec_l04Heights.l1 kq a1 ((rd_T53 l0_0 a1).f2) x7_2 x9_2 l0_0 = some (r1, r2, r3, r4)) ∧ Aside0 (kq ≤ k1) ∧ Aside0 (Kd.R (Kd.int .i64) 2 w' w.heap.size (fun _ => True) (.slice (some ⟨go20, 0, none⟩) x7_1.length co25) x7_2) ∧ Aside0 (Kd.R Kd.bool 4 w' w.heap.size (fun _ => True) (.slice (some ⟨go24, 0, none⟩) y124.length co24) x9_2) ∧ Aside0 (w'.heap[gb116]? = some (.cells #[(.slice (some ad118) l0_0.length c0_0)] 33 (0, 0))) ∧ Aside0 (w'.heap[gb117]? = some (.cells #[.int .i64 x118000_2, .int .i64 x118001_2, .int .i64 x118002_2] 44 (0, 0))) ∧ Aside0 (Below w.heap.size w w'))
 case atStart => exact ⟨(y123), (y127), (0), (0), (0), H', ⟨Nat.le_refl _⟩, ⟨kR HO_7⟩, ⟨kR HO126⟩, ⟨bp BK116⟩, ⟨bp BK117⟩, ⟨bw HB⟩⟩
 clear H'
 (try clear c2); (try clear q2); (try clear hx2); (try clear qi2); (try clear hf2); (try clear p6); (try clear c13); (try clear c13b0); (try clear c14); (try clear c14b0); (try clear c15); (try clear p15); (try clear q15); (try clear hx15); (try clear hf15); (try clear c19); (try clear c19b0); (try clear c19b1); (try clear p20); (try clear q20); (try clear hx20); (try clear qi20); (try clear hf20); (try clear c21); (try clear c21b0); (try clear c21b1); (try clear c22); (try clear c22b0); (try clear c22b1); (try clear c23); (try clear c23b0); (try clear c23b1); (try clear p24); (try clear q24); (try clear hx24); (try clear qi24); (try clear hf24); (try clear hx15_0); (try clear hx20_0); (try clear hx24_0); (try clear p15); (try clear p20); (try clear p24); (try clear q15); (try clear q20); (try clear q24)
 obtain ⟨x7_2, x9_2, x118000_2, x118001_2, x118002_2, HA, HK2, HO_7, HO_9, BK116, BK117, HB⟩ := hrel
 have hl7_2 := (Kd.R_reads' HO_7.out).1
 rw [hl7_2] at HO_7
 (try simp only [hl7_2])
 (try simp only [hl7_2] at BK116)
 (try simp only [hl7_2] at BK117)
 (try simp only [hl7_2] at HO_9)
 have hl9_2 := (Kd.R_reads' HO_9.out).1
 rw [hl9_2] at HO_9
 (try simp only [hl9_2])
 (try simp only [hl9_2] at BK116)
 (try simp only [hl9_2] at BK117)
 (try simp only [hl9_2] at HO_7)
 rcases gk with _ | k2
 ·exact absurd HA.out (by simp [spec_l04Heights.l1])
 have H := HA.out
 clear HA
 simp only [spec_l04Heights.l1] at H
 refine be H ?_; clear H; intro t128 A32 H
 have HC33 := am H
 clear H
 go_upto_if 45 with (first | ((with_reducible refine gk 31 rfl ?_); refine gD 31 (some 43) Try.func31 #[.slice (some ⟨go24, 0, none⟩) x9_2.length co24] (spec_l04Least.calls k2 _ _ x9_2 t128 _ (cc (Kd.R_reads' HO_9.out).2.2) ((Kd.R_reads' HO_9.out).2.1) A32.out) ?_; intro nd))
 (try simp only [Act.put, sa, sz, ss])
 (try simp only [World.drewN_drewN])
 generalize hq_ : World.drewN wr _ = w34
 replace HO_7 : Aside0 (Kd.R (Kd.int .i64) 2 w34 w.heap.size (fun _ => True) (.slice (some ⟨go20, 0, none⟩) x7_2.length co25) x7_2) := ⟨by rw [← hq_]; exact (kR HO_7)⟩
 replace HO_9 : Aside0 (Kd.R Kd.bool 4 w34 w.heap.size (fun _ => True) (.slice (some ⟨go24, 0, none⟩) x9_2.length co24) x9_2) := ⟨by rw [← hq_]; exact (kR HO_9)⟩
 replace BK116 : Aside0 (w34.heap[gb116]? = some (.cells #[.slice (some ad118) l0_0.length c0_0] 33 (0, 0))) := ⟨by rw [← hq_]; exact (bp BK116)⟩
 replace BK117 : Aside0 (w34.heap[gb117]? = some (.cells #[.int .i64 x118000_2, .int .i64 x118001_2, .int .i64 x118002_2] 44 (0, 0))) := ⟨by rw [← hq_]; exact (bp BK117)⟩
 replace HB : Aside0 (Below w.heap.size w w34) := ⟨by rw [← hq_]; exact (bw HB)⟩
 clear hq_
 have H := HC33.out
 clear HC33
 by_cases c35 : t128 < 0
 ·rw [if_pos c35] at H
  have c35b0 := decide_eq_true c35
  clear c35
  (first | rw [c35b0] | (simp only [i64_w, i32_w]; rw [c35b0]) | skip)
  simp only [Option.some.injEq, Prod.mk.injEq] at H
  obtain ⟨rfl, rfl, rfl, rfl⟩ := H
  have hnb36 := NB117_116.out
  have hnc36 := NB116_117.out
  have hcz37 := bK w34 BK117
  have hfz37 := bF BK117
  go_wp2
  refine bodyPost_ret (results_tc rfl _ _ gb117 44 #[.int .i64 0, .int .i64 0, .int .i64 0] (0, 0) _ rfl (bt BK117) Try.underlying44 rfl (by kernel_rfl)) rfl ?_
  exact ⟨_, er, by (with_reducible repeat (first | apply Kd.R_alloc | apply Kd.R_drewN | apply Kd.R_drew)); exact Kd.R_mono (Kd.R_far (p := ⟨gb117, 2, none⟩) (Kd.R_far (p := ⟨gb117, 1, none⟩) (Kd.R_far (p := ⟨gb117, 0, none⟩) (Kd.R_types HO_7.out BK117.out (by decide)) (fun _ hk => hk.2) (.int .i64 0)) (fun _ hk => hk.2) (.int .i64 0)) (fun _ hk => hk.2) (.int .i64 0)) (fun _ hk => trivial), bw HB⟩
 rw [if_neg c35] at H
 have c35b0 := decide_eq_false c35
 clear c35
 (first | rw [c35b0] | (simp only [i64_w, i32_w]; rw [c35b0]) | skip)
 refine iN H ?_; clear H; intro c38 H
 have c38b0 := decide_eq_true c38
 clear c38
 refine iN H ?_; clear H; intro c39 H
 have c39b0 := decide_eq_true c39
 (try (have c39b0hl9_2 := c39b0; rw [hl9_2] at c39b0hl9_2))
 clear c39
 obtain ⟨y129, hy129⟩ : ∃ y_ : List Bool, y_ = (x9_2.set (t128 : Int).toNat false) := ⟨_, rfl⟩
 replace H : (if t128 < (((rd_T53 l0_0 a1).f2).length : Int) then ((spec_Takes.f k2 l0_0 ((rd_T59 ((rd_T53 l0_0 a1).f2) t128).f0) ((rd_T59 ((rd_T53 l0_0 a1).f2) t128).f1)).bind fun t133 => (if t128 < (x7_2.length : Int) then ((spec_Puts.f k2 ((rd_T59 ((rd_T53 l0_0 a1).f2) t128).f0) ((rd_T59 ((rd_T53 l0_0 a1).f2) t128).f1)).bind fun t135 => (if t133 > (rd x7_2 t128) then (spec_l04Heights.j2 k2 a1 ((rd_T53 l0_0 a1).f2) x7_2 y129 t128 (wrap64 ((wrap64 ((rd x7_2 t128) - t133)) + t135)) true l0_0 ((rd_T59 ((rd_T53 l0_0 a1).f2) t128).f0) ((rd_T59 ((rd_T53 l0_0 a1).f2) t128).f1) a1 t128 5) else (spec_l04Heights.j2 k2 a1 ((rd_T53 l0_0 a1).f2) x7_2 y129 t128 (wrap64 ((wrap64 ((rd x7_2 t128) - t133)) + t135)) (decide ((wrap64 ((wrap64 ((rd x7_2 t128) - t133)) + t135)) > 8)) l0_0 ((rd_T59 ((rd_T53 l0_0 a1).f2) t128).f0) ((rd_T59 ((rd_T53 l0_0 a1).f2) t128).f1) a1 t128 5))) else (none))) else (none)) = some (r1, r2, r3, r4) := by first | (rw [hy129]; with_reducible exact H) | (have H2_ := (Option.bind_some _ _).symm.trans H; rw [hy129]; with_reducible exact H2_) | (have H2_ := (Option.bind_some _ _).symm.trans H; with_reducible exact H2_) | with_reducible exact H | (rw [hy129]; exact H) | exact H
 have Ny129 := am hy129
 clear hy129
 refine iN H ?_; clear H; intro c41 H
 have c41b0 := decide_eq_true c41
 clear c41
 refine be H ?_; clear H; intro t133 A42 H
 refine iN H ?_; clear H; intro c43 H
 have c43b0 := decide_eq_true c43
 (try (have c43b0hl7_2 := c43b0; rw [hl7_2] at c43b0hl7_2))
 clear c43
 refine be H ?_; clear H; intro t135 A44 H
 have HC45 := am H
 clear H
 have p40 : 0 ≤ (t128 : Int) := of_decide_eq_true as1
 have q40 : (t128 : Int) < ((x9_2.length : Int) : Int) := of_decide_eq_true as1
 obtain ⟨hx40_0, hf40_0⟩ := Kd.R_celln false HO_9.out (t128 : Int) p40 q40
 replace p40 := eq_true p40
 replace q40 := eq_true q40
 have HP46 := Kd.R_putg HO_9.out (t128 : Int) false
 try go_wp2_with (first | ((with_reducible refine gt 4 50 rfl ?_); refine sE 4 50 (w34.setCell ⟨go24, (t128 : Int).toNat, none⟩ (.bool false)) ?_; intro w47 hw; have hg : w34.grownBy w47 (some go24) := (by rw [hw]; exact HP46.2); have hp_ : Kd.R Kd.bool 4 w47 w.heap.size (fun _ => True) (.slice (some ⟨go24, 0, none⟩) x9_2.length co24) y129 := (by rw [hw, Ny129.out]; exact HP46.1); clear HP46; replace HO_7 := am (Kd.R_over' (v := (.slice (some ⟨go24, 0, none⟩) x9_2.length co24)) (kR HO_7) (Kd.R_typed HO_9.out) (by decide) hg); replace BK116 := bg BK116 hg (Kd.R_ne HO_9.out BK116.out (by decide)); replace BK117 := bg BK117 hg (Kd.R_ne HO_9.out BK117.out (by decide)); replace HO_9 := am (hp_); replace HB := am ((by rw [hw]; exact below_set (HB.out) GB24.out : Below w.heap.size w w47)); clear hg hw hp_; have p130 : 0 ≤ (t128 : Int) := of_decide_eq_true as1; have q130 : t128 < (((rd_T53 l0_0 a1).f2).length : Int) := of_decide_eq_true as1; obtain ⟨ad130, e130, hx130_0, hx130_1⟩ := at_T59 HR118_2.out t128 p130 q130; cases e130; replace hx130_0 := cl HB hx130_0; replace hx130_1 := cl HB hx130_1; replace p130 := eq_true p130; replace q130 := eq_true q130) | ((with_reducible refine gd 11 rfl ?_); refine bX 11 #[.int .i64 0, .int .i64 0] 59 HB ?_; clear HB; intro gb131 w48 hg hb BK131 GW131 HB; replace HO_7 := am (Kd.R_below (kR HO_7) hb); replace HO_9 := am (Kd.R_below (kR HO_9) hb); obtain ⟨NB116_131, NB131_116, BK116⟩ := b3 hg BK116 hb; obtain ⟨NB117_131, NB131_117, BK117⟩ := b3 hg BK117 hb; clear hb hg; have hnb49 := NB131_116.out; have hnc49 := NB116_131.out; have hnb50 := NB131_117.out; have hnc50 := NB117_131.out; have hcz51 := bK w48 BK131; have hfz51 := bF BK131) | ((with_reducible refine gd 12 rfl ?_); refine bx 12 #[.int .i64 0, .int .i64 0, .int .i64 0] 44 ?_; intro gb132 hg w52 hbox hb; replace HO_7 := am (Kd.R_below (by (with_reducible repeat (first | apply Kd.R_alloc | apply Kd.R_drewN | apply Kd.R_drew)); exact (Kd.R_mono (Kd.R_far (p := ⟨gb131, 1, none⟩) (Kd.R_far (p := ⟨gb131, 0, none⟩) (Kd.R_types HO_7.out BK131.out (by decide)) (fun _ hk => hk.2) (.int .i64 ((rd_T59 ((rd_T53 l0_0 a1).f2) t128).f0))) (fun _ hk => hk.2) (.int .i64 ((rd_T59 ((rd_T53 l0_0 a1).f2) t128).f1))) (fun _ h_ => h_.1))) hb); replace HO_9 := am (Kd.R_below (by (with_reducible repeat (first | apply Kd.R_alloc | apply Kd.R_drewN | apply Kd.R_drew)); exact (Kd.R_mono (Kd.R_far (p := ⟨gb131, 1, none⟩) (Kd.R_far (p := ⟨gb131, 0, none⟩) (Kd.R_types HO_9.out BK131.out (by decide)) (fun _ hk => hk.2) (.int .i64 ((rd_T59 ((rd_T53 l0_0 a1).f2) t128).f0))) (fun _ hk => hk.2) (.int .i64 ((rd_T59 ((rd_T53 l0_0 a1).f2) t128).f1))) (fun _ h_ => h_.1))) hb); have BK132 := am (hbox); have GW132 := gw hg HB; replace HB := bs HB hb; obtain ⟨NB116_132, NB132_116⟩ := n3 hg BK116; replace BK116 := bb2 BK116 hb; obtain ⟨NB117_132, NB132_117⟩ := n3 hg BK117; replace BK117 := bb2 BK117 hb; obtain ⟨NB131_132, NB132_131⟩ := n3 hg BK131; replace BK131 := bo #[.int .i64 ((rd_T59 ((rd_T53 l0_0 a1).f2) t128).f0), .int .i64 ((rd_T59 ((rd_T53 l0_0 a1).f2) t128).f1)] BK131 hb; clear hb hbox hg; have hnb53 := NB132_116.out; have hnc53 := NB116_132.out; have hnb54 := NB132_117.out; have hnc54 := NB117_132.out; have hnb55 := NB132_131.out; have hnc55 := NB131_132.out; have hcz56 := bK w52 BK132; have hfz56 := bF BK132; have hnb57 := NB116_117.out; have hnc57 := NB117_116.out; have hcz58 := bK w52 BK116; have hfz58 := bF BK116; have hcz59 := bK w52 BK131; have hfz59 := bF BK131) | ((with_reducible refine gk 32 rfl ?_); refine gB 32 (some 60) Try.func32 #[.agg #[.slice (some ad118) l0_0.length c0_0], .agg #[.int .i64 ((rd_T59 ((rd_T53 l0_0 a1).f2) t128).f0), .int .i64 ((rd_T59 ((rd_T53 l0_0 a1).f2) t128).f1)]] (spec_Takes.calls k2 _ _ l0_0 ((rd_T59 ((rd_T53 l0_0 a1).f2) t128).f0) ((rd_T59 ((rd_T53 l0_0 a1).f2) t128).f1) t133 _ (Kd.C_below HR0_0.out (bw HB)) HC0_0.out A42.out) ?_; intro w60 hb; replace HO_7 := am (Kd.R_below (by (with_reducible repeat (first | apply Kd.R_alloc | apply Kd.R_drewN | apply Kd.R_drew)); exact (Kd.R_mono (Kd.R_far (p := ⟨gb132, 2, none⟩) (Kd.R_far (p := ⟨gb132, 1, none⟩) (Kd.R_far (p := ⟨gb132, 0, none⟩) (Kd.R_types HO_7.out BK132.out (by decide)) (fun _ hk => hk.2) (.int .i64 a1)) (fun _ hk => hk.2) (.int .i64 t128)) (fun _ hk => hk.2) (.int .i64 5)) (fun _ h_ => h_.1))) hb); replace HO_9 := am (Kd.R_below (by (with_reducible repeat (first | apply Kd.R_alloc | apply Kd.R_drewN | apply Kd.R_drew)); exact (Kd.R_mono (Kd.R_far (p := ⟨gb132, 2, none⟩) (Kd.R_far (p := ⟨gb132, 1, none⟩) (Kd.R_far (p := ⟨gb132, 0, none⟩) (Kd.R_types HO_9.out BK132.out (by decide)) (fun _ hk => hk.2) (.int .i64 a1)) (fun _ hk => hk.2) (.int .i64 t128)) (fun _ hk => hk.2) (.int .i64 5)) (fun _ h_ => h_.1))) hb); replace BK116 := bb2 BK116 hb; replace BK117 := bb2 BK117 hb; replace BK131 := bb2 BK131 hb; replace BK132 := bo #[.int .i64 a1, .int .i64 t128, .int .i64 5] BK132 hb; replace HB := bs HB hb; clear hb))
 replace HO_7 := am (Kd.R_drew HO_7.out)
 replace HO_9 := am (Kd.R_drew HO_9.out)
 replace BK116 := am (blk_drew BK116.out)
 replace BK117 := am (blk_drew BK117.out)
 replace BK131 := am (blk_drew BK131.out)
 replace BK132 := am (blk_drew BK132.out)
 replace HB := am (below_drew1 HB.out)
 obtain ⟨p134, q134, hx134_0⟩ := aR HO_7 t128
 refine start_ (n := 10) (S := fun w' => w'.cell? ⟨gb131, 0, none⟩ = some (.int .i64 ((rd_T59 ((rd_T53 l0_0 a1).f2) t128).f0)) ∧ w'.cell? ⟨gb131, 1, none⟩ = some (.int .i64 ((rd_T59 ((rd_T53 l0_0 a1).f2) t128).f1)) ∧ w'.cell? ⟨go20, (t128).toNat, none⟩ = some (.int .i64 (rd x7_2 t128))) (ds := []) (bv 10 0) (by kernel_rfl) rfl (by kernel_rfl) ⟨bc BK131 0, bc BK131 1, hx134_0⟩ (fun hHeld => ?_); refine with_tabW spec_l04Heights.tab17 spec_l04Heights.bits17 (fun HT_ HW_ => ?_)
 generalize w60.drew = w61 at HO_7 HO_9 BK116 BK117 BK131 BK132 HB hx134_0 hHeld ⊢
 refine pu 0 61 10 1 HT_ ?_
 refine pu 1 62 10 3 HT_ ?_
 refine pu 2 63 10 7 HT_ ?_
 refine pu 4 65 10 23 HT_ ?_
 refine tk 3 64 10 31 HT_ HW_ hHeld ?_
 refine pu 5 66 10 63 HT_ ?_
 refine tk 6 67 10 127 HT_ HW_ hHeld ?_
 refine on 7 (some 68) 10 255 HT_ fun K hK => ?_
 refine goes_ Try.func33 (by kernel_rfl) rfl #[.agg #[.int .i64 ((rd_T59 ((rd_T53 l0_0 a1).f2) t128).f0), .int .i64 ((rd_T59 ((rd_T53 l0_0 a1).f2) t128).f1)]] (by rfl) rfl rfl gl ?_
 with_reducible refine (spec_Puts.calls k2 ((rd_T59 ((rd_T53 l0_0 a1).f2) t128).f0) ((rd_T59 ((rd_T53 l0_0 a1).f2) t128).f1) t135 _ A44.out).mono ?_
 rintro e w62 ⟨rfl, hb⟩
 have HS2_ := (hb.cell (World.block_lt_of_cell? _ _ (hHeld.2.2))).trans (hHeld.2.2)
 refine ⟨_, rfl, ?_⟩
 replace HO_7 := am (Kd.R_below (kR HO_7) hb)
 replace HO_9 := am (Kd.R_below (kR HO_9) hb)
 replace BK116 := bb BK116 hb
 replace BK117 := bb BK117 hb
 replace BK131 := bb BK131 hb
 replace BK132 := bb BK132 hb
 replace HB := am (below_step (bw HB) hb)
 clear hb
 refine hK.out _ _ ⟨bc BK131 0, bc BK131 1, HS2_⟩ (fun hHeld => ?_)
 clear hK K
 refine nm (some 68) ?_
 refine pu 8 69 10 511 HT_ ?_
 refine pu 9 14 10 1023 HT_ ?_
 refine done_ (done_of HT_.out (by kernel_rfl)) ?_
 go_upto_region 18 with (fail)
 go_cut [79] (fun v79 wc => ∃ (kq : Nat) (x79_44 : Bool), v79 = .bool x79_44 ∧ Aside0 (spec_l04Heights.j2 kq a1 ((rd_T53 l0_0 a1).f2) x7_2 y129 t128 (wrap64 ((wrap64 ((rd x7_2 t128) - t133)) + t135)) x79_44 l0_0 ((rd_T59 ((rd_T53 l0_0 a1).f2) t128).f0) ((rd_T59 ((rd_T53 l0_0 a1).f2) t128).f1) a1 t128 5 = some (r1, r2, r3, r4)) ∧ Aside0 (kq ≤ k2) ∧ Aside0 (Kd.R (Kd.int .i64) 2 wc w.heap.size (fun _ => True) (.slice (some ⟨go20, 0, none⟩) x7_2.length co25) x7_2) ∧ Aside0 (Kd.R Kd.bool 4 wc w.heap.size (fun _ => True) (.slice (some ⟨go24, 0, none⟩) x9_2.length co24) y129) ∧ Aside0 (wc.heap[gb116]? = some (.cells #[(.slice (some ad118) l0_0.length c0_0)] 33 (0, 0))) ∧ Aside0 (wc.heap[gb117]? = some (.cells #[.int .i64 x118000_2, .int .i64 x118001_2, .int .i64 x118002_2] 44 (0, 0))) ∧ Aside0 (wc.heap[gb131]? = some (.cells #[.int .i64 ((rd_T59 ((rd_T53 l0_0 a1).f2) t128).f0), .int .i64 ((rd_T59 ((rd_T53 l0_0 a1).f2) t128).f1)] 59 (0, 0))) ∧ Aside0 (wc.heap[gb132]? = some (.cells #[.int .i64 a1, .int .i64 t128, .int .i64 5] 44 (0, 0))) ∧ Aside0 (Below w.heap.size w wc))
 case first =>
  have H := HC45.out
  clear HC45
  refine qG H ?_ ?_ <;> clear H <;> intro c63b0 H
  ·(first | rw [c63b0] | (simp only [i64_w, i32_w]; rw [c63b0]) | skip)
   have H' := am H
   clear H
   obtain ⟨p136, q136, hx136_0⟩ := aR HO_7 t128
   go_wp2
   go_meet
   case rel => exact ⟨_, (true), dr, H', ⟨lk2 HK1 HK2⟩, ⟨by (try simp only [hl7_2]); (try simp only [hl9_2]); exact kR HO_7⟩, ⟨by (try simp only [hl7_2]); (try simp only [hl9_2]); exact kR HO_9⟩, ⟨by (try simp only [hl7_2]); (try simp only [hl9_2]); exact bp BK116⟩, ⟨by (try simp only [hl7_2]); (try simp only [hl9_2]); exact bp BK117⟩, ⟨by (try simp only [hl7_2]); (try simp only [hl9_2]); exact bp BK131⟩, ⟨by (try simp only [hl7_2]); (try simp only [hl9_2]); exact bp BK132⟩, ⟨bw HB⟩⟩
  (first | rw [c63b0] | (simp only [i64_w, i32_w]; rw [c63b0]) | skip)
  have H' := am H
  clear H
  obtain ⟨p136, q136, hx136_0⟩ := aR HO_7 t128
  go_wp2
  go_meet
  case rel => exact ⟨_, (decide ((wrap64 ((wrap64 ((rd x7_2 t128) - t133)) + t135)) > 8)), dr, H', ⟨lk2 HK1 HK2⟩, ⟨by (try simp only [hl7_2]); (try simp only [hl9_2]); exact kR HO_7⟩, ⟨by (try simp only [hl7_2]); (try simp only [hl9_2]); exact kR HO_9⟩, ⟨by (try simp only [hl7_2]); (try simp only [hl9_2]); exact bp BK116⟩, ⟨by (try simp only [hl7_2]); (try simp only [hl9_2]); exact bp BK117⟩, ⟨by (try simp only [hl7_2]); (try simp only [hl9_2]); exact bp BK131⟩, ⟨by (try simp only [hl7_2]); (try simp only [hl9_2]); exact bp BK132⟩, ⟨bw HB⟩⟩
 clear HC45
 (try clear p4); (try clear q4); (try clear hx4); (try clear hf4); (try clear p13); (try clear q13); (try clear hx13); (try clear c31); (try clear c32); (try clear c33); (try clear c35); (try clear c35b0); (try clear c36); (try clear c38); (try clear c38b0); (try clear c39); (try clear c39b0); (try clear p40); (try clear q40); (try clear hx40); (try clear hf40); (try clear c41); (try clear c41b0); (try clear c43); (try clear c43b0); (try clear c49); (try clear c50); (try clear c53); (try clear c54); (try clear c55); (try clear c57); (try clear c63); (try clear c63b0); (try clear hcz37); (try clear hcz51); (try clear hcz56); (try clear hcz58); (try clear hcz59); (try clear hfz37); (try clear hfz51); (try clear hfz56); (try clear hfz58); (try clear hfz59); (try clear hx130_0); (try clear hx130_1); (try clear hx134_0); (try clear hx136_0); (try clear hx40_0); (try clear p130); (try clear p134); (try clear p136); (try clear p40); (try clear q130); (try clear q134); (try clear q136); (try clear q40)
 obtain ⟨kq, x79_44, rfl, HA, HJ44, HO_7, HO_9, BK116, BK117, BK131, BK132, HB⟩ := hcut
 have hl9_44 := (Kd.R_reads' HO_9.out).1
 rw [hl9_44] at HO_9
 (try simp only [hl9_44])
 (try simp only [hl9_44] at BK116)
 (try simp only [hl9_44] at BK117)
 (try simp only [hl9_44] at BK131)
 (try simp only [hl9_44] at BK132)
 (try simp only [hl9_44] at HO_7)
 rcases kq with _ | kj44
 ·exact absurd HA.out (by simp [spec_l04Heights.j2])
 have H := HA.out
 clear HA
 simp only [spec_l04Heights.j2] at H
 refine qT H ?_ ?_ <;> clear H <;> intro c64 H <;> subst c64
 ·simp only [Option.some.injEq, Prod.mk.injEq] at H
  obtain ⟨rfl, rfl, rfl, rfl⟩ := H
  try go_wp2
  replace HO_7 := am (Kd.R_drew HO_7.out)
  replace HO_9 := am (Kd.R_drew HO_9.out)
  replace BK116 := am (blk_drew BK116.out)
  replace BK117 := am (blk_drew BK117.out)
  replace BK131 := am (blk_drew BK131.out)
  replace BK132 := am (blk_drew BK132.out)
  replace HB := am (below_drew1 HB.out)
  refine start_ (n := 4) (S := fun w' => w'.cell? ⟨gb132, 0, none⟩ = some (.int .i64 a1) ∧ w'.cell? ⟨gb132, 1, none⟩ = some (.int .i64 t128) ∧ w'.cell? ⟨gb132, 2, none⟩ = some (.int .i64 5)) (ds := []) (bv 4 0) (by kernel_rfl) rfl (by kernel_rfl) ⟨bc BK132 0, bc BK132 1, bc BK132 2⟩ (fun hHeld => ?_)
  generalize wc.drew = w65 at HO_7 HO_9 BK116 BK117 BK131 BK132 HB hHeld ⊢
  refine pure_ (i := 0) (N := some 80) (v := ?_) (a' := ?_) (bv 4 1) rfl rfl (by kernel_rfl) (fun _ _ _ h => h) (Or.inl ⟨by rfl, ?_⟩) ?_ ?_
  rotate_left
  ·intro w'
   go_simp
   with_reducible rfl
  rotate_left
  ·simp only [Act.put, sa, sz, ss, i64_w, i32_w]
   rfl
  refine pure_ (i := 2) (N := some 4) (v := ?_) (a' := ?_) (bv 4 5) rfl rfl (by kernel_rfl) (fun _ _ _ h => h) (Or.inl ⟨by rfl, ?_⟩) ?_ ?_
  rotate_left
  ·intro w'
   go_simp
   with_reducible rfl
  rotate_left
  ·simp only [Act.put, sa, sz, ss, i64_w, i32_w]
   rfl
  refine take_ (i := 1) (N := some 81) (v := ?_) (a' := ?_) (bv 4 7) rfl rfl (by kernel_rfl) (fun _ _ _ h => h) (Or.inl ⟨by rfl, ?_⟩) hHeld ?_ ?_
  rotate_left
  ·rintro w' ⟨s0, s1, s2⟩
   go_simp
   with_reducible rfl
  rotate_left
  ·simp only [Act.put, sa, sz, ss, i64_w, i32_w]
   rfl
  refine one_ (i := 3) (N := none) (bv 4 15) rfl rfl (by kernel_rfl) (by decide) (fun K hK => ?_)
  have hs66 := bk w65 BK117 0
  have hfs66 := bf BK117 0
  have hns66_0 := NB116_117.out
  have hns66_2 := NB131_117.out
  have hns66_3 := NB132_117.out
  have hms66_0 := NB117_116.out
  have hms66_2 := NB117_131.out
  have hms66_3 := NB117_132.out
  have hs67 := bk w65 BK117 1
  have hfs67 := bf BK117 1
  have hns67_0 := NB116_117.out
  have hns67_2 := NB131_117.out
  have hns67_3 := NB132_117.out
  have hms67_0 := NB117_116.out
  have hms67_2 := NB117_131.out
  have hms67_3 := NB117_132.out
  have hs68 := bk w65 BK117 2
  have hfs68 := bf BK117 2
  have hns68_0 := NB116_117.out
  have hns68_2 := NB131_117.out
  have hns68_3 := NB132_117.out
  have hms68_0 := NB117_116.out
  have hms68_2 := NB117_131.out
  have hms68_3 := NB117_132.out
  refine skip_ (w1 := ?_) (by rfl) rfl ?_ ?_
  rotate_left
  ·go_simp
   rfl
  refine hK.out _ _ ⟨((cell_far (p := ⟨gb117, _, none⟩) NB132_117.out _).trans (((cell_far (p := ⟨gb117, _, none⟩) NB132_117.out _).trans (((cell_far (p := ⟨gb117, _, none⟩) NB132_117.out _).trans (hHeld.1)))))), ((cell_far (p := ⟨gb117, _, none⟩) NB132_117.out _).trans (((cell_far (p := ⟨gb117, _, none⟩) NB132_117.out _).trans (((cell_far (p := ⟨gb117, _, none⟩) NB132_117.out _).trans (hHeld.2.1)))))), ((cell_far (p := ⟨gb117, _, none⟩) NB132_117.out _).trans (((cell_far (p := ⟨gb117, _, none⟩) NB132_117.out _).trans (((cell_far (p := ⟨gb117, _, none⟩) NB132_117.out _).trans (hHeld.2.2))))))⟩ (fun hHeld => ?_)
  clear hK K
  refine done_ (by kernel_rfl) ?_
  try go_wp2
  refine bodyPost_ret (results_tc rfl _ _ gb117 44 #[.int .i64 a1, .int .i64 t128, .int .i64 5] (0, 0) _ rfl (bt BK117) Try.underlying44 rfl (by kernel_rfl)) rfl ?_
  exact ⟨_, er, by (with_reducible repeat (first | apply Kd.R_alloc | apply Kd.R_drewN | apply Kd.R_drew)); exact Kd.R_mono (Kd.R_far (p := ⟨gb117, 2, none⟩) (Kd.R_far (p := ⟨gb117, 1, none⟩) (Kd.R_far (p := ⟨gb117, 0, none⟩) (Kd.R_types HO_7.out BK117.out (by decide)) (fun _ hk => hk.2) (.int .i64 a1)) (fun _ hk => hk.2) (.int .i64 t128)) (fun _ hk => hk.2) (.int .i64 5)) (fun _ hk => trivial), bw HB⟩
 obtain ⟨y137, hy137⟩ : ∃ y_ : List Int, y_ = (([] : List Int)) := ⟨_, rfl⟩
 replace H : (if ((rd_T59 ((rd_T53 l0_0 a1).f2) t128).f0) = 30 then (spec_l04Heights.j3 kj44 a1 ((rd_T53 l0_0 a1).f2) x7_2 y129 t128 (wrap64 ((wrap64 ((rd x7_2 t128) - t133)) + t135)) y137 false l0_0 ((rd_T59 ((rd_T53 l0_0 a1).f2) t128).f0) ((rd_T59 ((rd_T53 l0_0 a1).f2) t128).f1) a1 t128 5) else (spec_l04Heights.j3 kj44 a1 ((rd_T53 l0_0 a1).f2) x7_2 y129 t128 (wrap64 ((wrap64 ((rd x7_2 t128) - t133)) + t135)) y137 (((rd_T59 ((rd_T53 l0_0 a1).f2) t128).f0) != 33) l0_0 ((rd_T59 ((rd_T53 l0_0 a1).f2) t128).f0) ((rd_T59 ((rd_T53 l0_0 a1).f2) t128).f1) a1 t128 5)) = some (r1, r2, r3, r4) := by first | (rw [hy137]; with_reducible exact H) | (have H2_ := (Option.bind_some _ _).symm.trans H; rw [hy137]; with_reducible exact H2_) | (have H2_ := (Option.bind_some _ _).symm.trans H; with_reducible exact H2_) | with_reducible exact H | (rw [hy137]; exact H) | exact H
 have Ny137 := am hy137
 clear hy137
 have HC69 := am H
 clear H
 go_upto_region 21 with (first | ((with_reducible refine gate_dst (N := 82) rfl ?_); refine Kd.R_lit (Kd.int .i64) _ 2 ?hg (N := 82) ?hd (xs := ([] : List Int)) (inner := []) (ok := fun _ => True) (okp := fun _ => True) ?hr ?hp (fun _ hk => hk) trivial (Below.refl _ _) (Nat.le_refl _) (by simp) ?_; (case hd => rfl); (case hg => rfl); (case hr => exact gs); (case hp => exact (Reps.none _ _)); intro v138 w70 ho71 hb hg_ hnew_; clear hg_ hnew_; (first | rw [← Ny137.out] at ho71 | (simp only [Int.reduceToNat] at ho71; rw [← Ny137.out] at ho71)); replace HO_9 := am (Kd.R_below (kR HO_9) hb); have HO139 := am (Kd.R_lower (Kd.R_new' ho71 (Kd.R_lt (kR HO_7))) (below_size (bw HB))); replace HO_7 := am (Kd.R_elder' (kR HO_7) (Kd.R_base ho71) hb); replace BK116 := bb BK116 hb; replace BK117 := bb BK117 hb; replace BK131 := bb BK131 hb; replace BK132 := bb BK132 hb; replace HB := bs HB hb; clear hb ho71))
 (try simp only [Act.put, sa, sz, ss])
 go_cut [90] (fun v90 wc => ∃ (kq : Nat) (x90_68 : Bool), v90 = .bool x90_68 ∧ Aside0 (spec_l04Heights.j3 kq a1 ((rd_T53 l0_0 a1).f2) x7_2 y129 t128 (wrap64 ((wrap64 ((rd x7_2 t128) - t133)) + t135)) y137 x90_68 l0_0 ((rd_T59 ((rd_T53 l0_0 a1).f2) t128).f0) ((rd_T59 ((rd_T53 l0_0 a1).f2) t128).f1) a1 t128 5 = some (r1, r2, r3, r4)) ∧ Aside0 (kq ≤ kj44) ∧ Aside0 (Kd.R (Kd.int .i64) 2 wc w.heap.size (fun k_ => some k_ ≠ (v138 : Value).ownBlock) (.slice (some ⟨go20, 0, none⟩) x7_2.length co25) x7_2) ∧ Aside0 (Kd.R Kd.bool 4 wc w.heap.size (fun _ => True) (.slice (some ⟨go24, 0, none⟩) y129.length co24) y129) ∧ Aside0 (Kd.R (Kd.int .i64) 2 wc w.heap.size (fun k_ => some k_ ≠ ((.slice (some ⟨go20, 0, none⟩) x7_2.length co25) : Value).ownBlock) v138 y137) ∧ Aside0 (wc.heap[gb116]? = some (.cells #[(.slice (some ad118) l0_0.length c0_0)] 33 (0, 0))) ∧ Aside0 (wc.heap[gb117]? = some (.cells #[.int .i64 x118000_2, .int .i64 x118001_2, .int .i64 x118002_2] 44 (0, 0))) ∧ Aside0 (wc.heap[gb131]? = some (.cells #[.int .i64 ((rd_T59 ((rd_T53 l0_0 a1).f2) t128).f0), .int .i64 ((rd_T59 ((rd_T53 l0_0 a1).f2) t128).f1)] 59 (0, 0))) ∧ Aside0 (wc.heap[gb132]? = some (.cells #[.int .i64 a1, .int .i64 t128, .int .i64 5] 44 (0, 0))) ∧ Aside0 (Below w.heap.size w wc))
 case first =>
  have H := HC69.out
  clear HC69
  refine qE H ?_ ?_ <;> clear H
  ·intro c72b0 c72b1 H
   (first | rw [c72b0] | (simp only [i64_w, i32_w]; rw [c72b0]) | skip)
   have H' := am H
   clear H
   have hnb73 := NB131_116.out
   have hnc73 := NB116_131.out
   have hnb74 := NB131_117.out
   have hnc74 := NB117_131.out
   have hnb75 := NB131_132.out
   have hnc75 := NB132_131.out
   have hcz76 := bK w70 BK131
   have hfz76 := bF BK131
   go_wp2
   go_meet
   case rel => exact ⟨_, (false), dr, H', ⟨lk3 HK1 HK2 HJ44⟩, ⟨by (try simp only [hl7_2]); (try simp only [hl9_2]); (try simp only [hl9_44]); (with_reducible repeat (first | apply Kd.R_alloc | apply Kd.R_drewN | apply Kd.R_drew)); exact Kd.R_mono HO_7.out (fun _ hk => hk.2)⟩, ⟨by (try simp only [hl7_2]); (try simp only [hl9_2]); (try simp only [hl9_44]); exact kR HO_9⟩, ⟨by (try simp only [hl7_2]); (try simp only [hl9_2]); (try simp only [hl9_44]); (with_reducible repeat (first | apply Kd.R_alloc | apply Kd.R_drewN | apply Kd.R_drew)); exact Kd.R_mono HO139.out (fun _ hk => hk.2)⟩, ⟨by (try simp only [hl7_2]); (try simp only [hl9_2]); (try simp only [hl9_44]); exact bp BK116⟩, ⟨by (try simp only [hl7_2]); (try simp only [hl9_2]); (try simp only [hl9_44]); exact bp BK117⟩, ⟨by (try simp only [hl7_2]); (try simp only [hl9_2]); (try simp only [hl9_44]); exact bp BK131⟩, ⟨by (try simp only [hl7_2]); (try simp only [hl9_2]); (try simp only [hl9_44]); exact bp BK132⟩, ⟨bw HB⟩⟩
  intro c72 c72b0 c72b1 H
  (first | rw [c72b0] | (simp only [i64_w, i32_w]; rw [c72b0]) | skip)
  have H' := am H
  clear H
  have hnb77 := NB131_116.out
  have hnc77 := NB116_131.out
  have hnb78 := NB131_117.out
  have hnc78 := NB117_131.out
  have hnb79 := NB131_132.out
  have hnc79 := NB132_131.out
  have hcz80 := bK w70 BK131
  have hfz80 := bF BK131
  go_wp2
  go_meet
  case rel => exact ⟨_, ((((rd_T59 ((rd_T53 l0_0 a1).f2) t128).f0) != 33)), dr, H', ⟨lk3 HK1 HK2 HJ44⟩, ⟨by (try simp only [hl7_2]); (try simp only [hl9_2]); (try simp only [hl9_44]); (with_reducible repeat (first | apply Kd.R_alloc | apply Kd.R_drewN | apply Kd.R_drew)); exact Kd.R_mono HO_7.out (fun _ hk => hk.2)⟩, ⟨by (try simp only [hl7_2]); (try simp only [hl9_2]); (try simp only [hl9_44]); exact kR HO_9⟩, ⟨by (try simp only [hl7_2]); (try simp only [hl9_2]); (try simp only [hl9_44]); (with_reducible repeat (first | apply Kd.R_alloc | apply Kd.R_drewN | apply Kd.R_drew)); exact Kd.R_mono HO139.out (fun _ hk => hk.2)⟩, ⟨by (try simp only [hl7_2]); (try simp only [hl9_2]); (try simp only [hl9_44]); exact bp BK116⟩, ⟨by (try simp only [hl7_2]); (try simp only [hl9_2]); (try simp only [hl9_44]); exact bp BK117⟩, ⟨by (try simp only [hl7_2]); (try simp only [hl9_2]); (try simp only [hl9_44]); exact bp BK131⟩, ⟨by (try simp only [hl7_2]); (try simp only [hl9_2]); (try simp only [hl9_44]); exact bp BK132⟩, ⟨bw HB⟩⟩
 clear HC69
 (try clear c7); (try clear c64); (try clear p64); (try clear c72); (try clear c72b0); (try clear c72b1); (try clear c73); (try clear c74); (try clear c75); (try clear c77); (try clear c78); (try clear c79); (try clear hcz76); (try clear hcz80); (try clear hfz76); (try clear hfz80)
 obtain ⟨kq, x90_68, rfl, HA, HJ68, HO_7, HO_9, HO_15, BK116, BK117, BK131, BK132, HB⟩ := hcut
 rcases kq with _ | kj68
 ·exact absurd HA.out (by simp [spec_l04Heights.j3])
 have H := HA.out
 clear HA
 simp only [spec_l04Heights.j3] at H
 have HC81 := am H
 clear H
 go_upto_if 90 with (fail)
 go_cut [15] (fun v15 wc => ∃ (kq : Nat) (x15_80 : List Int), Aside0 (spec_l04Heights.j4 kq a1 ((rd_T53 l0_0 a1).f2) x7_2 y129 (wrap64 ((wrap64 ((rd x7_2 t128) - t133)) + t135)) x15_80 l0_0 ((rd_T59 ((rd_T53 l0_0 a1).f2) t128).f0) ((rd_T59 ((rd_T53 l0_0 a1).f2) t128).f1) a1 t128 5 = some (r1, r2, r3, r4)) ∧ Aside0 (kq ≤ kj68) ∧ Aside0 (Kd.R (Kd.int .i64) 2 wc w.heap.size (fun k_ => some k_ ≠ (v15 : Value).ownBlock) (.slice (some ⟨go20, 0, none⟩) x7_2.length co25) x7_2) ∧ Aside0 (Kd.R Kd.bool 4 wc w.heap.size (fun _ => True) (.slice (some ⟨go24, 0, none⟩) y129.length co24) y129) ∧ Aside0 (Kd.R (Kd.int .i64) 2 wc w.heap.size (fun k_ => some k_ ≠ ((.slice (some ⟨go20, 0, none⟩) x7_2.length co25) : Value).ownBlock) v15 x15_80) ∧ Aside0 (wc.heap[gb116]? = some (.cells #[(.slice (some ad118) l0_0.length c0_0)] 33 (0, 0))) ∧ Aside0 (wc.heap[gb117]? = some (.cells #[.int .i64 x118000_2, .int .i64 x118001_2, .int .i64 x118002_2] 44 (0, 0))) ∧ Aside0 (wc.heap[gb131]? = some (.cells #[.int .i64 ((rd_T59 ((rd_T53 l0_0 a1).f2) t128).f0), .int .i64 ((rd_T59 ((rd_T53 l0_0 a1).f2) t128).f1)] 59 (0, 0))) ∧ Aside0 (wc.heap[gb132]? = some (.cells #[.int .i64 a1, .int .i64 t128, .int .i64 5] 44 (0, 0))) ∧ Aside0 (Below w.heap.size w wc))
 case first =>
  have H := HC81.out
  clear HC81
  refine qT H ?_ ?_ <;> clear H <;> intro c82 H <;> subst c82
  ·refine iN H ?_; clear H; intro c83 H
   have LMc83 := am c83
   clear c83
   obtain ⟨y140, hy140⟩ : ∃ y_ : List Int, y_ = (y137 ++ [wrap64 (t128 + 1)]) := ⟨_, rfl⟩
   replace H : (spec_l04Heights.j4 kj68 a1 ((rd_T53 l0_0 a1).f2) x7_2 y129 (wrap64 ((wrap64 ((rd x7_2 t128) - t133)) + t135)) y140 l0_0 ((rd_T59 ((rd_T53 l0_0 a1).f2) t128).f0) ((rd_T59 ((rd_T53 l0_0 a1).f2) t128).f1) a1 t128 5) = some (r1, r2, r3, r4) := by first | (rw [hy140]; with_reducible exact H) | (have H2_ := (Option.bind_some _ _).symm.trans H; rw [hy140]; with_reducible exact H2_) | (have H2_ := (Option.bind_some _ _).symm.trans H; with_reducible exact H2_) | with_reducible exact H | (rw [hy140]; exact H) | exact H
   have Ny140 := am hy140
   clear hy140
   have H' := am H
   clear H
   go_wp2_with (first | ((with_reducible refine gate_builtin (b := .append) (xs := #[.tmp 91, .tmp 94]) rfl ?_); at_builtin; refine Kd.R_append (Kd.int .i64) (w0 := w) w.heap.size rfl (.tmp 91) (.tmp 94) 42 2 (.int .i64 0) 8 rfl Try.underlying42 info2 rfl (by decide) (by omega) v138 y137 (wrap64 (t128 + 1)) [.int .i64 (wrap64 (t128 + 1))] (fun k_ => some k_ ≠ (.slice (some ⟨go20, 0, none⟩) x7_2.length co25 : Value).ownBlock) (fun _ => False) rfl rfl ?aP (fun _ hk => hk.elim) ?aF ?aO ?aB ?aS ?aL ?_; (case aP => exact rfl); (case aB => exact (bw HB)); (case aF => exact (fun k_ hk => Kd.fresh' (Kd.R_lt (kR HO_7)) k_ hk)); (case aO => exact (kR HO_15)); (case aS => exact (below_size (bw HB))); (case aL => have := LMc83.out; omega); intro v141 w84 ho hb hg hat; rw [← Ny140.out] at ho; replace HO_7 := am (Kd.R_after (ok := (fun _ => True)) (by (with_reducible repeat (first | apply Kd.R_alloc | apply Kd.R_drewN | apply Kd.R_drew)); exact Kd.R_mono HO_7.out (fun _ hk => ⟨trivial, hk⟩)) hg hat); replace HO_9 := am (Kd.R_over' (kR HO_9) (Kd.R_typed (kR HO_15)) (by decide) hg); replace BK116 := bg BK116 hg (Kd.R_ne HO_15.out BK116.out (by decide)); replace BK117 := bg BK117 hg (Kd.R_ne HO_15.out BK117.out (by decide)); replace BK131 := bg BK131 hg (Kd.R_ne HO_15.out BK131.out (by decide)); replace BK132 := bg BK132 hg (Kd.R_ne HO_15.out BK132.out (by decide)); replace HB := am (hb); have HO142 := am (ho); clear HO_15; clear ho hb hg hat))
   go_meet
   case rel => exact ⟨_, (y140), H', ⟨lk4 HK1 HK2 HJ44 HJ68⟩, ⟨by (try simp only [hl7_2]); (try simp only [hl9_2]); (try simp only [hl9_44]); (with_reducible repeat (first | apply Kd.R_alloc | apply Kd.R_drewN | apply Kd.R_drew)); exact Kd.R_mono HO_7.out (fun _ hk => hk.2)⟩, ⟨by (try simp only [hl7_2]); (try simp only [hl9_2]); (try simp only [hl9_44]); exact kR HO_9⟩, ⟨by (try simp only [hl7_2]); (try simp only [hl9_2]); (try simp only [hl9_44]); exact kR HO142⟩, ⟨by (try simp only [hl7_2]); (try simp only [hl9_2]); (try simp only [hl9_44]); exact bp BK116⟩, ⟨by (try simp only [hl7_2]); (try simp only [hl9_2]); (try simp only [hl9_44]); exact bp BK117⟩, ⟨by (try simp only [hl7_2]); (try simp only [hl9_2]); (try simp only [hl9_44]); exact bp BK131⟩, ⟨by (try simp only [hl7_2]); (try simp only [hl9_2]); (try simp only [hl9_44]); exact bp BK132⟩, ⟨bw HB⟩⟩
  have H' := am H
  clear H
  go_wp2
  go_meet
  case rel => exact ⟨_, (y137), H', ⟨lk4 HK1 HK2 HJ44 HJ68⟩, ⟨by (try simp only [hl7_2]); (try simp only [hl9_2]); (try simp only [hl9_44]); exact kR HO_7⟩, ⟨by (try simp only [hl7_2]); (try simp only [hl9_2]); (try simp only [hl9_44]); exact kR HO_9⟩, ⟨by (try simp only [hl7_2]); (try simp only [hl9_2]); (try simp only [hl9_44]); exact kR HO_15⟩, ⟨by (try simp only [hl7_2]); (try simp only [hl9_2]); (try simp only [hl9_44]); exact bp BK116⟩, ⟨by (try simp only [hl7_2]); (try simp only [hl9_2]); (try simp only [hl9_44]); exact bp BK117⟩, ⟨by (try simp only [hl7_2]); (try simp only [hl9_2]); (try simp only [hl9_44]); exact bp BK131⟩, ⟨by (try simp only [hl7_2]); (try simp only [hl9_2]); (try simp only [hl9_44]); exact bp BK132⟩, ⟨bw HB⟩⟩
 clear HC81
 (try clear c8); (try clear c82); (try clear c83)
 obtain ⟨kq, x15_80, HA, HJ80, HO_7, HO_9, HO_15, BK116, BK117, BK131, BK132, HB⟩ := hcut
 rcases kq with _ | kj80
 ·exact absurd HA.out (by simp [spec_l04Heights.j4])
 have H := HA.out
 clear HA
 simp only [spec_l04Heights.j4] at H
 have HC85 := am H
 clear H
 go_upto_region 23 with (fail)
 go_cut [103] (fun v103 wc => ∃ (kq : Nat) (x103_84 : Bool), v103 = .bool x103_84 ∧ Aside0 (spec_l04Heights.j5 kq a1 ((rd_T53 l0_0 a1).f2) x7_2 y129 (wrap64 ((wrap64 ((rd x7_2 t128) - t133)) + t135)) x15_80 x103_84 l0_0 ((rd_T59 ((rd_T53 l0_0 a1).f2) t128).f0) ((rd_T59 ((rd_T53 l0_0 a1).f2) t128).f1) a1 t128 5 = some (r1, r2, r3, r4)) ∧ Aside0 (kq ≤ kj80) ∧ Aside0 (Kd.R (Kd.int .i64) 2 wc w.heap.size (fun k_ => some k_ ≠ (u15 : Value).ownBlock) (.slice (some ⟨go20, 0, none⟩) x7_2.length co25) x7_2) ∧ Aside0 (Kd.R Kd.bool 4 wc w.heap.size (fun _ => True) (.slice (some ⟨go24, 0, none⟩) y129.length co24) y129) ∧ Aside0 (Kd.R (Kd.int .i64) 2 wc w.heap.size (fun k_ => some k_ ≠ ((.slice (some ⟨go20, 0, none⟩) x7_2.length co25) : Value).ownBlock) u15 x15_80) ∧ Aside0 (wc.heap[gb116]? = some (.cells #[(.slice (some ad118) l0_0.length c0_0)] 33 (0, 0))) ∧ Aside0 (wc.heap[gb117]? = some (.cells #[.int .i64 x118000_2, .int .i64 x118001_2, .int .i64 x118002_2] 44 (0, 0))) ∧ Aside0 (wc.heap[gb131]? = some (.cells #[.int .i64 ((rd_T59 ((rd_T53 l0_0 a1).f2) t128).f0), .int .i64 ((rd_T59 ((rd_T53 l0_0 a1).f2) t128).f1)] 59 (0, 0))) ∧ Aside0 (wc.heap[gb132]? = some (.cells #[.int .i64 a1, .int .i64 t128, .int .i64 5] 44 (0, 0))) ∧ Aside0 (Below w.heap.size w wc))
 case first =>
  have H := HC85.out
  clear HC85
  refine qE H ?_ ?_ <;> clear H
  ·intro c86b0 c86b1 H
   (first | rw [c86b0] | (simp only [i64_w, i32_w]; rw [c86b0]) | skip)
   have H' := am H
   clear H
   have hnb87 := NB131_116.out
   have hnc87 := NB116_131.out
   have hnb88 := NB131_117.out
   have hnc88 := NB117_131.out
   have hnb89 := NB131_132.out
   have hnc89 := NB132_131.out
   have hcz90 := bK wc BK131
   have hfz90 := bF BK131
   go_wp2
   go_meet
   case rel => exact ⟨_, (true), dr, H', ⟨lk5 HK1 HK2 HJ44 HJ68 HJ80⟩, ⟨by (try simp only [hl7_2]); (try simp only [hl9_2]); (try simp only [hl9_44]); exact kR HO_7⟩, ⟨by (try simp only [hl7_2]); (try simp only [hl9_2]); (try simp only [hl9_44]); exact kR HO_9⟩, ⟨by (try simp only [hl7_2]); (try simp only [hl9_2]); (try simp only [hl9_44]); exact kR HO_15⟩, ⟨by (try simp only [hl7_2]); (try simp only [hl9_2]); (try simp only [hl9_44]); exact bp BK116⟩, ⟨by (try simp only [hl7_2]); (try simp only [hl9_2]); (try simp only [hl9_44]); exact bp BK117⟩, ⟨by (try simp only [hl7_2]); (try simp only [hl9_2]); (try simp only [hl9_44]); exact bp BK131⟩, ⟨by (try simp only [hl7_2]); (try simp only [hl9_2]); (try simp only [hl9_44]); exact bp BK132⟩, ⟨bw HB⟩⟩
  intro c86 c86b0 c86b1 H
  (first | rw [c86b0] | (simp only [i64_w, i32_w]; rw [c86b0]) | skip)
  have H' := am H
  clear H
  have hnb91 := NB131_116.out
  have hnc91 := NB116_131.out
  have hnb92 := NB131_117.out
  have hnc92 := NB117_131.out
  have hnb93 := NB131_132.out
  have hnc93 := NB132_131.out
  have hcz94 := bK wc BK131
  have hfz94 := bF BK131
  go_wp2
  go_meet
  case rel => exact ⟨_, ((((rd_T59 ((rd_T53 l0_0 a1).f2) t128).f0) == 31)), dr, H', ⟨lk5 HK1 HK2 HJ44 HJ68 HJ80⟩, ⟨by (try simp only [hl7_2]); (try simp only [hl9_2]); (try simp only [hl9_44]); exact kR HO_7⟩, ⟨by (try simp only [hl7_2]); (try simp only [hl9_2]); (try simp only [hl9_44]); exact kR HO_9⟩, ⟨by (try simp only [hl7_2]); (try simp only [hl9_2]); (try simp only [hl9_44]); exact kR HO_15⟩, ⟨by (try simp only [hl7_2]); (try simp only [hl9_2]); (try simp only [hl9_44]); exact bp BK116⟩, ⟨by (try simp only [hl7_2]); (try simp only [hl9_2]); (try simp only [hl9_44]); exact bp BK117⟩, ⟨by (try simp only [hl7_2]); (try simp only [hl9_2]); (try simp only [hl9_44]); exact bp BK131⟩, ⟨by (try simp only [hl7_2]); (try simp only [hl9_2]); (try simp only [hl9_44]); exact bp BK132⟩, ⟨bw HB⟩⟩
 clear HC85
 (try clear c86); (try clear c86b0); (try clear c86b1); (try clear c87); (try clear c88); (try clear c89); (try clear c91); (try clear c92); (try clear c93); (try clear hcz90); (try clear hcz94); (try clear hfz90); (try clear hfz94)
 obtain ⟨kq, x103_84, rfl, HA, HJ84, HO_7, HO_9, HO_15, BK116, BK117, BK131, BK132, HB⟩ := hcut
 rcases kq with _ | kj84
 ·exact absurd HA.out (by simp [spec_l04Heights.j5])
 have H := HA.out
 clear HA
 simp only [spec_l04Heights.j5] at H
 have HC95 := am H
 clear H
 go_upto_if 103 with (fail)
 go_cut [15] (fun v15 wc => ∃ (kq : Nat) (x15_94 : List Int), Aside0 (spec_l04Heights.j6 kq a1 ((rd_T53 l0_0 a1).f2) x7_2 y129 (wrap64 ((wrap64 ((rd x7_2 t128) - t133)) + t135)) x15_94 l0_0 a1 t128 5 = some (r1, r2, r3, r4)) ∧ Aside0 (kq ≤ kj84) ∧ Aside0 (Kd.R (Kd.int .i64) 2 wc w.heap.size (fun k_ => some k_ ≠ (v15 : Value).ownBlock) (.slice (some ⟨go20, 0, none⟩) x7_2.length co25) x7_2) ∧ Aside0 (Kd.R Kd.bool 4 wc w.heap.size (fun _ => True) (.slice (some ⟨go24, 0, none⟩) y129.length co24) y129) ∧ Aside0 (Kd.R (Kd.int .i64) 2 wc w.heap.size (fun k_ => some k_ ≠ ((.slice (some ⟨go20, 0, none⟩) x7_2.length co25) : Value).ownBlock) v15 x15_94) ∧ Aside0 (wc.heap[gb116]? = some (.cells #[(.slice (some ad118) l0_0.length c0_0)] 33 (0, 0))) ∧ Aside0 (wc.heap[gb117]? = some (.cells #[.int .i64 x118000_2, .int .i64 x118001_2, .int .i64 x118002_2] 44 (0, 0))) ∧ Aside0 (wc.heap[gb131]? = some (.cells #[.int .i64 ((rd_T59 ((rd_T53 l0_0 a1).f2) t128).f0), .int .i64 ((rd_T59 ((rd_T53 l0_0 a1).f2) t128).f1)] 59 (0, 0))) ∧ Aside0 (wc.heap[gb132]? = some (.cells #[.int .i64 a1, .int .i64 t128, .int .i64 5] 44 (0, 0))) ∧ Aside0 (Below w.heap.size w wc))
 case first =>
  have H := HC95.out
  clear HC95
  refine qT H ?_ ?_ <;> clear H <;> intro c96 H <;> subst c96
  ·refine iN H ?_; clear H; intro c97 H
   have LMc97 := am c97
   clear c97
   obtain ⟨y143, hy143⟩ : ∃ y_ : List Int, y_ = (x15_80 ++ [((rd_T59 ((rd_T53 l0_0 a1).f2) t128).f1)]) := ⟨_, rfl⟩
   replace H : (spec_l04Heights.j6 kj84 a1 ((rd_T53 l0_0 a1).f2) x7_2 y129 (wrap64 ((wrap64 ((rd x7_2 t128) - t133)) + t135)) y143 l0_0 a1 t128 5) = some (r1, r2, r3, r4) := by first | (rw [hy143]; with_reducible exact H) | (have H2_ := (Option.bind_some _ _).symm.trans H; rw [hy143]; with_reducible exact H2_) | (have H2_ := (Option.bind_some _ _).symm.trans H; with_reducible exact H2_) | with_reducible exact H | (rw [hy143]; exact H) | exact H
   have Ny143 := am hy143
   clear hy143
   have H' := am H
   clear H
   have hnb98 := NB131_116.out
   have hnc98 := NB116_131.out
   have hnb99 := NB131_117.out
   have hnc99 := NB117_131.out
   have hnb100 := NB131_132.out
   have hnc100 := NB132_131.out
   have hcz101 := bK wc BK131
   have hfz101 := bF BK131
   go_wp2_with (first | ((with_reducible refine gate_builtin (b := .append) (xs := #[.tmp 104, .tmp 107]) rfl ?_); at_builtin; refine Kd.R_append (Kd.int .i64) (w0 := w) w.heap.size rfl (.tmp 104) (.tmp 107) 42 2 (.int .i64 0) 8 rfl Try.underlying42 info2 rfl (by decide) (by omega) u15 x15_80 ((rd_T59 ((rd_T53 l0_0 a1).f2) t128).f1) [.int .i64 ((rd_T59 ((rd_T53 l0_0 a1).f2) t128).f1)] (fun k_ => some k_ ≠ (.slice (some ⟨go20, 0, none⟩) x7_2.length co25 : Value).ownBlock) (fun _ => False) rfl rfl ?aP (fun _ hk => hk.elim) ?aF ?aO ?aB ?aS ?aL ?_; (case aP => exact rfl); (case aB => exact (bw HB)); (case aF => exact (fun k_ hk => Kd.fresh' (Kd.R_lt (kR HO_7)) k_ hk)); (case aO => exact (kR HO_15)); (case aS => exact (below_size (bw HB))); (case aL => have := LMc97.out; omega); intro v144 w102 ho hb hg hat; rw [← Ny143.out] at ho; replace HO_7 := am (Kd.R_after (ok := (fun _ => True)) (by (with_reducible repeat (first | apply Kd.R_alloc | apply Kd.R_drewN | apply Kd.R_drew)); exact Kd.R_mono HO_7.out (fun _ hk => ⟨trivial, hk⟩)) hg hat); replace HO_9 := am (Kd.R_over' (kR HO_9) (Kd.R_typed (kR HO_15)) (by decide) hg); replace BK116 := bg BK116 hg (Kd.R_ne HO_15.out BK116.out (by decide)); replace BK117 := bg BK117 hg (Kd.R_ne HO_15.out BK117.out (by decide)); replace BK131 := bg BK131 hg (Kd.R_ne HO_15.out BK131.out (by decide)); replace BK132 := bg BK132 hg (Kd.R_ne HO_15.out BK132.out (by decide)); replace HB := am (hb); have HO145 := am (ho); clear HO_15; clear ho hb hg hat))
   go_meet
   case rel => exact ⟨_, (y143), H', ⟨lk6 HK1 HK2 HJ44 HJ68 HJ80 HJ84⟩, ⟨by (try simp only [hl7_2]); (try simp only [hl9_2]); (try simp only [hl9_44]); (with_reducible repeat (first | apply Kd.R_alloc | apply Kd.R_drewN | apply Kd.R_drew)); exact Kd.R_mono HO_7.out (fun _ hk => hk.2)⟩, ⟨by (try simp only [hl7_2]); (try simp only [hl9_2]); (try simp only [hl9_44]); exact kR HO_9⟩, ⟨by (try simp only [hl7_2]); (try simp only [hl9_2]); (try simp only [hl9_44]); exact kR HO145⟩, ⟨by (try simp only [hl7_2]); (try simp only [hl9_2]); (try simp only [hl9_44]); exact bp BK116⟩, ⟨by (try simp only [hl7_2]); (try simp only [hl9_2]); (try simp only [hl9_44]); exact bp BK117⟩, ⟨by (try simp only [hl7_2]); (try simp only [hl9_2]); (try simp only [hl9_44]); exact bp BK131⟩, ⟨by (try simp only [hl7_2]); (try simp only [hl9_2]); (try simp only [hl9_44]); exact bp BK132⟩, ⟨bw HB⟩⟩
  have H' := am H
  clear H
  go_wp2
  go_meet
  case rel => exact ⟨_, (x15_80), H', ⟨lk6 HK1 HK2 HJ44 HJ68 HJ80 HJ84⟩, ⟨by (try simp only [hl7_2]); (try simp only [hl9_2]); (try simp only [hl9_44]); exact kR HO_7⟩, ⟨by (try simp only [hl7_2]); (try simp only [hl9_2]); (try simp only [hl9_44]); exact kR HO_9⟩, ⟨by (try simp only [hl7_2]); (try simp only [hl9_2]); (try simp only [hl9_44]); exact kR HO_15⟩, ⟨by (try simp only [hl7_2]); (try simp only [hl9_2]); (try simp only [hl9_44]); exact bp BK116⟩, ⟨by (try simp only [hl7_2]); (try simp only [hl9_2]); (try simp only [hl9_44]); exact bp BK117⟩, ⟨by (try simp only [hl7_2]); (try simp only [hl9_2]); (try simp only [hl9_44]); exact bp BK131⟩, ⟨by (try simp only [hl7_2]); (try simp only [hl9_2]); (try simp only [hl9_44]); exact bp BK132⟩, ⟨bw HB⟩⟩
 clear HC95
 (try clear c10); (try clear c96); (try clear c97); (try clear c98); (try clear c99); (try clear c100); (try clear hcz101); (try clear hfz101)
 obtain ⟨kq, x15_94, HA, HJ94, HO_7, HO_9, HO_15, BK116, BK117, BK131, BK132, HB⟩ := hcut
 rcases kq with _ | kj94
 ·exact absurd HA.out (by simp [spec_l04Heights.j6])
 have H := HA.out
 clear HA
 simp only [spec_l04Heights.j6] at H
 have H' := am H
 clear H
 go_wp2
 go_loopg [16] kj94 (fun kq v16 w' => ∃ (x7_8 : List Int) (x9_8 : List Bool) (x16_8 : Int) (x118000_8 : Int) (x118001_8 : Int) (x118002_8 : Int) (x133002_8 : Int), v16 = .int .i64 x16_8 ∧ Aside0 (spec_l04Heights.l2 kq a1 ((rd_T53 l0_0 a1).f2) x7_8 x9_8 (wrap64 ((wrap64 ((rd x7_2 t128) - t133)) + t135)) x15_94 x16_8 l0_0 a1 t128 x133002_8 = some (r1, r2, r3, r4)) ∧ Aside0 (kq ≤ kj94) ∧ Aside0 (Kd.R (Kd.int .i64) 2 w' w.heap.size (fun k_ => some k_ ≠ (u15 : Value).ownBlock) (.slice (some ⟨go20, 0, none⟩) x7_2.length co25) x7_8) ∧ Aside0 (Kd.R Kd.bool 4 w' w.heap.size (fun _ => True) (.slice (some ⟨go24, 0, none⟩) y129.length co24) x9_8) ∧ Aside0 (Kd.R (Kd.int .i64) 2 w' w.heap.size (fun k_ => some k_ ≠ ((.slice (some ⟨go20, 0, none⟩) x7_2.length co25) : Value).ownBlock) u15 x15_94) ∧ Aside0 (w'.heap[gb116]? = some (.cells #[(.slice (some ad118) l0_0.length c0_0)] 33 (0, 0))) ∧ Aside0 (w'.heap[gb117]? = some (.cells #[.int .i64 x118000_8, .int .i64 x118001_8, .int .i64 x118002_8] 44 (0, 0))) ∧ Aside0 (w'.heap[gb131]? = some (.cells #[.int .i64 ((rd_T59 ((rd_T53 l0_0 a1).f2) t128).f0), .int .i64 ((rd_T59 ((rd_T53 l0_0 a1).f2) t128).f1)] 59 (0, 0))) ∧ Aside0 (w'.heap[gb132]? = some (.cells #[.int .i64 a1, .int .i64 t128, .int .i64 x133002_8] 44 (0, 0))) ∧ Aside0 (Below w.heap.size w w'))
 case atStart => exact ⟨(x7_2), (y129), (0), (x118000_2), (x118001_2), (x118002_2), (5), dr, H', ⟨Nat.le_refl _⟩, ⟨by (try simp only [hl7_2]); (try simp only [hl9_2]); (try simp only [hl9_44]); exact kR HO_7⟩, ⟨by (try simp only [hl7_2]); (try simp only [hl9_2]); (try simp only [hl9_44]); exact kR HO_9⟩, ⟨by (try simp only [hl7_2]); (try simp only [hl9_2]); (try simp only [hl9_44]); exact kR HO_15⟩, ⟨by (try simp only [hl7_2]); (try simp only [hl9_2]); (try simp only [hl9_44]); exact bp BK116⟩, ⟨by (try simp only [hl7_2]); (try simp only [hl9_2]); (try simp only [hl9_44]); exact bp BK117⟩, ⟨by (try simp only [hl7_2]); (try simp only [hl9_2]); (try simp only [hl9_44]); exact bp BK131⟩, ⟨by (try simp only [hl7_2]); (try simp only [hl9_2]); (try simp only [hl9_44]); exact bp BK132⟩, ⟨bw HB⟩⟩
 clear H'
 obtain ⟨x7_8, x9_8, x16_8, x118000_8, x118001_8, x118002_8, x133002_8, rfl, HA, HK8, HO_7, HO_9, HO_15, BK116, BK117, BK131, BK132, HB⟩ := hrel
 have hl7_8 := (Kd.R_reads' HO_7.out).1
 rw [hl7_8] at HO_7
 (try simp only [hl7_8])
 (try simp only [hl7_8] at BK116)
 (try simp only [hl7_8] at BK117)
 (try simp only [hl7_8] at BK131)
 (try simp only [hl7_8] at BK132)
 (try simp only [hl7_8] at HO_9)
 (try simp only [hl7_8] at HO_15)
 have hl9_8 := (Kd.R_reads' HO_9.out).1
 rw [hl9_8] at HO_9
 (try simp only [hl9_8])
 (try simp only [hl9_8] at BK116)
 (try simp only [hl9_8] at BK117)
 (try simp only [hl9_8] at BK131)
 (try simp only [hl9_8] at BK132)
 (try simp only [hl9_8] at HO_7)
 (try simp only [hl9_8] at HO_15)
 rcases gk with _ | k8
 ·exact absurd HA.out (by simp [spec_l04Heights.l2])
 have H := HA.out
 clear HA
 simp only [spec_l04Heights.l2] at H
 by_cases c103 : x16_8 < (x15_94.length : Int)
 ·rw [if_pos c103] at H
  have c103b0 := decide_eq_true c103
  (try (have c103b0hl9_44 := c103b0; rw [hl9_44] at c103b0hl9_44))
  clear c103
  refine iN H ?_; clear H; intro c104 H
  have c104b0 := decide_eq_true c104
  clear c104
  by_cases c105 : (rd x15_94 x16_8) ≥ (((rd_T53 l0_0 a1).f2).length : Int)
  ·rw [if_pos c105] at H
   have c105b0 : decide ((((rd_T53 l0_0 a1).f2).length : Int) ≤ (rd x15_94 x16_8)) = true := decide_eq_true c105
   (try (have c105b0hl9_44 := c105b0; rw [hl9_44] at c105b0hl9_44))
   clear c105
   simp only [Option.some.injEq, Prod.mk.injEq] at H
   obtain ⟨rfl, rfl, rfl, rfl⟩ := H
   obtain ⟨Ao106, co106, eo106⟩ := Kd.R_slice HO_15.out
   subst eo106
   have p146 : 0 ≤ (x16_8 : Int) := of_decide_eq_true as1
   have q146 : x16_8 < (x15_94.length : Int) := of_decide_eq_true as1
   obtain ⟨ad146, e146, hx146_0⟩ := Kd.at_int (Kd.R_reads' HO_15.out).2.2 x16_8 p146 q146
   cases e146
   replace p146 := eq_true p146
   replace q146 := eq_true q146
   have hnb107 := NB132_116.out
   have hnc107 := NB116_132.out
   have hnb108 := NB132_117.out
   have hnc108 := NB117_132.out
   have hnb109 := NB132_131.out
   have hnc109 := NB131_132.out
   have hcz110 := bK wr BK132
   have hfz110 := bF BK132
   try go_wp2
   replace HO_7 : Aside0 (Kd.R (Kd.int .i64) 2 (wr.setCell ⟨gb132, 2, none⟩ (.int .i64 6)) w.heap.size (fun k_ => some k_ ≠ (.slice (some ad146) x15_94.length co106 : Value).ownBlock) (.slice (some ⟨go20, 0, none⟩) x7_8.length co25) x7_8) := ⟨by (with_reducible repeat (first | apply Kd.R_alloc | apply Kd.R_drewN | apply Kd.R_drew)); exact Kd.R_mono (Kd.R_far (p := ⟨gb132, 2, none⟩) (Kd.R_types HO_7.out BK132.out (by decide)) (fun _ hk => hk.2) (.int .i64 6)) (fun _ hk => hk.1)⟩
   replace HO_9 : Aside0 (Kd.R Kd.bool 4 (wr.setCell ⟨gb132, 2, none⟩ (.int .i64 6)) w.heap.size (fun _ => True) (.slice (some ⟨go24, 0, none⟩) x9_8.length co24) x9_8) := ⟨by (with_reducible repeat (first | apply Kd.R_alloc | apply Kd.R_drewN | apply Kd.R_drew)); exact Kd.R_mono (Kd.R_far (p := ⟨gb132, 2, none⟩) (Kd.R_types HO_9.out BK132.out (by decide)) (fun _ hk => hk.2) (.int .i64 6)) (fun _ hk => trivial)⟩
   replace HO_15 : Aside0 (Kd.R (Kd.int .i64) 2 (wr.setCell ⟨gb132, 2, none⟩ (.int .i64 6)) w.heap.size (fun k_ => some k_ ≠ (.slice (some ⟨go20, 0, none⟩) x7_8.length co25 : Value).ownBlock) (.slice (some ad146) x15_94.length co106) x15_94) := ⟨by (with_reducible repeat (first | apply Kd.R_alloc | apply Kd.R_drewN | apply Kd.R_drew)); exact Kd.R_mono (Kd.R_far (p := ⟨gb132, 2, none⟩) (Kd.R_types HO_15.out BK132.out (by decide)) (fun _ hk => hk.2) (.int .i64 6)) (fun _ hk => hk.1)⟩
   replace BK116 : Aside0 ((wr.setCell ⟨gb132, 2, none⟩ (.int .i64 6)).heap[gb116]? = some (.cells #[.slice (some ad118) l0_0.length c0_0] 33 (0, 0))) := ⟨by (with_reducible repeat (first | apply dN | apply dW | apply dA)); refine blk_far ?_ NB116_132.out _; exact bp BK116⟩
   replace BK117 : Aside0 ((wr.setCell ⟨gb132, 2, none⟩ (.int .i64 6)).heap[gb117]? = some (.cells #[.int .i64 x118000_8, .int .i64 x118001_8, .int .i64 x118002_8] 44 (0, 0))) := ⟨by (with_reducible repeat (first | apply dN | apply dW | apply dA)); refine blk_far ?_ NB117_132.out _; exact bp BK117⟩
   replace BK131 : Aside0 ((wr.setCell ⟨gb132, 2, none⟩ (.int .i64 6)).heap[gb131]? = some (.cells #[.int .i64 ((rd_T59 ((rd_T53 l0_0 a1).f2) t128).f0), .int .i64 ((rd_T59 ((rd_T53 l0_0 a1).f2) t128).f1)] 59 (0, 0))) := ⟨by (with_reducible repeat (first | apply dN | apply dW | apply dA)); refine blk_far ?_ NB131_132.out _; exact bp BK131⟩
   replace BK132 : Aside0 ((wr.setCell ⟨gb132, 2, none⟩ (.int .i64 6)).heap[gb132]? = some (.cells #[.int .i64 a1, .int .i64 t128, .int .i64 6] 44 (0, 0))) := ⟨by (with_reducible repeat (first | apply dN | apply dW | apply dA)); refine blk_put (cs := #[.int .i64 a1, .int .i64 t128, .int .i64 x133002_8]) ?_ 2 _ rfl; exact bp BK132⟩
   replace HB : Aside0 (Below w.heap.size w (wr.setCell ⟨gb132, 2, none⟩ (.int .i64 6))) := ⟨bw HB⟩
   generalize (wr.setCell ⟨gb132, 2, none⟩ (.int .i64 6)) = w111 at HO_7 HO_9 HO_15 BK116 BK117 BK131 BK132 HB ⊢
   replace HO_7 := am (Kd.R_drew HO_7.out)
   replace HO_9 := am (Kd.R_drew HO_9.out)
   replace HO_15 := am (Kd.R_drew HO_15.out)
   replace BK116 := am (blk_drew BK116.out)
   replace BK117 := am (blk_drew BK117.out)
   replace BK131 := am (blk_drew BK131.out)
   replace BK132 := am (blk_drew BK132.out)
   replace HB := am (below_drew1 HB.out)
   refine start_ (n := 4) (S := fun w' => w'.cell? ⟨gb132, 0, none⟩ = some (.int .i64 a1) ∧ w'.cell? ⟨gb132, 1, none⟩ = some (.int .i64 t128) ∧ w'.cell? ⟨gb132, 2, none⟩ = some (.int .i64 6)) (ds := []) (bv 4 0) (by kernel_rfl) rfl (by kernel_rfl) ⟨bc BK132 0, bc BK132 1, bc BK132 2⟩ (fun hHeld => ?_)
   generalize w111.drew = w112 at HO_7 HO_9 HO_15 BK116 BK117 BK131 BK132 HB hHeld ⊢
   refine pure_ (i := 0) (N := some 123) (v := ?_) (a' := ?_) (bv 4 1) rfl rfl (by kernel_rfl) (fun _ _ _ h => h) (Or.inl ⟨by rfl, ?_⟩) ?_ ?_
   rotate_left
   ·intro w'
    go_simp
    with_reducible rfl
   rotate_left
   ·simp only [Act.put, sa, sz, ss, i64_w, i32_w]
    rfl
   refine pure_ (i := 2) (N := some 4) (v := ?_) (a' := ?_) (bv 4 5) rfl rfl (by kernel_rfl) (fun _ _ _ h => h) (Or.inl ⟨by rfl, ?_⟩) ?_ ?_
   rotate_left
   ·intro w'
    go_simp
    with_reducible rfl
   rotate_left
   ·simp only [Act.put, sa, sz, ss, i64_w, i32_w]
    rfl
   refine take_ (i := 1) (N := some 124) (v := ?_) (a' := ?_) (bv 4 7) rfl rfl (by kernel_rfl) (fun _ _ _ h => h) (Or.inl ⟨by rfl, ?_⟩) hHeld ?_ ?_
   rotate_left
   ·rintro w' ⟨s0, s1, s2⟩
    go_simp
    with_reducible rfl
   rotate_left
   ·simp only [Act.put, sa, sz, ss, i64_w, i32_w]
    rfl
   refine one_ (i := 3) (N := none) (bv 4 15) rfl rfl (by kernel_rfl) (by decide) (fun K hK => ?_)
   have hs113 := bk w112 BK117 0
   have hfs113 := bf BK117 0
   have hns113_0 := NB116_117.out
   have hns113_2 := NB131_117.out
   have hns113_3 := NB132_117.out
   have hms113_0 := NB117_116.out
   have hms113_2 := NB117_131.out
   have hms113_3 := NB117_132.out
   have hs114 := bk w112 BK117 1
   have hfs114 := bf BK117 1
   have hns114_0 := NB116_117.out
   have hns114_2 := NB131_117.out
   have hns114_3 := NB132_117.out
   have hms114_0 := NB117_116.out
   have hms114_2 := NB117_131.out
   have hms114_3 := NB117_132.out
   have hs115 := bk w112 BK117 2
   have hfs115 := bf BK117 2
   have hns115_0 := NB116_117.out
   have hns115_2 := NB131_117.out
   have hns115_3 := NB132_117.out
   have hms115_0 := NB117_116.out
   have hms115_2 := NB117_131.out
   have hms115_3 := NB117_132.out
   refine skip_ (w1 := ?_) (by rfl) rfl ?_ ?_
   rotate_left
   ·go_simp
    rfl
   refine hK.out _ _ ⟨((cell_far (p := ⟨gb117, _, none⟩) NB132_117.out _).trans (((cell_far (p := ⟨gb117, _, none⟩) NB132_117.out _).trans (((cell_far (p := ⟨gb117, _, none⟩) NB132_117.out _).trans (hHeld.1)))))), ((cell_far (p := ⟨gb117, _, none⟩) NB132_117.out _).trans (((cell_far (p := ⟨gb117, _, none⟩) NB132_117.out _).trans (((cell_far (p := ⟨gb117, _, none⟩) NB132_117.out _).trans (hHeld.2.1)))))), ((cell_far (p := ⟨gb117, _, none⟩) NB132_117.out _).trans (((cell_far (p := ⟨gb117, _, none⟩) NB132_117.out _).trans (((cell_far (p := ⟨gb117, _, none⟩) NB132_117.out _).trans (hHeld.2.2))))))⟩ (fun hHeld => ?_)
   clear hK K
   refine done_ (by kernel_rfl) ?_
   try go_wp2
   refine bodyPost_ret (results_tc rfl _ _ gb117 44 #[.int .i64 a1, .int .i64 t128, .int .i64 6] (0, 0) _ rfl (bt BK117) Try.underlying44 rfl (by kernel_rfl)) rfl ?_
   exact ⟨_, er, by (with_reducible repeat (first | apply Kd.R_alloc | apply Kd.R_drewN | apply Kd.R_drew)); exact Kd.R_mono (Kd.R_far (p := ⟨gb117, 2, none⟩) (Kd.R_far (p := ⟨gb117, 1, none⟩) (Kd.R_far (p := ⟨gb117, 0, none⟩) (Kd.R_types HO_7.out BK117.out (by decide)) (fun _ hk => hk.2) (.int .i64 a1)) (fun _ hk => hk.2) (.int .i64 t128)) (fun _ hk => hk.2) (.int .i64 6)) (fun _ hk => trivial), bw HB⟩
  rw [if_neg c105] at H
  have c105b0 : decide ((((rd_T53 l0_0 a1).f2).length : Int) ≤ (rd x15_94 x16_8)) = false := decide_eq_false c105
  (try (have c105b0hl9_44 := c105b0; rw [hl9_44] at c105b0hl9_44))
  clear c105
  have HC116 := am H
  clear H
  obtain ⟨Ao117, co117, eo117⟩ := Kd.R_slice HO_15.out
  subst eo117
  have p146 : 0 ≤ (x16_8 : Int) := of_decide_eq_true as1
  have q146 : x16_8 < (x15_94.length : Int) := of_decide_eq_true as1
  obtain ⟨ad146, e146, hx146_0⟩ := Kd.at_int (Kd.R_reads' HO_15.out).2.2 x16_8 p146 q146
  cases e146
  replace p146 := eq_true p146
  replace q146 := eq_true q146
  go_upto_region 31 with (fail)
  go_cut [143] (fun v143 wc => ∃ (kq : Nat) (x143_115 : Bool), v143 = .bool x143_115 ∧ Aside0 (spec_l04Heights.j8 kq a1 ((rd_T53 l0_0 a1).f2) x7_8 x9_8 (wrap64 ((wrap64 ((rd x7_2 t128) - t133)) + t135)) x15_94 x16_8 x143_115 l0_0 a1 t128 x133002_8 = some (r1, r2, r3, r4)) ∧ Aside0 (kq ≤ k8) ∧ Aside0 (Kd.R (Kd.int .i64) 2 wc w.heap.size (fun k_ => some k_ ≠ ((.slice (some ad146) x15_94.length co117) : Value).ownBlock) (.slice (some ⟨go20, 0, none⟩) x7_8.length co25) x7_8) ∧ Aside0 (Kd.R Kd.bool 4 wc w.heap.size (fun _ => True) (.slice (some ⟨go24, 0, none⟩) x9_8.length co24) x9_8) ∧ Aside0 (Kd.R (Kd.int .i64) 2 wc w.heap.size (fun k_ => some k_ ≠ ((.slice (some ⟨go20, 0, none⟩) x7_8.length co25) : Value).ownBlock) (.slice (some ad146) x15_94.length co117) x15_94) ∧ Aside0 (wc.heap[gb116]? = some (.cells #[(.slice (some ad118) l0_0.length c0_0)] 33 (0, 0))) ∧ Aside0 (wc.heap[gb117]? = some (.cells #[.int .i64 x118000_8, .int .i64 x118001_8, .int .i64 x118002_8] 44 (0, 0))) ∧ Aside0 (wc.heap[gb131]? = some (.cells #[.int .i64 ((rd_T59 ((rd_T53 l0_0 a1).f2) t128).f0), .int .i64 ((rd_T59 ((rd_T53 l0_0 a1).f2) t128).f1)] 59 (0, 0))) ∧ Aside0 (wc.heap[gb132]? = some (.cells #[.int .i64 a1, .int .i64 t128, .int .i64 x133002_8] 44 (0, 0))) ∧ Aside0 (Below w.heap.size w wc))
  case first =>
   have H := HC116.out
   clear HC116
   refine iM H ?_; clear H; intro c118b0 H
   (first | rw [c118b0] | (simp only [i64_w, i32_w]; rw [c118b0]) | skip)
   refine iM H ?_; clear H; intro c119b0 H
   (try (have c119b0hl9_44 := c119b0; rw [hl9_44] at c119b0hl9_44))
   (try (have c119b0hl7_8 := c119b0; rw [hl7_8] at c119b0hl7_8))
   refine qL H ?_ ?_ <;> clear H <;> intro c120b0 H
   ·have H' := am H
    clear H
    have p147 : 0 ≤ (x16_8 : Int) := of_decide_eq_true as1
    have q147 : x16_8 < (x15_94.length : Int) := of_decide_eq_true as1
    obtain ⟨ad147, e147, hx147_0⟩ := Kd.at_int (Kd.R_reads' HO_15.out).2.2 x16_8 p147 q147
    obtain rfl : ad146 = ad147 := (by injection e147)
    replace p147 := eq_true p147
    replace q147 := eq_true q147
    obtain ⟨p148, q148, hx148_0⟩ := aR HO_7 (rd x15_94 x16_8)
    have p149 : 0 ≤ (x16_8 : Int) := of_decide_eq_true as1
    have q149 : x16_8 < (x15_94.length : Int) := of_decide_eq_true as1
    obtain ⟨ad149, e149, hx149_0⟩ := Kd.at_int (Kd.R_reads' HO_15.out).2.2 x16_8 p149 q149
    obtain rfl : ad146 = ad149 := (by injection e149)
    replace p149 := eq_true p149
    replace q149 := eq_true q149
    obtain ⟨p150, q150, hx150_0⟩ := aR HO_7 (rd x15_94 x16_8)
    go_wp2
    go_meet
    case rel => exact ⟨_, (((rd x7_8 (rd x15_94 x16_8)) != (wrap64 ((wrap64 ((rd x7_2 t128) - t133)) + t135)))), dr, H', ⟨by have := HK1.out; have := HK2.out; have := HJ44.out; have := HJ68.out; have := HJ80.out; have := HJ84.out; have := HJ94.out; have := HK8.out; first | omega | exact Nat.le_refl _⟩, ⟨by (try simp only [hl7_2]); (try simp only [hl9_2]); (try simp only [hl9_44]); (try simp only [hl7_8]); (try simp only [hl9_8]); exact kR HO_7⟩, ⟨by (try simp only [hl7_2]); (try simp only [hl9_2]); (try simp only [hl9_44]); (try simp only [hl7_8]); (try simp only [hl9_8]); exact kR HO_9⟩, ⟨by (try simp only [hl7_2]); (try simp only [hl9_2]); (try simp only [hl9_44]); (try simp only [hl7_8]); (try simp only [hl9_8]); exact kR HO_15⟩, ⟨by (try simp only [hl7_2]); (try simp only [hl9_2]); (try simp only [hl9_44]); (try simp only [hl7_8]); (try simp only [hl9_8]); exact bp BK116⟩, ⟨by (try simp only [hl7_2]); (try simp only [hl9_2]); (try simp only [hl9_44]); (try simp only [hl7_8]); (try simp only [hl9_8]); exact bp BK117⟩, ⟨by (try simp only [hl7_2]); (try simp only [hl9_2]); (try simp only [hl9_44]); (try simp only [hl7_8]); (try simp only [hl9_8]); exact bp BK131⟩, ⟨by (try simp only [hl7_2]); (try simp only [hl9_2]); (try simp only [hl9_44]); (try simp only [hl7_8]); (try simp only [hl9_8]); exact bp BK132⟩, ⟨bw HB⟩⟩
   have H' := am H
   clear H
   have p147 : 0 ≤ (x16_8 : Int) := of_decide_eq_true as1
   have q147 : x16_8 < (x15_94.length : Int) := of_decide_eq_true as1
   obtain ⟨ad147, e147, hx147_0⟩ := Kd.at_int (Kd.R_reads' HO_15.out).2.2 x16_8 p147 q147
   obtain rfl : ad146 = ad147 := (by injection e147)
   replace p147 := eq_true p147
   replace q147 := eq_true q147
   obtain ⟨p148, q148, hx148_0⟩ := aR HO_7 (rd x15_94 x16_8)
   go_wp2
   go_meet
   case rel => exact ⟨_, (false), dr, H', ⟨by have := HK1.out; have := HK2.out; have := HJ44.out; have := HJ68.out; have := HJ80.out; have := HJ84.out; have := HJ94.out; have := HK8.out; first | omega | exact Nat.le_refl _⟩, ⟨by (try simp only [hl7_2]); (try simp only [hl9_2]); (try simp only [hl9_44]); (try simp only [hl7_8]); (try simp only [hl9_8]); exact kR HO_7⟩, ⟨by (try simp only [hl7_2]); (try simp only [hl9_2]); (try simp only [hl9_44]); (try simp only [hl7_8]); (try simp only [hl9_8]); exact kR HO_9⟩, ⟨by (try simp only [hl7_2]); (try simp only [hl9_2]); (try simp only [hl9_44]); (try simp only [hl7_8]); (try simp only [hl9_8]); exact kR HO_15⟩, ⟨by (try simp only [hl7_2]); (try simp only [hl9_2]); (try simp only [hl9_44]); (try simp only [hl7_8]); (try simp only [hl9_8]); exact bp BK116⟩, ⟨by (try simp only [hl7_2]); (try simp only [hl9_2]); (try simp only [hl9_44]); (try simp only [hl7_8]); (try simp only [hl9_8]); exact bp BK117⟩, ⟨by (try simp only [hl7_2]); (try simp only [hl9_2]); (try simp only [hl9_44]); (try simp only [hl7_8]); (try simp only [hl9_8]); exact bp BK131⟩, ⟨by (try simp only [hl7_2]); (try simp only [hl9_2]); (try simp only [hl9_44]); (try simp only [hl7_8]); (try simp only [hl9_8]); exact bp BK132⟩, ⟨bw HB⟩⟩
  clear HC116
  (try clear c12); (try clear p14); (try clear q14); (try clear hx14); (try clear c103); (try clear c103b0); (try clear c104); (try clear c104b0); (try clear c105); (try clear c105b0); (try clear c107); (try clear c108); (try clear c109); (try clear c118); (try clear c118b0); (try clear hx118); (try clear c119); (try clear c119b0); (try clear c120); (try clear c120b0); (try clear hcz110); (try clear hfz110); (try clear hx146_0); (try clear hx147_0); (try clear hx148_0); (try clear hx149_0); (try clear hx150_0); (try clear p146); (try clear p147); (try clear p148); (try clear p149); (try clear p150); (try clear q146); (try clear q147); (try clear q148); (try clear q149); (try clear q150)
  obtain ⟨kq, x143_115, rfl, HA, HJ115, HO_7, HO_9, HO_15, BK116, BK117, BK131, BK132, HB⟩ := hcut
  rcases kq with _ | kj115
  ·exact absurd HA.out (by simp [spec_l04Heights.j8])
  have H := HA.out
  clear HA
  simp only [spec_l04Heights.j8] at H
  refine qT H ?_ ?_ <;> clear H <;> intro c121 H <;> subst c121
  ·simp only [Option.some.injEq, Prod.mk.injEq] at H
   obtain ⟨rfl, rfl, rfl, rfl⟩ := H
   try go_wp2
   replace HO_7 := am (Kd.R_drew HO_7.out)
   replace HO_9 := am (Kd.R_drew HO_9.out)
   replace HO_15 := am (Kd.R_drew HO_15.out)
   replace BK116 := am (blk_drew BK116.out)
   replace BK117 := am (blk_drew BK117.out)
   replace BK131 := am (blk_drew BK131.out)
   replace BK132 := am (blk_drew BK132.out)
   replace HB := am (below_drew1 HB.out)
   refine start_ (n := 4) (S := fun w' => w'.cell? ⟨gb132, 0, none⟩ = some (.int .i64 a1) ∧ w'.cell? ⟨gb132, 1, none⟩ = some (.int .i64 t128) ∧ w'.cell? ⟨gb132, 2, none⟩ = some (.int .i64 x133002_8)) (ds := []) (bv 4 0) (by kernel_rfl) rfl (by kernel_rfl) ⟨bc BK132 0, bc BK132 1, bc BK132 2⟩ (fun hHeld => ?_)
   generalize wc.drew = w122 at HO_7 HO_9 HO_15 BK116 BK117 BK131 BK132 HB hHeld ⊢
   refine pure_ (i := 0) (N := some 144) (v := ?_) (a' := ?_) (bv 4 1) rfl rfl (by kernel_rfl) (fun _ _ _ h => h) (Or.inl ⟨by rfl, ?_⟩) ?_ ?_
   rotate_left
   ·intro w'
    go_simp
    with_reducible rfl
   rotate_left
   ·simp only [Act.put, sa, sz, ss, i64_w, i32_w]
    rfl
   refine pure_ (i := 2) (N := some 4) (v := ?_) (a' := ?_) (bv 4 5) rfl rfl (by kernel_rfl) (fun _ _ _ h => h) (Or.inl ⟨by rfl, ?_⟩) ?_ ?_
   rotate_left
   ·intro w'
    go_simp
    with_reducible rfl
   rotate_left
   ·simp only [Act.put, sa, sz, ss, i64_w, i32_w]
    rfl
   refine take_ (i := 1) (N := some 145) (v := ?_) (a' := ?_) (bv 4 7) rfl rfl (by kernel_rfl) (fun _ _ _ h => h) (Or.inl ⟨by rfl, ?_⟩) hHeld ?_ ?_
   rotate_left
   ·rintro w' ⟨s0, s1, s2⟩
    go_simp
    with_reducible rfl
   rotate_left
   ·simp only [Act.put, sa, sz, ss, i64_w, i32_w]
    rfl
   refine one_ (i := 3) (N := none) (bv 4 15) rfl rfl (by kernel_rfl) (by decide) (fun K hK => ?_)
   have hs123 := bk w122 BK117 0
   have hfs123 := bf BK117 0
   have hns123_0 := NB116_117.out
   have hns123_2 := NB131_117.out
   have hns123_3 := NB132_117.out
   have hms123_0 := NB117_116.out
   have hms123_2 := NB117_131.out
   have hms123_3 := NB117_132.out
   have hs124 := bk w122 BK117 1
   have hfs124 := bf BK117 1
   have hns124_0 := NB116_117.out
   have hns124_2 := NB131_117.out
   have hns124_3 := NB132_117.out
   have hms124_0 := NB117_116.out
   have hms124_2 := NB117_131.out
   have hms124_3 := NB117_132.out
   have hs125 := bk w122 BK117 2
   have hfs125 := bf BK117 2
   have hns125_0 := NB116_117.out
   have hns125_2 := NB131_117.out
   have hns125_3 := NB132_117.out
   have hms125_0 := NB117_116.out
   have hms125_2 := NB117_131.out
   have hms125_3 := NB117_132.out
   refine skip_ (w1 := ?_) (by rfl) rfl ?_ ?_
   rotate_left
   ·go_simp
    rfl
   refine hK.out _ _ ⟨((cell_far (p := ⟨gb117, _, none⟩) NB132_117.out _).trans (((cell_far (p := ⟨gb117, _, none⟩) NB132_117.out _).trans (((cell_far (p := ⟨gb117, _, none⟩) NB132_117.out _).trans (hHeld.1)))))), ((cell_far (p := ⟨gb117, _, none⟩) NB132_117.out _).trans (((cell_far (p := ⟨gb117, _, none⟩) NB132_117.out _).trans (((cell_far (p := ⟨gb117, _, none⟩) NB132_117.out _).trans (hHeld.2.1)))))), ((cell_far (p := ⟨gb117, _, none⟩) NB132_117.out _).trans (((cell_far (p := ⟨gb117, _, none⟩) NB132_117.out _).trans (((cell_far (p := ⟨gb117, _, none⟩) NB132_117.out _).trans (hHeld.2.2))))))⟩ (fun hHeld => ?_)
   clear hK K
   refine done_ (by kernel_rfl) ?_
   try go_wp2
   refine bodyPost_ret (results_tc rfl _ _ gb117 44 #[.int .i64 a1, .int .i64 t128, .int .i64 x133002_8] (0, 0) _ rfl (bt BK117) Try.underlying44 rfl (by kernel_rfl)) rfl ?_
   exact ⟨_, er, by (with_reducible repeat (first | apply Kd.R_alloc | apply Kd.R_drewN | apply Kd.R_drew)); exact Kd.R_mono (Kd.R_far (p := ⟨gb117, 2, none⟩) (Kd.R_far (p := ⟨gb117, 1, none⟩) (Kd.R_far (p := ⟨gb117, 0, none⟩) (Kd.R_types HO_7.out BK117.out (by decide)) (fun _ hk => hk.2) (.int .i64 a1)) (fun _ hk => hk.2) (.int .i64 t128)) (fun _ hk => hk.2) (.int .i64 x133002_8)) (fun _ hk => trivial), bw HB⟩
  refine iM H ?_; clear H; intro c126b0 H
  refine iM H ?_; clear H; intro c127b0 H
  (try (have c127b0hl9_44 := c127b0; rw [hl9_44] at c127b0hl9_44))
  refine iM H ?_; clear H; intro c128b0 H
  refine iM H ?_; clear H; intro c129b0 H
  (try (have c129b0hl9_44 := c129b0; rw [hl9_44] at c129b0hl9_44))
  (try (have c129b0hl7_8 := c129b0; rw [hl7_8] at c129b0hl7_8))
  refine qI H ?_ ?_ <;> clear H <;> intro c130b0 H
  ·obtain ⟨y154, hy154⟩ : ∃ y_ : List Int, y_ = (x7_8.set ((rd x15_94 x16_8) : Int).toNat (wrap64 ((wrap64 ((rd x7_2 t128) - t133)) + t135))) := ⟨_, rfl⟩
   replace H : (if (rd x15_94 x16_8) < (x9_8.length : Int) then (spec_l04Heights.l2 kj115 a1 ((rd_T53 l0_0 a1).f2) y154 (x9_8.set ((rd x15_94 x16_8) : Int).toNat true) (wrap64 ((wrap64 ((rd x7_2 t128) - t133)) + t135)) x15_94 (wrap64 (x16_8 + 1)) l0_0 a1 t128 x133002_8) else (none)) = some (r1, r2, r3, r4) := by first | (rw [hy154]; with_reducible exact H) | (have H2_ := (Option.bind_some _ _).symm.trans H; rw [hy154]; with_reducible exact H2_) | (have H2_ := (Option.bind_some _ _).symm.trans H; with_reducible exact H2_) | with_reducible exact H | (rw [hy154]; exact H) | exact H
   have Ny154 := am hy154
   clear hy154
   refine iM H ?_; clear H; intro c132b0 H
   (try (have c132b0hl9_44 := c132b0; rw [hl9_44] at c132b0hl9_44))
   (try (have c132b0hl9_8 := c132b0; rw [hl9_8] at c132b0hl9_8))
   obtain ⟨y156, hy156⟩ : ∃ y_ : List Bool, y_ = (x9_8.set ((rd x15_94 x16_8) : Int).toNat true) := ⟨_, rfl⟩
   replace H : (spec_l04Heights.l2 kj115 a1 ((rd_T53 l0_0 a1).f2) y154 y156 (wrap64 ((wrap64 ((rd x7_2 t128) - t133)) + t135)) x15_94 (wrap64 (x16_8 + 1)) l0_0 a1 t128 x133002_8) = some (r1, r2, r3, r4) := by first | (rw [hy156]; with_reducible exact H) | (have H2_ := (Option.bind_some _ _).symm.trans H; rw [hy156]; with_reducible exact H2_) | (have H2_ := (Option.bind_some _ _).symm.trans H; with_reducible exact H2_) | with_reducible exact H | (rw [hy156]; exact H) | exact H
   have Ny156 := am hy156
   clear hy156
   have H' := am H
   clear H
   have p151 : 0 ≤ (x16_8 : Int) := of_decide_eq_true as1
   have q151 : x16_8 < (x15_94.length : Int) := of_decide_eq_true as1
   obtain ⟨ad151, e151, hx151_0⟩ := Kd.at_int (Kd.R_reads' HO_15.out).2.2 x16_8 p151 q151
   obtain rfl : ad146 = ad151 := (by injection e151)
   replace p151 := eq_true p151
   replace q151 := eq_true q151
   obtain ⟨p152, q152, hx152_0⟩ := aR HO_7 (rd x15_94 x16_8)
   have p153 : 0 ≤ (x16_8 : Int) := of_decide_eq_true as1
   have q153 : x16_8 < (x15_94.length : Int) := of_decide_eq_true as1
   obtain ⟨ad153, e153, hx153_0⟩ := Kd.at_int (Kd.R_reads' HO_15.out).2.2 x16_8 p153 q153
   obtain rfl : ad146 = ad153 := (by injection e153)
   replace p153 := eq_true p153
   replace q153 := eq_true q153
   have p131 : 0 ≤ ((rd x15_94 x16_8) : Int) := of_decide_eq_true as1
   have q131 : ((rd x15_94 x16_8) : Int) < ((x7_8.length : Int) : Int) := of_decide_eq_true as1
   obtain ⟨hx131_0, hf131_0⟩ := Kd.R_celln 0 HO_7.out ((rd x15_94 x16_8) : Int) p131 q131
   replace p131 := eq_true p131
   replace q131 := eq_true q131
   have HP134 := Kd.R_putg HO_7.out ((rd x15_94 x16_8) : Int) (wrap64 ((wrap64 ((rd x7_2 t128) - t133)) + t135))
   go_wp2_with (first | ((with_reducible refine gt 2 160 rfl ?_); refine sE 2 160 (wc.setCell ⟨go20, ((rd x15_94 x16_8) : Int).toNat, none⟩ (.int .i64 (wrap64 ((wrap64 ((rd x7_2 t128) - t133)) + t135)))) ?_; intro w135 hw; have hg : wc.grownBy w135 (some go20) := (by rw [hw]; exact HP134.2); have hp_ : Kd.R (Kd.int .i64) 2 w135 w.heap.size (fun k_ => some k_ ≠ (.slice (some ad146) x15_94.length co117 : Value).ownBlock) (.slice (some ⟨go20, 0, none⟩) x7_8.length co25) y154 := (by rw [hw, Ny154.out]; exact HP134.1); clear HP134; replace HO_9 := am (Kd.R_over' (v := (.slice (some ⟨go20, 0, none⟩) x7_8.length co25)) (kR HO_9) (Kd.R_typed HO_7.out) (by decide) hg); replace HO_15 := am (Kd.R_after (v := (.slice (some ⟨go20, 0, none⟩) x7_8.length co25)) (v1 := (.slice (some ⟨go20, 0, none⟩) x7_8.length co25)) (ok := (fun _ => True)) (by (with_reducible repeat (first | apply Kd.R_alloc | apply Kd.R_drewN | apply Kd.R_drew)); exact Kd.R_mono HO_15.out (fun _ hk => ⟨trivial, hk⟩)) hg (.inl rfl)); replace BK116 := bg BK116 hg (Kd.R_ne HO_7.out BK116.out (by decide)); replace BK117 := bg BK117 hg (Kd.R_ne HO_7.out BK117.out (by decide)); replace BK131 := bg BK131 hg (Kd.R_ne HO_7.out BK131.out (by decide)); replace BK132 := bg BK132 hg (Kd.R_ne HO_7.out BK132.out (by decide)); replace HO_7 := am (hp_); replace HB := am ((by rw [hw]; exact below_set (HB.out) GB20.out : Below w.heap.size w w135)); clear hg hw hp_; have p155 : 0 ≤ (x16_8 : Int) := of_decide_eq_true as1; have q155 : x16_8 < (x15_94.length : Int) := of_decide_eq_true as1; obtain ⟨ad155, e155, hx155_0⟩ := Kd.at_int (Kd.R_reads' HO_15.out).2.2 x16_8 p155 q155; obtain rfl : ad146 = ad155 := (by injection e155); replace p155 := eq_true p155; replace q155 := eq_true q155; have p133 : 0 ≤ ((rd x15_94 x16_8) : Int) := of_decide_eq_true as1; have q133 : ((rd x15_94 x16_8) : Int) < ((x9_8.length : Int) : Int) := of_decide_eq_true as1; obtain ⟨hx133_0, hf133_0⟩ := Kd.R_celln false HO_9.out ((rd x15_94 x16_8) : Int) p133 q133; replace p133 := eq_true p133; replace q133 := eq_true q133; obtain ⟨hy136_, hz136_⟩ := Kd.R_celln false HO_9.out ((rd x15_94 x16_8) : Int) (of_decide_eq_true as1) (of_decide_eq_true as1); have HP136 := Kd.R_putg HO_9.out ((rd x15_94 x16_8) : Int) true) | ((with_reducible refine gt 4 166 rfl ?_); refine sE 4 166 (w135.setCell ⟨go24, ((rd x15_94 x16_8) : Int).toNat, none⟩ (.bool true)) ?_; intro w137 hw; have hg : w135.grownBy w137 (some go24) := (by rw [hw]; exact HP136.2); have hp_ : Kd.R Kd.bool 4 w137 w.heap.size (fun _ => True) (.slice (some ⟨go24, 0, none⟩) x9_8.length co24) y156 := (by rw [hw, Ny156.out]; exact HP136.1); clear HP136; replace HO_7 := am (Kd.R_over' (v := (.slice (some ⟨go24, 0, none⟩) x9_8.length co24)) (kR HO_7) (Kd.R_typed HO_9.out) (by decide) hg); replace HO_15 := am (Kd.R_over' (v := (.slice (some ⟨go24, 0, none⟩) x9_8.length co24)) (kR HO_15) (Kd.R_typed HO_9.out) (by decide) hg); replace BK116 := bg BK116 hg (Kd.R_ne HO_9.out BK116.out (by decide)); replace BK117 := bg BK117 hg (Kd.R_ne HO_9.out BK117.out (by decide)); replace BK131 := bg BK131 hg (Kd.R_ne HO_9.out BK131.out (by decide)); replace BK132 := bg BK132 hg (Kd.R_ne HO_9.out BK132.out (by decide)); replace HO_9 := am (hp_); replace HB := am ((by rw [hw]; exact below_set (HB.out) GB24.out : Below w.heap.size w w137)); clear hg hw hp_))
   (try simp only [← hl7_8, ← hl9_8])
   go_roundg kj115
   case measure => have := HK1.out; have := HK2.out; have := HJ44.out; have := HJ68.out; have := HJ80.out; have := HJ84.out; have := HJ94.out; have := HK8.out; have := HJ115.out; omega
   case rel => exact ⟨(y154), (y156), (wrap64 (x16_8 + 1)), (x118000_8), (x118001_8), (x118002_8), (x133002_8), dr, H', ⟨by have := HK1.out; have := HK2.out; have := HJ44.out; have := HJ68.out; have := HJ80.out; have := HJ84.out; have := HJ94.out; have := HK8.out; have := HJ115.out; omega⟩, ⟨by (try simp only [hl7_2]); (try simp only [hl9_2]); (try simp only [hl9_44]); (try simp only [hl7_8]); (try simp only [hl9_8]); exact kR HO_7⟩, ⟨by (try simp only [hl7_2]); (try simp only [hl9_2]); (try simp only [hl9_44]); (try simp only [hl7_8]); (try simp only [hl9_8]); exact kR HO_9⟩, ⟨by (try simp only [hl7_2]); (try simp only [hl9_2]); (try simp only [hl9_44]); (try simp only [hl7_8]); (try simp only [hl9_8]); (with_reducible repeat (first | apply Kd.R_alloc | apply Kd.R_drewN | apply Kd.R_drew)); exact Kd.R_mono HO_15.out (fun _ hk => hk.2)⟩, ⟨by (try simp only [hl7_2]); (try simp only [hl9_2]); (try simp only [hl9_44]); (try simp only [hl7_8]); (try simp only [hl9_8]); exact bp BK116⟩, ⟨by (try simp only [hl7_2]); (try simp only [hl9_2]); (try simp only [hl9_44]); (try simp only [hl7_8]); (try simp only [hl9_8]); exact bp BK117⟩, ⟨by (try simp only [hl7_2]); (try simp only [hl9_2]); (try simp only [hl9_44]); (try simp only [hl7_8]); (try simp only [hl9_8]); exact bp BK131⟩, ⟨by (try simp only [hl7_2]); (try simp only [hl9_2]); (try simp only [hl9_44]); (try simp only [hl7_8]); (try simp only [hl9_8]); exact bp BK132⟩, ⟨bw HB⟩⟩
  have H' := am H
  clear H
  have p151 : 0 ≤ (x16_8 : Int) := of_decide_eq_true as1
  have q151 : x16_8 < (x15_94.length : Int) := of_decide_eq_true as1
  obtain ⟨ad151, e151, hx151_0⟩ := Kd.at_int (Kd.R_reads' HO_15.out).2.2 x16_8 p151 q151
  obtain rfl : ad146 = ad151 := (by injection e151)
  replace p151 := eq_true p151
  replace q151 := eq_true q151
  obtain ⟨p152, q152, hx152_0⟩ := aR HO_7 (rd x15_94 x16_8)
  go_wp2
  (try simp only [← hl7_8, ← hl9_8])
  go_roundg kj115
  case measure => have := HK1.out; have := HK2.out; have := HJ44.out; have := HJ68.out; have := HJ80.out; have := HJ84.out; have := HJ94.out; have := HK8.out; have := HJ115.out; omega
  case rel => exact ⟨(x7_8), (x9_8), (wrap64 (x16_8 + 1)), (x118000_8), (x118001_8), (x118002_8), (x133002_8), dr, H', ⟨by have := HK1.out; have := HK2.out; have := HJ44.out; have := HJ68.out; have := HJ80.out; have := HJ84.out; have := HJ94.out; have := HK8.out; have := HJ115.out; omega⟩, ⟨by (try simp only [hl7_2]); (try simp only [hl9_2]); (try simp only [hl9_44]); (try simp only [hl7_8]); (try simp only [hl9_8]); exact kR HO_7⟩, ⟨by (try simp only [hl7_2]); (try simp only [hl9_2]); (try simp only [hl9_44]); (try simp only [hl7_8]); (try simp only [hl9_8]); exact kR HO_9⟩, ⟨by (try simp only [hl7_2]); (try simp only [hl9_2]); (try simp only [hl9_44]); (try simp only [hl7_8]); (try simp only [hl9_8]); exact kR HO_15⟩, ⟨by (try simp only [hl7_2]); (try simp only [hl9_2]); (try simp only [hl9_44]); (try simp only [hl7_8]); (try simp only [hl9_8]); exact bp BK116⟩, ⟨by (try simp only [hl7_2]); (try simp only [hl9_2]); (try simp only [hl9_44]); (try simp only [hl7_8]); (try simp only [hl9_8]); exact bp BK117⟩, ⟨by (try simp only [hl7_2]); (try simp only [hl9_2]); (try simp only [hl9_44]); (try simp only [hl7_8]); (try simp only [hl9_8]); exact bp BK131⟩, ⟨by (try simp only [hl7_2]); (try simp only [hl9_2]); (try simp only [hl9_44]); (try simp only [hl7_8]); (try simp only [hl9_8]); exact bp BK132⟩, ⟨bw HB⟩⟩
 rw [if_neg c103] at H
 have c103b0 := decide_eq_false c103
 (try (have c103b0hl9_44 := c103b0; rw [hl9_44] at c103b0hl9_44))
 clear c103
 have H' := am H
 clear H
 obtain ⟨Ao138, co138, eo138⟩ := Kd.R_slice HO_15.out
 subst eo138
 go_wp2
 (try simp only [← hl7_2, ← hl9_2, ← hl9_44, ← hl7_8, ← hl9_8])
 go_roundg k8
 case measure => have := HK1.out; have := HK2.out; have := HJ44.out; have := HJ68.out; have := HJ80.out; have := HJ84.out; have := HJ94.out; have := HK8.out; omega
 case rel => exact ⟨(x7_8), (x9_8), (x118000_8), (x118001_8), (x118002_8), H', ⟨by have := HK1.out; have := HK2.out; have := HJ44.out; have := HJ68.out; have := HJ80.out; have := HJ84.out; have := HJ94.out; have := HK8.out; omega⟩, ⟨by (try simp only [hl7_2]); (try simp only [hl9_2]); (try simp only [hl9_44]); (try simp only [hl7_8]); (try simp only [hl9_8]); (with_reducible repeat (first | apply Kd.R_alloc | apply Kd.R_drewN | apply Kd.R_drew)); exact Kd.R_mono HO_7.out (fun _ hk => trivial)⟩, ⟨by (try simp only [hl7_2]); (try simp only [hl9_2]); (try simp only [hl9_44]); (try simp only [hl7_8]); (try simp only [hl9_8]); exact kR HO_9⟩, ⟨by (try simp only [hl7_2]); (try simp only [hl9_2]); (try simp only [hl9_44]); (try simp only [hl7_8]); (try simp only [hl9_8]); exact bp BK116⟩, ⟨by (try simp only [hl7_2]); (try simp only [hl9_2]); (try simp only [hl9_44]); (try simp only [hl7_8]); (try simp only [hl9_8]); exact bp BK117⟩, ⟨bw HB⟩⟩

end Go.Proofs.Ytcdohkilplgmjaa.QFnExactPlain
