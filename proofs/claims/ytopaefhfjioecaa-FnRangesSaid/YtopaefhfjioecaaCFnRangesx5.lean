import Derived.Test.YtopaefhfjioecaaCFnRangesx0
import Derived.Test.YtopaefhfjioecaaCFnRangesx3
import Derived.Test.YtopaefhfjioecaaCFnRangesx4
namespace Go.Proofs.Ytopaefhfjioecaa.QFnRanges
open Go.RowKit Go.Proofs.YtopaefhfjioecaaW
open PrintWords PrintLast PrintMore PrintShort
attribute [local go_sem] max2_int min2_int max_two min_two max_three min_three max_four min_four   -- for this text's walks alone
set_option linter.unusedVariables false
set_option maxHeartbeats 8000000
set_option maxRecDepth 100000
set_option linter.unusedSimpArgs false

mutual
def spec_l04Heights.l0 : Nat → Int → List (S38) → List Int → Int → List (S35) → Option (List Int × Int × Int × Int)
 | 0, _, _, _, _, _ => none
 | k + 1, x1, x6, x7, x8, x179000 => if x8 < (x7.length : Int) then (if 0 ≤ x8 then (spec_l04Heights.l0 k x1 x6 (x7.set (x8 : Int).toNat (-1)) (wrap64 (x8 + 1)) x179000) else (none)) else (if 0 < (x7.length : Int) then (if 0 ≤ (x6.length : Int) then (if ((x6.length : Int) : Int).toNat ≤ 281474976710656 then ((some (List.replicate ((x6.length : Int) : Int).toNat false : List Bool)).bind fun y186 => (if 0 < (y186.length : Int) then (spec_l04Heights.l1 k x1 x6 (x7.set (0 : Int).toNat 0) (y186.set (0 : Int).toNat true) x179000) else (none))) else (none)) else (none)) else (none))
def spec_l04Heights.l1 : Nat → Int → List (S38) → List Int → List Bool → List (S35) → Option (List Int × Int × Int × Int)
 | 0, _, _, _, _, _ => none
 | k + 1, x1, x6, x7, x9, x179000 => (spec_l04Least.f k x9).bind fun t190 => (if t190 < 0 then (some (x7, 0, 0, 0)) else (if 0 ≤ t190 then (if t190 < (x9.length : Int) then ((some (x9.set (t190 : Int).toNat false : List Bool)).bind fun y191 => (if t190 < (x6.length : Int) then ((spec_Takes.f k x179000 ((rd_T38 x6 t190).f0) ((rd_T38 x6 t190).f1)).bind fun t195 => (if t190 < (x7.length : Int) then ((spec_Puts.f k ((rd_T38 x6 t190).f0) ((rd_T38 x6 t190).f1)).bind fun t197 => (if t195 > (rd x7 t190) then (spec_l04Heights.j2 k x1 x6 x7 y191 t190 (wrap64 ((wrap64 ((rd x7 t190) - t195)) + t197)) true x179000 ((rd_T38 x6 t190).f0) ((rd_T38 x6 t190).f1) x1 t190 5) else (spec_l04Heights.j2 k x1 x6 x7 y191 t190 (wrap64 ((wrap64 ((rd x7 t190) - t195)) + t197)) (decide ((wrap64 ((wrap64 ((rd x7 t190) - t195)) + t197)) > 8)) x179000 ((rd_T38 x6 t190).f0) ((rd_T38 x6 t190).f1) x1 t190 5))) else (none))) else (none))) else (none)) else (none)))
def spec_l04Heights.j2 : Nat → Int → List (S38) → List Int → List Bool → Int → Int → Bool → List (S35) → Int → Int → Int → Int → Int → Option (List Int × Int × Int × Int)
 | 0, _, _, _, _, _, _, _, _, _, _, _, _, _ => none
 | k + 1, x1, x6, x7, x9, x10, x14, x79, x179000, x194000, x194001, x195000, x195001, x195002 => if x79 = true then (some (x7, x195000, x195001, x195002)) else ((some (([] : List Int) : List Int)).bind fun y199 => (if x194000 = 30 then (spec_l04Heights.j3 k x1 x6 x7 x9 x10 x14 y199 false x179000 x194000 x194001 x195000 x195001 x195002) else (spec_l04Heights.j3 k x1 x6 x7 x9 x10 x14 y199 (x194000 != 33) x179000 x194000 x194001 x195000 x195001 x195002)))
def spec_l04Heights.j3 : Nat → Int → List (S38) → List Int → List Bool → Int → Int → List Int → Bool → List (S35) → Int → Int → Int → Int → Int → Option (List Int × Int × Int × Int)
 | 0, _, _, _, _, _, _, _, _, _, _, _, _, _, _ => none
 | k + 1, x1, x6, x7, x9, x10, x14, x15, x90, x179000, x194000, x194001, x195000, x195001, x195002 => if x90 = true then (if x15.length < 17592186044416 then (spec_l04Heights.j4 k x1 x6 x7 x9 x14 (x15 ++ [wrap64 (x10 + 1)]) x179000 x194000 x194001 x195000 x195001 x195002) else (none)) else (spec_l04Heights.j4 k x1 x6 x7 x9 x14 x15 x179000 x194000 x194001 x195000 x195001 x195002)
def spec_l04Heights.j4 : Nat → Int → List (S38) → List Int → List Bool → Int → List Int → List (S35) → Int → Int → Int → Int → Int → Option (List Int × Int × Int × Int)
 | 0, _, _, _, _, _, _, _, _, _, _, _, _ => none
 | k + 1, x1, x6, x7, x9, x14, x15, x179000, x194000, x194001, x195000, x195001, x195002 => if x194000 = 30 then (spec_l04Heights.j5 k x1 x6 x7 x9 x14 x15 true x179000 x194000 x194001 x195000 x195001 x195002) else (spec_l04Heights.j5 k x1 x6 x7 x9 x14 x15 (x194000 == 31) x179000 x194000 x194001 x195000 x195001 x195002)
def spec_l04Heights.j5 : Nat → Int → List (S38) → List Int → List Bool → Int → List Int → Bool → List (S35) → Int → Int → Int → Int → Int → Option (List Int × Int × Int × Int)
 | 0, _, _, _, _, _, _, _, _, _, _, _, _, _ => none
 | k + 1, x1, x6, x7, x9, x14, x15, x103, x179000, x194000, x194001, x195000, x195001, x195002 => if x103 = true then (if x15.length < 17592186044416 then (spec_l04Heights.j6 k x1 x6 x7 x9 x14 (x15 ++ [x194001]) x179000 x195000 x195001 x195002) else (none)) else (spec_l04Heights.j6 k x1 x6 x7 x9 x14 x15 x179000 x195000 x195001 x195002)
def spec_l04Heights.j6 : Nat → Int → List (S38) → List Int → List Bool → Int → List Int → List (S35) → Int → Int → Int → Option (List Int × Int × Int × Int)
 | 0, _, _, _, _, _, _, _, _, _, _ => none
 | k + 1, x1, x6, x7, x9, x14, x15, x179000, x195000, x195001, x195002 => spec_l04Heights.l2 k x1 x6 x7 x9 x14 x15 0 x179000 x195000 x195001 x195002
def spec_l04Heights.l2 : Nat → Int → List (S38) → List Int → List Bool → Int → List Int → Int → List (S35) → Int → Int → Int → Option (List Int × Int × Int × Int)
 | 0, _, _, _, _, _, _, _, _, _, _, _ => none
 | k + 1, x1, x6, x7, x9, x14, x15, x16, x179000, x195000, x195001, x195002 => if x16 < (x15.length : Int) then (if 0 ≤ x16 then (if (rd x15 x16) ≥ (x6.length : Int) then (some (x7, x195000, x195001, 6)) else (if 0 ≤ (rd x15 x16) then (if (rd x15 x16) < (x7.length : Int) then (if (rd x7 (rd x15 x16)) ≥ 0 then (spec_l04Heights.j8 k x1 x6 x7 x9 x14 x15 x16 ((rd x7 (rd x15 x16)) != x14) x179000 x195000 x195001 x195002) else (spec_l04Heights.j8 k x1 x6 x7 x9 x14 x15 x16 false x179000 x195000 x195001 x195002)) else (none)) else (none))) else (none)) else (spec_l04Heights.l1 k x1 x6 x7 x9 x179000)
def spec_l04Heights.j8 : Nat → Int → List (S38) → List Int → List Bool → Int → List Int → Int → Bool → List (S35) → Int → Int → Int → Option (List Int × Int × Int × Int)
 | 0, _, _, _, _, _, _, _, _, _, _, _, _ => none
 | k + 1, x1, x6, x7, x9, x14, x15, x16, x143, x179000, x195000, x195001, x195002 => if x143 = true then (some (x7, x195000, x195001, x195002)) else (if 0 ≤ x16 then (if x16 < (x15.length : Int) then (if 0 ≤ (rd x15 x16) then (if (rd x15 x16) < (x7.length : Int) then (if (rd x7 (rd x15 x16)) < 0 then (if (rd x15 x16) < (x9.length : Int) then (spec_l04Heights.l2 k x1 x6 (x7.set ((rd x15 x16) : Int).toNat x14) (x9.set ((rd x15 x16) : Int).toNat true) x14 x15 (wrap64 (x16 + 1)) x179000 x195000 x195001 x195002) else (none)) else (spec_l04Heights.l2 k x1 x6 x7 x9 x14 x15 (wrap64 (x16 + 1)) x179000 x195000 x195001 x195002)) else (none)) else (none)) else (none)) else (none))
end
def spec_l04Heights.f (k : Nat) (l0_0 : List (S35)) (a1 : Int) : Option (List Int × Int × Int × Int) := if 0 ≤ a1 then (if a1 < (l0_0.length : Int) then (if 0 ≤ (((rd_T35 l0_0 a1).f2).length : Int) then (if ((((rd_T35 l0_0 a1).f2).length : Int) : Int).toNat ≤ 35184372088832 then (spec_l04Heights.l0 k a1 ((rd_T35 l0_0 a1).f2) (List.replicate ((((rd_T35 l0_0 a1).f2).length : Int) : Int).toNat 0) 0 l0_0) else (none)) else (none)) else (none)) else (none)
theorem spec_l04Heights.mono_l : ∀ k, (∀ y0 y1 y2 y3 y4, LeO (spec_l04Heights.l0 k y0 y1 y2 y3 y4) (spec_l04Heights.l0 (k + 1) y0 y1 y2 y3 y4)) ∧ (∀ y0 y1 y2 y3 y4, LeO (spec_l04Heights.l1 k y0 y1 y2 y3 y4) (spec_l04Heights.l1 (k + 1) y0 y1 y2 y3 y4)) ∧ (∀ y0 y1 y2 y3 y4 y5 y6 y7 y8 y9 y10 y11 y12, LeO (spec_l04Heights.j2 k y0 y1 y2 y3 y4 y5 y6 y7 y8 y9 y10 y11 y12) (spec_l04Heights.j2 (k + 1) y0 y1 y2 y3 y4 y5 y6 y7 y8 y9 y10 y11 y12)) ∧ (∀ y0 y1 y2 y3 y4 y5 y6 y7 y8 y9 y10 y11 y12 y13, LeO (spec_l04Heights.j3 k y0 y1 y2 y3 y4 y5 y6 y7 y8 y9 y10 y11 y12 y13) (spec_l04Heights.j3 (k + 1) y0 y1 y2 y3 y4 y5 y6 y7 y8 y9 y10 y11 y12 y13)) ∧ (∀ y0 y1 y2 y3 y4 y5 y6 y7 y8 y9 y10 y11, LeO (spec_l04Heights.j4 k y0 y1 y2 y3 y4 y5 y6 y7 y8 y9 y10 y11) (spec_l04Heights.j4 (k + 1) y0 y1 y2 y3 y4 y5 y6 y7 y8 y9 y10 y11)) ∧ (∀ y0 y1 y2 y3 y4 y5 y6 y7 y8 y9 y10 y11 y12, LeO (spec_l04Heights.j5 k y0 y1 y2 y3 y4 y5 y6 y7 y8 y9 y10 y11 y12) (spec_l04Heights.j5 (k + 1) y0 y1 y2 y3 y4 y5 y6 y7 y8 y9 y10 y11 y12)) ∧ (∀ y0 y1 y2 y3 y4 y5 y6 y7 y8 y9, LeO (spec_l04Heights.j6 k y0 y1 y2 y3 y4 y5 y6 y7 y8 y9) (spec_l04Heights.j6 (k + 1) y0 y1 y2 y3 y4 y5 y6 y7 y8 y9)) ∧ (∀ y0 y1 y2 y3 y4 y5 y6 y7 y8 y9 y10, LeO (spec_l04Heights.l2 k y0 y1 y2 y3 y4 y5 y6 y7 y8 y9 y10) (spec_l04Heights.l2 (k + 1) y0 y1 y2 y3 y4 y5 y6 y7 y8 y9 y10)) ∧ (∀ y0 y1 y2 y3 y4 y5 y6 y7 y8 y9 y10 y11, LeO (spec_l04Heights.j8 k y0 y1 y2 y3 y4 y5 y6 y7 y8 y9 y10 y11) (spec_l04Heights.j8 (k + 1) y0 y1 y2 y3 y4 y5 y6 y7 y8 y9 y10 y11))
 | 0 => ⟨fun _ _ _ _ _ r h => by simp [spec_l04Heights.l0] at h, fun _ _ _ _ _ r h => by simp [spec_l04Heights.l1] at h, fun _ _ _ _ _ _ _ _ _ _ _ _ _ r h => by simp [spec_l04Heights.j2] at h, fun _ _ _ _ _ _ _ _ _ _ _ _ _ _ r h => by simp [spec_l04Heights.j3] at h, fun _ _ _ _ _ _ _ _ _ _ _ _ r h => by simp [spec_l04Heights.j4] at h, fun _ _ _ _ _ _ _ _ _ _ _ _ _ r h => by simp [spec_l04Heights.j5] at h, fun _ _ _ _ _ _ _ _ _ _ r h => by simp [spec_l04Heights.j6] at h, fun _ _ _ _ _ _ _ _ _ _ _ r h => by simp [spec_l04Heights.l2] at h, fun _ _ _ _ _ _ _ _ _ _ _ _ r h => by simp [spec_l04Heights.j8] at h⟩
 | k + 1 => by
  obtain ⟨ih0, ih1, ih2, ih3, ih4, ih5, ih6, ih7, ih8⟩ := spec_l04Heights.mono_l k
  refine ⟨?_, ?_, ?_, ?_, ?_, ?_, ?_, ?_, ?_⟩
  ·intro y0 y1 y2 y3 y4
   unfold spec_l04Heights.l0
   with_reducible repeat' first | exact ih0 .. | exact ih1 .. | exact ih2 .. | exact ih3 .. | exact ih4 .. | exact ih5 .. | exact ih6 .. | exact ih7 .. | exact ih8 .. | exact spec_Puts.mono .. | exact spec_Takes.mono .. | exact spec_l04Least.mono .. | exact LeO.refl _ | exact LeO.none _ | refine LeO.ite ?_ ?_ | refine LeO.bind ?_ (fun _ => ?_)
  ·intro y0 y1 y2 y3 y4
   unfold spec_l04Heights.l1
   with_reducible repeat' first | exact ih0 .. | exact ih1 .. | exact ih2 .. | exact ih3 .. | exact ih4 .. | exact ih5 .. | exact ih6 .. | exact ih7 .. | exact ih8 .. | exact spec_Puts.mono .. | exact spec_Takes.mono .. | exact spec_l04Least.mono .. | exact LeO.refl _ | exact LeO.none _ | refine LeO.ite ?_ ?_ | refine LeO.bind ?_ (fun _ => ?_)
  ·intro y0 y1 y2 y3 y4 y5 y6 y7 y8 y9 y10 y11 y12
   unfold spec_l04Heights.j2
   with_reducible repeat' first | exact ih0 .. | exact ih1 .. | exact ih2 .. | exact ih3 .. | exact ih4 .. | exact ih5 .. | exact ih6 .. | exact ih7 .. | exact ih8 .. | exact spec_Puts.mono .. | exact spec_Takes.mono .. | exact spec_l04Least.mono .. | exact LeO.refl _ | exact LeO.none _ | refine LeO.ite ?_ ?_ | refine LeO.bind ?_ (fun _ => ?_)
  ·intro y0 y1 y2 y3 y4 y5 y6 y7 y8 y9 y10 y11 y12 y13
   unfold spec_l04Heights.j3
   with_reducible repeat' first | exact ih0 .. | exact ih1 .. | exact ih2 .. | exact ih3 .. | exact ih4 .. | exact ih5 .. | exact ih6 .. | exact ih7 .. | exact ih8 .. | exact spec_Puts.mono .. | exact spec_Takes.mono .. | exact spec_l04Least.mono .. | exact LeO.refl _ | exact LeO.none _ | refine LeO.ite ?_ ?_ | refine LeO.bind ?_ (fun _ => ?_)
  ·intro y0 y1 y2 y3 y4 y5 y6 y7 y8 y9 y10 y11
   unfold spec_l04Heights.j4
   with_reducible repeat' first | exact ih0 .. | exact ih1 .. | exact ih2 .. | exact ih3 .. | exact ih4 .. | exact ih5 .. | exact ih6 .. | exact ih7 .. | exact ih8 .. | exact spec_Puts.mono .. | exact spec_Takes.mono .. | exact spec_l04Least.mono .. | exact LeO.refl _ | exact LeO.none _ | refine LeO.ite ?_ ?_ | refine LeO.bind ?_ (fun _ => ?_)
  ·intro y0 y1 y2 y3 y4 y5 y6 y7 y8 y9 y10 y11 y12
   unfold spec_l04Heights.j5
   with_reducible repeat' first | exact ih0 .. | exact ih1 .. | exact ih2 .. | exact ih3 .. | exact ih4 .. | exact ih5 .. | exact ih6 .. | exact ih7 .. | exact ih8 .. | exact spec_Puts.mono .. | exact spec_Takes.mono .. | exact spec_l04Least.mono .. | exact LeO.refl _ | exact LeO.none _ | refine LeO.ite ?_ ?_ | refine LeO.bind ?_ (fun _ => ?_)
  ·intro y0 y1 y2 y3 y4 y5 y6 y7 y8 y9
   unfold spec_l04Heights.j6
   with_reducible repeat' first | exact ih0 .. | exact ih1 .. | exact ih2 .. | exact ih3 .. | exact ih4 .. | exact ih5 .. | exact ih6 .. | exact ih7 .. | exact ih8 .. | exact spec_Puts.mono .. | exact spec_Takes.mono .. | exact spec_l04Least.mono .. | exact LeO.refl _ | exact LeO.none _ | refine LeO.ite ?_ ?_ | refine LeO.bind ?_ (fun _ => ?_)
  ·intro y0 y1 y2 y3 y4 y5 y6 y7 y8 y9 y10
   unfold spec_l04Heights.l2
   with_reducible repeat' first | exact ih0 .. | exact ih1 .. | exact ih2 .. | exact ih3 .. | exact ih4 .. | exact ih5 .. | exact ih6 .. | exact ih7 .. | exact ih8 .. | exact spec_Puts.mono .. | exact spec_Takes.mono .. | exact spec_l04Least.mono .. | exact LeO.refl _ | exact LeO.none _ | refine LeO.ite ?_ ?_ | refine LeO.bind ?_ (fun _ => ?_)
  ·intro y0 y1 y2 y3 y4 y5 y6 y7 y8 y9 y10 y11
   unfold spec_l04Heights.j8
   with_reducible repeat' first | exact ih0 .. | exact ih1 .. | exact ih2 .. | exact ih3 .. | exact ih4 .. | exact ih5 .. | exact ih6 .. | exact ih7 .. | exact ih8 .. | exact spec_Puts.mono .. | exact spec_Takes.mono .. | exact spec_l04Least.mono .. | exact LeO.refl _ | exact LeO.none _ | refine LeO.ite ?_ ?_ | refine LeO.bind ?_ (fun _ => ?_)
theorem spec_l04Heights.mono : ∀ a0 a1 k, LeO (spec_l04Heights.f k a0 a1) (spec_l04Heights.f (k + 1) a0 a1) := by
 intro a0 a1 k
 obtain ⟨ih0, ih1, ih2, ih3, ih4, ih5, ih6, ih7, ih8⟩ := spec_l04Heights.mono_l k
 unfold spec_l04Heights.f
 with_reducible repeat' first | exact ih0 .. | exact ih1 .. | exact ih2 .. | exact ih3 .. | exact ih4 .. | exact ih5 .. | exact ih6 .. | exact ih7 .. | exact ih8 .. | exact spec_Puts.mono .. | exact spec_Takes.mono .. | exact spec_l04Least.mono .. | exact LeO.refl _ | exact LeO.none _ | refine LeO.ite ?_ ?_ | refine LeO.bind ?_ (fun _ => ?_)
def spec_l04Heights.T17 : Bool × List (List Nat × List Nat) := (true, [([], []), ([], []), ([0, 1], [0, 1]), ([2], [2]), ([], []), ([3, 4], [3, 4]), ([], []), ([6], [6]), ([5, 7], [5, 7]), ([8, 7, 0, 1, 2, 3, 4, 5, 6, 7, 8], [8])])
def spec_l04Heights.B17 : List Nat := [0, 0, 3, 7, 0, 31, 0, 64, 255, 511]
theorem spec_l04Heights.tab17 : rtab .any (opsOf Try.f66 17) = spec_l04Heights.T17 := by kernel_rfl
theorem spec_l04Heights.bits17 : waitsOk spec_l04Heights.T17.2 spec_l04Heights.B17 = true := by kernel_rfl
theorem spec_l04Heights.calls (k : Nat) (A0_0 : Option Addr) (c0_0 : Nat) (l0_0 : List (S35)) (a1 : Int) (r1 : List Int) (r2 : Int) (r3 : Int) (r4 : Int) (w : World) (hr0_0 : Kd.C k35 w A0_0 l0_0.length l0_0) (hc0_0 : l0_0.length ≤ c0_0) (h : spec_l04Heights.f k l0_0 a1 = some (r1, r2, r3, r4)) :
  Calls Try.prog 66 #[.agg #[.slice A0_0 l0_0.length c0_0], .int .i64 a1] w fun e w' => ∃ v0_ : Value, e = .returned (.tuple #[v0_, .agg #[.int .i64 r2, .int .i64 r3, .int .i64 r4]]) ∧ Kd.R (Kd.int .i64) 2 w' w.heap.size (fun _ => True) v0_ r1 ∧ Below w.heap.size w w' := by
 have hu25 := Try.underlying25
 have hu29 := Try.underlying29
 have hu38 := Try.underlying38
 have HR0_0 := am hr0_0
 have HC0_0 := am hc0_0
 clear hr0_0 hc0_0
 have HB := am (Below.refl w.heap.size w)
 have H : (if 0 ≤ a1 then (if a1 < (l0_0.length : Int) then (if 0 ≤ (((rd_T35 l0_0 a1).f2).length : Int) then (if ((((rd_T35 l0_0 a1).f2).length : Int) : Int).toNat ≤ 35184372088832 then (spec_l04Heights.l0 k a1 ((rd_T35 l0_0 a1).f2) (List.replicate ((((rd_T35 l0_0 a1).f2).length : Int) : Int).toNat 0) 0 l0_0) else (none)) else (none)) else (none)) else (none)) = some (r1, r2, r3, r4) := h
 clear h
 refine iN H ?_; clear H; intro c3 H
 have c3b0 := decide_eq_true c3
 clear c3
 refine iN H ?_; clear H; intro c4 H
 have c4b0 := decide_eq_true c4
 clear c4
 refine iN H ?_; clear H; intro c5 H
 have c5b0 := eq_true c5
 have c5b1 := decide_eq_true c5
 clear c5
 refine iN H ?_; clear H; intro c6 H
 have c6b0 := eq_true c6
 have c6b1 := decide_eq_true c6
 clear c6
 obtain ⟨y181, hy181⟩ : ∃ y_ : List Int, y_ = (List.replicate ((((rd_T35 l0_0 a1).f2).length : Int) : Int).toNat 0) := ⟨_, rfl⟩
 replace H : (spec_l04Heights.l0 k a1 ((rd_T35 l0_0 a1).f2) y181 0 l0_0) = some (r1, r2, r3, r4) := by first | (rw [hy181]; with_reducible exact H) | (have H2_ := (Option.bind_some _ _).symm.trans H; rw [hy181]; with_reducible exact H2_) | (have H2_ := (Option.bind_some _ _).symm.trans H; with_reducible exact H2_) | with_reducible exact H | (rw [hy181]; exact H) | exact H
 have Ny181 := am hy181
 clear hy181
 have H' := am H
 clear H
 go_enter Try.func66, Try.ntmps66
 go_wp2_with (first | ((with_reducible refine gd 2 rfl ?_); refine bX 2 #[.slice A0_0 l0_0.length c0_0] 25 HB ?_; clear HB; intro gb178 w7 hg hb BK178 GW178 HB; clear hb hg) | ((with_reducible refine gd 5 rfl ?_); refine bX 5 #[.int .i64 0, .int .i64 0, .int .i64 0] 29 HB ?_; clear HB; intro gb179 w8 hg hb BK179 GW179 HB; obtain ⟨NB178_179, NB179_178, BK178⟩ := b3 hg BK178 hb; clear hb hg; have hnb9 := NB178_179.out; have hnc9 := NB179_178.out; have hcz10 := bK w8 BK178; have hfz10 := bF BK178; have p180 : 0 ≤ (a1 : Int) := of_decide_eq_true as1; have q180 : a1 < (l0_0.length : Int) := of_decide_eq_true as1; obtain ⟨ad180, A180_2, c180_2, e180, hx180_0, hx180_1, hx180_2, hl180_2, hi180_2⟩ := at_T35 HR0_0.out a1 p180 q180; cases e180; replace hx180_0 := cl HB hx180_0; replace hx180_1 := cl HB hx180_1; replace hx180_2 := cl HB hx180_2; have HR180_2 := am hi180_2; have HC180_2 := am hl180_2; clear hi180_2 hl180_2; replace p180 := eq_true p180; replace q180 := eq_true q180) | ((with_reducible refine gate_dst (N := 25) rfl ?_); refine Kd.R_make (Kd.int .i64) _ 2 rfl (N := 25) rfl 31 _ _ rfl (((rd_T35 l0_0 a1).f2).length : Int) rfl rfl Try.underlying31 (.int .i64 0) 8 info2 rfl (by decide) (by omega) 0 (ok := fun _ => True) (okp := fun _ => True) rfl (fun _ hk => hk) trivial (of_decide_eq_true as1) (Nat.le_trans (Nat.mul_le_mul_right _ (of_decide_eq_true as1 : (((rd_T35 l0_0 a1).f2).length : Int).toNat ≤ 35184372088832)) (by omega)) (Below.refl _ _) (Nat.le_refl _) ?_; intro v182 w11 ho12 hb hg_ hnew_; clear hg_ hnew_; (first | rw [← Ny181.out] at ho12 | (simp only [Int.reduceToNat] at ho12; rw [← Ny181.out] at ho12)); have HO183 := am (Kd.R_lower ho12 (below_size (bw HB))); replace BK178 := bb BK178 hb; replace BK179 := bb BK179 hb; replace HB := bs HB hb; clear hb ho12))
 go_loopg [8] k (fun kq v8 w' => ∃ (x7_1 : List Int) (x8_1 : Int), v8 = .int .i64 x8_1 ∧ Aside0 (spec_l04Heights.l0 kq a1 ((rd_T35 l0_0 a1).f2) x7_1 x8_1 l0_0 = some (r1, r2, r3, r4)) ∧ Aside0 (kq ≤ k) ∧ Aside0 (Kd.R (Kd.int .i64) 2 w' w.heap.size (fun _ => True) v182 x7_1) ∧ Aside0 (w'.heap[gb178]? = some (.cells #[(.slice (some ad180) l0_0.length c0_0)] 25 (0, 0))) ∧ Aside0 (w'.heap[gb179]? = some (.cells #[.int .i64 0, .int .i64 0, .int .i64 0] 29 (0, 0))) ∧ Aside0 (Below w.heap.size w w'))
 case atStart => exact ⟨(y181), (0), dr, H', ⟨Nat.le_refl _⟩, ⟨kR HO183⟩, ⟨bp BK178⟩, ⟨bp BK179⟩, ⟨bw HB⟩⟩
 clear H'
 (try clear c1); (try clear p1); (try clear q1); (try clear hx1); (try clear p2); (try clear c3); (try clear c3b0); (try clear c4); (try clear c4b0); (try clear c5); (try clear c5b0); (try clear c5b1); (try clear c6); (try clear c6b0); (try clear c6b1); (try clear c9); (try clear hcz10); (try clear hfz10); (try clear hx180_0); (try clear hx180_1); (try clear hx180_2); (try clear p180); (try clear q180)
 obtain ⟨x7_1, x8_1, rfl, HA, HK1, HO_7, BK178, BK179, HB⟩ := hrel
 rcases gk with _ | k1
 ·exact absurd HA.out (by simp [spec_l04Heights.l0])
 have H := HA.out
 clear HA
 simp only [spec_l04Heights.l0] at H
 by_cases c13 : x8_1 < (x7_1.length : Int)
 ·rw [if_pos c13] at H
  have c13b0 := decide_eq_true c13
  clear c13
  refine iM H ?_; clear H; intro c14b0 H
  obtain ⟨y184, hy184⟩ : ∃ y_ : List Int, y_ = (x7_1.set (x8_1 : Int).toNat (-1)) := ⟨_, rfl⟩
  replace H : (spec_l04Heights.l0 k1 a1 ((rd_T35 l0_0 a1).f2) y184 (wrap64 (x8_1 + 1)) l0_0) = some (r1, r2, r3, r4) := by first | (rw [hy184]; with_reducible exact H) | (have H2_ := (Option.bind_some _ _).symm.trans H; rw [hy184]; with_reducible exact H2_) | (have H2_ := (Option.bind_some _ _).symm.trans H; with_reducible exact H2_) | with_reducible exact H | (rw [hy184]; exact H) | exact H
  have Ny184 := am hy184
  clear hy184
  have H' := am H
  clear H
  obtain ⟨Ao16, co16, eo16⟩ := Kd.R_slice HO_7.out
  subst eo16
  have p15 : 0 ≤ (x8_1 : Int) := of_decide_eq_true as1
  have q15 : (x8_1 : Int) < ((x7_1.length : Int) : Int) := of_decide_eq_true as1
  obtain ⟨go15, co15, eo15, gb15, gl15, cl15, HG15⟩ := Kd.R_form HO_7.out (by omega)
  (first | cases eo15 | (injection eo15 with ea_ en_ ec_; (first | subst ea_ | (injection ea_ with ea_; subst ea_)); subst ec_; clear en_))
  have GB15 := am gb15
  have GG15 := am HG15
  clear gb15 gl15 HG15
  obtain ⟨hx15_0, hf15_0⟩ := Kd.R_celln 0 HO_7.out (x8_1 : Int) p15 q15
  replace p15 := eq_true p15
  replace q15 := eq_true q15
  have HP17 := Kd.R_putg HO_7.out (x8_1 : Int) (-1)
  go_wp2_with (first | ((with_reducible refine gt 2 34 rfl ?_); refine sE 2 34 (wr.setCell ⟨go15, (x8_1 : Int).toNat, none⟩ (.int .i64 (-1))) ?_; intro w18 hw; have hg : wr.grownBy w18 (some go15) := (by rw [hw]; exact HP17.2); have hp_ : Kd.R (Kd.int .i64) 2 w18 w.heap.size (fun _ => True) (.slice (some ⟨go15, 0, none⟩) x7_1.length co16) y184 := (by rw [hw, Ny184.out]; exact HP17.1); clear HP17; replace BK178 := bg BK178 hg (Kd.R_ne HO_7.out BK178.out (by decide)); replace BK179 := bg BK179 hg (Kd.R_ne HO_7.out BK179.out (by decide)); replace HO_7 := am (hp_); replace HB := am ((by rw [hw]; exact below_set (HB.out) GB15.out : Below w.heap.size w w18)); clear hg hw hp_))
  go_roundg k1
  case measure => have := HK1.out; omega
  case rel => exact ⟨(y184), (wrap64 (x8_1 + 1)), dr, H', ⟨by have := HK1.out; omega⟩, ⟨kR HO_7⟩, ⟨bp BK178⟩, ⟨bp BK179⟩, ⟨bw HB⟩⟩
 rw [if_neg c13] at H
 have c13b0 := decide_eq_false c13
 clear c13
 refine iN H ?_; clear H; intro c19 H
 have c19b0 := decide_eq_true c19
 have c19b1 : decide (0 < x7_1.length) = true := decide_eq_true (by omega)
 clear c19
 obtain ⟨y185, hy185⟩ : ∃ y_ : List Int, y_ = (x7_1.set (0 : Int).toNat 0) := ⟨_, rfl⟩
 replace H : (if 0 ≤ (((rd_T35 l0_0 a1).f2).length : Int) then (if ((((rd_T35 l0_0 a1).f2).length : Int) : Int).toNat ≤ 281474976710656 then ((some (List.replicate ((((rd_T35 l0_0 a1).f2).length : Int) : Int).toNat false : List Bool)).bind fun y186 => (if 0 < (y186.length : Int) then (spec_l04Heights.l1 k1 a1 ((rd_T35 l0_0 a1).f2) y185 (y186.set (0 : Int).toNat true) l0_0) else (none))) else (none)) else (none)) = some (r1, r2, r3, r4) := by first | (rw [hy185]; with_reducible exact H) | (have H2_ := (Option.bind_some _ _).symm.trans H; rw [hy185]; with_reducible exact H2_) | (have H2_ := (Option.bind_some _ _).symm.trans H; with_reducible exact H2_) | with_reducible exact H | (rw [hy185]; exact H) | exact H
 have Ny185 := am hy185
 clear hy185
 refine iN H ?_; clear H; intro c21 H
 have c21b0 := eq_true c21
 have c21b1 := decide_eq_true c21
 clear c21
 refine iN H ?_; clear H; intro c22 H
 have c22b0 := eq_true c22
 have c22b1 := decide_eq_true c22
 clear c22
 obtain ⟨y186, hy186⟩ : ∃ y_ : List Bool, y_ = (List.replicate ((((rd_T35 l0_0 a1).f2).length : Int) : Int).toNat false) := ⟨_, rfl⟩
 replace H : (if 0 < (y186.length : Int) then (spec_l04Heights.l1 k1 a1 ((rd_T35 l0_0 a1).f2) y185 (y186.set (0 : Int).toNat true) l0_0) else (none)) = some (r1, r2, r3, r4) := by first | (rw [hy186]; with_reducible exact H) | (have H2_ := (Option.bind_some _ _).symm.trans H; rw [hy186]; with_reducible exact H2_) | (have H2_ := (Option.bind_some _ _).symm.trans H; with_reducible exact H2_) | with_reducible exact H | (rw [hy186]; exact H) | exact H
 have Ny186 := am hy186
 clear hy186
 refine iN H ?_; clear H; intro c23 H
 have c23b0 := decide_eq_true c23
 have c23b1 : decide (0 < y186.length) = true := decide_eq_true (by omega)
 clear c23
 obtain ⟨y189, hy189⟩ : ∃ y_ : List Bool, y_ = (y186.set (0 : Int).toNat true) := ⟨_, rfl⟩
 replace H : (spec_l04Heights.l1 k1 a1 ((rd_T35 l0_0 a1).f2) y185 y189 l0_0) = some (r1, r2, r3, r4) := by first | (rw [hy189]; with_reducible exact H) | (have H2_ := (Option.bind_some _ _).symm.trans H; rw [hy189]; with_reducible exact H2_) | (have H2_ := (Option.bind_some _ _).symm.trans H; with_reducible exact H2_) | with_reducible exact H | (rw [hy189]; exact H) | exact H
 have Ny189 := am hy189
 clear hy189
 have H' := am H
 clear H
 obtain ⟨Ao25, co25, eo25⟩ := Kd.R_slice HO_7.out
 subst eo25
 have p20 : 0 ≤ (0 : Int) := (by omega)
 have q20 : (0 : Int) < ((x7_1.length : Int) : Int) := of_decide_eq_true as1
 have qi20 : (0 < x7_1.length) = True := eq_true (by omega)
 obtain ⟨go20, co20, eo20, gb20, gl20, cl20, HG20⟩ := Kd.R_form HO_7.out (by omega)
 (first | cases eo20 | (injection eo20 with ea_ en_ ec_; (first | subst ea_ | (injection ea_ with ea_; subst ea_)); subst ec_; clear en_))
 have GB20 := am gb20
 have GG20 := am HG20
 clear gb20 gl20 HG20
 obtain ⟨hx20_0, hf20_0⟩ := Kd.R_celln 0 HO_7.out (0 : Int) p20 q20
 (try rw [show ((0 : Int)).toNat = 0 from rfl] at hx20_0)
 (try simp only [Nat.reduceMul, Nat.zero_mul, Nat.zero_add, Nat.reduceAdd] at hx20_0)
 (try rw [show ((0 : Int)).toNat = 0 from rfl] at hf20_0)
 (try simp only [Nat.reduceMul, Nat.zero_mul, Nat.zero_add, Nat.reduceAdd] at hf20_0)
 replace p20 := eq_true p20
 replace q20 := eq_true q20
 have HP26 := Kd.R_putg HO_7.out (0 : Int) 0
 go_wp2_with (first | ((with_reducible refine gt 2 36 rfl ?_); refine sE 2 36 (wr.setCell ⟨go20, (0 : Int).toNat, none⟩ (.int .i64 0)) ?_; intro w27 hw; have hg : wr.grownBy w27 (some go20) := (by rw [hw]; exact HP26.2); have hp_ : Kd.R (Kd.int .i64) 2 w27 w.heap.size (fun _ => True) (.slice (some ⟨go20, 0, none⟩) x7_1.length co25) y185 := (by rw [hw, Ny185.out]; exact HP26.1); clear HP26; replace BK178 := bg BK178 hg (Kd.R_ne HO_7.out BK178.out (by decide)); replace BK179 := bg BK179 hg (Kd.R_ne HO_7.out BK179.out (by decide)); replace HO_7 := am (hp_); replace HB := am ((by rw [hw]; exact below_set (HB.out) GB20.out : Below w.heap.size w w27)); clear hg hw hp_) | ((with_reducible refine gate_dst (N := 39) rfl ?_); refine Kd.R_make Kd.bool _ 4 rfl (N := 39) rfl 121 _ _ rfl (((rd_T35 l0_0 a1).f2).length : Int) rfl rfl Try.underlying121 (.bool false) 1 info4 rfl (by decide) (by omega) false (ok := fun _ => True) (okp := fun _ => True) rfl (fun _ hk => hk) trivial (of_decide_eq_true as1) (Nat.le_trans (Nat.mul_le_mul_right _ (of_decide_eq_true as1 : (((rd_T35 l0_0 a1).f2).length : Int).toNat ≤ 281474976710656)) (by omega)) (Below.refl _ _) (Nat.le_refl _) ?_; intro v187 w28 ho29 hb hg_ hnew_; clear hg_ hnew_; (first | rw [← Ny186.out] at ho29 | (simp only [Int.reduceToNat] at ho29; rw [← Ny186.out] at ho29)); replace HO_7 := am (Kd.R_below (kR HO_7) hb); have HO188 := am (Kd.R_lower ho29 (below_size (bw HB))); replace BK178 := bb BK178 hb; replace BK179 := bb BK179 hb; replace HB := bs HB hb; clear hb ho29; have p24 : 0 ≤ (0 : Int) := (by omega); have q24 : (0 : Int) < ((y186.length : Int) : Int) := of_decide_eq_true as1; have qi24 : (0 < y186.length) = True := eq_true (by omega); obtain ⟨go24, co24, eo24, gb24, gl24, cl24, HG24⟩ := Kd.R_form HO188.out (by omega); (first | cases eo24 | (injection eo24 with ea_ en_ ec_; (first | subst ea_ | (injection ea_ with ea_; subst ea_)); subst ec_; clear en_)); have GB24 := am gb24; have GG24 := am HG24; clear gb24 gl24 HG24; obtain ⟨hx24_0, hf24_0⟩ := Kd.R_celln false HO188.out (0 : Int) p24 q24; (try rw [show ((0 : Int)).toNat = 0 from rfl] at hx24_0); (try simp only [Nat.reduceMul, Nat.zero_mul, Nat.zero_add, Nat.reduceAdd] at hx24_0); (try rw [show ((0 : Int)).toNat = 0 from rfl] at hf24_0); (try simp only [Nat.reduceMul, Nat.zero_mul, Nat.zero_add, Nat.reduceAdd] at hf24_0); replace p24 := eq_true p24; replace q24 := eq_true q24; obtain ⟨hy30_, hz30_⟩ := Kd.R_celln false HO188.out (0 : Int) (by omega) (of_decide_eq_true as1); (try simp only [Int.reduceToNat, Int.toNat_zero, Int.toNat_ofNat, Nat.reduceMul, Nat.zero_mul, Nat.zero_add] at hy30_ hz30_); (try rw [show ((0 : Int)).toNat = 0 from rfl] at hy30_); (try rw [show ((0 : Int)).toNat = 0 from rfl] at hz30_); have HP30 := Kd.R_putg HO188.out (0 : Int) true) | ((with_reducible refine gt 4 41 rfl ?_); refine sE 4 41 (w28.setCell ⟨go24, (0 : Int).toNat, none⟩ (.bool true)) ?_; intro w31 hw; have hg : w28.grownBy w31 (some go24) := (by rw [hw]; exact HP30.2); have hp_ : Kd.R Kd.bool 4 w31 w.heap.size (fun _ => True) (.slice (some ⟨go24, 0, none⟩) y186.length co24) y189 := (by rw [hw, Ny189.out]; exact HP30.1); clear HP30; replace HO_7 := am (Kd.R_over' (v := (.slice (some ⟨go24, 0, none⟩) y186.length co24)) (kR HO_7) (Kd.R_typed HO188.out) (by decide) hg); replace BK178 := bg BK178 hg (Kd.R_ne HO188.out BK178.out (by decide)); replace BK179 := bg BK179 hg (Kd.R_ne HO188.out BK179.out (by decide)); replace HO188 := am (hp_); replace HB := am ((by rw [hw]; exact below_set (HB.out) GB24.out : Below w.heap.size w w31)); clear hg hw hp_))
 go_loopg [] k1 (fun kq w' => ∃ (x7_2 : List Int) (x9_2 : List Bool) (x180000_2 : Int) (x180001_2 : Int) (x180002_2 : Int), Aside0 (spec_l04Heights.l1 kq a1 ((rd_T35 l0_0 a1).f2) x7_2 x9_2 l0_0 = some (r1, r2, r3, r4)) ∧ Aside0 (kq ≤ k1) ∧ Aside0 (Kd.R (Kd.int .i64) 2 w' w.heap.size (fun _ => True) (.slice (some ⟨go20, 0, none⟩) x7_1.length co25) x7_2) ∧ Aside0 (Kd.R Kd.bool 4 w' w.heap.size (fun _ => True) (.slice (some ⟨go24, 0, none⟩) y186.length co24) x9_2) ∧ Aside0 (w'.heap[gb178]? = some (.cells #[(.slice (some ad180) l0_0.length c0_0)] 25 (0, 0))) ∧ Aside0 (w'.heap[gb179]? = some (.cells #[.int .i64 x180000_2, .int .i64 x180001_2, .int .i64 x180002_2] 29 (0, 0))) ∧ Aside0 (Below w.heap.size w w'))
 case atStart => exact ⟨(y185), (y189), (0), (0), (0), H', ⟨Nat.le_refl _⟩, ⟨kR HO_7⟩, ⟨kR HO188⟩, ⟨bp BK178⟩, ⟨bp BK179⟩, ⟨bw HB⟩⟩
 clear H'
 (try clear c2); (try clear q2); (try clear hx2); (try clear qi2); (try clear hf2); (try clear p6); (try clear c13); (try clear c13b0); (try clear c14); (try clear c14b0); (try clear p15); (try clear q15); (try clear hx15); (try clear hf15); (try clear c18); (try clear p18); (try clear q18); (try clear hx18); (try clear c19); (try clear c19b0); (try clear c19b1); (try clear p20); (try clear q20); (try clear hx20); (try clear qi20); (try clear hf20); (try clear c21); (try clear c21b0); (try clear c21b1); (try clear c22); (try clear c22b0); (try clear c22b1); (try clear c23); (try clear c23b0); (try clear c23b1); (try clear p24); (try clear q24); (try clear hx24); (try clear qi24); (try clear hf24); (try clear hx15_0); (try clear hx20_0); (try clear hx24_0); (try clear p15); (try clear p20); (try clear p24); (try clear q15); (try clear q20); (try clear q24)
 obtain ⟨x7_2, x9_2, x180000_2, x180001_2, x180002_2, HA, HK2, HO_7, HO_9, BK178, BK179, HB⟩ := hrel
 have hl7_2 := (Kd.R_reads' HO_7.out).1
 rw [hl7_2] at HO_7
 (try simp only [hl7_2])
 (try simp only [hl7_2] at BK178)
 (try simp only [hl7_2] at BK179)
 (try simp only [hl7_2] at HO_9)
 have hl9_2 := (Kd.R_reads' HO_9.out).1
 rw [hl9_2] at HO_9
 (try simp only [hl9_2])
 (try simp only [hl9_2] at BK178)
 (try simp only [hl9_2] at BK179)
 (try simp only [hl9_2] at HO_7)
 rcases gk with _ | k2
 ·exact absurd HA.out (by simp [spec_l04Heights.l1])
 have H := HA.out
 clear HA
 simp only [spec_l04Heights.l1] at H
 refine be H ?_; clear H; intro t190 A32 H
 have HC33 := am H
 clear H
 go_upto_if 45 with (first | ((with_reducible refine gk 94 rfl ?_); refine gD 94 (some 43) Try.func94 #[.slice (some ⟨go24, 0, none⟩) x9_2.length co24] (spec_l04Least.calls k2 _ _ x9_2 t190 _ (cc (Kd.R_reads' HO_9.out).2.2) ((Kd.R_reads' HO_9.out).2.1) A32.out) ?_; intro nd))
 (try simp only [Act.put, sa, sz, ss])
 (try simp only [World.drewN_drewN])
 generalize hq_ : World.drewN wr _ = w34
 replace HO_7 : Aside0 (Kd.R (Kd.int .i64) 2 w34 w.heap.size (fun _ => True) (.slice (some ⟨go20, 0, none⟩) x7_2.length co25) x7_2) := ⟨by rw [← hq_]; exact (kR HO_7)⟩
 replace HO_9 : Aside0 (Kd.R Kd.bool 4 w34 w.heap.size (fun _ => True) (.slice (some ⟨go24, 0, none⟩) x9_2.length co24) x9_2) := ⟨by rw [← hq_]; exact (kR HO_9)⟩
 replace BK178 : Aside0 (w34.heap[gb178]? = some (.cells #[.slice (some ad180) l0_0.length c0_0] 25 (0, 0))) := ⟨by rw [← hq_]; exact (bp BK178)⟩
 replace BK179 : Aside0 (w34.heap[gb179]? = some (.cells #[.int .i64 x180000_2, .int .i64 x180001_2, .int .i64 x180002_2] 29 (0, 0))) := ⟨by rw [← hq_]; exact (bp BK179)⟩
 replace HB : Aside0 (Below w.heap.size w w34) := ⟨by rw [← hq_]; exact (bw HB)⟩
 clear hq_
 have H := HC33.out
 clear HC33
 by_cases c35 : t190 < 0
 ·rw [if_pos c35] at H
  have c35b0 := decide_eq_true c35
  clear c35
  (first | rw [c35b0] | (simp only [i64_w, i32_w]; rw [c35b0]) | skip)
  simp only [Option.some.injEq, Prod.mk.injEq] at H
  obtain ⟨rfl, rfl, rfl, rfl⟩ := H
  have hnb36 := NB179_178.out
  have hnc36 := NB178_179.out
  have hcz37 := bK w34 BK179
  have hfz37 := bF BK179
  go_wp2
  refine bodyPost_ret (results_tc rfl _ _ gb179 29 #[.int .i64 0, .int .i64 0, .int .i64 0] (0, 0) _ rfl (bt BK179) Try.underlying29 rfl (by kernel_rfl)) rfl ?_
  exact ⟨_, er, by (with_reducible repeat (first | apply Kd.R_alloc | apply Kd.R_drewN | apply Kd.R_drew)); exact Kd.R_mono (Kd.R_far (p := ⟨gb179, 2, none⟩) (Kd.R_far (p := ⟨gb179, 1, none⟩) (Kd.R_far (p := ⟨gb179, 0, none⟩) (Kd.R_types HO_7.out BK179.out (by decide)) (fun _ hk => hk.2) (.int .i64 0)) (fun _ hk => hk.2) (.int .i64 0)) (fun _ hk => hk.2) (.int .i64 0)) (fun _ hk => trivial), bw HB⟩
 rw [if_neg c35] at H
 have c35b0 := decide_eq_false c35
 clear c35
 (first | rw [c35b0] | (simp only [i64_w, i32_w]; rw [c35b0]) | skip)
 refine iN H ?_; clear H; intro c38 H
 have c38b0 := decide_eq_true c38
 clear c38
 refine iN H ?_; clear H; intro c39 H
 have c39b0 := decide_eq_true c39
 (try (have c39b0hl9_2 := c39b0; rw [hl9_2] at c39b0hl9_2))
 clear c39
 obtain ⟨y191, hy191⟩ : ∃ y_ : List Bool, y_ = (x9_2.set (t190 : Int).toNat false) := ⟨_, rfl⟩
 replace H : (if t190 < (((rd_T35 l0_0 a1).f2).length : Int) then ((spec_Takes.f k2 l0_0 ((rd_T38 ((rd_T35 l0_0 a1).f2) t190).f0) ((rd_T38 ((rd_T35 l0_0 a1).f2) t190).f1)).bind fun t195 => (if t190 < (x7_2.length : Int) then ((spec_Puts.f k2 ((rd_T38 ((rd_T35 l0_0 a1).f2) t190).f0) ((rd_T38 ((rd_T35 l0_0 a1).f2) t190).f1)).bind fun t197 => (if t195 > (rd x7_2 t190) then (spec_l04Heights.j2 k2 a1 ((rd_T35 l0_0 a1).f2) x7_2 y191 t190 (wrap64 ((wrap64 ((rd x7_2 t190) - t195)) + t197)) true l0_0 ((rd_T38 ((rd_T35 l0_0 a1).f2) t190).f0) ((rd_T38 ((rd_T35 l0_0 a1).f2) t190).f1) a1 t190 5) else (spec_l04Heights.j2 k2 a1 ((rd_T35 l0_0 a1).f2) x7_2 y191 t190 (wrap64 ((wrap64 ((rd x7_2 t190) - t195)) + t197)) (decide ((wrap64 ((wrap64 ((rd x7_2 t190) - t195)) + t197)) > 8)) l0_0 ((rd_T38 ((rd_T35 l0_0 a1).f2) t190).f0) ((rd_T38 ((rd_T35 l0_0 a1).f2) t190).f1) a1 t190 5))) else (none))) else (none)) = some (r1, r2, r3, r4) := by first | (rw [hy191]; with_reducible exact H) | (have H2_ := (Option.bind_some _ _).symm.trans H; rw [hy191]; with_reducible exact H2_) | (have H2_ := (Option.bind_some _ _).symm.trans H; with_reducible exact H2_) | with_reducible exact H | (rw [hy191]; exact H) | exact H
 have Ny191 := am hy191
 clear hy191
 refine iN H ?_; clear H; intro c41 H
 have c41b0 := decide_eq_true c41
 clear c41
 refine be H ?_; clear H; intro t195 A42 H
 refine iN H ?_; clear H; intro c43 H
 have c43b0 := decide_eq_true c43
 (try (have c43b0hl7_2 := c43b0; rw [hl7_2] at c43b0hl7_2))
 clear c43
 refine be H ?_; clear H; intro t197 A44 H
 have HC45 := am H
 clear H
 have p40 : 0 ≤ (t190 : Int) := of_decide_eq_true as1
 have q40 : (t190 : Int) < ((x9_2.length : Int) : Int) := of_decide_eq_true as1
 obtain ⟨hx40_0, hf40_0⟩ := Kd.R_celln false HO_9.out (t190 : Int) p40 q40
 replace p40 := eq_true p40
 replace q40 := eq_true q40
 have HP46 := Kd.R_putg HO_9.out (t190 : Int) false
 try go_wp2_with (first | ((with_reducible refine gt 4 50 rfl ?_); refine sE 4 50 (w34.setCell ⟨go24, (t190 : Int).toNat, none⟩ (.bool false)) ?_; intro w47 hw; have hg : w34.grownBy w47 (some go24) := (by rw [hw]; exact HP46.2); have hp_ : Kd.R Kd.bool 4 w47 w.heap.size (fun _ => True) (.slice (some ⟨go24, 0, none⟩) x9_2.length co24) y191 := (by rw [hw, Ny191.out]; exact HP46.1); clear HP46; replace HO_7 := am (Kd.R_over' (v := (.slice (some ⟨go24, 0, none⟩) x9_2.length co24)) (kR HO_7) (Kd.R_typed HO_9.out) (by decide) hg); replace BK178 := bg BK178 hg (Kd.R_ne HO_9.out BK178.out (by decide)); replace BK179 := bg BK179 hg (Kd.R_ne HO_9.out BK179.out (by decide)); replace HO_9 := am (hp_); replace HB := am ((by rw [hw]; exact below_set (HB.out) GB24.out : Below w.heap.size w w47)); clear hg hw hp_; have p192 : 0 ≤ (t190 : Int) := of_decide_eq_true as1; have q192 : t190 < (((rd_T35 l0_0 a1).f2).length : Int) := of_decide_eq_true as1; obtain ⟨ad192, e192, hx192_0, hx192_1⟩ := at_T38 HR180_2.out t190 p192 q192; cases e192; replace hx192_0 := cl HB hx192_0; replace hx192_1 := cl HB hx192_1; replace p192 := eq_true p192; replace q192 := eq_true q192) | ((with_reducible refine gd 11 rfl ?_); refine bX 11 #[.int .i64 0, .int .i64 0] 38 HB ?_; clear HB; intro gb193 w48 hg hb BK193 GW193 HB; replace HO_7 := am (Kd.R_below (kR HO_7) hb); replace HO_9 := am (Kd.R_below (kR HO_9) hb); obtain ⟨NB178_193, NB193_178, BK178⟩ := b3 hg BK178 hb; obtain ⟨NB179_193, NB193_179, BK179⟩ := b3 hg BK179 hb; clear hb hg; have hnb49 := NB193_178.out; have hnc49 := NB178_193.out; have hnb50 := NB193_179.out; have hnc50 := NB179_193.out; have hcz51 := bK w48 BK193; have hfz51 := bF BK193) | ((with_reducible refine gd 12 rfl ?_); refine bx 12 #[.int .i64 0, .int .i64 0, .int .i64 0] 29 ?_; intro gb194 hg w52 hbox hb; replace HO_7 := am (Kd.R_below (by (with_reducible repeat (first | apply Kd.R_alloc | apply Kd.R_drewN | apply Kd.R_drew)); exact (Kd.R_mono (Kd.R_far (p := ⟨gb193, 1, none⟩) (Kd.R_far (p := ⟨gb193, 0, none⟩) (Kd.R_types HO_7.out BK193.out (by decide)) (fun _ hk => hk.2) (.int .i64 ((rd_T38 ((rd_T35 l0_0 a1).f2) t190).f0))) (fun _ hk => hk.2) (.int .i64 ((rd_T38 ((rd_T35 l0_0 a1).f2) t190).f1))) (fun _ h_ => h_.1))) hb); replace HO_9 := am (Kd.R_below (by (with_reducible repeat (first | apply Kd.R_alloc | apply Kd.R_drewN | apply Kd.R_drew)); exact (Kd.R_mono (Kd.R_far (p := ⟨gb193, 1, none⟩) (Kd.R_far (p := ⟨gb193, 0, none⟩) (Kd.R_types HO_9.out BK193.out (by decide)) (fun _ hk => hk.2) (.int .i64 ((rd_T38 ((rd_T35 l0_0 a1).f2) t190).f0))) (fun _ hk => hk.2) (.int .i64 ((rd_T38 ((rd_T35 l0_0 a1).f2) t190).f1))) (fun _ h_ => h_.1))) hb); have BK194 := am (hbox); have GW194 := gw hg HB; replace HB := bs HB hb; obtain ⟨NB178_194, NB194_178⟩ := n3 hg BK178; replace BK178 := bb2 BK178 hb; obtain ⟨NB179_194, NB194_179⟩ := n3 hg BK179; replace BK179 := bb2 BK179 hb; obtain ⟨NB193_194, NB194_193⟩ := n3 hg BK193; replace BK193 := bo #[.int .i64 ((rd_T38 ((rd_T35 l0_0 a1).f2) t190).f0), .int .i64 ((rd_T38 ((rd_T35 l0_0 a1).f2) t190).f1)] BK193 hb; clear hb hbox hg; have hnb53 := NB194_178.out; have hnc53 := NB178_194.out; have hnb54 := NB194_179.out; have hnc54 := NB179_194.out; have hnb55 := NB194_193.out; have hnc55 := NB193_194.out; have hcz56 := bK w52 BK194; have hfz56 := bF BK194; have hnb57 := NB178_179.out; have hnc57 := NB179_178.out; have hcz58 := bK w52 BK178; have hfz58 := bF BK178; have hcz59 := bK w52 BK193; have hfz59 := bF BK193) | ((with_reducible refine gk 95 rfl ?_); refine gB 95 (some 60) Try.func95 #[.agg #[.slice (some ad180) l0_0.length c0_0], .agg #[.int .i64 ((rd_T38 ((rd_T35 l0_0 a1).f2) t190).f0), .int .i64 ((rd_T38 ((rd_T35 l0_0 a1).f2) t190).f1)]] (spec_Takes.calls k2 _ _ l0_0 ((rd_T38 ((rd_T35 l0_0 a1).f2) t190).f0) ((rd_T38 ((rd_T35 l0_0 a1).f2) t190).f1) t195 _ (Kd.C_below HR0_0.out (bw HB)) HC0_0.out A42.out) ?_; intro w60 hb; replace HO_7 := am (Kd.R_below (by (with_reducible repeat (first | apply Kd.R_alloc | apply Kd.R_drewN | apply Kd.R_drew)); exact (Kd.R_mono (Kd.R_far (p := ⟨gb194, 2, none⟩) (Kd.R_far (p := ⟨gb194, 1, none⟩) (Kd.R_far (p := ⟨gb194, 0, none⟩) (Kd.R_types HO_7.out BK194.out (by decide)) (fun _ hk => hk.2) (.int .i64 a1)) (fun _ hk => hk.2) (.int .i64 t190)) (fun _ hk => hk.2) (.int .i64 5)) (fun _ h_ => h_.1))) hb); replace HO_9 := am (Kd.R_below (by (with_reducible repeat (first | apply Kd.R_alloc | apply Kd.R_drewN | apply Kd.R_drew)); exact (Kd.R_mono (Kd.R_far (p := ⟨gb194, 2, none⟩) (Kd.R_far (p := ⟨gb194, 1, none⟩) (Kd.R_far (p := ⟨gb194, 0, none⟩) (Kd.R_types HO_9.out BK194.out (by decide)) (fun _ hk => hk.2) (.int .i64 a1)) (fun _ hk => hk.2) (.int .i64 t190)) (fun _ hk => hk.2) (.int .i64 5)) (fun _ h_ => h_.1))) hb); replace BK178 := bb2 BK178 hb; replace BK179 := bb2 BK179 hb; replace BK193 := bb2 BK193 hb; replace BK194 := bo #[.int .i64 a1, .int .i64 t190, .int .i64 5] BK194 hb; replace HB := bs HB hb; clear hb))
 replace HO_7 := am (Kd.R_drew HO_7.out)
 replace HO_9 := am (Kd.R_drew HO_9.out)
 replace BK178 := am (blk_drew BK178.out)
 replace BK179 := am (blk_drew BK179.out)
 replace BK193 := am (blk_drew BK193.out)
 replace BK194 := am (blk_drew BK194.out)
 replace HB := am (below_drew1 HB.out)
 obtain ⟨p196, q196, hx196_0⟩ := aR HO_7 t190
 refine start_ (n := 10) (S := fun w' => w'.cell? ⟨gb193, 0, none⟩ = some (.int .i64 ((rd_T38 ((rd_T35 l0_0 a1).f2) t190).f0)) ∧ w'.cell? ⟨gb193, 1, none⟩ = some (.int .i64 ((rd_T38 ((rd_T35 l0_0 a1).f2) t190).f1)) ∧ w'.cell? ⟨go20, (t190).toNat, none⟩ = some (.int .i64 (rd x7_2 t190))) (ds := []) (bv 10 0) (by kernel_rfl) rfl (by kernel_rfl) ⟨bc BK193 0, bc BK193 1, hx196_0⟩ (fun hHeld => ?_); refine with_tabW spec_l04Heights.tab17 spec_l04Heights.bits17 (fun HT_ HW_ => ?_)
 generalize w60.drew = w61 at HO_7 HO_9 BK178 BK179 BK193 BK194 HB hx196_0 hHeld ⊢
 refine pu 0 61 10 1 HT_ ?_
 refine pu 1 62 10 3 HT_ ?_
 refine pu 2 63 10 7 HT_ ?_
 refine pu 4 65 10 23 HT_ ?_
 refine tk 3 64 10 31 HT_ HW_ hHeld ?_
 refine pu 5 66 10 63 HT_ ?_
 refine tk 6 67 10 127 HT_ HW_ hHeld ?_
 refine on 7 (some 68) 10 255 HT_ fun K hK => ?_
 refine goes_ Try.func96 (by kernel_rfl) rfl #[.agg #[.int .i64 ((rd_T38 ((rd_T35 l0_0 a1).f2) t190).f0), .int .i64 ((rd_T38 ((rd_T35 l0_0 a1).f2) t190).f1)]] (by rfl) rfl rfl gl ?_
 with_reducible refine (spec_Puts.calls k2 ((rd_T38 ((rd_T35 l0_0 a1).f2) t190).f0) ((rd_T38 ((rd_T35 l0_0 a1).f2) t190).f1) t197 _ A44.out).mono ?_
 rintro e w62 ⟨rfl, hb⟩
 have HS2_ := (hb.cell (World.block_lt_of_cell? _ _ (hHeld.2.2))).trans (hHeld.2.2)
 refine ⟨_, rfl, ?_⟩
 replace HO_7 := am (Kd.R_below (kR HO_7) hb)
 replace HO_9 := am (Kd.R_below (kR HO_9) hb)
 replace BK178 := bb BK178 hb
 replace BK179 := bb BK179 hb
 replace BK193 := bb BK193 hb
 replace BK194 := bb BK194 hb
 replace HB := am (below_step (bw HB) hb)
 clear hb
 refine hK.out _ _ ⟨bc BK193 0, bc BK193 1, HS2_⟩ (fun hHeld => ?_)
 clear hK K
 refine nm (some 68) ?_
 refine pu 8 69 10 511 HT_ ?_
 refine pu 9 14 10 1023 HT_ ?_
 refine done_ (done_of HT_.out (by kernel_rfl)) ?_
 go_upto_region 18 with (fail)
 go_cut [79] (fun v79 wc => ∃ (kq : Nat) (x79_44 : Bool), v79 = .bool x79_44 ∧ Aside0 (spec_l04Heights.j2 kq a1 ((rd_T35 l0_0 a1).f2) x7_2 y191 t190 (wrap64 ((wrap64 ((rd x7_2 t190) - t195)) + t197)) x79_44 l0_0 ((rd_T38 ((rd_T35 l0_0 a1).f2) t190).f0) ((rd_T38 ((rd_T35 l0_0 a1).f2) t190).f1) a1 t190 5 = some (r1, r2, r3, r4)) ∧ Aside0 (kq ≤ k2) ∧ Aside0 (Kd.R (Kd.int .i64) 2 wc w.heap.size (fun _ => True) (.slice (some ⟨go20, 0, none⟩) x7_2.length co25) x7_2) ∧ Aside0 (Kd.R Kd.bool 4 wc w.heap.size (fun _ => True) (.slice (some ⟨go24, 0, none⟩) x9_2.length co24) y191) ∧ Aside0 (wc.heap[gb178]? = some (.cells #[(.slice (some ad180) l0_0.length c0_0)] 25 (0, 0))) ∧ Aside0 (wc.heap[gb179]? = some (.cells #[.int .i64 x180000_2, .int .i64 x180001_2, .int .i64 x180002_2] 29 (0, 0))) ∧ Aside0 (wc.heap[gb193]? = some (.cells #[.int .i64 ((rd_T38 ((rd_T35 l0_0 a1).f2) t190).f0), .int .i64 ((rd_T38 ((rd_T35 l0_0 a1).f2) t190).f1)] 38 (0, 0))) ∧ Aside0 (wc.heap[gb194]? = some (.cells #[.int .i64 a1, .int .i64 t190, .int .i64 5] 29 (0, 0))) ∧ Aside0 (Below w.heap.size w wc))
 case first =>
  have H := HC45.out
  clear HC45
  refine qG H ?_ ?_ <;> clear H <;> intro c63b0 H
  ·(first | rw [c63b0] | (simp only [i64_w, i32_w]; rw [c63b0]) | skip)
   have H' := am H
   clear H
   obtain ⟨p198, q198, hx198_0⟩ := aR HO_7 t190
   go_wp2
   go_meet
   case rel => exact ⟨_, (true), dr, H', ⟨lk2 HK1 HK2⟩, ⟨by (try simp only [hl7_2]); (try simp only [hl9_2]); exact kR HO_7⟩, ⟨by (try simp only [hl7_2]); (try simp only [hl9_2]); exact kR HO_9⟩, ⟨by (try simp only [hl7_2]); (try simp only [hl9_2]); exact bp BK178⟩, ⟨by (try simp only [hl7_2]); (try simp only [hl9_2]); exact bp BK179⟩, ⟨by (try simp only [hl7_2]); (try simp only [hl9_2]); exact bp BK193⟩, ⟨by (try simp only [hl7_2]); (try simp only [hl9_2]); exact bp BK194⟩, ⟨bw HB⟩⟩
  (first | rw [c63b0] | (simp only [i64_w, i32_w]; rw [c63b0]) | skip)
  have H' := am H
  clear H
  obtain ⟨p198, q198, hx198_0⟩ := aR HO_7 t190
  go_wp2
  go_meet
  case rel => exact ⟨_, (decide ((wrap64 ((wrap64 ((rd x7_2 t190) - t195)) + t197)) > 8)), dr, H', ⟨lk2 HK1 HK2⟩, ⟨by (try simp only [hl7_2]); (try simp only [hl9_2]); exact kR HO_7⟩, ⟨by (try simp only [hl7_2]); (try simp only [hl9_2]); exact kR HO_9⟩, ⟨by (try simp only [hl7_2]); (try simp only [hl9_2]); exact bp BK178⟩, ⟨by (try simp only [hl7_2]); (try simp only [hl9_2]); exact bp BK179⟩, ⟨by (try simp only [hl7_2]); (try simp only [hl9_2]); exact bp BK193⟩, ⟨by (try simp only [hl7_2]); (try simp only [hl9_2]); exact bp BK194⟩, ⟨bw HB⟩⟩
 clear HC45
 (try clear p4); (try clear q4); (try clear hx4); (try clear hf4); (try clear p19); (try clear q19); (try clear hx19); (try clear c35); (try clear c35b0); (try clear c36); (try clear c38); (try clear c38b0); (try clear c39); (try clear c39b0); (try clear p40); (try clear q40); (try clear hx40); (try clear hf40); (try clear c41); (try clear c41b0); (try clear c43); (try clear c43b0); (try clear c49); (try clear c50); (try clear c53); (try clear c54); (try clear c55); (try clear c57); (try clear c63); (try clear c63b0); (try clear hcz37); (try clear hcz51); (try clear hcz56); (try clear hcz58); (try clear hcz59); (try clear hfz37); (try clear hfz51); (try clear hfz56); (try clear hfz58); (try clear hfz59); (try clear hx192_0); (try clear hx192_1); (try clear hx196_0); (try clear hx198_0); (try clear hx40_0); (try clear p192); (try clear p196); (try clear p198); (try clear p40); (try clear q192); (try clear q196); (try clear q198); (try clear q40)
 obtain ⟨kq, x79_44, rfl, HA, HJ44, HO_7, HO_9, BK178, BK179, BK193, BK194, HB⟩ := hcut
 have hl9_44 := (Kd.R_reads' HO_9.out).1
 rw [hl9_44] at HO_9
 (try simp only [hl9_44])
 (try simp only [hl9_44] at BK178)
 (try simp only [hl9_44] at BK179)
 (try simp only [hl9_44] at BK193)
 (try simp only [hl9_44] at BK194)
 (try simp only [hl9_44] at HO_7)
 rcases kq with _ | kj44
 ·exact absurd HA.out (by simp [spec_l04Heights.j2])
 have H := HA.out
 clear HA
 simp only [spec_l04Heights.j2] at H
 refine qT H ?_ ?_ <;> clear H <;> intro c64 H <;> subst c64
 ·simp only [Option.some.injEq, Prod.mk.injEq] at H
  obtain ⟨rfl, rfl, rfl, rfl⟩ := H
  try go_wp2
  replace HO_7 := am (Kd.R_drew HO_7.out)
  replace HO_9 := am (Kd.R_drew HO_9.out)
  replace BK178 := am (blk_drew BK178.out)
  replace BK179 := am (blk_drew BK179.out)
  replace BK193 := am (blk_drew BK193.out)
  replace BK194 := am (blk_drew BK194.out)
  replace HB := am (below_drew1 HB.out)
  refine start_ (n := 4) (S := fun w' => w'.cell? ⟨gb194, 0, none⟩ = some (.int .i64 a1) ∧ w'.cell? ⟨gb194, 1, none⟩ = some (.int .i64 t190) ∧ w'.cell? ⟨gb194, 2, none⟩ = some (.int .i64 5)) (ds := []) (bv 4 0) (by kernel_rfl) rfl (by kernel_rfl) ⟨bc BK194 0, bc BK194 1, bc BK194 2⟩ (fun hHeld => ?_)
  generalize wc.drew = w65 at HO_7 HO_9 BK178 BK179 BK193 BK194 HB hHeld ⊢
  refine pure_ (i := 0) (N := some 80) (v := ?_) (a' := ?_) (bv 4 1) rfl rfl (by kernel_rfl) (fun _ _ _ h => h) (Or.inl ⟨by rfl, ?_⟩) ?_ ?_
  rotate_left
  ·intro w'
   go_simp
   with_reducible rfl
  rotate_left
  ·simp only [Act.put, sa, sz, ss, i64_w, i32_w]
   rfl
  refine pure_ (i := 2) (N := some 4) (v := ?_) (a' := ?_) (bv 4 5) rfl rfl (by kernel_rfl) (fun _ _ _ h => h) (Or.inl ⟨by rfl, ?_⟩) ?_ ?_
  rotate_left
  ·intro w'
   go_simp
   with_reducible rfl
  rotate_left
  ·simp only [Act.put, sa, sz, ss, i64_w, i32_w]
   rfl
  refine take_ (i := 1) (N := some 81) (v := ?_) (a' := ?_) (bv 4 7) rfl rfl (by kernel_rfl) (fun _ _ _ h => h) (Or.inl ⟨by rfl, ?_⟩) hHeld ?_ ?_
  rotate_left
  ·rintro w' ⟨s0, s1, s2⟩
   go_simp
   with_reducible rfl
  rotate_left
  ·simp only [Act.put, sa, sz, ss, i64_w, i32_w]
   rfl
  refine one_ (i := 3) (N := none) (bv 4 15) rfl rfl (by kernel_rfl) (by decide) (fun K hK => ?_)
  have hs66 := bk w65 BK179 0
  have hfs66 := bf BK179 0
  have hns66_0 := NB178_179.out
  have hns66_2 := NB193_179.out
  have hns66_3 := NB194_179.out
  have hms66_0 := NB179_178.out
  have hms66_2 := NB179_193.out
  have hms66_3 := NB179_194.out
  have hs67 := bk w65 BK179 1
  have hfs67 := bf BK179 1
  have hns67_0 := NB178_179.out
  have hns67_2 := NB193_179.out
  have hns67_3 := NB194_179.out
  have hms67_0 := NB179_178.out
  have hms67_2 := NB179_193.out
  have hms67_3 := NB179_194.out
  have hs68 := bk w65 BK179 2
  have hfs68 := bf BK179 2
  have hns68_0 := NB178_179.out
  have hns68_2 := NB193_179.out
  have hns68_3 := NB194_179.out
  have hms68_0 := NB179_178.out
  have hms68_2 := NB179_193.out
  have hms68_3 := NB179_194.out
  refine skip_ (w1 := ?_) (by rfl) rfl ?_ ?_
  rotate_left
  ·go_simp
   rfl
  refine hK.out _ _ ⟨((cell_far (p := ⟨gb179, _, none⟩) NB194_179.out _).trans (((cell_far (p := ⟨gb179, _, none⟩) NB194_179.out _).trans (((cell_far (p := ⟨gb179, _, none⟩) NB194_179.out _).trans (hHeld.1)))))), ((cell_far (p := ⟨gb179, _, none⟩) NB194_179.out _).trans (((cell_far (p := ⟨gb179, _, none⟩) NB194_179.out _).trans (((cell_far (p := ⟨gb179, _, none⟩) NB194_179.out _).trans (hHeld.2.1)))))), ((cell_far (p := ⟨gb179, _, none⟩) NB194_179.out _).trans (((cell_far (p := ⟨gb179, _, none⟩) NB194_179.out _).trans (((cell_far (p := ⟨gb179, _, none⟩) NB194_179.out _).trans (hHeld.2.2))))))⟩ (fun hHeld => ?_)
  clear hK K
  refine done_ (by kernel_rfl) ?_
  try go_wp2
  refine bodyPost_ret (results_tc rfl _ _ gb179 29 #[.int .i64 a1, .int .i64 t190, .int .i64 5] (0, 0) _ rfl (bt BK179) Try.underlying29 rfl (by kernel_rfl)) rfl ?_
  exact ⟨_, er, by (with_reducible repeat (first | apply Kd.R_alloc | apply Kd.R_drewN | apply Kd.R_drew)); exact Kd.R_mono (Kd.R_far (p := ⟨gb179, 2, none⟩) (Kd.R_far (p := ⟨gb179, 1, none⟩) (Kd.R_far (p := ⟨gb179, 0, none⟩) (Kd.R_types HO_7.out BK179.out (by decide)) (fun _ hk => hk.2) (.int .i64 a1)) (fun _ hk => hk.2) (.int .i64 t190)) (fun _ hk => hk.2) (.int .i64 5)) (fun _ hk => trivial), bw HB⟩
 obtain ⟨y199, hy199⟩ : ∃ y_ : List Int, y_ = (([] : List Int)) := ⟨_, rfl⟩
 replace H : (if ((rd_T38 ((rd_T35 l0_0 a1).f2) t190).f0) = 30 then (spec_l04Heights.j3 kj44 a1 ((rd_T35 l0_0 a1).f2) x7_2 y191 t190 (wrap64 ((wrap64 ((rd x7_2 t190) - t195)) + t197)) y199 false l0_0 ((rd_T38 ((rd_T35 l0_0 a1).f2) t190).f0) ((rd_T38 ((rd_T35 l0_0 a1).f2) t190).f1) a1 t190 5) else (spec_l04Heights.j3 kj44 a1 ((rd_T35 l0_0 a1).f2) x7_2 y191 t190 (wrap64 ((wrap64 ((rd x7_2 t190) - t195)) + t197)) y199 (((rd_T38 ((rd_T35 l0_0 a1).f2) t190).f0) != 33) l0_0 ((rd_T38 ((rd_T35 l0_0 a1).f2) t190).f0) ((rd_T38 ((rd_T35 l0_0 a1).f2) t190).f1) a1 t190 5)) = some (r1, r2, r3, r4) := by first | (rw [hy199]; with_reducible exact H) | (have H2_ := (Option.bind_some _ _).symm.trans H; rw [hy199]; with_reducible exact H2_) | (have H2_ := (Option.bind_some _ _).symm.trans H; with_reducible exact H2_) | with_reducible exact H | (rw [hy199]; exact H) | exact H
 have Ny199 := am hy199
 clear hy199
 have HC69 := am H
 clear H
 go_upto_region 21 with (first | ((with_reducible refine gate_dst (N := 82) rfl ?_); refine Kd.R_lit (Kd.int .i64) _ 2 ?hg (N := 82) ?hd (xs := ([] : List Int)) (inner := []) (ok := fun _ => True) (okp := fun _ => True) ?hr ?hp (fun _ hk => hk) trivial (Below.refl _ _) (Nat.le_refl _) (by simp) ?_; (case hd => rfl); (case hg => rfl); (case hr => exact gs); (case hp => exact (Reps.none _ _)); intro v200 w70 ho71 hb hg_ hnew_; clear hg_ hnew_; (first | rw [← Ny199.out] at ho71 | (simp only [Int.reduceToNat] at ho71; rw [← Ny199.out] at ho71)); replace HO_9 := am (Kd.R_below (kR HO_9) hb); have HO201 := am (Kd.R_lower (Kd.R_new' ho71 (Kd.R_lt (kR HO_7))) (below_size (bw HB))); replace HO_7 := am (Kd.R_elder' (kR HO_7) (Kd.R_base ho71) hb); replace BK178 := bb BK178 hb; replace BK179 := bb BK179 hb; replace BK193 := bb BK193 hb; replace BK194 := bb BK194 hb; replace HB := bs HB hb; clear hb ho71))
 (try simp only [Act.put, sa, sz, ss])
 go_cut [90] (fun v90 wc => ∃ (kq : Nat) (x90_68 : Bool), v90 = .bool x90_68 ∧ Aside0 (spec_l04Heights.j3 kq a1 ((rd_T35 l0_0 a1).f2) x7_2 y191 t190 (wrap64 ((wrap64 ((rd x7_2 t190) - t195)) + t197)) y199 x90_68 l0_0 ((rd_T38 ((rd_T35 l0_0 a1).f2) t190).f0) ((rd_T38 ((rd_T35 l0_0 a1).f2) t190).f1) a1 t190 5 = some (r1, r2, r3, r4)) ∧ Aside0 (kq ≤ kj44) ∧ Aside0 (Kd.R (Kd.int .i64) 2 wc w.heap.size (fun k_ => some k_ ≠ (v200 : Value).ownBlock) (.slice (some ⟨go20, 0, none⟩) x7_2.length co25) x7_2) ∧ Aside0 (Kd.R Kd.bool 4 wc w.heap.size (fun _ => True) (.slice (some ⟨go24, 0, none⟩) y191.length co24) y191) ∧ Aside0 (Kd.R (Kd.int .i64) 2 wc w.heap.size (fun k_ => some k_ ≠ ((.slice (some ⟨go20, 0, none⟩) x7_2.length co25) : Value).ownBlock) v200 y199) ∧ Aside0 (wc.heap[gb178]? = some (.cells #[(.slice (some ad180) l0_0.length c0_0)] 25 (0, 0))) ∧ Aside0 (wc.heap[gb179]? = some (.cells #[.int .i64 x180000_2, .int .i64 x180001_2, .int .i64 x180002_2] 29 (0, 0))) ∧ Aside0 (wc.heap[gb193]? = some (.cells #[.int .i64 ((rd_T38 ((rd_T35 l0_0 a1).f2) t190).f0), .int .i64 ((rd_T38 ((rd_T35 l0_0 a1).f2) t190).f1)] 38 (0, 0))) ∧ Aside0 (wc.heap[gb194]? = some (.cells #[.int .i64 a1, .int .i64 t190, .int .i64 5] 29 (0, 0))) ∧ Aside0 (Below w.heap.size w wc))
 case first =>
  have H := HC69.out
  clear HC69
  refine qE H ?_ ?_ <;> clear H
  ·intro c72b0 c72b1 H
   (first | rw [c72b0] | (simp only [i64_w, i32_w]; rw [c72b0]) | skip)
   have H' := am H
   clear H
   have hnb73 := NB193_178.out
   have hnc73 := NB178_193.out
   have hnb74 := NB193_179.out
   have hnc74 := NB179_193.out
   have hnb75 := NB193_194.out
   have hnc75 := NB194_193.out
   have hcz76 := bK w70 BK193
   have hfz76 := bF BK193
   go_wp2
   go_meet
   case rel => exact ⟨_, (false), dr, H', ⟨lk3 HK1 HK2 HJ44⟩, ⟨by (try simp only [hl7_2]); (try simp only [hl9_2]); (try simp only [hl9_44]); (with_reducible repeat (first | apply Kd.R_alloc | apply Kd.R_drewN | apply Kd.R_drew)); exact Kd.R_mono HO_7.out (fun _ hk => hk.2)⟩, ⟨by (try simp only [hl7_2]); (try simp only [hl9_2]); (try simp only [hl9_44]); exact kR HO_9⟩, ⟨by (try simp only [hl7_2]); (try simp only [hl9_2]); (try simp only [hl9_44]); (with_reducible repeat (first | apply Kd.R_alloc | apply Kd.R_drewN | apply Kd.R_drew)); exact Kd.R_mono HO201.out (fun _ hk => hk.2)⟩, ⟨by (try simp only [hl7_2]); (try simp only [hl9_2]); (try simp only [hl9_44]); exact bp BK178⟩, ⟨by (try simp only [hl7_2]); (try simp only [hl9_2]); (try simp only [hl9_44]); exact bp BK179⟩, ⟨by (try simp only [hl7_2]); (try simp only [hl9_2]); (try simp only [hl9_44]); exact bp BK193⟩, ⟨by (try simp only [hl7_2]); (try simp only [hl9_2]); (try simp only [hl9_44]); exact bp BK194⟩, ⟨bw HB⟩⟩
  intro c72 c72b0 c72b1 H
  (first | rw [c72b0] | (simp only [i64_w, i32_w]; rw [c72b0]) | skip)
  have H' := am H
  clear H
  have hnb77 := NB193_178.out
  have hnc77 := NB178_193.out
  have hnb78 := NB193_179.out
  have hnc78 := NB179_193.out
  have hnb79 := NB193_194.out
  have hnc79 := NB194_193.out
  have hcz80 := bK w70 BK193
  have hfz80 := bF BK193
  go_wp2
  go_meet
  case rel => exact ⟨_, ((((rd_T38 ((rd_T35 l0_0 a1).f2) t190).f0) != 33)), dr, H', ⟨lk3 HK1 HK2 HJ44⟩, ⟨by (try simp only [hl7_2]); (try simp only [hl9_2]); (try simp only [hl9_44]); (with_reducible repeat (first | apply Kd.R_alloc | apply Kd.R_drewN | apply Kd.R_drew)); exact Kd.R_mono HO_7.out (fun _ hk => hk.2)⟩, ⟨by (try simp only [hl7_2]); (try simp only [hl9_2]); (try simp only [hl9_44]); exact kR HO_9⟩, ⟨by (try simp only [hl7_2]); (try simp only [hl9_2]); (try simp only [hl9_44]); (with_reducible repeat (first | apply Kd.R_alloc | apply Kd.R_drewN | apply Kd.R_drew)); exact Kd.R_mono HO201.out (fun _ hk => hk.2)⟩, ⟨by (try simp only [hl7_2]); (try simp only [hl9_2]); (try simp only [hl9_44]); exact bp BK178⟩, ⟨by (try simp only [hl7_2]); (try simp only [hl9_2]); (try simp only [hl9_44]); exact bp BK179⟩, ⟨by (try simp only [hl7_2]); (try simp only [hl9_2]); (try simp only [hl9_44]); exact bp BK193⟩, ⟨by (try simp only [hl7_2]); (try simp only [hl9_2]); (try simp only [hl9_44]); exact bp BK194⟩, ⟨bw HB⟩⟩
 clear HC69
 (try clear c7); (try clear c64); (try clear p64); (try clear c72); (try clear c72b0); (try clear c72b1); (try clear c73); (try clear c74); (try clear c75); (try clear c77); (try clear c78); (try clear c79); (try clear hcz76); (try clear hcz80); (try clear hfz76); (try clear hfz80)
 obtain ⟨kq, x90_68, rfl, HA, HJ68, HO_7, HO_9, HO_15, BK178, BK179, BK193, BK194, HB⟩ := hcut
 rcases kq with _ | kj68
 ·exact absurd HA.out (by simp [spec_l04Heights.j3])
 have H := HA.out
 clear HA
 simp only [spec_l04Heights.j3] at H
 have HC81 := am H
 clear H
 go_upto_if 90 with (fail)
 go_cut [15] (fun v15 wc => ∃ (kq : Nat) (x15_80 : List Int), Aside0 (spec_l04Heights.j4 kq a1 ((rd_T35 l0_0 a1).f2) x7_2 y191 (wrap64 ((wrap64 ((rd x7_2 t190) - t195)) + t197)) x15_80 l0_0 ((rd_T38 ((rd_T35 l0_0 a1).f2) t190).f0) ((rd_T38 ((rd_T35 l0_0 a1).f2) t190).f1) a1 t190 5 = some (r1, r2, r3, r4)) ∧ Aside0 (kq ≤ kj68) ∧ Aside0 (Kd.R (Kd.int .i64) 2 wc w.heap.size (fun k_ => some k_ ≠ (v15 : Value).ownBlock) (.slice (some ⟨go20, 0, none⟩) x7_2.length co25) x7_2) ∧ Aside0 (Kd.R Kd.bool 4 wc w.heap.size (fun _ => True) (.slice (some ⟨go24, 0, none⟩) y191.length co24) y191) ∧ Aside0 (Kd.R (Kd.int .i64) 2 wc w.heap.size (fun k_ => some k_ ≠ ((.slice (some ⟨go20, 0, none⟩) x7_2.length co25) : Value).ownBlock) v15 x15_80) ∧ Aside0 (wc.heap[gb178]? = some (.cells #[(.slice (some ad180) l0_0.length c0_0)] 25 (0, 0))) ∧ Aside0 (wc.heap[gb179]? = some (.cells #[.int .i64 x180000_2, .int .i64 x180001_2, .int .i64 x180002_2] 29 (0, 0))) ∧ Aside0 (wc.heap[gb193]? = some (.cells #[.int .i64 ((rd_T38 ((rd_T35 l0_0 a1).f2) t190).f0), .int .i64 ((rd_T38 ((rd_T35 l0_0 a1).f2) t190).f1)] 38 (0, 0))) ∧ Aside0 (wc.heap[gb194]? = some (.cells #[.int .i64 a1, .int .i64 t190, .int .i64 5] 29 (0, 0))) ∧ Aside0 (Below w.heap.size w wc))
 case first =>
  have H := HC81.out
  clear HC81
  refine qT H ?_ ?_ <;> clear H <;> intro c82 H <;> subst c82
  ·refine iN H ?_; clear H; intro c83 H
   have LMc83 := am c83
   clear c83
   obtain ⟨y202, hy202⟩ : ∃ y_ : List Int, y_ = (y199 ++ [wrap64 (t190 + 1)]) := ⟨_, rfl⟩
   replace H : (spec_l04Heights.j4 kj68 a1 ((rd_T35 l0_0 a1).f2) x7_2 y191 (wrap64 ((wrap64 ((rd x7_2 t190) - t195)) + t197)) y202 l0_0 ((rd_T38 ((rd_T35 l0_0 a1).f2) t190).f0) ((rd_T38 ((rd_T35 l0_0 a1).f2) t190).f1) a1 t190 5) = some (r1, r2, r3, r4) := by first | (rw [hy202]; with_reducible exact H) | (have H2_ := (Option.bind_some _ _).symm.trans H; rw [hy202]; with_reducible exact H2_) | (have H2_ := (Option.bind_some _ _).symm.trans H; with_reducible exact H2_) | with_reducible exact H | (rw [hy202]; exact H) | exact H
   have Ny202 := am hy202
   clear hy202
   have H' := am H
   clear H
   go_wp2_with (first | ((with_reducible refine gate_builtin (b := .append) (xs := #[.tmp 91, .tmp 94]) rfl ?_); at_builtin; refine Kd.R_append (Kd.int .i64) (w0 := w) w.heap.size rfl (.tmp 91) (.tmp 94) 31 2 (.int .i64 0) 8 rfl Try.underlying31 info2 rfl (by decide) (by omega) v200 y199 (wrap64 (t190 + 1)) [.int .i64 (wrap64 (t190 + 1))] (fun k_ => some k_ ≠ (.slice (some ⟨go20, 0, none⟩) x7_2.length co25 : Value).ownBlock) (fun _ => False) rfl rfl ?aP (fun _ hk => hk.elim) ?aF ?aO ?aB ?aS ?aL ?_; (case aP => exact rfl); (case aB => exact (bw HB)); (case aF => exact (fun k_ hk => Kd.fresh' (Kd.R_lt (kR HO_7)) k_ hk)); (case aO => exact (kR HO_15)); (case aS => exact (below_size (bw HB))); (case aL => have := LMc83.out; omega); intro v203 w84 ho hb hg hat; rw [← Ny202.out] at ho; replace HO_7 := am (Kd.R_after (ok := (fun _ => True)) (by (with_reducible repeat (first | apply Kd.R_alloc | apply Kd.R_drewN | apply Kd.R_drew)); exact Kd.R_mono HO_7.out (fun _ hk => ⟨trivial, hk⟩)) hg hat); replace HO_9 := am (Kd.R_over' (kR HO_9) (Kd.R_typed (kR HO_15)) (by decide) hg); replace BK178 := bg BK178 hg (Kd.R_ne HO_15.out BK178.out (by decide)); replace BK179 := bg BK179 hg (Kd.R_ne HO_15.out BK179.out (by decide)); replace BK193 := bg BK193 hg (Kd.R_ne HO_15.out BK193.out (by decide)); replace BK194 := bg BK194 hg (Kd.R_ne HO_15.out BK194.out (by decide)); replace HB := am (hb); have HO204 := am (ho); clear HO_15; clear ho hb hg hat))
   go_meet
   case rel => exact ⟨_, (y202), H', ⟨lk4 HK1 HK2 HJ44 HJ68⟩, ⟨by (try simp only [hl7_2]); (try simp only [hl9_2]); (try simp only [hl9_44]); (with_reducible repeat (first | apply Kd.R_alloc | apply Kd.R_drewN | apply Kd.R_drew)); exact Kd.R_mono HO_7.out (fun _ hk => hk.2)⟩, ⟨by (try simp only [hl7_2]); (try simp only [hl9_2]); (try simp only [hl9_44]); exact kR HO_9⟩, ⟨by (try simp only [hl7_2]); (try simp only [hl9_2]); (try simp only [hl9_44]); exact kR HO204⟩, ⟨by (try simp only [hl7_2]); (try simp only [hl9_2]); (try simp only [hl9_44]); exact bp BK178⟩, ⟨by (try simp only [hl7_2]); (try simp only [hl9_2]); (try simp only [hl9_44]); exact bp BK179⟩, ⟨by (try simp only [hl7_2]); (try simp only [hl9_2]); (try simp only [hl9_44]); exact bp BK193⟩, ⟨by (try simp only [hl7_2]); (try simp only [hl9_2]); (try simp only [hl9_44]); exact bp BK194⟩, ⟨bw HB⟩⟩
  have H' := am H
  clear H
  go_wp2
  go_meet
  case rel => exact ⟨_, (y199), H', ⟨lk4 HK1 HK2 HJ44 HJ68⟩, ⟨by (try simp only [hl7_2]); (try simp only [hl9_2]); (try simp only [hl9_44]); exact kR HO_7⟩, ⟨by (try simp only [hl7_2]); (try simp only [hl9_2]); (try simp only [hl9_44]); exact kR HO_9⟩, ⟨by (try simp only [hl7_2]); (try simp only [hl9_2]); (try simp only [hl9_44]); exact kR HO_15⟩, ⟨by (try simp only [hl7_2]); (try simp only [hl9_2]); (try simp only [hl9_44]); exact bp BK178⟩, ⟨by (try simp only [hl7_2]); (try simp only [hl9_2]); (try simp only [hl9_44]); exact bp BK179⟩, ⟨by (try simp only [hl7_2]); (try simp only [hl9_2]); (try simp only [hl9_44]); exact bp BK193⟩, ⟨by (try simp only [hl7_2]); (try simp only [hl9_2]); (try simp only [hl9_44]); exact bp BK194⟩, ⟨bw HB⟩⟩
 clear HC81
 (try clear c8); (try clear c82); (try clear c83)
 obtain ⟨kq, x15_80, HA, HJ80, HO_7, HO_9, HO_15, BK178, BK179, BK193, BK194, HB⟩ := hcut
 rcases kq with _ | kj80
 ·exact absurd HA.out (by simp [spec_l04Heights.j4])
 have H := HA.out
 clear HA
 simp only [spec_l04Heights.j4] at H
 have HC85 := am H
 clear H
 go_upto_region 23 with (fail)
 go_cut [103] (fun v103 wc => ∃ (kq : Nat) (x103_84 : Bool), v103 = .bool x103_84 ∧ Aside0 (spec_l04Heights.j5 kq a1 ((rd_T35 l0_0 a1).f2) x7_2 y191 (wrap64 ((wrap64 ((rd x7_2 t190) - t195)) + t197)) x15_80 x103_84 l0_0 ((rd_T38 ((rd_T35 l0_0 a1).f2) t190).f0) ((rd_T38 ((rd_T35 l0_0 a1).f2) t190).f1) a1 t190 5 = some (r1, r2, r3, r4)) ∧ Aside0 (kq ≤ kj80) ∧ Aside0 (Kd.R (Kd.int .i64) 2 wc w.heap.size (fun k_ => some k_ ≠ (u15 : Value).ownBlock) (.slice (some ⟨go20, 0, none⟩) x7_2.length co25) x7_2) ∧ Aside0 (Kd.R Kd.bool 4 wc w.heap.size (fun _ => True) (.slice (some ⟨go24, 0, none⟩) y191.length co24) y191) ∧ Aside0 (Kd.R (Kd.int .i64) 2 wc w.heap.size (fun k_ => some k_ ≠ ((.slice (some ⟨go20, 0, none⟩) x7_2.length co25) : Value).ownBlock) u15 x15_80) ∧ Aside0 (wc.heap[gb178]? = some (.cells #[(.slice (some ad180) l0_0.length c0_0)] 25 (0, 0))) ∧ Aside0 (wc.heap[gb179]? = some (.cells #[.int .i64 x180000_2, .int .i64 x180001_2, .int .i64 x180002_2] 29 (0, 0))) ∧ Aside0 (wc.heap[gb193]? = some (.cells #[.int .i64 ((rd_T38 ((rd_T35 l0_0 a1).f2) t190).f0), .int .i64 ((rd_T38 ((rd_T35 l0_0 a1).f2) t190).f1)] 38 (0, 0))) ∧ Aside0 (wc.heap[gb194]? = some (.cells #[.int .i64 a1, .int .i64 t190, .int .i64 5] 29 (0, 0))) ∧ Aside0 (Below w.heap.size w wc))
 case first =>
  have H := HC85.out
  clear HC85
  refine qE H ?_ ?_ <;> clear H
  ·intro c86b0 c86b1 H
   (first | rw [c86b0] | (simp only [i64_w, i32_w]; rw [c86b0]) | skip)
   have H' := am H
   clear H
   have hnb87 := NB193_178.out
   have hnc87 := NB178_193.out
   have hnb88 := NB193_179.out
   have hnc88 := NB179_193.out
   have hnb89 := NB193_194.out
   have hnc89 := NB194_193.out
   have hcz90 := bK wc BK193
   have hfz90 := bF BK193
   go_wp2
   go_meet
   case rel => exact ⟨_, (true), dr, H', ⟨lk5 HK1 HK2 HJ44 HJ68 HJ80⟩, ⟨by (try simp only [hl7_2]); (try simp only [hl9_2]); (try simp only [hl9_44]); exact kR HO_7⟩, ⟨by (try simp only [hl7_2]); (try simp only [hl9_2]); (try simp only [hl9_44]); exact kR HO_9⟩, ⟨by (try simp only [hl7_2]); (try simp only [hl9_2]); (try simp only [hl9_44]); exact kR HO_15⟩, ⟨by (try simp only [hl7_2]); (try simp only [hl9_2]); (try simp only [hl9_44]); exact bp BK178⟩, ⟨by (try simp only [hl7_2]); (try simp only [hl9_2]); (try simp only [hl9_44]); exact bp BK179⟩, ⟨by (try simp only [hl7_2]); (try simp only [hl9_2]); (try simp only [hl9_44]); exact bp BK193⟩, ⟨by (try simp only [hl7_2]); (try simp only [hl9_2]); (try simp only [hl9_44]); exact bp BK194⟩, ⟨bw HB⟩⟩
  intro c86 c86b0 c86b1 H
  (first | rw [c86b0] | (simp only [i64_w, i32_w]; rw [c86b0]) | skip)
  have H' := am H
  clear H
  have hnb91 := NB193_178.out
  have hnc91 := NB178_193.out
  have hnb92 := NB193_179.out
  have hnc92 := NB179_193.out
  have hnb93 := NB193_194.out
  have hnc93 := NB194_193.out
  have hcz94 := bK wc BK193
  have hfz94 := bF BK193
  go_wp2
  go_meet
  case rel => exact ⟨_, ((((rd_T38 ((rd_T35 l0_0 a1).f2) t190).f0) == 31)), dr, H', ⟨lk5 HK1 HK2 HJ44 HJ68 HJ80⟩, ⟨by (try simp only [hl7_2]); (try simp only [hl9_2]); (try simp only [hl9_44]); exact kR HO_7⟩, ⟨by (try simp only [hl7_2]); (try simp only [hl9_2]); (try simp only [hl9_44]); exact kR HO_9⟩, ⟨by (try simp only [hl7_2]); (try simp only [hl9_2]); (try simp only [hl9_44]); exact kR HO_15⟩, ⟨by (try simp only [hl7_2]); (try simp only [hl9_2]); (try simp only [hl9_44]); exact bp BK178⟩, ⟨by (try simp only [hl7_2]); (try simp only [hl9_2]); (try simp only [hl9_44]); exact bp BK179⟩, ⟨by (try simp only [hl7_2]); (try simp only [hl9_2]); (try simp only [hl9_44]); exact bp BK193⟩, ⟨by (try simp only [hl7_2]); (try simp only [hl9_2]); (try simp only [hl9_44]); exact bp BK194⟩, ⟨bw HB⟩⟩
 clear HC85
 (try clear c86); (try clear c86b0); (try clear c86b1); (try clear c87); (try clear c88); (try clear c89); (try clear c91); (try clear c92); (try clear c93); (try clear hcz90); (try clear hcz94); (try clear hfz90); (try clear hfz94)
 obtain ⟨kq, x103_84, rfl, HA, HJ84, HO_7, HO_9, HO_15, BK178, BK179, BK193, BK194, HB⟩ := hcut
 rcases kq with _ | kj84
 ·exact absurd HA.out (by simp [spec_l04Heights.j5])
 have H := HA.out
 clear HA
 simp only [spec_l04Heights.j5] at H
 have HC95 := am H
 clear H
 go_upto_if 103 with (fail)
 go_cut [15] (fun v15 wc => ∃ (kq : Nat) (x15_94 : List Int), Aside0 (spec_l04Heights.j6 kq a1 ((rd_T35 l0_0 a1).f2) x7_2 y191 (wrap64 ((wrap64 ((rd x7_2 t190) - t195)) + t197)) x15_94 l0_0 a1 t190 5 = some (r1, r2, r3, r4)) ∧ Aside0 (kq ≤ kj84) ∧ Aside0 (Kd.R (Kd.int .i64) 2 wc w.heap.size (fun k_ => some k_ ≠ (v15 : Value).ownBlock) (.slice (some ⟨go20, 0, none⟩) x7_2.length co25) x7_2) ∧ Aside0 (Kd.R Kd.bool 4 wc w.heap.size (fun _ => True) (.slice (some ⟨go24, 0, none⟩) y191.length co24) y191) ∧ Aside0 (Kd.R (Kd.int .i64) 2 wc w.heap.size (fun k_ => some k_ ≠ ((.slice (some ⟨go20, 0, none⟩) x7_2.length co25) : Value).ownBlock) v15 x15_94) ∧ Aside0 (wc.heap[gb178]? = some (.cells #[(.slice (some ad180) l0_0.length c0_0)] 25 (0, 0))) ∧ Aside0 (wc.heap[gb179]? = some (.cells #[.int .i64 x180000_2, .int .i64 x180001_2, .int .i64 x180002_2] 29 (0, 0))) ∧ Aside0 (wc.heap[gb193]? = some (.cells #[.int .i64 ((rd_T38 ((rd_T35 l0_0 a1).f2) t190).f0), .int .i64 ((rd_T38 ((rd_T35 l0_0 a1).f2) t190).f1)] 38 (0, 0))) ∧ Aside0 (wc.heap[gb194]? = some (.cells #[.int .i64 a1, .int .i64 t190, .int .i64 5] 29 (0, 0))) ∧ Aside0 (Below w.heap.size w wc))
 case first =>
  have H := HC95.out
  clear HC95
  refine qT H ?_ ?_ <;> clear H <;> intro c96 H <;> subst c96
  ·refine iN H ?_; clear H; intro c97 H
   have LMc97 := am c97
   clear c97
   obtain ⟨y205, hy205⟩ : ∃ y_ : List Int, y_ = (x15_80 ++ [((rd_T38 ((rd_T35 l0_0 a1).f2) t190).f1)]) := ⟨_, rfl⟩
   replace H : (spec_l04Heights.j6 kj84 a1 ((rd_T35 l0_0 a1).f2) x7_2 y191 (wrap64 ((wrap64 ((rd x7_2 t190) - t195)) + t197)) y205 l0_0 a1 t190 5) = some (r1, r2, r3, r4) := by first | (rw [hy205]; with_reducible exact H) | (have H2_ := (Option.bind_some _ _).symm.trans H; rw [hy205]; with_reducible exact H2_) | (have H2_ := (Option.bind_some _ _).symm.trans H; with_reducible exact H2_) | with_reducible exact H | (rw [hy205]; exact H) | exact H
   have Ny205 := am hy205
   clear hy205
   have H' := am H
   clear H
   have hnb98 := NB193_178.out
   have hnc98 := NB178_193.out
   have hnb99 := NB193_179.out
   have hnc99 := NB179_193.out
   have hnb100 := NB193_194.out
   have hnc100 := NB194_193.out
   have hcz101 := bK wc BK193
   have hfz101 := bF BK193
   go_wp2_with (first | ((with_reducible refine gate_builtin (b := .append) (xs := #[.tmp 104, .tmp 107]) rfl ?_); at_builtin; refine Kd.R_append (Kd.int .i64) (w0 := w) w.heap.size rfl (.tmp 104) (.tmp 107) 31 2 (.int .i64 0) 8 rfl Try.underlying31 info2 rfl (by decide) (by omega) u15 x15_80 ((rd_T38 ((rd_T35 l0_0 a1).f2) t190).f1) [.int .i64 ((rd_T38 ((rd_T35 l0_0 a1).f2) t190).f1)] (fun k_ => some k_ ≠ (.slice (some ⟨go20, 0, none⟩) x7_2.length co25 : Value).ownBlock) (fun _ => False) rfl rfl ?aP (fun _ hk => hk.elim) ?aF ?aO ?aB ?aS ?aL ?_; (case aP => exact rfl); (case aB => exact (bw HB)); (case aF => exact (fun k_ hk => Kd.fresh' (Kd.R_lt (kR HO_7)) k_ hk)); (case aO => exact (kR HO_15)); (case aS => exact (below_size (bw HB))); (case aL => have := LMc97.out; omega); intro v206 w102 ho hb hg hat; rw [← Ny205.out] at ho; replace HO_7 := am (Kd.R_after (ok := (fun _ => True)) (by (with_reducible repeat (first | apply Kd.R_alloc | apply Kd.R_drewN | apply Kd.R_drew)); exact Kd.R_mono HO_7.out (fun _ hk => ⟨trivial, hk⟩)) hg hat); replace HO_9 := am (Kd.R_over' (kR HO_9) (Kd.R_typed (kR HO_15)) (by decide) hg); replace BK178 := bg BK178 hg (Kd.R_ne HO_15.out BK178.out (by decide)); replace BK179 := bg BK179 hg (Kd.R_ne HO_15.out BK179.out (by decide)); replace BK193 := bg BK193 hg (Kd.R_ne HO_15.out BK193.out (by decide)); replace BK194 := bg BK194 hg (Kd.R_ne HO_15.out BK194.out (by decide)); replace HB := am (hb); have HO207 := am (ho); clear HO_15; clear ho hb hg hat))
   go_meet
   case rel => exact ⟨_, (y205), H', ⟨lk6 HK1 HK2 HJ44 HJ68 HJ80 HJ84⟩, ⟨by (try simp only [hl7_2]); (try simp only [hl9_2]); (try simp only [hl9_44]); (with_reducible repeat (first | apply Kd.R_alloc | apply Kd.R_drewN | apply Kd.R_drew)); exact Kd.R_mono HO_7.out (fun _ hk => hk.2)⟩, ⟨by (try simp only [hl7_2]); (try simp only [hl9_2]); (try simp only [hl9_44]); exact kR HO_9⟩, ⟨by (try simp only [hl7_2]); (try simp only [hl9_2]); (try simp only [hl9_44]); exact kR HO207⟩, ⟨by (try simp only [hl7_2]); (try simp only [hl9_2]); (try simp only [hl9_44]); exact bp BK178⟩, ⟨by (try simp only [hl7_2]); (try simp only [hl9_2]); (try simp only [hl9_44]); exact bp BK179⟩, ⟨by (try simp only [hl7_2]); (try simp only [hl9_2]); (try simp only [hl9_44]); exact bp BK193⟩, ⟨by (try simp only [hl7_2]); (try simp only [hl9_2]); (try simp only [hl9_44]); exact bp BK194⟩, ⟨bw HB⟩⟩
  have H' := am H
  clear H
  go_wp2
  go_meet
  case rel => exact ⟨_, (x15_80), H', ⟨lk6 HK1 HK2 HJ44 HJ68 HJ80 HJ84⟩, ⟨by (try simp only [hl7_2]); (try simp only [hl9_2]); (try simp only [hl9_44]); exact kR HO_7⟩, ⟨by (try simp only [hl7_2]); (try simp only [hl9_2]); (try simp only [hl9_44]); exact kR HO_9⟩, ⟨by (try simp only [hl7_2]); (try simp only [hl9_2]); (try simp only [hl9_44]); exact kR HO_15⟩, ⟨by (try simp only [hl7_2]); (try simp only [hl9_2]); (try simp only [hl9_44]); exact bp BK178⟩, ⟨by (try simp only [hl7_2]); (try simp only [hl9_2]); (try simp only [hl9_44]); exact bp BK179⟩, ⟨by (try simp only [hl7_2]); (try simp only [hl9_2]); (try simp only [hl9_44]); exact bp BK193⟩, ⟨by (try simp only [hl7_2]); (try simp only [hl9_2]); (try simp only [hl9_44]); exact bp BK194⟩, ⟨bw HB⟩⟩
 clear HC95
 (try clear c10); (try clear c96); (try clear c97); (try clear c98); (try clear c99); (try clear c100); (try clear hcz101); (try clear hfz101)
 obtain ⟨kq, x15_94, HA, HJ94, HO_7, HO_9, HO_15, BK178, BK179, BK193, BK194, HB⟩ := hcut
 rcases kq with _ | kj94
 ·exact absurd HA.out (by simp [spec_l04Heights.j6])
 have H := HA.out
 clear HA
 simp only [spec_l04Heights.j6] at H
 have H' := am H
 clear H
 go_wp2
 go_loopg [16] kj94 (fun kq v16 w' => ∃ (x7_8 : List Int) (x9_8 : List Bool) (x16_8 : Int) (x180000_8 : Int) (x180001_8 : Int) (x180002_8 : Int) (x195002_8 : Int), v16 = .int .i64 x16_8 ∧ Aside0 (spec_l04Heights.l2 kq a1 ((rd_T35 l0_0 a1).f2) x7_8 x9_8 (wrap64 ((wrap64 ((rd x7_2 t190) - t195)) + t197)) x15_94 x16_8 l0_0 a1 t190 x195002_8 = some (r1, r2, r3, r4)) ∧ Aside0 (kq ≤ kj94) ∧ Aside0 (Kd.R (Kd.int .i64) 2 w' w.heap.size (fun k_ => some k_ ≠ (u15 : Value).ownBlock) (.slice (some ⟨go20, 0, none⟩) x7_2.length co25) x7_8) ∧ Aside0 (Kd.R Kd.bool 4 w' w.heap.size (fun _ => True) (.slice (some ⟨go24, 0, none⟩) y191.length co24) x9_8) ∧ Aside0 (Kd.R (Kd.int .i64) 2 w' w.heap.size (fun k_ => some k_ ≠ ((.slice (some ⟨go20, 0, none⟩) x7_2.length co25) : Value).ownBlock) u15 x15_94) ∧ Aside0 (w'.heap[gb178]? = some (.cells #[(.slice (some ad180) l0_0.length c0_0)] 25 (0, 0))) ∧ Aside0 (w'.heap[gb179]? = some (.cells #[.int .i64 x180000_8, .int .i64 x180001_8, .int .i64 x180002_8] 29 (0, 0))) ∧ Aside0 (w'.heap[gb193]? = some (.cells #[.int .i64 ((rd_T38 ((rd_T35 l0_0 a1).f2) t190).f0), .int .i64 ((rd_T38 ((rd_T35 l0_0 a1).f2) t190).f1)] 38 (0, 0))) ∧ Aside0 (w'.heap[gb194]? = some (.cells #[.int .i64 a1, .int .i64 t190, .int .i64 x195002_8] 29 (0, 0))) ∧ Aside0 (Below w.heap.size w w'))
 case atStart => exact ⟨(x7_2), (y191), (0), (x180000_2), (x180001_2), (x180002_2), (5), dr, H', ⟨Nat.le_refl _⟩, ⟨by (try simp only [hl7_2]); (try simp only [hl9_2]); (try simp only [hl9_44]); exact kR HO_7⟩, ⟨by (try simp only [hl7_2]); (try simp only [hl9_2]); (try simp only [hl9_44]); exact kR HO_9⟩, ⟨by (try simp only [hl7_2]); (try simp only [hl9_2]); (try simp only [hl9_44]); exact kR HO_15⟩, ⟨by (try simp only [hl7_2]); (try simp only [hl9_2]); (try simp only [hl9_44]); exact bp BK178⟩, ⟨by (try simp only [hl7_2]); (try simp only [hl9_2]); (try simp only [hl9_44]); exact bp BK179⟩, ⟨by (try simp only [hl7_2]); (try simp only [hl9_2]); (try simp only [hl9_44]); exact bp BK193⟩, ⟨by (try simp only [hl7_2]); (try simp only [hl9_2]); (try simp only [hl9_44]); exact bp BK194⟩, ⟨bw HB⟩⟩
 clear H'
 obtain ⟨x7_8, x9_8, x16_8, x180000_8, x180001_8, x180002_8, x195002_8, rfl, HA, HK8, HO_7, HO_9, HO_15, BK178, BK179, BK193, BK194, HB⟩ := hrel
 have hl7_8 := (Kd.R_reads' HO_7.out).1
 rw [hl7_8] at HO_7
 (try simp only [hl7_8])
 (try simp only [hl7_8] at BK178)
 (try simp only [hl7_8] at BK179)
 (try simp only [hl7_8] at BK193)
 (try simp only [hl7_8] at BK194)
 (try simp only [hl7_8] at HO_9)
 (try simp only [hl7_8] at HO_15)
 have hl9_8 := (Kd.R_reads' HO_9.out).1
 rw [hl9_8] at HO_9
 (try simp only [hl9_8])
 (try simp only [hl9_8] at BK178)
 (try simp only [hl9_8] at BK179)
 (try simp only [hl9_8] at BK193)
 (try simp only [hl9_8] at BK194)
 (try simp only [hl9_8] at HO_7)
 (try simp only [hl9_8] at HO_15)
 rcases gk with _ | k8
 ·exact absurd HA.out (by simp [spec_l04Heights.l2])
 have H := HA.out
 clear HA
 simp only [spec_l04Heights.l2] at H
 by_cases c103 : x16_8 < (x15_94.length : Int)
 ·rw [if_pos c103] at H
  have c103b0 := decide_eq_true c103
  (try (have c103b0hl9_44 := c103b0; rw [hl9_44] at c103b0hl9_44))
  clear c103
  refine iN H ?_; clear H; intro c104 H
  have c104b0 := decide_eq_true c104
  clear c104
  by_cases c105 : (rd x15_94 x16_8) ≥ (((rd_T35 l0_0 a1).f2).length : Int)
  ·rw [if_pos c105] at H
   have c105b0 : decide ((((rd_T35 l0_0 a1).f2).length : Int) ≤ (rd x15_94 x16_8)) = true := decide_eq_true c105
   (try (have c105b0hl9_44 := c105b0; rw [hl9_44] at c105b0hl9_44))
   clear c105
   simp only [Option.some.injEq, Prod.mk.injEq] at H
   obtain ⟨rfl, rfl, rfl, rfl⟩ := H
   obtain ⟨Ao106, co106, eo106⟩ := Kd.R_slice HO_15.out
   subst eo106
   have p208 : 0 ≤ (x16_8 : Int) := of_decide_eq_true as1
   have q208 : x16_8 < (x15_94.length : Int) := of_decide_eq_true as1
   obtain ⟨ad208, e208, hx208_0⟩ := Kd.at_int (Kd.R_reads' HO_15.out).2.2 x16_8 p208 q208
   cases e208
   replace p208 := eq_true p208
   replace q208 := eq_true q208
   have hnb107 := NB194_178.out
   have hnc107 := NB178_194.out
   have hnb108 := NB194_179.out
   have hnc108 := NB179_194.out
   have hnb109 := NB194_193.out
   have hnc109 := NB193_194.out
   have hcz110 := bK wr BK194
   have hfz110 := bF BK194
   try go_wp2
   replace HO_7 : Aside0 (Kd.R (Kd.int .i64) 2 (wr.setCell ⟨gb194, 2, none⟩ (.int .i64 6)) w.heap.size (fun k_ => some k_ ≠ (.slice (some ad208) x15_94.length co106 : Value).ownBlock) (.slice (some ⟨go20, 0, none⟩) x7_8.length co25) x7_8) := ⟨by (with_reducible repeat (first | apply Kd.R_alloc | apply Kd.R_drewN | apply Kd.R_drew)); exact Kd.R_mono (Kd.R_far (p := ⟨gb194, 2, none⟩) (Kd.R_types HO_7.out BK194.out (by decide)) (fun _ hk => hk.2) (.int .i64 6)) (fun _ hk => hk.1)⟩
   replace HO_9 : Aside0 (Kd.R Kd.bool 4 (wr.setCell ⟨gb194, 2, none⟩ (.int .i64 6)) w.heap.size (fun _ => True) (.slice (some ⟨go24, 0, none⟩) x9_8.length co24) x9_8) := ⟨by (with_reducible repeat (first | apply Kd.R_alloc | apply Kd.R_drewN | apply Kd.R_drew)); exact Kd.R_mono (Kd.R_far (p := ⟨gb194, 2, none⟩) (Kd.R_types HO_9.out BK194.out (by decide)) (fun _ hk => hk.2) (.int .i64 6)) (fun _ hk => trivial)⟩
   replace HO_15 : Aside0 (Kd.R (Kd.int .i64) 2 (wr.setCell ⟨gb194, 2, none⟩ (.int .i64 6)) w.heap.size (fun k_ => some k_ ≠ (.slice (some ⟨go20, 0, none⟩) x7_8.length co25 : Value).ownBlock) (.slice (some ad208) x15_94.length co106) x15_94) := ⟨by (with_reducible repeat (first | apply Kd.R_alloc | apply Kd.R_drewN | apply Kd.R_drew)); exact Kd.R_mono (Kd.R_far (p := ⟨gb194, 2, none⟩) (Kd.R_types HO_15.out BK194.out (by decide)) (fun _ hk => hk.2) (.int .i64 6)) (fun _ hk => hk.1)⟩
   replace BK178 : Aside0 ((wr.setCell ⟨gb194, 2, none⟩ (.int .i64 6)).heap[gb178]? = some (.cells #[.slice (some ad180) l0_0.length c0_0] 25 (0, 0))) := ⟨by (with_reducible repeat (first | apply dN | apply dW | apply dA)); refine blk_far ?_ NB178_194.out _; exact bp BK178⟩
   replace BK179 : Aside0 ((wr.setCell ⟨gb194, 2, none⟩ (.int .i64 6)).heap[gb179]? = some (.cells #[.int .i64 x180000_8, .int .i64 x180001_8, .int .i64 x180002_8] 29 (0, 0))) := ⟨by (with_reducible repeat (first | apply dN | apply dW | apply dA)); refine blk_far ?_ NB179_194.out _; exact bp BK179⟩
   replace BK193 : Aside0 ((wr.setCell ⟨gb194, 2, none⟩ (.int .i64 6)).heap[gb193]? = some (.cells #[.int .i64 ((rd_T38 ((rd_T35 l0_0 a1).f2) t190).f0), .int .i64 ((rd_T38 ((rd_T35 l0_0 a1).f2) t190).f1)] 38 (0, 0))) := ⟨by (with_reducible repeat (first | apply dN | apply dW | apply dA)); refine blk_far ?_ NB193_194.out _; exact bp BK193⟩
   replace BK194 : Aside0 ((wr.setCell ⟨gb194, 2, none⟩ (.int .i64 6)).heap[gb194]? = some (.cells #[.int .i64 a1, .int .i64 t190, .int .i64 6] 29 (0, 0))) := ⟨by (with_reducible repeat (first | apply dN | apply dW | apply dA)); refine blk_put (cs := #[.int .i64 a1, .int .i64 t190, .int .i64 x195002_8]) ?_ 2 _ rfl; exact bp BK194⟩
   replace HB : Aside0 (Below w.heap.size w (wr.setCell ⟨gb194, 2, none⟩ (.int .i64 6))) := ⟨bw HB⟩
   generalize (wr.setCell ⟨gb194, 2, none⟩ (.int .i64 6)) = w111 at HO_7 HO_9 HO_15 BK178 BK179 BK193 BK194 HB ⊢
   replace HO_7 := am (Kd.R_drew HO_7.out)
   replace HO_9 := am (Kd.R_drew HO_9.out)
   replace HO_15 := am (Kd.R_drew HO_15.out)
   replace BK178 := am (blk_drew BK178.out)
   replace BK179 := am (blk_drew BK179.out)
   replace BK193 := am (blk_drew BK193.out)
   replace BK194 := am (blk_drew BK194.out)
   replace HB := am (below_drew1 HB.out)
   refine start_ (n := 4) (S := fun w' => w'.cell? ⟨gb194, 0, none⟩ = some (.int .i64 a1) ∧ w'.cell? ⟨gb194, 1, none⟩ = some (.int .i64 t190) ∧ w'.cell? ⟨gb194, 2, none⟩ = some (.int .i64 6)) (ds := []) (bv 4 0) (by kernel_rfl) rfl (by kernel_rfl) ⟨bc BK194 0, bc BK194 1, bc BK194 2⟩ (fun hHeld => ?_)
   generalize w111.drew = w112 at HO_7 HO_9 HO_15 BK178 BK179 BK193 BK194 HB hHeld ⊢
   refine pure_ (i := 0) (N := some 123) (v := ?_) (a' := ?_) (bv 4 1) rfl rfl (by kernel_rfl) (fun _ _ _ h => h) (Or.inl ⟨by rfl, ?_⟩) ?_ ?_
   rotate_left
   ·intro w'
    go_simp
    with_reducible rfl
   rotate_left
   ·simp only [Act.put, sa, sz, ss, i64_w, i32_w]
    rfl
   refine pure_ (i := 2) (N := some 4) (v := ?_) (a' := ?_) (bv 4 5) rfl rfl (by kernel_rfl) (fun _ _ _ h => h) (Or.inl ⟨by rfl, ?_⟩) ?_ ?_
   rotate_left
   ·intro w'
    go_simp
    with_reducible rfl
   rotate_left
   ·simp only [Act.put, sa, sz, ss, i64_w, i32_w]
    rfl
   refine take_ (i := 1) (N := some 124) (v := ?_) (a' := ?_) (bv 4 7) rfl rfl (by kernel_rfl) (fun _ _ _ h => h) (Or.inl ⟨by rfl, ?_⟩) hHeld ?_ ?_
   rotate_left
   ·rintro w' ⟨s0, s1, s2⟩
    go_simp
    with_reducible rfl
   rotate_left
   ·simp only [Act.put, sa, sz, ss, i64_w, i32_w]
    rfl
   refine one_ (i := 3) (N := none) (bv 4 15) rfl rfl (by kernel_rfl) (by decide) (fun K hK => ?_)
   have hs113 := bk w112 BK179 0
   have hfs113 := bf BK179 0
   have hns113_0 := NB178_179.out
   have hns113_2 := NB193_179.out
   have hns113_3 := NB194_179.out
   have hms113_0 := NB179_178.out
   have hms113_2 := NB179_193.out
   have hms113_3 := NB179_194.out
   have hs114 := bk w112 BK179 1
   have hfs114 := bf BK179 1
   have hns114_0 := NB178_179.out
   have hns114_2 := NB193_179.out
   have hns114_3 := NB194_179.out
   have hms114_0 := NB179_178.out
   have hms114_2 := NB179_193.out
   have hms114_3 := NB179_194.out
   have hs115 := bk w112 BK179 2
   have hfs115 := bf BK179 2
   have hns115_0 := NB178_179.out
   have hns115_2 := NB193_179.out
   have hns115_3 := NB194_179.out
   have hms115_0 := NB179_178.out
   have hms115_2 := NB179_193.out
   have hms115_3 := NB179_194.out
   refine skip_ (w1 := ?_) (by rfl) rfl ?_ ?_
   rotate_left
   ·go_simp
    rfl
   refine hK.out _ _ ⟨((cell_far (p := ⟨gb179, _, none⟩) NB194_179.out _).trans (((cell_far (p := ⟨gb179, _, none⟩) NB194_179.out _).trans (((cell_far (p := ⟨gb179, _, none⟩) NB194_179.out _).trans (hHeld.1)))))), ((cell_far (p := ⟨gb179, _, none⟩) NB194_179.out _).trans (((cell_far (p := ⟨gb179, _, none⟩) NB194_179.out _).trans (((cell_far (p := ⟨gb179, _, none⟩) NB194_179.out _).trans (hHeld.2.1)))))), ((cell_far (p := ⟨gb179, _, none⟩) NB194_179.out _).trans (((cell_far (p := ⟨gb179, _, none⟩) NB194_179.out _).trans (((cell_far (p := ⟨gb179, _, none⟩) NB194_179.out _).trans (hHeld.2.2))))))⟩ (fun hHeld => ?_)
   clear hK K
   refine done_ (by kernel_rfl) ?_
   try go_wp2
   refine bodyPost_ret (results_tc rfl _ _ gb179 29 #[.int .i64 a1, .int .i64 t190, .int .i64 6] (0, 0) _ rfl (bt BK179) Try.underlying29 rfl (by kernel_rfl)) rfl ?_
   exact ⟨_, er, by (with_reducible repeat (first | apply Kd.R_alloc | apply Kd.R_drewN | apply Kd.R_drew)); exact Kd.R_mono (Kd.R_far (p := ⟨gb179, 2, none⟩) (Kd.R_far (p := ⟨gb179, 1, none⟩) (Kd.R_far (p := ⟨gb179, 0, none⟩) (Kd.R_types HO_7.out BK179.out (by decide)) (fun _ hk => hk.2) (.int .i64 a1)) (fun _ hk => hk.2) (.int .i64 t190)) (fun _ hk => hk.2) (.int .i64 6)) (fun _ hk => trivial), bw HB⟩
  rw [if_neg c105] at H
  have c105b0 : decide ((((rd_T35 l0_0 a1).f2).length : Int) ≤ (rd x15_94 x16_8)) = false := decide_eq_false c105
  (try (have c105b0hl9_44 := c105b0; rw [hl9_44] at c105b0hl9_44))
  clear c105
  have HC116 := am H
  clear H
  obtain ⟨Ao117, co117, eo117⟩ := Kd.R_slice HO_15.out
  subst eo117
  have p208 : 0 ≤ (x16_8 : Int) := of_decide_eq_true as1
  have q208 : x16_8 < (x15_94.length : Int) := of_decide_eq_true as1
  obtain ⟨ad208, e208, hx208_0⟩ := Kd.at_int (Kd.R_reads' HO_15.out).2.2 x16_8 p208 q208
  cases e208
  replace p208 := eq_true p208
  replace q208 := eq_true q208
  go_upto_region 31 with (fail)
  go_cut [143] (fun v143 wc => ∃ (kq : Nat) (x143_115 : Bool), v143 = .bool x143_115 ∧ Aside0 (spec_l04Heights.j8 kq a1 ((rd_T35 l0_0 a1).f2) x7_8 x9_8 (wrap64 ((wrap64 ((rd x7_2 t190) - t195)) + t197)) x15_94 x16_8 x143_115 l0_0 a1 t190 x195002_8 = some (r1, r2, r3, r4)) ∧ Aside0 (kq ≤ k8) ∧ Aside0 (Kd.R (Kd.int .i64) 2 wc w.heap.size (fun k_ => some k_ ≠ ((.slice (some ad208) x15_94.length co117) : Value).ownBlock) (.slice (some ⟨go20, 0, none⟩) x7_8.length co25) x7_8) ∧ Aside0 (Kd.R Kd.bool 4 wc w.heap.size (fun _ => True) (.slice (some ⟨go24, 0, none⟩) x9_8.length co24) x9_8) ∧ Aside0 (Kd.R (Kd.int .i64) 2 wc w.heap.size (fun k_ => some k_ ≠ ((.slice (some ⟨go20, 0, none⟩) x7_8.length co25) : Value).ownBlock) (.slice (some ad208) x15_94.length co117) x15_94) ∧ Aside0 (wc.heap[gb178]? = some (.cells #[(.slice (some ad180) l0_0.length c0_0)] 25 (0, 0))) ∧ Aside0 (wc.heap[gb179]? = some (.cells #[.int .i64 x180000_8, .int .i64 x180001_8, .int .i64 x180002_8] 29 (0, 0))) ∧ Aside0 (wc.heap[gb193]? = some (.cells #[.int .i64 ((rd_T38 ((rd_T35 l0_0 a1).f2) t190).f0), .int .i64 ((rd_T38 ((rd_T35 l0_0 a1).f2) t190).f1)] 38 (0, 0))) ∧ Aside0 (wc.heap[gb194]? = some (.cells #[.int .i64 a1, .int .i64 t190, .int .i64 x195002_8] 29 (0, 0))) ∧ Aside0 (Below w.heap.size w wc))
  case first =>
   have H := HC116.out
   clear HC116
   refine iM H ?_; clear H; intro c118b0 H
   (first | rw [c118b0] | (simp only [i64_w, i32_w]; rw [c118b0]) | skip)
   refine iM H ?_; clear H; intro c119b0 H
   (try (have c119b0hl9_44 := c119b0; rw [hl9_44] at c119b0hl9_44))
   (try (have c119b0hl7_8 := c119b0; rw [hl7_8] at c119b0hl7_8))
   refine qL H ?_ ?_ <;> clear H <;> intro c120b0 H
   ·have H' := am H
    clear H
    have p209 : 0 ≤ (x16_8 : Int) := of_decide_eq_true as1
    have q209 : x16_8 < (x15_94.length : Int) := of_decide_eq_true as1
    obtain ⟨ad209, e209, hx209_0⟩ := Kd.at_int (Kd.R_reads' HO_15.out).2.2 x16_8 p209 q209
    obtain rfl : ad208 = ad209 := (by injection e209)
    replace p209 := eq_true p209
    replace q209 := eq_true q209
    obtain ⟨p210, q210, hx210_0⟩ := aR HO_7 (rd x15_94 x16_8)
    have p211 : 0 ≤ (x16_8 : Int) := of_decide_eq_true as1
    have q211 : x16_8 < (x15_94.length : Int) := of_decide_eq_true as1
    obtain ⟨ad211, e211, hx211_0⟩ := Kd.at_int (Kd.R_reads' HO_15.out).2.2 x16_8 p211 q211
    obtain rfl : ad208 = ad211 := (by injection e211)
    replace p211 := eq_true p211
    replace q211 := eq_true q211
    obtain ⟨p212, q212, hx212_0⟩ := aR HO_7 (rd x15_94 x16_8)
    go_wp2
    go_meet
    case rel => exact ⟨_, (((rd x7_8 (rd x15_94 x16_8)) != (wrap64 ((wrap64 ((rd x7_2 t190) - t195)) + t197)))), dr, H', ⟨by have := HK1.out; have := HK2.out; have := HJ44.out; have := HJ68.out; have := HJ80.out; have := HJ84.out; have := HJ94.out; have := HK8.out; first | omega | exact Nat.le_refl _⟩, ⟨by (try simp only [hl7_2]); (try simp only [hl9_2]); (try simp only [hl9_44]); (try simp only [hl7_8]); (try simp only [hl9_8]); exact kR HO_7⟩, ⟨by (try simp only [hl7_2]); (try simp only [hl9_2]); (try simp only [hl9_44]); (try simp only [hl7_8]); (try simp only [hl9_8]); exact kR HO_9⟩, ⟨by (try simp only [hl7_2]); (try simp only [hl9_2]); (try simp only [hl9_44]); (try simp only [hl7_8]); (try simp only [hl9_8]); exact kR HO_15⟩, ⟨by (try simp only [hl7_2]); (try simp only [hl9_2]); (try simp only [hl9_44]); (try simp only [hl7_8]); (try simp only [hl9_8]); exact bp BK178⟩, ⟨by (try simp only [hl7_2]); (try simp only [hl9_2]); (try simp only [hl9_44]); (try simp only [hl7_8]); (try simp only [hl9_8]); exact bp BK179⟩, ⟨by (try simp only [hl7_2]); (try simp only [hl9_2]); (try simp only [hl9_44]); (try simp only [hl7_8]); (try simp only [hl9_8]); exact bp BK193⟩, ⟨by (try simp only [hl7_2]); (try simp only [hl9_2]); (try simp only [hl9_44]); (try simp only [hl7_8]); (try simp only [hl9_8]); exact bp BK194⟩, ⟨bw HB⟩⟩
   have H' := am H
   clear H
   have p209 : 0 ≤ (x16_8 : Int) := of_decide_eq_true as1
   have q209 : x16_8 < (x15_94.length : Int) := of_decide_eq_true as1
   obtain ⟨ad209, e209, hx209_0⟩ := Kd.at_int (Kd.R_reads' HO_15.out).2.2 x16_8 p209 q209
   obtain rfl : ad208 = ad209 := (by injection e209)
   replace p209 := eq_true p209
   replace q209 := eq_true q209
   obtain ⟨p210, q210, hx210_0⟩ := aR HO_7 (rd x15_94 x16_8)
   go_wp2
   go_meet
   case rel => exact ⟨_, (false), dr, H', ⟨by have := HK1.out; have := HK2.out; have := HJ44.out; have := HJ68.out; have := HJ80.out; have := HJ84.out; have := HJ94.out; have := HK8.out; first | omega | exact Nat.le_refl _⟩, ⟨by (try simp only [hl7_2]); (try simp only [hl9_2]); (try simp only [hl9_44]); (try simp only [hl7_8]); (try simp only [hl9_8]); exact kR HO_7⟩, ⟨by (try simp only [hl7_2]); (try simp only [hl9_2]); (try simp only [hl9_44]); (try simp only [hl7_8]); (try simp only [hl9_8]); exact kR HO_9⟩, ⟨by (try simp only [hl7_2]); (try simp only [hl9_2]); (try simp only [hl9_44]); (try simp only [hl7_8]); (try simp only [hl9_8]); exact kR HO_15⟩, ⟨by (try simp only [hl7_2]); (try simp only [hl9_2]); (try simp only [hl9_44]); (try simp only [hl7_8]); (try simp only [hl9_8]); exact bp BK178⟩, ⟨by (try simp only [hl7_2]); (try simp only [hl9_2]); (try simp only [hl9_44]); (try simp only [hl7_8]); (try simp only [hl9_8]); exact bp BK179⟩, ⟨by (try simp only [hl7_2]); (try simp only [hl9_2]); (try simp only [hl9_44]); (try simp only [hl7_8]); (try simp only [hl9_8]); exact bp BK193⟩, ⟨by (try simp only [hl7_2]); (try simp only [hl9_2]); (try simp only [hl9_44]); (try simp only [hl7_8]); (try simp only [hl9_8]); exact bp BK194⟩, ⟨bw HB⟩⟩
  clear HC116
  (try clear c11); (try clear c12); (try clear p21); (try clear q21); (try clear hx21); (try clear c103); (try clear c103b0); (try clear c104); (try clear c104b0); (try clear c105); (try clear c105b0); (try clear c107); (try clear c108); (try clear c109); (try clear c118); (try clear c118b0); (try clear c119); (try clear c119b0); (try clear c120); (try clear c120b0); (try clear hcz110); (try clear hfz110); (try clear hx208_0); (try clear hx209_0); (try clear hx210_0); (try clear hx211_0); (try clear hx212_0); (try clear p208); (try clear p209); (try clear p210); (try clear p211); (try clear p212); (try clear q208); (try clear q209); (try clear q210); (try clear q211); (try clear q212)
  obtain ⟨kq, x143_115, rfl, HA, HJ115, HO_7, HO_9, HO_15, BK178, BK179, BK193, BK194, HB⟩ := hcut
  rcases kq with _ | kj115
  ·exact absurd HA.out (by simp [spec_l04Heights.j8])
  have H := HA.out
  clear HA
  simp only [spec_l04Heights.j8] at H
  refine qT H ?_ ?_ <;> clear H <;> intro c121 H <;> subst c121
  ·simp only [Option.some.injEq, Prod.mk.injEq] at H
   obtain ⟨rfl, rfl, rfl, rfl⟩ := H
   try go_wp2
   replace HO_7 := am (Kd.R_drew HO_7.out)
   replace HO_9 := am (Kd.R_drew HO_9.out)
   replace HO_15 := am (Kd.R_drew HO_15.out)
   replace BK178 := am (blk_drew BK178.out)
   replace BK179 := am (blk_drew BK179.out)
   replace BK193 := am (blk_drew BK193.out)
   replace BK194 := am (blk_drew BK194.out)
   replace HB := am (below_drew1 HB.out)
   refine start_ (n := 4) (S := fun w' => w'.cell? ⟨gb194, 0, none⟩ = some (.int .i64 a1) ∧ w'.cell? ⟨gb194, 1, none⟩ = some (.int .i64 t190) ∧ w'.cell? ⟨gb194, 2, none⟩ = some (.int .i64 x195002_8)) (ds := []) (bv 4 0) (by kernel_rfl) rfl (by kernel_rfl) ⟨bc BK194 0, bc BK194 1, bc BK194 2⟩ (fun hHeld => ?_)
   generalize wc.drew = w122 at HO_7 HO_9 HO_15 BK178 BK179 BK193 BK194 HB hHeld ⊢
   refine pure_ (i := 0) (N := some 144) (v := ?_) (a' := ?_) (bv 4 1) rfl rfl (by kernel_rfl) (fun _ _ _ h => h) (Or.inl ⟨by rfl, ?_⟩) ?_ ?_
   rotate_left
   ·intro w'
    go_simp
    with_reducible rfl
   rotate_left
   ·simp only [Act.put, sa, sz, ss, i64_w, i32_w]
    rfl
   refine pure_ (i := 2) (N := some 4) (v := ?_) (a' := ?_) (bv 4 5) rfl rfl (by kernel_rfl) (fun _ _ _ h => h) (Or.inl ⟨by rfl, ?_⟩) ?_ ?_
   rotate_left
   ·intro w'
    go_simp
    with_reducible rfl
   rotate_left
   ·simp only [Act.put, sa, sz, ss, i64_w, i32_w]
    rfl
   refine take_ (i := 1) (N := some 145) (v := ?_) (a' := ?_) (bv 4 7) rfl rfl (by kernel_rfl) (fun _ _ _ h => h) (Or.inl ⟨by rfl, ?_⟩) hHeld ?_ ?_
   rotate_left
   ·rintro w' ⟨s0, s1, s2⟩
    go_simp
    with_reducible rfl
   rotate_left
   ·simp only [Act.put, sa, sz, ss, i64_w, i32_w]
    rfl
   refine one_ (i := 3) (N := none) (bv 4 15) rfl rfl (by kernel_rfl) (by decide) (fun K hK => ?_)
   have hs123 := bk w122 BK179 0
   have hfs123 := bf BK179 0
   have hns123_0 := NB178_179.out
   have hns123_2 := NB193_179.out
   have hns123_3 := NB194_179.out
   have hms123_0 := NB179_178.out
   have hms123_2 := NB179_193.out
   have hms123_3 := NB179_194.out
   have hs124 := bk w122 BK179 1
   have hfs124 := bf BK179 1
   have hns124_0 := NB178_179.out
   have hns124_2 := NB193_179.out
   have hns124_3 := NB194_179.out
   have hms124_0 := NB179_178.out
   have hms124_2 := NB179_193.out
   have hms124_3 := NB179_194.out
   have hs125 := bk w122 BK179 2
   have hfs125 := bf BK179 2
   have hns125_0 := NB178_179.out
   have hns125_2 := NB193_179.out
   have hns125_3 := NB194_179.out
   have hms125_0 := NB179_178.out
   have hms125_2 := NB179_193.out
   have hms125_3 := NB179_194.out
   refine skip_ (w1 := ?_) (by rfl) rfl ?_ ?_
   rotate_left
   ·go_simp
    rfl
   refine hK.out _ _ ⟨((cell_far (p := ⟨gb179, _, none⟩) NB194_179.out _).trans (((cell_far (p := ⟨gb179, _, none⟩) NB194_179.out _).trans (((cell_far (p := ⟨gb179, _, none⟩) NB194_179.out _).trans (hHeld.1)))))), ((cell_far (p := ⟨gb179, _, none⟩) NB194_179.out _).trans (((cell_far (p := ⟨gb179, _, none⟩) NB194_179.out _).trans (((cell_far (p := ⟨gb179, _, none⟩) NB194_179.out _).trans (hHeld.2.1)))))), ((cell_far (p := ⟨gb179, _, none⟩) NB194_179.out _).trans (((cell_far (p := ⟨gb179, _, none⟩) NB194_179.out _).trans (((cell_far (p := ⟨gb179, _, none⟩) NB194_179.out _).trans (hHeld.2.2))))))⟩ (fun hHeld => ?_)
   clear hK K
   refine done_ (by kernel_rfl) ?_
   try go_wp2
   refine bodyPost_ret (results_tc rfl _ _ gb179 29 #[.int .i64 a1, .int .i64 t190, .int .i64 x195002_8] (0, 0) _ rfl (bt BK179) Try.underlying29 rfl (by kernel_rfl)) rfl ?_
   exact ⟨_, er, by (with_reducible repeat (first | apply Kd.R_alloc | apply Kd.R_drewN | apply Kd.R_drew)); exact Kd.R_mono (Kd.R_far (p := ⟨gb179, 2, none⟩) (Kd.R_far (p := ⟨gb179, 1, none⟩) (Kd.R_far (p := ⟨gb179, 0, none⟩) (Kd.R_types HO_7.out BK179.out (by decide)) (fun _ hk => hk.2) (.int .i64 a1)) (fun _ hk => hk.2) (.int .i64 t190)) (fun _ hk => hk.2) (.int .i64 x195002_8)) (fun _ hk => trivial), bw HB⟩
  refine iM H ?_; clear H; intro c126b0 H
  refine iM H ?_; clear H; intro c127b0 H
  (try (have c127b0hl9_44 := c127b0; rw [hl9_44] at c127b0hl9_44))
  refine iM H ?_; clear H; intro c128b0 H
  refine iM H ?_; clear H; intro c129b0 H
  (try (have c129b0hl9_44 := c129b0; rw [hl9_44] at c129b0hl9_44))
  (try (have c129b0hl7_8 := c129b0; rw [hl7_8] at c129b0hl7_8))
  refine qI H ?_ ?_ <;> clear H <;> intro c130b0 H
  ·obtain ⟨y216, hy216⟩ : ∃ y_ : List Int, y_ = (x7_8.set ((rd x15_94 x16_8) : Int).toNat (wrap64 ((wrap64 ((rd x7_2 t190) - t195)) + t197))) := ⟨_, rfl⟩
   replace H : (if (rd x15_94 x16_8) < (x9_8.length : Int) then (spec_l04Heights.l2 kj115 a1 ((rd_T35 l0_0 a1).f2) y216 (x9_8.set ((rd x15_94 x16_8) : Int).toNat true) (wrap64 ((wrap64 ((rd x7_2 t190) - t195)) + t197)) x15_94 (wrap64 (x16_8 + 1)) l0_0 a1 t190 x195002_8) else (none)) = some (r1, r2, r3, r4) := by first | (rw [hy216]; with_reducible exact H) | (have H2_ := (Option.bind_some _ _).symm.trans H; rw [hy216]; with_reducible exact H2_) | (have H2_ := (Option.bind_some _ _).symm.trans H; with_reducible exact H2_) | with_reducible exact H | (rw [hy216]; exact H) | exact H
   have Ny216 := am hy216
   clear hy216
   refine iM H ?_; clear H; intro c132b0 H
   (try (have c132b0hl9_44 := c132b0; rw [hl9_44] at c132b0hl9_44))
   (try (have c132b0hl9_8 := c132b0; rw [hl9_8] at c132b0hl9_8))
   obtain ⟨y218, hy218⟩ : ∃ y_ : List Bool, y_ = (x9_8.set ((rd x15_94 x16_8) : Int).toNat true) := ⟨_, rfl⟩
   replace H : (spec_l04Heights.l2 kj115 a1 ((rd_T35 l0_0 a1).f2) y216 y218 (wrap64 ((wrap64 ((rd x7_2 t190) - t195)) + t197)) x15_94 (wrap64 (x16_8 + 1)) l0_0 a1 t190 x195002_8) = some (r1, r2, r3, r4) := by first | (rw [hy218]; with_reducible exact H) | (have H2_ := (Option.bind_some _ _).symm.trans H; rw [hy218]; with_reducible exact H2_) | (have H2_ := (Option.bind_some _ _).symm.trans H; with_reducible exact H2_) | with_reducible exact H | (rw [hy218]; exact H) | exact H
   have Ny218 := am hy218
   clear hy218
   have H' := am H
   clear H
   have p213 : 0 ≤ (x16_8 : Int) := of_decide_eq_true as1
   have q213 : x16_8 < (x15_94.length : Int) := of_decide_eq_true as1
   obtain ⟨ad213, e213, hx213_0⟩ := Kd.at_int (Kd.R_reads' HO_15.out).2.2 x16_8 p213 q213
   obtain rfl : ad208 = ad213 := (by injection e213)
   replace p213 := eq_true p213
   replace q213 := eq_true q213
   obtain ⟨p214, q214, hx214_0⟩ := aR HO_7 (rd x15_94 x16_8)
   have p215 : 0 ≤ (x16_8 : Int) := of_decide_eq_true as1
   have q215 : x16_8 < (x15_94.length : Int) := of_decide_eq_true as1
   obtain ⟨ad215, e215, hx215_0⟩ := Kd.at_int (Kd.R_reads' HO_15.out).2.2 x16_8 p215 q215
   obtain rfl : ad208 = ad215 := (by injection e215)
   replace p215 := eq_true p215
   replace q215 := eq_true q215
   have p131 : 0 ≤ ((rd x15_94 x16_8) : Int) := of_decide_eq_true as1
   have q131 : ((rd x15_94 x16_8) : Int) < ((x7_8.length : Int) : Int) := of_decide_eq_true as1
   obtain ⟨hx131_0, hf131_0⟩ := Kd.R_celln 0 HO_7.out ((rd x15_94 x16_8) : Int) p131 q131
   replace p131 := eq_true p131
   replace q131 := eq_true q131
   have HP134 := Kd.R_putg HO_7.out ((rd x15_94 x16_8) : Int) (wrap64 ((wrap64 ((rd x7_2 t190) - t195)) + t197))
   go_wp2_with (first | ((with_reducible refine gt 2 160 rfl ?_); refine sE 2 160 (wc.setCell ⟨go20, ((rd x15_94 x16_8) : Int).toNat, none⟩ (.int .i64 (wrap64 ((wrap64 ((rd x7_2 t190) - t195)) + t197)))) ?_; intro w135 hw; have hg : wc.grownBy w135 (some go20) := (by rw [hw]; exact HP134.2); have hp_ : Kd.R (Kd.int .i64) 2 w135 w.heap.size (fun k_ => some k_ ≠ (.slice (some ad208) x15_94.length co117 : Value).ownBlock) (.slice (some ⟨go20, 0, none⟩) x7_8.length co25) y216 := (by rw [hw, Ny216.out]; exact HP134.1); clear HP134; replace HO_9 := am (Kd.R_over' (v := (.slice (some ⟨go20, 0, none⟩) x7_8.length co25)) (kR HO_9) (Kd.R_typed HO_7.out) (by decide) hg); replace HO_15 := am (Kd.R_after (v := (.slice (some ⟨go20, 0, none⟩) x7_8.length co25)) (v1 := (.slice (some ⟨go20, 0, none⟩) x7_8.length co25)) (ok := (fun _ => True)) (by (with_reducible repeat (first | apply Kd.R_alloc | apply Kd.R_drewN | apply Kd.R_drew)); exact Kd.R_mono HO_15.out (fun _ hk => ⟨trivial, hk⟩)) hg (.inl rfl)); replace BK178 := bg BK178 hg (Kd.R_ne HO_7.out BK178.out (by decide)); replace BK179 := bg BK179 hg (Kd.R_ne HO_7.out BK179.out (by decide)); replace BK193 := bg BK193 hg (Kd.R_ne HO_7.out BK193.out (by decide)); replace BK194 := bg BK194 hg (Kd.R_ne HO_7.out BK194.out (by decide)); replace HO_7 := am (hp_); replace HB := am ((by rw [hw]; exact below_set (HB.out) GB20.out : Below w.heap.size w w135)); clear hg hw hp_; have p217 : 0 ≤ (x16_8 : Int) := of_decide_eq_true as1; have q217 : x16_8 < (x15_94.length : Int) := of_decide_eq_true as1; obtain ⟨ad217, e217, hx217_0⟩ := Kd.at_int (Kd.R_reads' HO_15.out).2.2 x16_8 p217 q217; obtain rfl : ad208 = ad217 := (by injection e217); replace p217 := eq_true p217; replace q217 := eq_true q217; have p133 : 0 ≤ ((rd x15_94 x16_8) : Int) := of_decide_eq_true as1; have q133 : ((rd x15_94 x16_8) : Int) < ((x9_8.length : Int) : Int) := of_decide_eq_true as1; obtain ⟨hx133_0, hf133_0⟩ := Kd.R_celln false HO_9.out ((rd x15_94 x16_8) : Int) p133 q133; replace p133 := eq_true p133; replace q133 := eq_true q133; obtain ⟨hy136_, hz136_⟩ := Kd.R_celln false HO_9.out ((rd x15_94 x16_8) : Int) (of_decide_eq_true as1) (of_decide_eq_true as1); have HP136 := Kd.R_putg HO_9.out ((rd x15_94 x16_8) : Int) true) | ((with_reducible refine gt 4 166 rfl ?_); refine sE 4 166 (w135.setCell ⟨go24, ((rd x15_94 x16_8) : Int).toNat, none⟩ (.bool true)) ?_; intro w137 hw; have hg : w135.grownBy w137 (some go24) := (by rw [hw]; exact HP136.2); have hp_ : Kd.R Kd.bool 4 w137 w.heap.size (fun _ => True) (.slice (some ⟨go24, 0, none⟩) x9_8.length co24) y218 := (by rw [hw, Ny218.out]; exact HP136.1); clear HP136; replace HO_7 := am (Kd.R_over' (v := (.slice (some ⟨go24, 0, none⟩) x9_8.length co24)) (kR HO_7) (Kd.R_typed HO_9.out) (by decide) hg); replace HO_15 := am (Kd.R_over' (v := (.slice (some ⟨go24, 0, none⟩) x9_8.length co24)) (kR HO_15) (Kd.R_typed HO_9.out) (by decide) hg); replace BK178 := bg BK178 hg (Kd.R_ne HO_9.out BK178.out (by decide)); replace BK179 := bg BK179 hg (Kd.R_ne HO_9.out BK179.out (by decide)); replace BK193 := bg BK193 hg (Kd.R_ne HO_9.out BK193.out (by decide)); replace BK194 := bg BK194 hg (Kd.R_ne HO_9.out BK194.out (by decide)); replace HO_9 := am (hp_); replace HB := am ((by rw [hw]; exact below_set (HB.out) GB24.out : Below w.heap.size w w137)); clear hg hw hp_))
   (try simp only [← hl7_8, ← hl9_8])
   go_roundg kj115
   case measure => have := HK1.out; have := HK2.out; have := HJ44.out; have := HJ68.out; have := HJ80.out; have := HJ84.out; have := HJ94.out; have := HK8.out; have := HJ115.out; omega
   case rel => exact ⟨(y216), (y218), (wrap64 (x16_8 + 1)), (x180000_8), (x180001_8), (x180002_8), (x195002_8), dr, H', ⟨by have := HK1.out; have := HK2.out; have := HJ44.out; have := HJ68.out; have := HJ80.out; have := HJ84.out; have := HJ94.out; have := HK8.out; have := HJ115.out; omega⟩, ⟨by (try simp only [hl7_2]); (try simp only [hl9_2]); (try simp only [hl9_44]); (try simp only [hl7_8]); (try simp only [hl9_8]); exact kR HO_7⟩, ⟨by (try simp only [hl7_2]); (try simp only [hl9_2]); (try simp only [hl9_44]); (try simp only [hl7_8]); (try simp only [hl9_8]); exact kR HO_9⟩, ⟨by (try simp only [hl7_2]); (try simp only [hl9_2]); (try simp only [hl9_44]); (try simp only [hl7_8]); (try simp only [hl9_8]); (with_reducible repeat (first | apply Kd.R_alloc | apply Kd.R_drewN | apply Kd.R_drew)); exact Kd.R_mono HO_15.out (fun _ hk => hk.2)⟩, ⟨by (try simp only [hl7_2]); (try simp only [hl9_2]); (try simp only [hl9_44]); (try simp only [hl7_8]); (try simp only [hl9_8]); exact bp BK178⟩, ⟨by (try simp only [hl7_2]); (try simp only [hl9_2]); (try simp only [hl9_44]); (try simp only [hl7_8]); (try simp only [hl9_8]); exact bp BK179⟩, ⟨by (try simp only [hl7_2]); (try simp only [hl9_2]); (try simp only [hl9_44]); (try simp only [hl7_8]); (try simp only [hl9_8]); exact bp BK193⟩, ⟨by (try simp only [hl7_2]); (try simp only [hl9_2]); (try simp only [hl9_44]); (try simp only [hl7_8]); (try simp only [hl9_8]); exact bp BK194⟩, ⟨bw HB⟩⟩
  have H' := am H
  clear H
  have p213 : 0 ≤ (x16_8 : Int) := of_decide_eq_true as1
  have q213 : x16_8 < (x15_94.length : Int) := of_decide_eq_true as1
  obtain ⟨ad213, e213, hx213_0⟩ := Kd.at_int (Kd.R_reads' HO_15.out).2.2 x16_8 p213 q213
  obtain rfl : ad208 = ad213 := (by injection e213)
  replace p213 := eq_true p213
  replace q213 := eq_true q213
  obtain ⟨p214, q214, hx214_0⟩ := aR HO_7 (rd x15_94 x16_8)
  go_wp2
  (try simp only [← hl7_8, ← hl9_8])
  go_roundg kj115
  case measure => have := HK1.out; have := HK2.out; have := HJ44.out; have := HJ68.out; have := HJ80.out; have := HJ84.out; have := HJ94.out; have := HK8.out; have := HJ115.out; omega
  case rel => exact ⟨(x7_8), (x9_8), (wrap64 (x16_8 + 1)), (x180000_8), (x180001_8), (x180002_8), (x195002_8), dr, H', ⟨by have := HK1.out; have := HK2.out; have := HJ44.out; have := HJ68.out; have := HJ80.out; have := HJ84.out; have := HJ94.out; have := HK8.out; have := HJ115.out; omega⟩, ⟨by (try simp only [hl7_2]); (try simp only [hl9_2]); (try simp only [hl9_44]); (try simp only [hl7_8]); (try simp only [hl9_8]); exact kR HO_7⟩, ⟨by (try simp only [hl7_2]); (try simp only [hl9_2]); (try simp only [hl9_44]); (try simp only [hl7_8]); (try simp only [hl9_8]); exact kR HO_9⟩, ⟨by (try simp only [hl7_2]); (try simp only [hl9_2]); (try simp only [hl9_44]); (try simp only [hl7_8]); (try simp only [hl9_8]); exact kR HO_15⟩, ⟨by (try simp only [hl7_2]); (try simp only [hl9_2]); (try simp only [hl9_44]); (try simp only [hl7_8]); (try simp only [hl9_8]); exact bp BK178⟩, ⟨by (try simp only [hl7_2]); (try simp only [hl9_2]); (try simp only [hl9_44]); (try simp only [hl7_8]); (try simp only [hl9_8]); exact bp BK179⟩, ⟨by (try simp only [hl7_2]); (try simp only [hl9_2]); (try simp only [hl9_44]); (try simp only [hl7_8]); (try simp only [hl9_8]); exact bp BK193⟩, ⟨by (try simp only [hl7_2]); (try simp only [hl9_2]); (try simp only [hl9_44]); (try simp only [hl7_8]); (try simp only [hl9_8]); exact bp BK194⟩, ⟨bw HB⟩⟩
 rw [if_neg c103] at H
 have c103b0 := decide_eq_false c103
 (try (have c103b0hl9_44 := c103b0; rw [hl9_44] at c103b0hl9_44))
 clear c103
 have H' := am H
 clear H
 obtain ⟨Ao138, co138, eo138⟩ := Kd.R_slice HO_15.out
 subst eo138
 go_wp2
 (try simp only [← hl7_2, ← hl9_2, ← hl9_44, ← hl7_8, ← hl9_8])
 go_roundg k8
 case measure => have := HK1.out; have := HK2.out; have := HJ44.out; have := HJ68.out; have := HJ80.out; have := HJ84.out; have := HJ94.out; have := HK8.out; omega
 case rel => exact ⟨(x7_8), (x9_8), (x180000_8), (x180001_8), (x180002_8), H', ⟨by have := HK1.out; have := HK2.out; have := HJ44.out; have := HJ68.out; have := HJ80.out; have := HJ84.out; have := HJ94.out; have := HK8.out; omega⟩, ⟨by (try simp only [hl7_2]); (try simp only [hl9_2]); (try simp only [hl9_44]); (try simp only [hl7_8]); (try simp only [hl9_8]); (with_reducible repeat (first | apply Kd.R_alloc | apply Kd.R_drewN | apply Kd.R_drew)); exact Kd.R_mono HO_7.out (fun _ hk => trivial)⟩, ⟨by (try simp only [hl7_2]); (try simp only [hl9_2]); (try simp only [hl9_44]); (try simp only [hl7_8]); (try simp only [hl9_8]); exact kR HO_9⟩, ⟨by (try simp only [hl7_2]); (try simp only [hl9_2]); (try simp only [hl9_44]); (try simp only [hl7_8]); (try simp only [hl9_8]); exact bp BK178⟩, ⟨by (try simp only [hl7_2]); (try simp only [hl9_2]); (try simp only [hl9_44]); (try simp only [hl7_8]); (try simp only [hl9_8]); exact bp BK179⟩, ⟨bw HB⟩⟩

end Go.Proofs.Ytopaefhfjioecaa.QFnRanges
