import Derived.Test.YtbmjmaahcaoajaaCFnExactSeenRightx0
import Derived.Test.YtbmjmaahcaoajaaCFnExactSeenRightx3
import Derived.Test.YtbmjmaahcaoajaaCFnExactSeenRightx4
namespace Go.Proofs.Ytbmjmaahcaoajaa.QFnExactSeenRight
open Go.RowKit Go.Proofs.YtbmjmaahcaoajaaW
open PrintWords PrintLast PrintMore PrintShort
attribute [local go_sem] max2_int min2_int max_two min_two max_three min_three max_four min_four   -- for this text's walks alone
set_option linter.unusedVariables false
set_option maxHeartbeats 8000000
set_option maxRecDepth 100000
set_option linter.unusedSimpArgs false

mutual
def spec_l04Heights.l0 : Nat → Int → List (S102) → List Int → Int → List (S100) → Option (List Int × Int × Int × Int)
 | 0, _, _, _, _, _ => none
 | k + 1, x1, x6, x7, x8, x163000 => if x8 < (x7.length : Int) then (if 0 ≤ x8 then (spec_l04Heights.l0 k x1 x6 (x7.set (x8 : Int).toNat (-1)) (wrap64 (x8 + 1)) x163000) else (none)) else (if 0 < (x7.length : Int) then (if 0 ≤ (x6.length : Int) then (if ((x6.length : Int) : Int).toNat ≤ 281474976710656 then ((some (List.replicate ((x6.length : Int) : Int).toNat false : List Bool)).bind fun y170 => (if 0 < (y170.length : Int) then (spec_l04Heights.l1 k x1 x6 (x7.set (0 : Int).toNat 0) (y170.set (0 : Int).toNat true) x163000) else (none))) else (none)) else (none)) else (none))
def spec_l04Heights.l1 : Nat → Int → List (S102) → List Int → List Bool → List (S100) → Option (List Int × Int × Int × Int)
 | 0, _, _, _, _, _ => none
 | k + 1, x1, x6, x7, x9, x163000 => (spec_l04Least.f k x9).bind fun t174 => (if t174 < 0 then (some (x7, 0, 0, 0)) else (if 0 ≤ t174 then (if t174 < (x9.length : Int) then ((some (x9.set (t174 : Int).toNat false : List Bool)).bind fun y175 => (if t174 < (x6.length : Int) then ((spec_Takes.f k x163000 ((rd_T102 x6 t174).f0) ((rd_T102 x6 t174).f1)).bind fun t179 => (if t174 < (x7.length : Int) then ((spec_Puts.f k ((rd_T102 x6 t174).f0) ((rd_T102 x6 t174).f1)).bind fun t181 => (if t179 > (rd x7 t174) then (spec_l04Heights.j2 k x1 x6 x7 y175 t174 (wrap64 ((wrap64 ((rd x7 t174) - t179)) + t181)) true x163000 ((rd_T102 x6 t174).f0) ((rd_T102 x6 t174).f1) x1 t174 5) else (spec_l04Heights.j2 k x1 x6 x7 y175 t174 (wrap64 ((wrap64 ((rd x7 t174) - t179)) + t181)) (decide ((wrap64 ((wrap64 ((rd x7 t174) - t179)) + t181)) > 8)) x163000 ((rd_T102 x6 t174).f0) ((rd_T102 x6 t174).f1) x1 t174 5))) else (none))) else (none))) else (none)) else (none)))
def spec_l04Heights.j2 : Nat → Int → List (S102) → List Int → List Bool → Int → Int → Bool → List (S100) → Int → Int → Int → Int → Int → Option (List Int × Int × Int × Int)
 | 0, _, _, _, _, _, _, _, _, _, _, _, _, _ => none
 | k + 1, x1, x6, x7, x9, x10, x14, x79, x163000, x178000, x178001, x179000, x179001, x179002 => if x79 = true then (some (x7, x179000, x179001, x179002)) else ((some (([] : List Int) : List Int)).bind fun y183 => (if x178000 = 30 then (spec_l04Heights.j3 k x1 x6 x7 x9 x10 x14 y183 false x163000 x178000 x178001 x179000 x179001 x179002) else (spec_l04Heights.j3 k x1 x6 x7 x9 x10 x14 y183 (x178000 != 33) x163000 x178000 x178001 x179000 x179001 x179002)))
def spec_l04Heights.j3 : Nat → Int → List (S102) → List Int → List Bool → Int → Int → List Int → Bool → List (S100) → Int → Int → Int → Int → Int → Option (List Int × Int × Int × Int)
 | 0, _, _, _, _, _, _, _, _, _, _, _, _, _, _ => none
 | k + 1, x1, x6, x7, x9, x10, x14, x15, x90, x163000, x178000, x178001, x179000, x179001, x179002 => if x90 = true then (if x15.length < 17592186044416 then (spec_l04Heights.j4 k x1 x6 x7 x9 x14 (x15 ++ [wrap64 (x10 + 1)]) x163000 x178000 x178001 x179000 x179001 x179002) else (none)) else (spec_l04Heights.j4 k x1 x6 x7 x9 x14 x15 x163000 x178000 x178001 x179000 x179001 x179002)
def spec_l04Heights.j4 : Nat → Int → List (S102) → List Int → List Bool → Int → List Int → List (S100) → Int → Int → Int → Int → Int → Option (List Int × Int × Int × Int)
 | 0, _, _, _, _, _, _, _, _, _, _, _, _ => none
 | k + 1, x1, x6, x7, x9, x14, x15, x163000, x178000, x178001, x179000, x179001, x179002 => if x178000 = 30 then (spec_l04Heights.j5 k x1 x6 x7 x9 x14 x15 true x163000 x178000 x178001 x179000 x179001 x179002) else (spec_l04Heights.j5 k x1 x6 x7 x9 x14 x15 (x178000 == 31) x163000 x178000 x178001 x179000 x179001 x179002)
def spec_l04Heights.j5 : Nat → Int → List (S102) → List Int → List Bool → Int → List Int → Bool → List (S100) → Int → Int → Int → Int → Int → Option (List Int × Int × Int × Int)
 | 0, _, _, _, _, _, _, _, _, _, _, _, _, _ => none
 | k + 1, x1, x6, x7, x9, x14, x15, x103, x163000, x178000, x178001, x179000, x179001, x179002 => if x103 = true then (if x15.length < 17592186044416 then (spec_l04Heights.j6 k x1 x6 x7 x9 x14 (x15 ++ [x178001]) x163000 x179000 x179001 x179002) else (none)) else (spec_l04Heights.j6 k x1 x6 x7 x9 x14 x15 x163000 x179000 x179001 x179002)
def spec_l04Heights.j6 : Nat → Int → List (S102) → List Int → List Bool → Int → List Int → List (S100) → Int → Int → Int → Option (List Int × Int × Int × Int)
 | 0, _, _, _, _, _, _, _, _, _, _ => none
 | k + 1, x1, x6, x7, x9, x14, x15, x163000, x179000, x179001, x179002 => spec_l04Heights.l2 k x1 x6 x7 x9 x14 x15 0 x163000 x179000 x179001 x179002
def spec_l04Heights.l2 : Nat → Int → List (S102) → List Int → List Bool → Int → List Int → Int → List (S100) → Int → Int → Int → Option (List Int × Int × Int × Int)
 | 0, _, _, _, _, _, _, _, _, _, _, _ => none
 | k + 1, x1, x6, x7, x9, x14, x15, x16, x163000, x179000, x179001, x179002 => if x16 < (x15.length : Int) then (if 0 ≤ x16 then (if (rd x15 x16) ≥ (x6.length : Int) then (some (x7, x179000, x179001, 6)) else (if 0 ≤ (rd x15 x16) then (if (rd x15 x16) < (x7.length : Int) then (if (rd x7 (rd x15 x16)) ≥ 0 then (spec_l04Heights.j8 k x1 x6 x7 x9 x14 x15 x16 ((rd x7 (rd x15 x16)) != x14) x163000 x179000 x179001 x179002) else (spec_l04Heights.j8 k x1 x6 x7 x9 x14 x15 x16 false x163000 x179000 x179001 x179002)) else (none)) else (none))) else (none)) else (spec_l04Heights.l1 k x1 x6 x7 x9 x163000)
def spec_l04Heights.j8 : Nat → Int → List (S102) → List Int → List Bool → Int → List Int → Int → Bool → List (S100) → Int → Int → Int → Option (List Int × Int × Int × Int)
 | 0, _, _, _, _, _, _, _, _, _, _, _, _ => none
 | k + 1, x1, x6, x7, x9, x14, x15, x16, x143, x163000, x179000, x179001, x179002 => if x143 = true then (some (x7, x179000, x179001, x179002)) else (if 0 ≤ x16 then (if x16 < (x15.length : Int) then (if 0 ≤ (rd x15 x16) then (if (rd x15 x16) < (x7.length : Int) then (if (rd x7 (rd x15 x16)) < 0 then (if (rd x15 x16) < (x9.length : Int) then (spec_l04Heights.l2 k x1 x6 (x7.set ((rd x15 x16) : Int).toNat x14) (x9.set ((rd x15 x16) : Int).toNat true) x14 x15 (wrap64 (x16 + 1)) x163000 x179000 x179001 x179002) else (none)) else (spec_l04Heights.l2 k x1 x6 x7 x9 x14 x15 (wrap64 (x16 + 1)) x163000 x179000 x179001 x179002)) else (none)) else (none)) else (none)) else (none))
end
def spec_l04Heights.f (k : Nat) (l0_0 : List (S100)) (a1 : Int) : Option (List Int × Int × Int × Int) := if 0 ≤ a1 then (if a1 < (l0_0.length : Int) then (if 0 ≤ (((rd_T100 l0_0 a1).f2).length : Int) then (if ((((rd_T100 l0_0 a1).f2).length : Int) : Int).toNat ≤ 35184372088832 then (spec_l04Heights.l0 k a1 ((rd_T100 l0_0 a1).f2) (List.replicate ((((rd_T100 l0_0 a1).f2).length : Int) : Int).toNat 0) 0 l0_0) else (none)) else (none)) else (none)) else (none)
theorem spec_l04Heights.mono_l : ∀ k, (∀ y0 y1 y2 y3 y4, LeO (spec_l04Heights.l0 k y0 y1 y2 y3 y4) (spec_l04Heights.l0 (k + 1) y0 y1 y2 y3 y4)) ∧ (∀ y0 y1 y2 y3 y4, LeO (spec_l04Heights.l1 k y0 y1 y2 y3 y4) (spec_l04Heights.l1 (k + 1) y0 y1 y2 y3 y4)) ∧ (∀ y0 y1 y2 y3 y4 y5 y6 y7 y8 y9 y10 y11 y12, LeO (spec_l04Heights.j2 k y0 y1 y2 y3 y4 y5 y6 y7 y8 y9 y10 y11 y12) (spec_l04Heights.j2 (k + 1) y0 y1 y2 y3 y4 y5 y6 y7 y8 y9 y10 y11 y12)) ∧ (∀ y0 y1 y2 y3 y4 y5 y6 y7 y8 y9 y10 y11 y12 y13, LeO (spec_l04Heights.j3 k y0 y1 y2 y3 y4 y5 y6 y7 y8 y9 y10 y11 y12 y13) (spec_l04Heights.j3 (k + 1) y0 y1 y2 y3 y4 y5 y6 y7 y8 y9 y10 y11 y12 y13)) ∧ (∀ y0 y1 y2 y3 y4 y5 y6 y7 y8 y9 y10 y11, LeO (spec_l04Heights.j4 k y0 y1 y2 y3 y4 y5 y6 y7 y8 y9 y10 y11) (spec_l04Heights.j4 (k + 1) y0 y1 y2 y3 y4 y5 y6 y7 y8 y9 y10 y11)) ∧ (∀ y0 y1 y2 y3 y4 y5 y6 y7 y8 y9 y10 y11 y12, LeO (spec_l04Heights.j5 k y0 y1 y2 y3 y4 y5 y6 y7 y8 y9 y10 y11 y12) (spec_l04Heights.j5 (k + 1) y0 y1 y2 y3 y4 y5 y6 y7 y8 y9 y10 y11 y12)) ∧ (∀ y0 y1 y2 y3 y4 y5 y6 y7 y8 y9, LeO (spec_l04Heights.j6 k y0 y1 y2 y3 y4 y5 y6 y7 y8 y9) (spec_l04Heights.j6 (k + 1) y0 y1 y2 y3 y4 y5 y6 y7 y8 y9)) ∧ (∀ y0 y1 y2 y3 y4 y5 y6 y7 y8 y9 y10, LeO (spec_l04Heights.l2 k y0 y1 y2 y3 y4 y5 y6 y7 y8 y9 y10) (spec_l04Heights.l2 (k + 1) y0 y1 y2 y3 y4 y5 y6 y7 y8 y9 y10)) ∧ (∀ y0 y1 y2 y3 y4 y5 y6 y7 y8 y9 y10 y11, LeO (spec_l04Heights.j8 k y0 y1 y2 y3 y4 y5 y6 y7 y8 y9 y10 y11) (spec_l04Heights.j8 (k + 1) y0 y1 y2 y3 y4 y5 y6 y7 y8 y9 y10 y11))
 | 0 => ⟨fun _ _ _ _ _ r h => by simp [spec_l04Heights.l0] at h, fun _ _ _ _ _ r h => by simp [spec_l04Heights.l1] at h, fun _ _ _ _ _ _ _ _ _ _ _ _ _ r h => by simp [spec_l04Heights.j2] at h, fun _ _ _ _ _ _ _ _ _ _ _ _ _ _ r h => by simp [spec_l04Heights.j3] at h, fun _ _ _ _ _ _ _ _ _ _ _ _ r h => by simp [spec_l04Heights.j4] at h, fun _ _ _ _ _ _ _ _ _ _ _ _ _ r h => by simp [spec_l04Heights.j5] at h, fun _ _ _ _ _ _ _ _ _ _ r h => by simp [spec_l04Heights.j6] at h, fun _ _ _ _ _ _ _ _ _ _ _ r h => by simp [spec_l04Heights.l2] at h, fun _ _ _ _ _ _ _ _ _ _ _ _ r h => by simp [spec_l04Heights.j8] at h⟩
 | k + 1 => by
  obtain ⟨ih0, ih1, ih2, ih3, ih4, ih5, ih6, ih7, ih8⟩ := spec_l04Heights.mono_l k
  refine ⟨?_, ?_, ?_, ?_, ?_, ?_, ?_, ?_, ?_⟩
  ·intro y0 y1 y2 y3 y4
   unfold spec_l04Heights.l0
   with_reducible repeat' first | exact ih0 .. | exact ih1 .. | exact ih2 .. | exact ih3 .. | exact ih4 .. | exact ih5 .. | exact ih6 .. | exact ih7 .. | exact ih8 .. | exact spec_Puts.mono .. | exact spec_Takes.mono .. | exact spec_l04Least.mono .. | exact LeO.refl _ | exact LeO.none _ | refine LeO.ite ?_ ?_ | refine LeO.bind ?_ (fun _ => ?_)
  ·intro y0 y1 y2 y3 y4
   unfold spec_l04Heights.l1
   with_reducible repeat' first | exact ih0 .. | exact ih1 .. | exact ih2 .. | exact ih3 .. | exact ih4 .. | exact ih5 .. | exact ih6 .. | exact ih7 .. | exact ih8 .. | exact spec_Puts.mono .. | exact spec_Takes.mono .. | exact spec_l04Least.mono .. | exact LeO.refl _ | exact LeO.none _ | refine LeO.ite ?_ ?_ | refine LeO.bind ?_ (fun _ => ?_)
  ·intro y0 y1 y2 y3 y4 y5 y6 y7 y8 y9 y10 y11 y12
   unfold spec_l04Heights.j2
   with_reducible repeat' first | exact ih0 .. | exact ih1 .. | exact ih2 .. | exact ih3 .. | exact ih4 .. | exact ih5 .. | exact ih6 .. | exact ih7 .. | exact ih8 .. | exact spec_Puts.mono .. | exact spec_Takes.mono .. | exact spec_l04Least.mono .. | exact LeO.refl _ | exact LeO.none _ | refine LeO.ite ?_ ?_ | refine LeO.bind ?_ (fun _ => ?_)
  ·intro y0 y1 y2 y3 y4 y5 y6 y7 y8 y9 y10 y11 y12 y13
   unfold spec_l04Heights.j3
   with_reducible repeat' first | exact ih0 .. | exact ih1 .. | exact ih2 .. | exact ih3 .. | exact ih4 .. | exact ih5 .. | exact ih6 .. | exact ih7 .. | exact ih8 .. | exact spec_Puts.mono .. | exact spec_Takes.mono .. | exact spec_l04Least.mono .. | exact LeO.refl _ | exact LeO.none _ | refine LeO.ite ?_ ?_ | refine LeO.bind ?_ (fun _ => ?_)
  ·intro y0 y1 y2 y3 y4 y5 y6 y7 y8 y9 y10 y11
   unfold spec_l04Heights.j4
   with_reducible repeat' first | exact ih0 .. | exact ih1 .. | exact ih2 .. | exact ih3 .. | exact ih4 .. | exact ih5 .. | exact ih6 .. | exact ih7 .. | exact ih8 .. | exact spec_Puts.mono .. | exact spec_Takes.mono .. | exact spec_l04Least.mono .. | exact LeO.refl _ | exact LeO.none _ | refine LeO.ite ?_ ?_ | refine LeO.bind ?_ (fun _ => ?_)
  ·intro y0 y1 y2 y3 y4 y5 y6 y7 y8 y9 y10 y11 y12
   unfold spec_l04Heights.j5
   with_reducible repeat' first | exact ih0 .. | exact ih1 .. | exact ih2 .. | exact ih3 .. | exact ih4 .. | exact ih5 .. | exact ih6 .. | exact ih7 .. | exact ih8 .. | exact spec_Puts.mono .. | exact spec_Takes.mono .. | exact spec_l04Least.mono .. | exact LeO.refl _ | exact LeO.none _ | refine LeO.ite ?_ ?_ | refine LeO.bind ?_ (fun _ => ?_)
  ·intro y0 y1 y2 y3 y4 y5 y6 y7 y8 y9
   unfold spec_l04Heights.j6
   with_reducible repeat' first | exact ih0 .. | exact ih1 .. | exact ih2 .. | exact ih3 .. | exact ih4 .. | exact ih5 .. | exact ih6 .. | exact ih7 .. | exact ih8 .. | exact spec_Puts.mono .. | exact spec_Takes.mono .. | exact spec_l04Least.mono .. | exact LeO.refl _ | exact LeO.none _ | refine LeO.ite ?_ ?_ | refine LeO.bind ?_ (fun _ => ?_)
  ·intro y0 y1 y2 y3 y4 y5 y6 y7 y8 y9 y10
   unfold spec_l04Heights.l2
   with_reducible repeat' first | exact ih0 .. | exact ih1 .. | exact ih2 .. | exact ih3 .. | exact ih4 .. | exact ih5 .. | exact ih6 .. | exact ih7 .. | exact ih8 .. | exact spec_Puts.mono .. | exact spec_Takes.mono .. | exact spec_l04Least.mono .. | exact LeO.refl _ | exact LeO.none _ | refine LeO.ite ?_ ?_ | refine LeO.bind ?_ (fun _ => ?_)
  ·intro y0 y1 y2 y3 y4 y5 y6 y7 y8 y9 y10 y11
   unfold spec_l04Heights.j8
   with_reducible repeat' first | exact ih0 .. | exact ih1 .. | exact ih2 .. | exact ih3 .. | exact ih4 .. | exact ih5 .. | exact ih6 .. | exact ih7 .. | exact ih8 .. | exact spec_Puts.mono .. | exact spec_Takes.mono .. | exact spec_l04Least.mono .. | exact LeO.refl _ | exact LeO.none _ | refine LeO.ite ?_ ?_ | refine LeO.bind ?_ (fun _ => ?_)
theorem spec_l04Heights.mono : ∀ a0 a1 k, LeO (spec_l04Heights.f k a0 a1) (spec_l04Heights.f (k + 1) a0 a1) := by
 intro a0 a1 k
 obtain ⟨ih0, ih1, ih2, ih3, ih4, ih5, ih6, ih7, ih8⟩ := spec_l04Heights.mono_l k
 unfold spec_l04Heights.f
 with_reducible repeat' first | exact ih0 .. | exact ih1 .. | exact ih2 .. | exact ih3 .. | exact ih4 .. | exact ih5 .. | exact ih6 .. | exact ih7 .. | exact ih8 .. | exact spec_Puts.mono .. | exact spec_Takes.mono .. | exact spec_l04Least.mono .. | exact LeO.refl _ | exact LeO.none _ | refine LeO.ite ?_ ?_ | refine LeO.bind ?_ (fun _ => ?_)
def spec_l04Heights.T17 : Bool × List (List Nat × List Nat) := (true, [([], []), ([], []), ([0, 1], [0, 1]), ([2], [2]), ([], []), ([3, 4], [3, 4]), ([], []), ([6], [6]), ([5, 7], [5, 7]), ([8, 7, 0, 1, 2, 3, 4, 5, 6, 7, 8], [8])])
def spec_l04Heights.B17 : List Nat := [0, 0, 3, 7, 0, 31, 0, 64, 255, 511]
theorem spec_l04Heights.tab17 : rtab .any (opsOf Try.f58 17) = spec_l04Heights.T17 := by kernel_rfl
theorem spec_l04Heights.bits17 : waitsOk spec_l04Heights.T17.2 spec_l04Heights.B17 = true := by kernel_rfl
theorem spec_l04Heights.calls (k : Nat) (A0_0 : Option Addr) (c0_0 : Nat) (l0_0 : List (S100)) (a1 : Int) (r1 : List Int) (r2 : Int) (r3 : Int) (r4 : Int) (w : World) (hr0_0 : Kd.C k100 w A0_0 l0_0.length l0_0) (hc0_0 : l0_0.length ≤ c0_0) (h : spec_l04Heights.f k l0_0 a1 = some (r1, r2, r3, r4)) :
  Calls Try.prog 58 #[.agg #[.slice A0_0 l0_0.length c0_0], .int .i64 a1] w fun e w' => ∃ v0_ : Value, e = .returned (.tuple #[v0_, .agg #[.int .i64 r2, .int .i64 r3, .int .i64 r4]]) ∧ Kd.R (Kd.int .i64) 2 w' w.heap.size (fun _ => True) v0_ r1 ∧ Below w.heap.size w w' := by
 have hu30 := Try.underlying30
 have hu84 := Try.underlying84
 have hu102 := Try.underlying102
 have HR0_0 := am hr0_0
 have HC0_0 := am hc0_0
 clear hr0_0 hc0_0
 have HB := am (Below.refl w.heap.size w)
 have H : (if 0 ≤ a1 then (if a1 < (l0_0.length : Int) then (if 0 ≤ (((rd_T100 l0_0 a1).f2).length : Int) then (if ((((rd_T100 l0_0 a1).f2).length : Int) : Int).toNat ≤ 35184372088832 then (spec_l04Heights.l0 k a1 ((rd_T100 l0_0 a1).f2) (List.replicate ((((rd_T100 l0_0 a1).f2).length : Int) : Int).toNat 0) 0 l0_0) else (none)) else (none)) else (none)) else (none)) = some (r1, r2, r3, r4) := h
 clear h
 refine iN H ?_; clear H; intro c3 H
 have c3b0 := decide_eq_true c3
 clear c3
 refine iN H ?_; clear H; intro c4 H
 have c4b0 := decide_eq_true c4
 clear c4
 refine iN H ?_; clear H; intro c5 H
 have c5b0 := eq_true c5
 have c5b1 := decide_eq_true c5
 clear c5
 refine iN H ?_; clear H; intro c6 H
 have c6b0 := eq_true c6
 have c6b1 := decide_eq_true c6
 clear c6
 obtain ⟨y165, hy165⟩ : ∃ y_ : List Int, y_ = (List.replicate ((((rd_T100 l0_0 a1).f2).length : Int) : Int).toNat 0) := ⟨_, rfl⟩
 replace H : (spec_l04Heights.l0 k a1 ((rd_T100 l0_0 a1).f2) y165 0 l0_0) = some (r1, r2, r3, r4) := by first | (rw [hy165]; with_reducible exact H) | (have H2_ := (Option.bind_some _ _).symm.trans H; rw [hy165]; with_reducible exact H2_) | (have H2_ := (Option.bind_some _ _).symm.trans H; with_reducible exact H2_) | with_reducible exact H | (rw [hy165]; exact H) | exact H
 have Ny165 := am hy165
 clear hy165
 have H' := am H
 clear H
 go_enter Try.func58, Try.ntmps58
 go_wp2_with (first | ((with_reducible refine gd 2 rfl ?_); refine bX 2 #[.slice A0_0 l0_0.length c0_0] 30 HB ?_; clear HB; intro gb162 w7 hg hb BK162 GW162 HB; clear hb hg) | ((with_reducible refine gd 5 rfl ?_); refine bX 5 #[.int .i64 0, .int .i64 0, .int .i64 0] 84 HB ?_; clear HB; intro gb163 w8 hg hb BK163 GW163 HB; obtain ⟨NB162_163, NB163_162, BK162⟩ := b3 hg BK162 hb; clear hb hg; have hnb9 := NB162_163.out; have hnc9 := NB163_162.out; have hcz10 := bK w8 BK162; have hfz10 := bF BK162; have p164 : 0 ≤ (a1 : Int) := of_decide_eq_true as1; have q164 : a1 < (l0_0.length : Int) := of_decide_eq_true as1; obtain ⟨ad164, A164_2, c164_2, e164, hx164_0, hx164_1, hx164_2, hl164_2, hi164_2⟩ := at_T100 HR0_0.out a1 p164 q164; cases e164; replace hx164_0 := cl HB hx164_0; replace hx164_1 := cl HB hx164_1; replace hx164_2 := cl HB hx164_2; have HR164_2 := am hi164_2; have HC164_2 := am hl164_2; clear hi164_2 hl164_2; replace p164 := eq_true p164; replace q164 := eq_true q164) | ((with_reducible refine gate_dst (N := 25) rfl ?_); refine Kd.R_make (Kd.int .i64) _ 2 rfl (N := 25) rfl 26 _ _ rfl (((rd_T100 l0_0 a1).f2).length : Int) rfl rfl Try.underlying26 (.int .i64 0) 8 info2 rfl (by decide) (by omega) 0 (ok := fun _ => True) (okp := fun _ => True) rfl (fun _ hk => hk) trivial (of_decide_eq_true as1) (Nat.le_trans (Nat.mul_le_mul_right _ (of_decide_eq_true as1 : (((rd_T100 l0_0 a1).f2).length : Int).toNat ≤ 35184372088832)) (by omega)) (Below.refl _ _) (Nat.le_refl _) ?_; intro v166 w11 ho12 hb hg_ hnew_; clear hg_ hnew_; (first | rw [← Ny165.out] at ho12 | (simp only [Int.reduceToNat] at ho12; rw [← Ny165.out] at ho12)); have HO167 := am (Kd.R_lower ho12 (below_size (bw HB))); replace BK162 := bb BK162 hb; replace BK163 := bb BK163 hb; replace HB := bs HB hb; clear hb ho12))
 go_loopg [8] k (fun kq v8 w' => ∃ (x7_1 : List Int) (x8_1 : Int), v8 = .int .i64 x8_1 ∧ Aside0 (spec_l04Heights.l0 kq a1 ((rd_T100 l0_0 a1).f2) x7_1 x8_1 l0_0 = some (r1, r2, r3, r4)) ∧ Aside0 (kq ≤ k) ∧ Aside0 (Kd.R (Kd.int .i64) 2 w' w.heap.size (fun _ => True) v166 x7_1) ∧ Aside0 (w'.heap[gb162]? = some (.cells #[(.slice (some ad164) l0_0.length c0_0)] 30 (0, 0))) ∧ Aside0 (w'.heap[gb163]? = some (.cells #[.int .i64 0, .int .i64 0, .int .i64 0] 84 (0, 0))) ∧ Aside0 (Below w.heap.size w w'))
 case atStart => exact ⟨(y165), (0), dr, H', ⟨Nat.le_refl _⟩, ⟨kR HO167⟩, ⟨bp BK162⟩, ⟨bp BK163⟩, ⟨bw HB⟩⟩
 clear H'
 (try clear c1); (try clear p1); (try clear q1); (try clear hx1); (try clear p2); (try clear c3); (try clear c3b0); (try clear c4); (try clear c4b0); (try clear c5); (try clear c5b0); (try clear c5b1); (try clear c6); (try clear c6b0); (try clear c6b1); (try clear c9); (try clear hcz10); (try clear hfz10); (try clear hx164_0); (try clear hx164_1); (try clear hx164_2); (try clear p164); (try clear q164)
 obtain ⟨x7_1, x8_1, rfl, HA, HK1, HO_7, BK162, BK163, HB⟩ := hrel
 rcases gk with _ | k1
 ·exact absurd HA.out (by simp [spec_l04Heights.l0])
 have H := HA.out
 clear HA
 simp only [spec_l04Heights.l0] at H
 by_cases c13 : x8_1 < (x7_1.length : Int)
 ·rw [if_pos c13] at H
  have c13b0 := decide_eq_true c13
  clear c13
  refine iM H ?_; clear H; intro c14b0 H
  obtain ⟨y168, hy168⟩ : ∃ y_ : List Int, y_ = (x7_1.set (x8_1 : Int).toNat (-1)) := ⟨_, rfl⟩
  replace H : (spec_l04Heights.l0 k1 a1 ((rd_T100 l0_0 a1).f2) y168 (wrap64 (x8_1 + 1)) l0_0) = some (r1, r2, r3, r4) := by first | (rw [hy168]; with_reducible exact H) | (have H2_ := (Option.bind_some _ _).symm.trans H; rw [hy168]; with_reducible exact H2_) | (have H2_ := (Option.bind_some _ _).symm.trans H; with_reducible exact H2_) | with_reducible exact H | (rw [hy168]; exact H) | exact H
  have Ny168 := am hy168
  clear hy168
  have H' := am H
  clear H
  obtain ⟨Ao16, co16, eo16⟩ := Kd.R_slice HO_7.out
  subst eo16
  have p15 : 0 ≤ (x8_1 : Int) := of_decide_eq_true as1
  have q15 : (x8_1 : Int) < ((x7_1.length : Int) : Int) := of_decide_eq_true as1
  obtain ⟨go15, co15, eo15, gb15, gl15, cl15, HG15⟩ := Kd.R_form HO_7.out (by omega)
  (first | cases eo15 | (injection eo15 with ea_ en_ ec_; (first | subst ea_ | (injection ea_ with ea_; subst ea_)); subst ec_; clear en_))
  have GB15 := am gb15
  have GG15 := am HG15
  clear gb15 gl15 HG15
  obtain ⟨hx15_0, hf15_0⟩ := Kd.R_celln 0 HO_7.out (x8_1 : Int) p15 q15
  replace p15 := eq_true p15
  replace q15 := eq_true q15
  have HP17 := Kd.R_putg HO_7.out (x8_1 : Int) (-1)
  go_wp2_with (first | ((with_reducible refine gt 2 34 rfl ?_); refine sE 2 34 (wr.setCell ⟨go15, (x8_1 : Int).toNat, none⟩ (.int .i64 (-1))) ?_; intro w18 hw; have hg : wr.grownBy w18 (some go15) := (by rw [hw]; exact HP17.2); have hp_ : Kd.R (Kd.int .i64) 2 w18 w.heap.size (fun _ => True) (.slice (some ⟨go15, 0, none⟩) x7_1.length co16) y168 := (by rw [hw, Ny168.out]; exact HP17.1); clear HP17; replace BK162 := bg BK162 hg (Kd.R_ne HO_7.out BK162.out (by decide)); replace BK163 := bg BK163 hg (Kd.R_ne HO_7.out BK163.out (by decide)); replace HO_7 := am (hp_); replace HB := am ((by rw [hw]; exact below_set (HB.out) GB15.out : Below w.heap.size w w18)); clear hg hw hp_))
  go_roundg k1
  case measure => have := HK1.out; omega
  case rel => exact ⟨(y168), (wrap64 (x8_1 + 1)), dr, H', ⟨by have := HK1.out; omega⟩, ⟨kR HO_7⟩, ⟨bp BK162⟩, ⟨bp BK163⟩, ⟨bw HB⟩⟩
 rw [if_neg c13] at H
 have c13b0 := decide_eq_false c13
 clear c13
 refine iN H ?_; clear H; intro c19 H
 have c19b0 := decide_eq_true c19
 have c19b1 : decide (0 < x7_1.length) = true := decide_eq_true (by omega)
 clear c19
 obtain ⟨y169, hy169⟩ : ∃ y_ : List Int, y_ = (x7_1.set (0 : Int).toNat 0) := ⟨_, rfl⟩
 replace H : (if 0 ≤ (((rd_T100 l0_0 a1).f2).length : Int) then (if ((((rd_T100 l0_0 a1).f2).length : Int) : Int).toNat ≤ 281474976710656 then ((some (List.replicate ((((rd_T100 l0_0 a1).f2).length : Int) : Int).toNat false : List Bool)).bind fun y170 => (if 0 < (y170.length : Int) then (spec_l04Heights.l1 k1 a1 ((rd_T100 l0_0 a1).f2) y169 (y170.set (0 : Int).toNat true) l0_0) else (none))) else (none)) else (none)) = some (r1, r2, r3, r4) := by first | (rw [hy169]; with_reducible exact H) | (have H2_ := (Option.bind_some _ _).symm.trans H; rw [hy169]; with_reducible exact H2_) | (have H2_ := (Option.bind_some _ _).symm.trans H; with_reducible exact H2_) | with_reducible exact H | (rw [hy169]; exact H) | exact H
 have Ny169 := am hy169
 clear hy169
 refine iN H ?_; clear H; intro c21 H
 have c21b0 := eq_true c21
 have c21b1 := decide_eq_true c21
 clear c21
 refine iN H ?_; clear H; intro c22 H
 have c22b0 := eq_true c22
 have c22b1 := decide_eq_true c22
 clear c22
 obtain ⟨y170, hy170⟩ : ∃ y_ : List Bool, y_ = (List.replicate ((((rd_T100 l0_0 a1).f2).length : Int) : Int).toNat false) := ⟨_, rfl⟩
 replace H : (if 0 < (y170.length : Int) then (spec_l04Heights.l1 k1 a1 ((rd_T100 l0_0 a1).f2) y169 (y170.set (0 : Int).toNat true) l0_0) else (none)) = some (r1, r2, r3, r4) := by first | (rw [hy170]; with_reducible exact H) | (have H2_ := (Option.bind_some _ _).symm.trans H; rw [hy170]; with_reducible exact H2_) | (have H2_ := (Option.bind_some _ _).symm.trans H; with_reducible exact H2_) | with_reducible exact H | (rw [hy170]; exact H) | exact H
 have Ny170 := am hy170
 clear hy170
 refine iN H ?_; clear H; intro c23 H
 have c23b0 := decide_eq_true c23
 have c23b1 : decide (0 < y170.length) = true := decide_eq_true (by omega)
 clear c23
 obtain ⟨y173, hy173⟩ : ∃ y_ : List Bool, y_ = (y170.set (0 : Int).toNat true) := ⟨_, rfl⟩
 replace H : (spec_l04Heights.l1 k1 a1 ((rd_T100 l0_0 a1).f2) y169 y173 l0_0) = some (r1, r2, r3, r4) := by first | (rw [hy173]; with_reducible exact H) | (have H2_ := (Option.bind_some _ _).symm.trans H; rw [hy173]; with_reducible exact H2_) | (have H2_ := (Option.bind_some _ _).symm.trans H; with_reducible exact H2_) | with_reducible exact H | (rw [hy173]; exact H) | exact H
 have Ny173 := am hy173
 clear hy173
 have H' := am H
 clear H
 obtain ⟨Ao25, co25, eo25⟩ := Kd.R_slice HO_7.out
 subst eo25
 have p20 : 0 ≤ (0 : Int) := (by omega)
 have q20 : (0 : Int) < ((x7_1.length : Int) : Int) := of_decide_eq_true as1
 have qi20 : (0 < x7_1.length) = True := eq_true (by omega)
 obtain ⟨go20, co20, eo20, gb20, gl20, cl20, HG20⟩ := Kd.R_form HO_7.out (by omega)
 (first | cases eo20 | (injection eo20 with ea_ en_ ec_; (first | subst ea_ | (injection ea_ with ea_; subst ea_)); subst ec_; clear en_))
 have GB20 := am gb20
 have GG20 := am HG20
 clear gb20 gl20 HG20
 obtain ⟨hx20_0, hf20_0⟩ := Kd.R_celln 0 HO_7.out (0 : Int) p20 q20
 (try rw [show ((0 : Int)).toNat = 0 from rfl] at hx20_0)
 (try simp only [Nat.reduceMul, Nat.zero_mul, Nat.zero_add, Nat.reduceAdd] at hx20_0)
 (try rw [show ((0 : Int)).toNat = 0 from rfl] at hf20_0)
 (try simp only [Nat.reduceMul, Nat.zero_mul, Nat.zero_add, Nat.reduceAdd] at hf20_0)
 replace p20 := eq_true p20
 replace q20 := eq_true q20
 have HP26 := Kd.R_putg HO_7.out (0 : Int) 0
 go_wp2_with (first | ((with_reducible refine gt 2 36 rfl ?_); refine sE 2 36 (wr.setCell ⟨go20, (0 : Int).toNat, none⟩ (.int .i64 0)) ?_; intro w27 hw; have hg : wr.grownBy w27 (some go20) := (by rw [hw]; exact HP26.2); have hp_ : Kd.R (Kd.int .i64) 2 w27 w.heap.size (fun _ => True) (.slice (some ⟨go20, 0, none⟩) x7_1.length co25) y169 := (by rw [hw, Ny169.out]; exact HP26.1); clear HP26; replace BK162 := bg BK162 hg (Kd.R_ne HO_7.out BK162.out (by decide)); replace BK163 := bg BK163 hg (Kd.R_ne HO_7.out BK163.out (by decide)); replace HO_7 := am (hp_); replace HB := am ((by rw [hw]; exact below_set (HB.out) GB20.out : Below w.heap.size w w27)); clear hg hw hp_) | ((with_reducible refine gate_dst (N := 39) rfl ?_); refine Kd.R_make Kd.bool _ 4 rfl (N := 39) rfl 166 _ _ rfl (((rd_T100 l0_0 a1).f2).length : Int) rfl rfl Try.underlying166 (.bool false) 1 info4 rfl (by decide) (by omega) false (ok := fun _ => True) (okp := fun _ => True) rfl (fun _ hk => hk) trivial (of_decide_eq_true as1) (Nat.le_trans (Nat.mul_le_mul_right _ (of_decide_eq_true as1 : (((rd_T100 l0_0 a1).f2).length : Int).toNat ≤ 281474976710656)) (by omega)) (Below.refl _ _) (Nat.le_refl _) ?_; intro v171 w28 ho29 hb hg_ hnew_; clear hg_ hnew_; (first | rw [← Ny170.out] at ho29 | (simp only [Int.reduceToNat] at ho29; rw [← Ny170.out] at ho29)); replace HO_7 := am (Kd.R_below (kR HO_7) hb); have HO172 := am (Kd.R_lower ho29 (below_size (bw HB))); replace BK162 := bb BK162 hb; replace BK163 := bb BK163 hb; replace HB := bs HB hb; clear hb ho29; have p24 : 0 ≤ (0 : Int) := (by omega); have q24 : (0 : Int) < ((y170.length : Int) : Int) := of_decide_eq_true as1; have qi24 : (0 < y170.length) = True := eq_true (by omega); obtain ⟨go24, co24, eo24, gb24, gl24, cl24, HG24⟩ := Kd.R_form HO172.out (by omega); (first | cases eo24 | (injection eo24 with ea_ en_ ec_; (first | subst ea_ | (injection ea_ with ea_; subst ea_)); subst ec_; clear en_)); have GB24 := am gb24; have GG24 := am HG24; clear gb24 gl24 HG24; obtain ⟨hx24_0, hf24_0⟩ := Kd.R_celln false HO172.out (0 : Int) p24 q24; (try rw [show ((0 : Int)).toNat = 0 from rfl] at hx24_0); (try simp only [Nat.reduceMul, Nat.zero_mul, Nat.zero_add, Nat.reduceAdd] at hx24_0); (try rw [show ((0 : Int)).toNat = 0 from rfl] at hf24_0); (try simp only [Nat.reduceMul, Nat.zero_mul, Nat.zero_add, Nat.reduceAdd] at hf24_0); replace p24 := eq_true p24; replace q24 := eq_true q24; obtain ⟨hy30_, hz30_⟩ := Kd.R_celln false HO172.out (0 : Int) (by omega) (of_decide_eq_true as1); (try simp only [Int.reduceToNat, Int.toNat_zero, Int.toNat_ofNat, Nat.reduceMul, Nat.zero_mul, Nat.zero_add] at hy30_ hz30_); (try rw [show ((0 : Int)).toNat = 0 from rfl] at hy30_); (try rw [show ((0 : Int)).toNat = 0 from rfl] at hz30_); have HP30 := Kd.R_putg HO172.out (0 : Int) true) | ((with_reducible refine gt 4 41 rfl ?_); refine sE 4 41 (w28.setCell ⟨go24, (0 : Int).toNat, none⟩ (.bool true)) ?_; intro w31 hw; have hg : w28.grownBy w31 (some go24) := (by rw [hw]; exact HP30.2); have hp_ : Kd.R Kd.bool 4 w31 w.heap.size (fun _ => True) (.slice (some ⟨go24, 0, none⟩) y170.length co24) y173 := (by rw [hw, Ny173.out]; exact HP30.1); clear HP30; replace HO_7 := am (Kd.R_over' (v := (.slice (some ⟨go24, 0, none⟩) y170.length co24)) (kR HO_7) (Kd.R_typed HO172.out) (by decide) hg); replace BK162 := bg BK162 hg (Kd.R_ne HO172.out BK162.out (by decide)); replace BK163 := bg BK163 hg (Kd.R_ne HO172.out BK163.out (by decide)); replace HO172 := am (hp_); replace HB := am ((by rw [hw]; exact below_set (HB.out) GB24.out : Below w.heap.size w w31)); clear hg hw hp_))
 go_loopg [] k1 (fun kq w' => ∃ (x7_2 : List Int) (x9_2 : List Bool) (x164000_2 : Int) (x164001_2 : Int) (x164002_2 : Int), Aside0 (spec_l04Heights.l1 kq a1 ((rd_T100 l0_0 a1).f2) x7_2 x9_2 l0_0 = some (r1, r2, r3, r4)) ∧ Aside0 (kq ≤ k1) ∧ Aside0 (Kd.R (Kd.int .i64) 2 w' w.heap.size (fun _ => True) (.slice (some ⟨go20, 0, none⟩) x7_1.length co25) x7_2) ∧ Aside0 (Kd.R Kd.bool 4 w' w.heap.size (fun _ => True) (.slice (some ⟨go24, 0, none⟩) y170.length co24) x9_2) ∧ Aside0 (w'.heap[gb162]? = some (.cells #[(.slice (some ad164) l0_0.length c0_0)] 30 (0, 0))) ∧ Aside0 (w'.heap[gb163]? = some (.cells #[.int .i64 x164000_2, .int .i64 x164001_2, .int .i64 x164002_2] 84 (0, 0))) ∧ Aside0 (Below w.heap.size w w'))
 case atStart => exact ⟨(y169), (y173), (0), (0), (0), H', ⟨Nat.le_refl _⟩, ⟨kR HO_7⟩, ⟨kR HO172⟩, ⟨bp BK162⟩, ⟨bp BK163⟩, ⟨bw HB⟩⟩
 clear H'
 (try clear c2); (try clear q2); (try clear hx2); (try clear qi2); (try clear hf2); (try clear p6); (try clear c13); (try clear c13b0); (try clear c14); (try clear c14b0); (try clear p15); (try clear q15); (try clear hx15); (try clear hf15); (try clear c16); (try clear p16); (try clear q16); (try clear hx16); (try clear c19); (try clear c19b0); (try clear c19b1); (try clear p20); (try clear q20); (try clear hx20); (try clear qi20); (try clear hf20); (try clear c21); (try clear c21b0); (try clear c21b1); (try clear c22); (try clear c22b0); (try clear c22b1); (try clear c23); (try clear c23b0); (try clear c23b1); (try clear p24); (try clear q24); (try clear hx24); (try clear qi24); (try clear hf24); (try clear hx15_0); (try clear hx20_0); (try clear hx24_0); (try clear p15); (try clear p20); (try clear p24); (try clear q15); (try clear q20); (try clear q24)
 obtain ⟨x7_2, x9_2, x164000_2, x164001_2, x164002_2, HA, HK2, HO_7, HO_9, BK162, BK163, HB⟩ := hrel
 have hl7_2 := (Kd.R_reads' HO_7.out).1
 rw [hl7_2] at HO_7
 (try simp only [hl7_2])
 (try simp only [hl7_2] at BK162)
 (try simp only [hl7_2] at BK163)
 (try simp only [hl7_2] at HO_9)
 have hl9_2 := (Kd.R_reads' HO_9.out).1
 rw [hl9_2] at HO_9
 (try simp only [hl9_2])
 (try simp only [hl9_2] at BK162)
 (try simp only [hl9_2] at BK163)
 (try simp only [hl9_2] at HO_7)
 rcases gk with _ | k2
 ·exact absurd HA.out (by simp [spec_l04Heights.l1])
 have H := HA.out
 clear HA
 simp only [spec_l04Heights.l1] at H
 refine be H ?_; clear H; intro t174 A32 H
 by_cases c33 : t174 < 0
 ·rw [if_pos c33] at H
  have c33b0 := decide_eq_true c33
  clear c33
  simp only [Option.some.injEq, Prod.mk.injEq] at H
  obtain ⟨rfl, rfl, rfl, rfl⟩ := H
  go_wp2_with (first | ((with_reducible refine gk 117 rfl ?_); refine gD 117 (some 43) Try.func117 #[.slice (some ⟨go24, 0, none⟩) x9_2.length co24] (spec_l04Least.calls k2 _ _ x9_2 t174 _ (cc (Kd.R_reads' HO_9.out).2.2) ((Kd.R_reads' HO_9.out).2.1) A32.out) ?_; intro nd; (try (rw [drewN_self wr]; generalize hq_ : World.drewN wr _ = wr; have n0_ : Aside0 (Kd.R (Kd.int .i64) 2 wr w.heap.size (fun _ => True) (.slice (some ⟨go20, 0, none⟩) x7_2.length co25) x7_2) := ⟨by rw [← hq_]; exact (kR HO_7)⟩; have n1_ : Aside0 (Kd.R Kd.bool 4 wr w.heap.size (fun _ => True) (.slice (some ⟨go24, 0, none⟩) x9_2.length co24) x9_2) := ⟨by rw [← hq_]; exact (kR HO_9)⟩; have n2_ : Aside0 (wr.heap[gb162]? = some (.cells #[.slice (some ad164) l0_0.length c0_0] 30 (0, 0))) := ⟨by rw [← hq_]; exact (bp BK162)⟩; have n3_ : Aside0 (wr.heap[gb163]? = some (.cells #[.int .i64 x164000_2, .int .i64 x164001_2, .int .i64 x164002_2] 84 (0, 0))) := ⟨by rw [← hq_]; exact (bp BK163)⟩; have n4_ : Aside0 (Below w.heap.size w wr) := ⟨by rw [← hq_]; exact (bw HB)⟩; clear HO_7 HO_9 BK162 BK163 HB hq_; have HO_7 := n0_; have HO_9 := n1_; have BK162 := n2_; have BK163 := n3_; have HB := n4_; clear n0_ n1_ n2_ n3_ n4_)); have hnb34 := NB163_162.out; have hnc34 := NB162_163.out; have hcz35 := bK wr BK163; have hfz35 := bF BK163))
  refine bodyPost_ret (results_tc rfl _ _ gb163 84 #[.int .i64 0, .int .i64 0, .int .i64 0] (0, 0) _ rfl (bt BK163) Try.underlying84 rfl (by kernel_rfl)) rfl ?_
  exact ⟨_, er, by (with_reducible repeat (first | apply Kd.R_alloc | apply Kd.R_drewN | apply Kd.R_drew)); exact Kd.R_mono (Kd.R_far (p := ⟨gb163, 2, none⟩) (Kd.R_far (p := ⟨gb163, 1, none⟩) (Kd.R_far (p := ⟨gb163, 0, none⟩) (Kd.R_types HO_7.out BK163.out (by decide)) (fun _ hk => hk.2) (.int .i64 0)) (fun _ hk => hk.2) (.int .i64 0)) (fun _ hk => hk.2) (.int .i64 0)) (fun _ hk => trivial), bw HB⟩
 rw [if_neg c33] at H
 have c33b0 := decide_eq_false c33
 clear c33
 refine iN H ?_; clear H; intro c36 H
 have c36b0 := decide_eq_true c36
 clear c36
 refine iN H ?_; clear H; intro c37 H
 have c37b0 := decide_eq_true c37
 (try (have c37b0hl9_2 := c37b0; rw [hl9_2] at c37b0hl9_2))
 clear c37
 obtain ⟨y175, hy175⟩ : ∃ y_ : List Bool, y_ = (x9_2.set (t174 : Int).toNat false) := ⟨_, rfl⟩
 replace H : (if t174 < (((rd_T100 l0_0 a1).f2).length : Int) then ((spec_Takes.f k2 l0_0 ((rd_T102 ((rd_T100 l0_0 a1).f2) t174).f0) ((rd_T102 ((rd_T100 l0_0 a1).f2) t174).f1)).bind fun t179 => (if t174 < (x7_2.length : Int) then ((spec_Puts.f k2 ((rd_T102 ((rd_T100 l0_0 a1).f2) t174).f0) ((rd_T102 ((rd_T100 l0_0 a1).f2) t174).f1)).bind fun t181 => (if t179 > (rd x7_2 t174) then (spec_l04Heights.j2 k2 a1 ((rd_T100 l0_0 a1).f2) x7_2 y175 t174 (wrap64 ((wrap64 ((rd x7_2 t174) - t179)) + t181)) true l0_0 ((rd_T102 ((rd_T100 l0_0 a1).f2) t174).f0) ((rd_T102 ((rd_T100 l0_0 a1).f2) t174).f1) a1 t174 5) else (spec_l04Heights.j2 k2 a1 ((rd_T100 l0_0 a1).f2) x7_2 y175 t174 (wrap64 ((wrap64 ((rd x7_2 t174) - t179)) + t181)) (decide ((wrap64 ((wrap64 ((rd x7_2 t174) - t179)) + t181)) > 8)) l0_0 ((rd_T102 ((rd_T100 l0_0 a1).f2) t174).f0) ((rd_T102 ((rd_T100 l0_0 a1).f2) t174).f1) a1 t174 5))) else (none))) else (none)) = some (r1, r2, r3, r4) := by first | (rw [hy175]; with_reducible exact H) | (have H2_ := (Option.bind_some _ _).symm.trans H; rw [hy175]; with_reducible exact H2_) | (have H2_ := (Option.bind_some _ _).symm.trans H; with_reducible exact H2_) | with_reducible exact H | (rw [hy175]; exact H) | exact H
 have Ny175 := am hy175
 clear hy175
 refine iN H ?_; clear H; intro c39 H
 have c39b0 := decide_eq_true c39
 clear c39
 refine be H ?_; clear H; intro t179 A40 H
 refine iN H ?_; clear H; intro c41 H
 have c41b0 := decide_eq_true c41
 (try (have c41b0hl7_2 := c41b0; rw [hl7_2] at c41b0hl7_2))
 clear c41
 refine be H ?_; clear H; intro t181 A42 H
 have HC43 := am H
 clear H
 try go_wp2_with (first | ((with_reducible refine gk 117 rfl ?_); refine gD 117 (some 43) Try.func117 #[.slice (some ⟨go24, 0, none⟩) x9_2.length co24] (spec_l04Least.calls k2 _ _ x9_2 t174 _ (cc (Kd.R_reads' HO_9.out).2.2) ((Kd.R_reads' HO_9.out).2.1) A32.out) ?_; intro nd; (try (rw [drewN_self wr]; generalize hq_ : World.drewN wr _ = wr; have n0_ : Aside0 (Kd.R (Kd.int .i64) 2 wr w.heap.size (fun _ => True) (.slice (some ⟨go20, 0, none⟩) x7_2.length co25) x7_2) := ⟨by rw [← hq_]; exact (kR HO_7)⟩; have n1_ : Aside0 (Kd.R Kd.bool 4 wr w.heap.size (fun _ => True) (.slice (some ⟨go24, 0, none⟩) x9_2.length co24) x9_2) := ⟨by rw [← hq_]; exact (kR HO_9)⟩; have n2_ : Aside0 (wr.heap[gb162]? = some (.cells #[.slice (some ad164) l0_0.length c0_0] 30 (0, 0))) := ⟨by rw [← hq_]; exact (bp BK162)⟩; have n3_ : Aside0 (wr.heap[gb163]? = some (.cells #[.int .i64 x164000_2, .int .i64 x164001_2, .int .i64 x164002_2] 84 (0, 0))) := ⟨by rw [← hq_]; exact (bp BK163)⟩; have n4_ : Aside0 (Below w.heap.size w wr) := ⟨by rw [← hq_]; exact (bw HB)⟩; clear HO_7 HO_9 BK162 BK163 HB hq_; have HO_7 := n0_; have HO_9 := n1_; have BK162 := n2_; have BK163 := n3_; have HB := n4_; clear n0_ n1_ n2_ n3_ n4_)); have p38 : 0 ≤ (t174 : Int) := of_decide_eq_true as1; have q38 : (t174 : Int) < ((x9_2.length : Int) : Int) := of_decide_eq_true as1; obtain ⟨hx38_0, hf38_0⟩ := Kd.R_celln false HO_9.out (t174 : Int) p38 q38; replace p38 := eq_true p38; replace q38 := eq_true q38; obtain ⟨hy44_, hz44_⟩ := Kd.R_celln false HO_9.out (t174 : Int) (of_decide_eq_true as1) (of_decide_eq_true as1); have HP44 := Kd.R_putg HO_9.out (t174 : Int) false) | ((with_reducible refine gt 4 50 rfl ?_); refine sE 4 50 (wr.setCell ⟨go24, (t174 : Int).toNat, none⟩ (.bool false)) ?_; intro w45 hw; have hg : wr.grownBy w45 (some go24) := (by rw [hw]; exact HP44.2); have hp_ : Kd.R Kd.bool 4 w45 w.heap.size (fun _ => True) (.slice (some ⟨go24, 0, none⟩) x9_2.length co24) y175 := (by rw [hw, Ny175.out]; exact HP44.1); clear HP44; replace HO_7 := am (Kd.R_over' (v := (.slice (some ⟨go24, 0, none⟩) x9_2.length co24)) (kR HO_7) (Kd.R_typed HO_9.out) (by decide) hg); replace BK162 := bg BK162 hg (Kd.R_ne HO_9.out BK162.out (by decide)); replace BK163 := bg BK163 hg (Kd.R_ne HO_9.out BK163.out (by decide)); replace HO_9 := am (hp_); replace HB := am ((by rw [hw]; exact below_set (HB.out) GB24.out : Below w.heap.size w w45)); clear hg hw hp_; have p176 : 0 ≤ (t174 : Int) := of_decide_eq_true as1; have q176 : t174 < (((rd_T100 l0_0 a1).f2).length : Int) := of_decide_eq_true as1; obtain ⟨ad176, e176, hx176_0, hx176_1⟩ := at_T102 HR164_2.out t174 p176 q176; cases e176; replace hx176_0 := cl HB hx176_0; replace hx176_1 := cl HB hx176_1; replace p176 := eq_true p176; replace q176 := eq_true q176) | ((with_reducible refine gd 11 rfl ?_); refine bX 11 #[.int .i64 0, .int .i64 0] 102 HB ?_; clear HB; intro gb177 w46 hg hb BK177 GW177 HB; replace HO_7 := am (Kd.R_below (kR HO_7) hb); replace HO_9 := am (Kd.R_below (kR HO_9) hb); obtain ⟨NB162_177, NB177_162, BK162⟩ := b3 hg BK162 hb; obtain ⟨NB163_177, NB177_163, BK163⟩ := b3 hg BK163 hb; clear hb hg; have hnb47 := NB177_162.out; have hnc47 := NB162_177.out; have hnb48 := NB177_163.out; have hnc48 := NB163_177.out; have hcz49 := bK w46 BK177; have hfz49 := bF BK177) | ((with_reducible refine gd 12 rfl ?_); refine bx 12 #[.int .i64 0, .int .i64 0, .int .i64 0] 84 ?_; intro gb178 hg w50 hbox hb; replace HO_7 := am (Kd.R_below (by (with_reducible repeat (first | apply Kd.R_alloc | apply Kd.R_drewN | apply Kd.R_drew)); exact (Kd.R_mono (Kd.R_far (p := ⟨gb177, 1, none⟩) (Kd.R_far (p := ⟨gb177, 0, none⟩) (Kd.R_types HO_7.out BK177.out (by decide)) (fun _ hk => hk.2) (.int .i64 ((rd_T102 ((rd_T100 l0_0 a1).f2) t174).f0))) (fun _ hk => hk.2) (.int .i64 ((rd_T102 ((rd_T100 l0_0 a1).f2) t174).f1))) (fun _ h_ => h_.1))) hb); replace HO_9 := am (Kd.R_below (by (with_reducible repeat (first | apply Kd.R_alloc | apply Kd.R_drewN | apply Kd.R_drew)); exact (Kd.R_mono (Kd.R_far (p := ⟨gb177, 1, none⟩) (Kd.R_far (p := ⟨gb177, 0, none⟩) (Kd.R_types HO_9.out BK177.out (by decide)) (fun _ hk => hk.2) (.int .i64 ((rd_T102 ((rd_T100 l0_0 a1).f2) t174).f0))) (fun _ hk => hk.2) (.int .i64 ((rd_T102 ((rd_T100 l0_0 a1).f2) t174).f1))) (fun _ h_ => h_.1))) hb); have BK178 := am (hbox); have GW178 := gw hg HB; replace HB := bs HB hb; obtain ⟨NB162_178, NB178_162⟩ := n3 hg BK162; replace BK162 := bb2 BK162 hb; obtain ⟨NB163_178, NB178_163⟩ := n3 hg BK163; replace BK163 := bb2 BK163 hb; obtain ⟨NB177_178, NB178_177⟩ := n3 hg BK177; replace BK177 := bo #[.int .i64 ((rd_T102 ((rd_T100 l0_0 a1).f2) t174).f0), .int .i64 ((rd_T102 ((rd_T100 l0_0 a1).f2) t174).f1)] BK177 hb; clear hb hbox hg; have hnb51 := NB178_162.out; have hnc51 := NB162_178.out; have hnb52 := NB178_163.out; have hnc52 := NB163_178.out; have hnb53 := NB178_177.out; have hnc53 := NB177_178.out; have hcz54 := bK w50 BK178; have hfz54 := bF BK178; have hnb55 := NB162_163.out; have hnc55 := NB163_162.out; have hcz56 := bK w50 BK162; have hfz56 := bF BK162; have hcz57 := bK w50 BK177; have hfz57 := bF BK177) | ((with_reducible refine gk 118 rfl ?_); refine gB 118 (some 60) Try.func118 #[.agg #[.slice (some ad164) l0_0.length c0_0], .agg #[.int .i64 ((rd_T102 ((rd_T100 l0_0 a1).f2) t174).f0), .int .i64 ((rd_T102 ((rd_T100 l0_0 a1).f2) t174).f1)]] (spec_Takes.calls k2 _ _ l0_0 ((rd_T102 ((rd_T100 l0_0 a1).f2) t174).f0) ((rd_T102 ((rd_T100 l0_0 a1).f2) t174).f1) t179 _ (Kd.C_below HR0_0.out (bw HB)) HC0_0.out A40.out) ?_; intro w58 hb; replace HO_7 := am (Kd.R_below (by (with_reducible repeat (first | apply Kd.R_alloc | apply Kd.R_drewN | apply Kd.R_drew)); exact (Kd.R_mono (Kd.R_far (p := ⟨gb178, 2, none⟩) (Kd.R_far (p := ⟨gb178, 1, none⟩) (Kd.R_far (p := ⟨gb178, 0, none⟩) (Kd.R_types HO_7.out BK178.out (by decide)) (fun _ hk => hk.2) (.int .i64 a1)) (fun _ hk => hk.2) (.int .i64 t174)) (fun _ hk => hk.2) (.int .i64 5)) (fun _ h_ => h_.1))) hb); replace HO_9 := am (Kd.R_below (by (with_reducible repeat (first | apply Kd.R_alloc | apply Kd.R_drewN | apply Kd.R_drew)); exact (Kd.R_mono (Kd.R_far (p := ⟨gb178, 2, none⟩) (Kd.R_far (p := ⟨gb178, 1, none⟩) (Kd.R_far (p := ⟨gb178, 0, none⟩) (Kd.R_types HO_9.out BK178.out (by decide)) (fun _ hk => hk.2) (.int .i64 a1)) (fun _ hk => hk.2) (.int .i64 t174)) (fun _ hk => hk.2) (.int .i64 5)) (fun _ h_ => h_.1))) hb); replace BK162 := bb2 BK162 hb; replace BK163 := bb2 BK163 hb; replace BK177 := bb2 BK177 hb; replace BK178 := bo #[.int .i64 a1, .int .i64 t174, .int .i64 5] BK178 hb; replace HB := bs HB hb; clear hb))
 replace HO_7 := am (Kd.R_drew HO_7.out)
 replace HO_9 := am (Kd.R_drew HO_9.out)
 replace BK162 := am (blk_drew BK162.out)
 replace BK163 := am (blk_drew BK163.out)
 replace BK177 := am (blk_drew BK177.out)
 replace BK178 := am (blk_drew BK178.out)
 replace HB := am (below_drew1 HB.out)
 obtain ⟨p180, q180, hx180_0⟩ := aR HO_7 t174
 refine start_ (n := 10) (S := fun w' => w'.cell? ⟨gb177, 0, none⟩ = some (.int .i64 ((rd_T102 ((rd_T100 l0_0 a1).f2) t174).f0)) ∧ w'.cell? ⟨gb177, 1, none⟩ = some (.int .i64 ((rd_T102 ((rd_T100 l0_0 a1).f2) t174).f1)) ∧ w'.cell? ⟨go20, (t174).toNat, none⟩ = some (.int .i64 (rd x7_2 t174))) (ds := []) (bv 10 0) (by kernel_rfl) rfl (by kernel_rfl) ⟨bc BK177 0, bc BK177 1, hx180_0⟩ (fun hHeld => ?_); refine with_tabW spec_l04Heights.tab17 spec_l04Heights.bits17 (fun HT_ HW_ => ?_)
 generalize w58.drew = w59 at HO_7 HO_9 BK162 BK163 BK177 BK178 HB hx180_0 hHeld ⊢
 refine pu 0 61 10 1 HT_ ?_
 refine pu 1 62 10 3 HT_ ?_
 refine pu 2 63 10 7 HT_ ?_
 refine pu 4 65 10 23 HT_ ?_
 refine tk 3 64 10 31 HT_ HW_ hHeld ?_
 refine pu 5 66 10 63 HT_ ?_
 refine tk 6 67 10 127 HT_ HW_ hHeld ?_
 refine on 7 (some 68) 10 255 HT_ fun K hK => ?_
 refine goes_ Try.func119 (by kernel_rfl) rfl #[.agg #[.int .i64 ((rd_T102 ((rd_T100 l0_0 a1).f2) t174).f0), .int .i64 ((rd_T102 ((rd_T100 l0_0 a1).f2) t174).f1)]] (by rfl) rfl rfl gl ?_
 with_reducible refine (spec_Puts.calls k2 ((rd_T102 ((rd_T100 l0_0 a1).f2) t174).f0) ((rd_T102 ((rd_T100 l0_0 a1).f2) t174).f1) t181 _ A42.out).mono ?_
 rintro e w60 ⟨rfl, hb⟩
 have HS2_ := (hb.cell (World.block_lt_of_cell? _ _ (hHeld.2.2))).trans (hHeld.2.2)
 refine ⟨_, rfl, ?_⟩
 replace HO_7 := am (Kd.R_below (kR HO_7) hb)
 replace HO_9 := am (Kd.R_below (kR HO_9) hb)
 replace BK162 := bb BK162 hb
 replace BK163 := bb BK163 hb
 replace BK177 := bb BK177 hb
 replace BK178 := bb BK178 hb
 replace HB := am (below_step (bw HB) hb)
 clear hb
 refine hK.out _ _ ⟨bc BK177 0, bc BK177 1, HS2_⟩ (fun hHeld => ?_)
 clear hK K
 refine nm (some 68) ?_
 refine pu 8 69 10 511 HT_ ?_
 refine pu 9 14 10 1023 HT_ ?_
 refine done_ (done_of HT_.out (by kernel_rfl)) ?_
 go_upto_region 18 with (fail)
 go_cut [79] (fun v79 wc => ∃ (kq : Nat) (x79_42 : Bool), v79 = .bool x79_42 ∧ Aside0 (spec_l04Heights.j2 kq a1 ((rd_T100 l0_0 a1).f2) x7_2 y175 t174 (wrap64 ((wrap64 ((rd x7_2 t174) - t179)) + t181)) x79_42 l0_0 ((rd_T102 ((rd_T100 l0_0 a1).f2) t174).f0) ((rd_T102 ((rd_T100 l0_0 a1).f2) t174).f1) a1 t174 5 = some (r1, r2, r3, r4)) ∧ Aside0 (kq ≤ k2) ∧ Aside0 (Kd.R (Kd.int .i64) 2 wc w.heap.size (fun _ => True) (.slice (some ⟨go20, 0, none⟩) x7_2.length co25) x7_2) ∧ Aside0 (Kd.R Kd.bool 4 wc w.heap.size (fun _ => True) (.slice (some ⟨go24, 0, none⟩) x9_2.length co24) y175) ∧ Aside0 (wc.heap[gb162]? = some (.cells #[(.slice (some ad164) l0_0.length c0_0)] 30 (0, 0))) ∧ Aside0 (wc.heap[gb163]? = some (.cells #[.int .i64 x164000_2, .int .i64 x164001_2, .int .i64 x164002_2] 84 (0, 0))) ∧ Aside0 (wc.heap[gb177]? = some (.cells #[.int .i64 ((rd_T102 ((rd_T100 l0_0 a1).f2) t174).f0), .int .i64 ((rd_T102 ((rd_T100 l0_0 a1).f2) t174).f1)] 102 (0, 0))) ∧ Aside0 (wc.heap[gb178]? = some (.cells #[.int .i64 a1, .int .i64 t174, .int .i64 5] 84 (0, 0))) ∧ Aside0 (Below w.heap.size w wc))
 case first =>
  have H := HC43.out
  clear HC43
  refine qG H ?_ ?_ <;> clear H <;> intro c61b0 H
  ·(first | rw [c61b0] | (simp only [i64_w, i32_w]; rw [c61b0]) | skip)
   have H' := am H
   clear H
   obtain ⟨p182, q182, hx182_0⟩ := aR HO_7 t174
   go_wp2
   go_meet
   case rel => exact ⟨_, (true), dr, H', ⟨lk2 HK1 HK2⟩, ⟨by (try simp only [hl7_2]); (try simp only [hl9_2]); exact kR HO_7⟩, ⟨by (try simp only [hl7_2]); (try simp only [hl9_2]); exact kR HO_9⟩, ⟨by (try simp only [hl7_2]); (try simp only [hl9_2]); exact bp BK162⟩, ⟨by (try simp only [hl7_2]); (try simp only [hl9_2]); exact bp BK163⟩, ⟨by (try simp only [hl7_2]); (try simp only [hl9_2]); exact bp BK177⟩, ⟨by (try simp only [hl7_2]); (try simp only [hl9_2]); exact bp BK178⟩, ⟨bw HB⟩⟩
  (first | rw [c61b0] | (simp only [i64_w, i32_w]; rw [c61b0]) | skip)
  have H' := am H
  clear H
  obtain ⟨p182, q182, hx182_0⟩ := aR HO_7 t174
  go_wp2
  go_meet
  case rel => exact ⟨_, (decide ((wrap64 ((wrap64 ((rd x7_2 t174) - t179)) + t181)) > 8)), dr, H', ⟨lk2 HK1 HK2⟩, ⟨by (try simp only [hl7_2]); (try simp only [hl9_2]); exact kR HO_7⟩, ⟨by (try simp only [hl7_2]); (try simp only [hl9_2]); exact kR HO_9⟩, ⟨by (try simp only [hl7_2]); (try simp only [hl9_2]); exact bp BK162⟩, ⟨by (try simp only [hl7_2]); (try simp only [hl9_2]); exact bp BK163⟩, ⟨by (try simp only [hl7_2]); (try simp only [hl9_2]); exact bp BK177⟩, ⟨by (try simp only [hl7_2]); (try simp only [hl9_2]); exact bp BK178⟩, ⟨bw HB⟩⟩
 clear HC43
 (try clear p3); (try clear q3); (try clear hx3); (try clear hf3); (try clear c11); (try clear p17); (try clear q17); (try clear hx17); (try clear p18); (try clear q18); (try clear hx18); (try clear c33); (try clear c33b0); (try clear c34); (try clear c36); (try clear c36b0); (try clear c37); (try clear c37b0); (try clear p38); (try clear q38); (try clear hx38); (try clear hf38); (try clear c39); (try clear c39b0); (try clear c41); (try clear c41b0); (try clear c47); (try clear c48); (try clear c51); (try clear c52); (try clear c53); (try clear c55); (try clear c58); (try clear c61); (try clear c61b0); (try clear hcz35); (try clear hcz49); (try clear hcz54); (try clear hcz56); (try clear hcz57); (try clear hfz35); (try clear hfz49); (try clear hfz54); (try clear hfz56); (try clear hfz57); (try clear hx176_0); (try clear hx176_1); (try clear hx180_0); (try clear hx182_0); (try clear hx38_0); (try clear p176); (try clear p180); (try clear p182); (try clear p38); (try clear q176); (try clear q180); (try clear q182); (try clear q38)
 obtain ⟨kq, x79_42, rfl, HA, HJ42, HO_7, HO_9, BK162, BK163, BK177, BK178, HB⟩ := hcut
 have hl9_42 := (Kd.R_reads' HO_9.out).1
 rw [hl9_42] at HO_9
 (try simp only [hl9_42])
 (try simp only [hl9_42] at BK162)
 (try simp only [hl9_42] at BK163)
 (try simp only [hl9_42] at BK177)
 (try simp only [hl9_42] at BK178)
 (try simp only [hl9_42] at HO_7)
 rcases kq with _ | kj42
 ·exact absurd HA.out (by simp [spec_l04Heights.j2])
 have H := HA.out
 clear HA
 simp only [spec_l04Heights.j2] at H
 refine qT H ?_ ?_ <;> clear H <;> intro c62 H <;> subst c62
 ·simp only [Option.some.injEq, Prod.mk.injEq] at H
  obtain ⟨rfl, rfl, rfl, rfl⟩ := H
  try go_wp2
  replace HO_7 := am (Kd.R_drew HO_7.out)
  replace HO_9 := am (Kd.R_drew HO_9.out)
  replace BK162 := am (blk_drew BK162.out)
  replace BK163 := am (blk_drew BK163.out)
  replace BK177 := am (blk_drew BK177.out)
  replace BK178 := am (blk_drew BK178.out)
  replace HB := am (below_drew1 HB.out)
  refine start_ (n := 4) (S := fun w' => w'.cell? ⟨gb178, 0, none⟩ = some (.int .i64 a1) ∧ w'.cell? ⟨gb178, 1, none⟩ = some (.int .i64 t174) ∧ w'.cell? ⟨gb178, 2, none⟩ = some (.int .i64 5)) (ds := []) (bv 4 0) (by kernel_rfl) rfl (by kernel_rfl) ⟨bc BK178 0, bc BK178 1, bc BK178 2⟩ (fun hHeld => ?_)
  generalize wc.drew = w63 at HO_7 HO_9 BK162 BK163 BK177 BK178 HB hHeld ⊢
  refine pure_ (i := 0) (N := some 80) (v := ?_) (a' := ?_) (bv 4 1) rfl rfl (by kernel_rfl) (fun _ _ _ h => h) (Or.inl ⟨by rfl, ?_⟩) ?_ ?_
  rotate_left
  ·intro w'
   go_simp
   with_reducible rfl
  rotate_left
  ·simp only [Act.put, sa, sz, ss, i64_w, i32_w]
   rfl
  refine pure_ (i := 2) (N := some 4) (v := ?_) (a' := ?_) (bv 4 5) rfl rfl (by kernel_rfl) (fun _ _ _ h => h) (Or.inl ⟨by rfl, ?_⟩) ?_ ?_
  rotate_left
  ·intro w'
   go_simp
   with_reducible rfl
  rotate_left
  ·simp only [Act.put, sa, sz, ss, i64_w, i32_w]
   rfl
  refine take_ (i := 1) (N := some 81) (v := ?_) (a' := ?_) (bv 4 7) rfl rfl (by kernel_rfl) (fun _ _ _ h => h) (Or.inl ⟨by rfl, ?_⟩) hHeld ?_ ?_
  rotate_left
  ·rintro w' ⟨s0, s1, s2⟩
   go_simp
   with_reducible rfl
  rotate_left
  ·simp only [Act.put, sa, sz, ss, i64_w, i32_w]
   rfl
  refine one_ (i := 3) (N := none) (bv 4 15) rfl rfl (by kernel_rfl) (by decide) (fun K hK => ?_)
  have hs64 := bk w63 BK163 0
  have hfs64 := bf BK163 0
  have hns64_0 := NB162_163.out
  have hns64_2 := NB177_163.out
  have hns64_3 := NB178_163.out
  have hms64_0 := NB163_162.out
  have hms64_2 := NB163_177.out
  have hms64_3 := NB163_178.out
  have hs65 := bk w63 BK163 1
  have hfs65 := bf BK163 1
  have hns65_0 := NB162_163.out
  have hns65_2 := NB177_163.out
  have hns65_3 := NB178_163.out
  have hms65_0 := NB163_162.out
  have hms65_2 := NB163_177.out
  have hms65_3 := NB163_178.out
  have hs66 := bk w63 BK163 2
  have hfs66 := bf BK163 2
  have hns66_0 := NB162_163.out
  have hns66_2 := NB177_163.out
  have hns66_3 := NB178_163.out
  have hms66_0 := NB163_162.out
  have hms66_2 := NB163_177.out
  have hms66_3 := NB163_178.out
  refine skip_ (w1 := ?_) (by rfl) rfl ?_ ?_
  rotate_left
  ·go_simp
   rfl
  refine hK.out _ _ ⟨((cell_far (p := ⟨gb163, _, none⟩) NB178_163.out _).trans (((cell_far (p := ⟨gb163, _, none⟩) NB178_163.out _).trans (((cell_far (p := ⟨gb163, _, none⟩) NB178_163.out _).trans (hHeld.1)))))), ((cell_far (p := ⟨gb163, _, none⟩) NB178_163.out _).trans (((cell_far (p := ⟨gb163, _, none⟩) NB178_163.out _).trans (((cell_far (p := ⟨gb163, _, none⟩) NB178_163.out _).trans (hHeld.2.1)))))), ((cell_far (p := ⟨gb163, _, none⟩) NB178_163.out _).trans (((cell_far (p := ⟨gb163, _, none⟩) NB178_163.out _).trans (((cell_far (p := ⟨gb163, _, none⟩) NB178_163.out _).trans (hHeld.2.2))))))⟩ (fun hHeld => ?_)
  clear hK K
  refine done_ (by kernel_rfl) ?_
  try go_wp2
  refine bodyPost_ret (results_tc rfl _ _ gb163 84 #[.int .i64 a1, .int .i64 t174, .int .i64 5] (0, 0) _ rfl (bt BK163) Try.underlying84 rfl (by kernel_rfl)) rfl ?_
  exact ⟨_, er, by (with_reducible repeat (first | apply Kd.R_alloc | apply Kd.R_drewN | apply Kd.R_drew)); exact Kd.R_mono (Kd.R_far (p := ⟨gb163, 2, none⟩) (Kd.R_far (p := ⟨gb163, 1, none⟩) (Kd.R_far (p := ⟨gb163, 0, none⟩) (Kd.R_types HO_7.out BK163.out (by decide)) (fun _ hk => hk.2) (.int .i64 a1)) (fun _ hk => hk.2) (.int .i64 t174)) (fun _ hk => hk.2) (.int .i64 5)) (fun _ hk => trivial), bw HB⟩
 obtain ⟨y183, hy183⟩ : ∃ y_ : List Int, y_ = (([] : List Int)) := ⟨_, rfl⟩
 replace H : (if ((rd_T102 ((rd_T100 l0_0 a1).f2) t174).f0) = 30 then (spec_l04Heights.j3 kj42 a1 ((rd_T100 l0_0 a1).f2) x7_2 y175 t174 (wrap64 ((wrap64 ((rd x7_2 t174) - t179)) + t181)) y183 false l0_0 ((rd_T102 ((rd_T100 l0_0 a1).f2) t174).f0) ((rd_T102 ((rd_T100 l0_0 a1).f2) t174).f1) a1 t174 5) else (spec_l04Heights.j3 kj42 a1 ((rd_T100 l0_0 a1).f2) x7_2 y175 t174 (wrap64 ((wrap64 ((rd x7_2 t174) - t179)) + t181)) y183 (((rd_T102 ((rd_T100 l0_0 a1).f2) t174).f0) != 33) l0_0 ((rd_T102 ((rd_T100 l0_0 a1).f2) t174).f0) ((rd_T102 ((rd_T100 l0_0 a1).f2) t174).f1) a1 t174 5)) = some (r1, r2, r3, r4) := by first | (rw [hy183]; with_reducible exact H) | (have H2_ := (Option.bind_some _ _).symm.trans H; rw [hy183]; with_reducible exact H2_) | (have H2_ := (Option.bind_some _ _).symm.trans H; with_reducible exact H2_) | with_reducible exact H | (rw [hy183]; exact H) | exact H
 have Ny183 := am hy183
 clear hy183
 have HC67 := am H
 clear H
 go_upto_region 21 with (first | ((with_reducible refine gate_dst (N := 82) rfl ?_); refine Kd.R_lit (Kd.int .i64) _ 2 ?hg (N := 82) ?hd (xs := ([] : List Int)) (inner := []) (ok := fun _ => True) (okp := fun _ => True) ?hr ?hp (fun _ hk => hk) trivial (Below.refl _ _) (Nat.le_refl _) (by simp) ?_; (case hd => rfl); (case hg => rfl); (case hr => exact gs); (case hp => exact (Reps.none _ _)); intro v184 w68 ho69 hb hg_ hnew_; clear hg_ hnew_; (first | rw [← Ny183.out] at ho69 | (simp only [Int.reduceToNat] at ho69; rw [← Ny183.out] at ho69)); replace HO_9 := am (Kd.R_below (kR HO_9) hb); have HO185 := am (Kd.R_lower (Kd.R_new' ho69 (Kd.R_lt (kR HO_7))) (below_size (bw HB))); replace HO_7 := am (Kd.R_elder' (kR HO_7) (Kd.R_base ho69) hb); replace BK162 := bb BK162 hb; replace BK163 := bb BK163 hb; replace BK177 := bb BK177 hb; replace BK178 := bb BK178 hb; replace HB := bs HB hb; clear hb ho69))
 (try simp only [Act.put, sa, sz, ss])
 go_cut [90] (fun v90 wc => ∃ (kq : Nat) (x90_66 : Bool), v90 = .bool x90_66 ∧ Aside0 (spec_l04Heights.j3 kq a1 ((rd_T100 l0_0 a1).f2) x7_2 y175 t174 (wrap64 ((wrap64 ((rd x7_2 t174) - t179)) + t181)) y183 x90_66 l0_0 ((rd_T102 ((rd_T100 l0_0 a1).f2) t174).f0) ((rd_T102 ((rd_T100 l0_0 a1).f2) t174).f1) a1 t174 5 = some (r1, r2, r3, r4)) ∧ Aside0 (kq ≤ kj42) ∧ Aside0 (Kd.R (Kd.int .i64) 2 wc w.heap.size (fun k_ => some k_ ≠ (v184 : Value).ownBlock) (.slice (some ⟨go20, 0, none⟩) x7_2.length co25) x7_2) ∧ Aside0 (Kd.R Kd.bool 4 wc w.heap.size (fun _ => True) (.slice (some ⟨go24, 0, none⟩) y175.length co24) y175) ∧ Aside0 (Kd.R (Kd.int .i64) 2 wc w.heap.size (fun k_ => some k_ ≠ ((.slice (some ⟨go20, 0, none⟩) x7_2.length co25) : Value).ownBlock) v184 y183) ∧ Aside0 (wc.heap[gb162]? = some (.cells #[(.slice (some ad164) l0_0.length c0_0)] 30 (0, 0))) ∧ Aside0 (wc.heap[gb163]? = some (.cells #[.int .i64 x164000_2, .int .i64 x164001_2, .int .i64 x164002_2] 84 (0, 0))) ∧ Aside0 (wc.heap[gb177]? = some (.cells #[.int .i64 ((rd_T102 ((rd_T100 l0_0 a1).f2) t174).f0), .int .i64 ((rd_T102 ((rd_T100 l0_0 a1).f2) t174).f1)] 102 (0, 0))) ∧ Aside0 (wc.heap[gb178]? = some (.cells #[.int .i64 a1, .int .i64 t174, .int .i64 5] 84 (0, 0))) ∧ Aside0 (Below w.heap.size w wc))
 case first =>
  have H := HC67.out
  clear HC67
  refine qE H ?_ ?_ <;> clear H
  ·intro c70b0 c70b1 H
   (first | rw [c70b0] | (simp only [i64_w, i32_w]; rw [c70b0]) | skip)
   have H' := am H
   clear H
   have hnb71 := NB177_162.out
   have hnc71 := NB162_177.out
   have hnb72 := NB177_163.out
   have hnc72 := NB163_177.out
   have hnb73 := NB177_178.out
   have hnc73 := NB178_177.out
   have hcz74 := bK w68 BK177
   have hfz74 := bF BK177
   go_wp2
   go_meet
   case rel => exact ⟨_, (false), dr, H', ⟨lk3 HK1 HK2 HJ42⟩, ⟨by (try simp only [hl7_2]); (try simp only [hl9_2]); (try simp only [hl9_42]); (with_reducible repeat (first | apply Kd.R_alloc | apply Kd.R_drewN | apply Kd.R_drew)); exact Kd.R_mono HO_7.out (fun _ hk => hk.2)⟩, ⟨by (try simp only [hl7_2]); (try simp only [hl9_2]); (try simp only [hl9_42]); exact kR HO_9⟩, ⟨by (try simp only [hl7_2]); (try simp only [hl9_2]); (try simp only [hl9_42]); (with_reducible repeat (first | apply Kd.R_alloc | apply Kd.R_drewN | apply Kd.R_drew)); exact Kd.R_mono HO185.out (fun _ hk => hk.2)⟩, ⟨by (try simp only [hl7_2]); (try simp only [hl9_2]); (try simp only [hl9_42]); exact bp BK162⟩, ⟨by (try simp only [hl7_2]); (try simp only [hl9_2]); (try simp only [hl9_42]); exact bp BK163⟩, ⟨by (try simp only [hl7_2]); (try simp only [hl9_2]); (try simp only [hl9_42]); exact bp BK177⟩, ⟨by (try simp only [hl7_2]); (try simp only [hl9_2]); (try simp only [hl9_42]); exact bp BK178⟩, ⟨bw HB⟩⟩
  intro c70 c70b0 c70b1 H
  (first | rw [c70b0] | (simp only [i64_w, i32_w]; rw [c70b0]) | skip)
  have H' := am H
  clear H
  have hnb75 := NB177_162.out
  have hnc75 := NB162_177.out
  have hnb76 := NB177_163.out
  have hnc76 := NB163_177.out
  have hnb77 := NB177_178.out
  have hnc77 := NB178_177.out
  have hcz78 := bK w68 BK177
  have hfz78 := bF BK177
  go_wp2
  go_meet
  case rel => exact ⟨_, ((((rd_T102 ((rd_T100 l0_0 a1).f2) t174).f0) != 33)), dr, H', ⟨lk3 HK1 HK2 HJ42⟩, ⟨by (try simp only [hl7_2]); (try simp only [hl9_2]); (try simp only [hl9_42]); (with_reducible repeat (first | apply Kd.R_alloc | apply Kd.R_drewN | apply Kd.R_drew)); exact Kd.R_mono HO_7.out (fun _ hk => hk.2)⟩, ⟨by (try simp only [hl7_2]); (try simp only [hl9_2]); (try simp only [hl9_42]); exact kR HO_9⟩, ⟨by (try simp only [hl7_2]); (try simp only [hl9_2]); (try simp only [hl9_42]); (with_reducible repeat (first | apply Kd.R_alloc | apply Kd.R_drewN | apply Kd.R_drew)); exact Kd.R_mono HO185.out (fun _ hk => hk.2)⟩, ⟨by (try simp only [hl7_2]); (try simp only [hl9_2]); (try simp only [hl9_42]); exact bp BK162⟩, ⟨by (try simp only [hl7_2]); (try simp only [hl9_2]); (try simp only [hl9_42]); exact bp BK163⟩, ⟨by (try simp only [hl7_2]); (try simp only [hl9_2]); (try simp only [hl9_42]); exact bp BK177⟩, ⟨by (try simp only [hl7_2]); (try simp only [hl9_2]); (try simp only [hl9_42]); exact bp BK178⟩, ⟨bw HB⟩⟩
 clear HC67
 (try clear c7); (try clear c62); (try clear p64); (try clear c70); (try clear c70b0); (try clear c70b1); (try clear c71); (try clear c72); (try clear c73); (try clear c75); (try clear c76); (try clear c77); (try clear hcz74); (try clear hcz78); (try clear hfz74); (try clear hfz78)
 obtain ⟨kq, x90_66, rfl, HA, HJ66, HO_7, HO_9, HO_15, BK162, BK163, BK177, BK178, HB⟩ := hcut
 rcases kq with _ | kj66
 ·exact absurd HA.out (by simp [spec_l04Heights.j3])
 have H := HA.out
 clear HA
 simp only [spec_l04Heights.j3] at H
 have HC79 := am H
 clear H
 go_upto_if 90 with (fail)
 go_cut [15] (fun v15 wc => ∃ (kq : Nat) (x15_78 : List Int), Aside0 (spec_l04Heights.j4 kq a1 ((rd_T100 l0_0 a1).f2) x7_2 y175 (wrap64 ((wrap64 ((rd x7_2 t174) - t179)) + t181)) x15_78 l0_0 ((rd_T102 ((rd_T100 l0_0 a1).f2) t174).f0) ((rd_T102 ((rd_T100 l0_0 a1).f2) t174).f1) a1 t174 5 = some (r1, r2, r3, r4)) ∧ Aside0 (kq ≤ kj66) ∧ Aside0 (Kd.R (Kd.int .i64) 2 wc w.heap.size (fun k_ => some k_ ≠ (v15 : Value).ownBlock) (.slice (some ⟨go20, 0, none⟩) x7_2.length co25) x7_2) ∧ Aside0 (Kd.R Kd.bool 4 wc w.heap.size (fun _ => True) (.slice (some ⟨go24, 0, none⟩) y175.length co24) y175) ∧ Aside0 (Kd.R (Kd.int .i64) 2 wc w.heap.size (fun k_ => some k_ ≠ ((.slice (some ⟨go20, 0, none⟩) x7_2.length co25) : Value).ownBlock) v15 x15_78) ∧ Aside0 (wc.heap[gb162]? = some (.cells #[(.slice (some ad164) l0_0.length c0_0)] 30 (0, 0))) ∧ Aside0 (wc.heap[gb163]? = some (.cells #[.int .i64 x164000_2, .int .i64 x164001_2, .int .i64 x164002_2] 84 (0, 0))) ∧ Aside0 (wc.heap[gb177]? = some (.cells #[.int .i64 ((rd_T102 ((rd_T100 l0_0 a1).f2) t174).f0), .int .i64 ((rd_T102 ((rd_T100 l0_0 a1).f2) t174).f1)] 102 (0, 0))) ∧ Aside0 (wc.heap[gb178]? = some (.cells #[.int .i64 a1, .int .i64 t174, .int .i64 5] 84 (0, 0))) ∧ Aside0 (Below w.heap.size w wc))
 case first =>
  have H := HC79.out
  clear HC79
  refine qT H ?_ ?_ <;> clear H <;> intro c80 H <;> subst c80
  ·refine iN H ?_; clear H; intro c81 H
   have LMc81 := am c81
   clear c81
   obtain ⟨y186, hy186⟩ : ∃ y_ : List Int, y_ = (y183 ++ [wrap64 (t174 + 1)]) := ⟨_, rfl⟩
   replace H : (spec_l04Heights.j4 kj66 a1 ((rd_T100 l0_0 a1).f2) x7_2 y175 (wrap64 ((wrap64 ((rd x7_2 t174) - t179)) + t181)) y186 l0_0 ((rd_T102 ((rd_T100 l0_0 a1).f2) t174).f0) ((rd_T102 ((rd_T100 l0_0 a1).f2) t174).f1) a1 t174 5) = some (r1, r2, r3, r4) := by first | (rw [hy186]; with_reducible exact H) | (have H2_ := (Option.bind_some _ _).symm.trans H; rw [hy186]; with_reducible exact H2_) | (have H2_ := (Option.bind_some _ _).symm.trans H; with_reducible exact H2_) | with_reducible exact H | (rw [hy186]; exact H) | exact H
   have Ny186 := am hy186
   clear hy186
   have H' := am H
   clear H
   go_wp2_with (first | ((with_reducible refine gate_builtin (b := .append) (xs := #[.tmp 91, .tmp 94]) rfl ?_); at_builtin; refine Kd.R_append (Kd.int .i64) (w0 := w) w.heap.size rfl (.tmp 91) (.tmp 94) 26 2 (.int .i64 0) 8 rfl Try.underlying26 info2 rfl (by decide) (by omega) v184 y183 (wrap64 (t174 + 1)) [.int .i64 (wrap64 (t174 + 1))] (fun k_ => some k_ ≠ (.slice (some ⟨go20, 0, none⟩) x7_2.length co25 : Value).ownBlock) (fun _ => False) rfl rfl ?aP (fun _ hk => hk.elim) ?aF ?aO ?aB ?aS ?aL ?_; (case aP => exact rfl); (case aB => exact (bw HB)); (case aF => exact (fun k_ hk => Kd.fresh' (Kd.R_lt (kR HO_7)) k_ hk)); (case aO => exact (kR HO_15)); (case aS => exact (below_size (bw HB))); (case aL => have := LMc81.out; omega); intro v187 w82 ho hb hg hat; rw [← Ny186.out] at ho; replace HO_7 := am (Kd.R_after (ok := (fun _ => True)) (by (with_reducible repeat (first | apply Kd.R_alloc | apply Kd.R_drewN | apply Kd.R_drew)); exact Kd.R_mono HO_7.out (fun _ hk => ⟨trivial, hk⟩)) hg hat); replace HO_9 := am (Kd.R_over' (kR HO_9) (Kd.R_typed (kR HO_15)) (by decide) hg); replace BK162 := bg BK162 hg (Kd.R_ne HO_15.out BK162.out (by decide)); replace BK163 := bg BK163 hg (Kd.R_ne HO_15.out BK163.out (by decide)); replace BK177 := bg BK177 hg (Kd.R_ne HO_15.out BK177.out (by decide)); replace BK178 := bg BK178 hg (Kd.R_ne HO_15.out BK178.out (by decide)); replace HB := am (hb); have HO188 := am (ho); clear HO_15; clear ho hb hg hat))
   go_meet
   case rel => exact ⟨_, (y186), H', ⟨lk4 HK1 HK2 HJ42 HJ66⟩, ⟨by (try simp only [hl7_2]); (try simp only [hl9_2]); (try simp only [hl9_42]); (with_reducible repeat (first | apply Kd.R_alloc | apply Kd.R_drewN | apply Kd.R_drew)); exact Kd.R_mono HO_7.out (fun _ hk => hk.2)⟩, ⟨by (try simp only [hl7_2]); (try simp only [hl9_2]); (try simp only [hl9_42]); exact kR HO_9⟩, ⟨by (try simp only [hl7_2]); (try simp only [hl9_2]); (try simp only [hl9_42]); exact kR HO188⟩, ⟨by (try simp only [hl7_2]); (try simp only [hl9_2]); (try simp only [hl9_42]); exact bp BK162⟩, ⟨by (try simp only [hl7_2]); (try simp only [hl9_2]); (try simp only [hl9_42]); exact bp BK163⟩, ⟨by (try simp only [hl7_2]); (try simp only [hl9_2]); (try simp only [hl9_42]); exact bp BK177⟩, ⟨by (try simp only [hl7_2]); (try simp only [hl9_2]); (try simp only [hl9_42]); exact bp BK178⟩, ⟨bw HB⟩⟩
  have H' := am H
  clear H
  go_wp2
  go_meet
  case rel => exact ⟨_, (y183), H', ⟨lk4 HK1 HK2 HJ42 HJ66⟩, ⟨by (try simp only [hl7_2]); (try simp only [hl9_2]); (try simp only [hl9_42]); exact kR HO_7⟩, ⟨by (try simp only [hl7_2]); (try simp only [hl9_2]); (try simp only [hl9_42]); exact kR HO_9⟩, ⟨by (try simp only [hl7_2]); (try simp only [hl9_2]); (try simp only [hl9_42]); exact kR HO_15⟩, ⟨by (try simp only [hl7_2]); (try simp only [hl9_2]); (try simp only [hl9_42]); exact bp BK162⟩, ⟨by (try simp only [hl7_2]); (try simp only [hl9_2]); (try simp only [hl9_42]); exact bp BK163⟩, ⟨by (try simp only [hl7_2]); (try simp only [hl9_2]); (try simp only [hl9_42]); exact bp BK177⟩, ⟨by (try simp only [hl7_2]); (try simp only [hl9_2]); (try simp only [hl9_42]); exact bp BK178⟩, ⟨bw HB⟩⟩
 clear HC79
 (try clear c8); (try clear c80); (try clear c81)
 obtain ⟨kq, x15_78, HA, HJ78, HO_7, HO_9, HO_15, BK162, BK163, BK177, BK178, HB⟩ := hcut
 rcases kq with _ | kj78
 ·exact absurd HA.out (by simp [spec_l04Heights.j4])
 have H := HA.out
 clear HA
 simp only [spec_l04Heights.j4] at H
 have HC83 := am H
 clear H
 go_upto_region 23 with (fail)
 go_cut [103] (fun v103 wc => ∃ (kq : Nat) (x103_82 : Bool), v103 = .bool x103_82 ∧ Aside0 (spec_l04Heights.j5 kq a1 ((rd_T100 l0_0 a1).f2) x7_2 y175 (wrap64 ((wrap64 ((rd x7_2 t174) - t179)) + t181)) x15_78 x103_82 l0_0 ((rd_T102 ((rd_T100 l0_0 a1).f2) t174).f0) ((rd_T102 ((rd_T100 l0_0 a1).f2) t174).f1) a1 t174 5 = some (r1, r2, r3, r4)) ∧ Aside0 (kq ≤ kj78) ∧ Aside0 (Kd.R (Kd.int .i64) 2 wc w.heap.size (fun k_ => some k_ ≠ (u15 : Value).ownBlock) (.slice (some ⟨go20, 0, none⟩) x7_2.length co25) x7_2) ∧ Aside0 (Kd.R Kd.bool 4 wc w.heap.size (fun _ => True) (.slice (some ⟨go24, 0, none⟩) y175.length co24) y175) ∧ Aside0 (Kd.R (Kd.int .i64) 2 wc w.heap.size (fun k_ => some k_ ≠ ((.slice (some ⟨go20, 0, none⟩) x7_2.length co25) : Value).ownBlock) u15 x15_78) ∧ Aside0 (wc.heap[gb162]? = some (.cells #[(.slice (some ad164) l0_0.length c0_0)] 30 (0, 0))) ∧ Aside0 (wc.heap[gb163]? = some (.cells #[.int .i64 x164000_2, .int .i64 x164001_2, .int .i64 x164002_2] 84 (0, 0))) ∧ Aside0 (wc.heap[gb177]? = some (.cells #[.int .i64 ((rd_T102 ((rd_T100 l0_0 a1).f2) t174).f0), .int .i64 ((rd_T102 ((rd_T100 l0_0 a1).f2) t174).f1)] 102 (0, 0))) ∧ Aside0 (wc.heap[gb178]? = some (.cells #[.int .i64 a1, .int .i64 t174, .int .i64 5] 84 (0, 0))) ∧ Aside0 (Below w.heap.size w wc))
 case first =>
  have H := HC83.out
  clear HC83
  refine qE H ?_ ?_ <;> clear H
  ·intro c84b0 c84b1 H
   (first | rw [c84b0] | (simp only [i64_w, i32_w]; rw [c84b0]) | skip)
   have H' := am H
   clear H
   have hnb85 := NB177_162.out
   have hnc85 := NB162_177.out
   have hnb86 := NB177_163.out
   have hnc86 := NB163_177.out
   have hnb87 := NB177_178.out
   have hnc87 := NB178_177.out
   have hcz88 := bK wc BK177
   have hfz88 := bF BK177
   go_wp2
   go_meet
   case rel => exact ⟨_, (true), dr, H', ⟨lk5 HK1 HK2 HJ42 HJ66 HJ78⟩, ⟨by (try simp only [hl7_2]); (try simp only [hl9_2]); (try simp only [hl9_42]); exact kR HO_7⟩, ⟨by (try simp only [hl7_2]); (try simp only [hl9_2]); (try simp only [hl9_42]); exact kR HO_9⟩, ⟨by (try simp only [hl7_2]); (try simp only [hl9_2]); (try simp only [hl9_42]); exact kR HO_15⟩, ⟨by (try simp only [hl7_2]); (try simp only [hl9_2]); (try simp only [hl9_42]); exact bp BK162⟩, ⟨by (try simp only [hl7_2]); (try simp only [hl9_2]); (try simp only [hl9_42]); exact bp BK163⟩, ⟨by (try simp only [hl7_2]); (try simp only [hl9_2]); (try simp only [hl9_42]); exact bp BK177⟩, ⟨by (try simp only [hl7_2]); (try simp only [hl9_2]); (try simp only [hl9_42]); exact bp BK178⟩, ⟨bw HB⟩⟩
  intro c84 c84b0 c84b1 H
  (first | rw [c84b0] | (simp only [i64_w, i32_w]; rw [c84b0]) | skip)
  have H' := am H
  clear H
  have hnb89 := NB177_162.out
  have hnc89 := NB162_177.out
  have hnb90 := NB177_163.out
  have hnc90 := NB163_177.out
  have hnb91 := NB177_178.out
  have hnc91 := NB178_177.out
  have hcz92 := bK wc BK177
  have hfz92 := bF BK177
  go_wp2
  go_meet
  case rel => exact ⟨_, ((((rd_T102 ((rd_T100 l0_0 a1).f2) t174).f0) == 31)), dr, H', ⟨lk5 HK1 HK2 HJ42 HJ66 HJ78⟩, ⟨by (try simp only [hl7_2]); (try simp only [hl9_2]); (try simp only [hl9_42]); exact kR HO_7⟩, ⟨by (try simp only [hl7_2]); (try simp only [hl9_2]); (try simp only [hl9_42]); exact kR HO_9⟩, ⟨by (try simp only [hl7_2]); (try simp only [hl9_2]); (try simp only [hl9_42]); exact kR HO_15⟩, ⟨by (try simp only [hl7_2]); (try simp only [hl9_2]); (try simp only [hl9_42]); exact bp BK162⟩, ⟨by (try simp only [hl7_2]); (try simp only [hl9_2]); (try simp only [hl9_42]); exact bp BK163⟩, ⟨by (try simp only [hl7_2]); (try simp only [hl9_2]); (try simp only [hl9_42]); exact bp BK177⟩, ⟨by (try simp only [hl7_2]); (try simp only [hl9_2]); (try simp only [hl9_42]); exact bp BK178⟩, ⟨bw HB⟩⟩
 clear HC83
 (try clear c84); (try clear c84b0); (try clear c84b1); (try clear c85); (try clear c86); (try clear c87); (try clear c89); (try clear c90); (try clear c91); (try clear hcz88); (try clear hcz92); (try clear hfz88); (try clear hfz92)
 obtain ⟨kq, x103_82, rfl, HA, HJ82, HO_7, HO_9, HO_15, BK162, BK163, BK177, BK178, HB⟩ := hcut
 rcases kq with _ | kj82
 ·exact absurd HA.out (by simp [spec_l04Heights.j5])
 have H := HA.out
 clear HA
 simp only [spec_l04Heights.j5] at H
 have HC93 := am H
 clear H
 go_upto_if 103 with (fail)
 go_cut [15] (fun v15 wc => ∃ (kq : Nat) (x15_92 : List Int), Aside0 (spec_l04Heights.j6 kq a1 ((rd_T100 l0_0 a1).f2) x7_2 y175 (wrap64 ((wrap64 ((rd x7_2 t174) - t179)) + t181)) x15_92 l0_0 a1 t174 5 = some (r1, r2, r3, r4)) ∧ Aside0 (kq ≤ kj82) ∧ Aside0 (Kd.R (Kd.int .i64) 2 wc w.heap.size (fun k_ => some k_ ≠ (v15 : Value).ownBlock) (.slice (some ⟨go20, 0, none⟩) x7_2.length co25) x7_2) ∧ Aside0 (Kd.R Kd.bool 4 wc w.heap.size (fun _ => True) (.slice (some ⟨go24, 0, none⟩) y175.length co24) y175) ∧ Aside0 (Kd.R (Kd.int .i64) 2 wc w.heap.size (fun k_ => some k_ ≠ ((.slice (some ⟨go20, 0, none⟩) x7_2.length co25) : Value).ownBlock) v15 x15_92) ∧ Aside0 (wc.heap[gb162]? = some (.cells #[(.slice (some ad164) l0_0.length c0_0)] 30 (0, 0))) ∧ Aside0 (wc.heap[gb163]? = some (.cells #[.int .i64 x164000_2, .int .i64 x164001_2, .int .i64 x164002_2] 84 (0, 0))) ∧ Aside0 (wc.heap[gb177]? = some (.cells #[.int .i64 ((rd_T102 ((rd_T100 l0_0 a1).f2) t174).f0), .int .i64 ((rd_T102 ((rd_T100 l0_0 a1).f2) t174).f1)] 102 (0, 0))) ∧ Aside0 (wc.heap[gb178]? = some (.cells #[.int .i64 a1, .int .i64 t174, .int .i64 5] 84 (0, 0))) ∧ Aside0 (Below w.heap.size w wc))
 case first =>
  have H := HC93.out
  clear HC93
  refine qT H ?_ ?_ <;> clear H <;> intro c94 H <;> subst c94
  ·refine iN H ?_; clear H; intro c95 H
   have LMc95 := am c95
   clear c95
   obtain ⟨y189, hy189⟩ : ∃ y_ : List Int, y_ = (x15_78 ++ [((rd_T102 ((rd_T100 l0_0 a1).f2) t174).f1)]) := ⟨_, rfl⟩
   replace H : (spec_l04Heights.j6 kj82 a1 ((rd_T100 l0_0 a1).f2) x7_2 y175 (wrap64 ((wrap64 ((rd x7_2 t174) - t179)) + t181)) y189 l0_0 a1 t174 5) = some (r1, r2, r3, r4) := by first | (rw [hy189]; with_reducible exact H) | (have H2_ := (Option.bind_some _ _).symm.trans H; rw [hy189]; with_reducible exact H2_) | (have H2_ := (Option.bind_some _ _).symm.trans H; with_reducible exact H2_) | with_reducible exact H | (rw [hy189]; exact H) | exact H
   have Ny189 := am hy189
   clear hy189
   have H' := am H
   clear H
   have hnb96 := NB177_162.out
   have hnc96 := NB162_177.out
   have hnb97 := NB177_163.out
   have hnc97 := NB163_177.out
   have hnb98 := NB177_178.out
   have hnc98 := NB178_177.out
   have hcz99 := bK wc BK177
   have hfz99 := bF BK177
   go_wp2_with (first | ((with_reducible refine gate_builtin (b := .append) (xs := #[.tmp 104, .tmp 107]) rfl ?_); at_builtin; refine Kd.R_append (Kd.int .i64) (w0 := w) w.heap.size rfl (.tmp 104) (.tmp 107) 26 2 (.int .i64 0) 8 rfl Try.underlying26 info2 rfl (by decide) (by omega) u15 x15_78 ((rd_T102 ((rd_T100 l0_0 a1).f2) t174).f1) [.int .i64 ((rd_T102 ((rd_T100 l0_0 a1).f2) t174).f1)] (fun k_ => some k_ ≠ (.slice (some ⟨go20, 0, none⟩) x7_2.length co25 : Value).ownBlock) (fun _ => False) rfl rfl ?aP (fun _ hk => hk.elim) ?aF ?aO ?aB ?aS ?aL ?_; (case aP => exact rfl); (case aB => exact (bw HB)); (case aF => exact (fun k_ hk => Kd.fresh' (Kd.R_lt (kR HO_7)) k_ hk)); (case aO => exact (kR HO_15)); (case aS => exact (below_size (bw HB))); (case aL => have := LMc95.out; omega); intro v190 w100 ho hb hg hat; rw [← Ny189.out] at ho; replace HO_7 := am (Kd.R_after (ok := (fun _ => True)) (by (with_reducible repeat (first | apply Kd.R_alloc | apply Kd.R_drewN | apply Kd.R_drew)); exact Kd.R_mono HO_7.out (fun _ hk => ⟨trivial, hk⟩)) hg hat); replace HO_9 := am (Kd.R_over' (kR HO_9) (Kd.R_typed (kR HO_15)) (by decide) hg); replace BK162 := bg BK162 hg (Kd.R_ne HO_15.out BK162.out (by decide)); replace BK163 := bg BK163 hg (Kd.R_ne HO_15.out BK163.out (by decide)); replace BK177 := bg BK177 hg (Kd.R_ne HO_15.out BK177.out (by decide)); replace BK178 := bg BK178 hg (Kd.R_ne HO_15.out BK178.out (by decide)); replace HB := am (hb); have HO191 := am (ho); clear HO_15; clear ho hb hg hat))
   go_meet
   case rel => exact ⟨_, (y189), H', ⟨lk6 HK1 HK2 HJ42 HJ66 HJ78 HJ82⟩, ⟨by (try simp only [hl7_2]); (try simp only [hl9_2]); (try simp only [hl9_42]); (with_reducible repeat (first | apply Kd.R_alloc | apply Kd.R_drewN | apply Kd.R_drew)); exact Kd.R_mono HO_7.out (fun _ hk => hk.2)⟩, ⟨by (try simp only [hl7_2]); (try simp only [hl9_2]); (try simp only [hl9_42]); exact kR HO_9⟩, ⟨by (try simp only [hl7_2]); (try simp only [hl9_2]); (try simp only [hl9_42]); exact kR HO191⟩, ⟨by (try simp only [hl7_2]); (try simp only [hl9_2]); (try simp only [hl9_42]); exact bp BK162⟩, ⟨by (try simp only [hl7_2]); (try simp only [hl9_2]); (try simp only [hl9_42]); exact bp BK163⟩, ⟨by (try simp only [hl7_2]); (try simp only [hl9_2]); (try simp only [hl9_42]); exact bp BK177⟩, ⟨by (try simp only [hl7_2]); (try simp only [hl9_2]); (try simp only [hl9_42]); exact bp BK178⟩, ⟨bw HB⟩⟩
  have H' := am H
  clear H
  go_wp2
  go_meet
  case rel => exact ⟨_, (x15_78), H', ⟨lk6 HK1 HK2 HJ42 HJ66 HJ78 HJ82⟩, ⟨by (try simp only [hl7_2]); (try simp only [hl9_2]); (try simp only [hl9_42]); exact kR HO_7⟩, ⟨by (try simp only [hl7_2]); (try simp only [hl9_2]); (try simp only [hl9_42]); exact kR HO_9⟩, ⟨by (try simp only [hl7_2]); (try simp only [hl9_2]); (try simp only [hl9_42]); exact kR HO_15⟩, ⟨by (try simp only [hl7_2]); (try simp only [hl9_2]); (try simp only [hl9_42]); exact bp BK162⟩, ⟨by (try simp only [hl7_2]); (try simp only [hl9_2]); (try simp only [hl9_42]); exact bp BK163⟩, ⟨by (try simp only [hl7_2]); (try simp only [hl9_2]); (try simp only [hl9_42]); exact bp BK177⟩, ⟨by (try simp only [hl7_2]); (try simp only [hl9_2]); (try simp only [hl9_42]); exact bp BK178⟩, ⟨bw HB⟩⟩
 clear HC93
 (try clear c94); (try clear c95); (try clear c96); (try clear c97); (try clear c98); (try clear hcz99); (try clear hfz99)
 obtain ⟨kq, x15_92, HA, HJ92, HO_7, HO_9, HO_15, BK162, BK163, BK177, BK178, HB⟩ := hcut
 rcases kq with _ | kj92
 ·exact absurd HA.out (by simp [spec_l04Heights.j6])
 have H := HA.out
 clear HA
 simp only [spec_l04Heights.j6] at H
 have H' := am H
 clear H
 go_wp2
 go_loopg [16] kj92 (fun kq v16 w' => ∃ (x7_8 : List Int) (x9_8 : List Bool) (x16_8 : Int) (x164000_8 : Int) (x164001_8 : Int) (x164002_8 : Int) (x179002_8 : Int), v16 = .int .i64 x16_8 ∧ Aside0 (spec_l04Heights.l2 kq a1 ((rd_T100 l0_0 a1).f2) x7_8 x9_8 (wrap64 ((wrap64 ((rd x7_2 t174) - t179)) + t181)) x15_92 x16_8 l0_0 a1 t174 x179002_8 = some (r1, r2, r3, r4)) ∧ Aside0 (kq ≤ kj92) ∧ Aside0 (Kd.R (Kd.int .i64) 2 w' w.heap.size (fun k_ => some k_ ≠ (u15 : Value).ownBlock) (.slice (some ⟨go20, 0, none⟩) x7_2.length co25) x7_8) ∧ Aside0 (Kd.R Kd.bool 4 w' w.heap.size (fun _ => True) (.slice (some ⟨go24, 0, none⟩) y175.length co24) x9_8) ∧ Aside0 (Kd.R (Kd.int .i64) 2 w' w.heap.size (fun k_ => some k_ ≠ ((.slice (some ⟨go20, 0, none⟩) x7_2.length co25) : Value).ownBlock) u15 x15_92) ∧ Aside0 (w'.heap[gb162]? = some (.cells #[(.slice (some ad164) l0_0.length c0_0)] 30 (0, 0))) ∧ Aside0 (w'.heap[gb163]? = some (.cells #[.int .i64 x164000_8, .int .i64 x164001_8, .int .i64 x164002_8] 84 (0, 0))) ∧ Aside0 (w'.heap[gb177]? = some (.cells #[.int .i64 ((rd_T102 ((rd_T100 l0_0 a1).f2) t174).f0), .int .i64 ((rd_T102 ((rd_T100 l0_0 a1).f2) t174).f1)] 102 (0, 0))) ∧ Aside0 (w'.heap[gb178]? = some (.cells #[.int .i64 a1, .int .i64 t174, .int .i64 x179002_8] 84 (0, 0))) ∧ Aside0 (Below w.heap.size w w'))
 case atStart => exact ⟨(x7_2), (y175), (0), (x164000_2), (x164001_2), (x164002_2), (5), dr, H', ⟨Nat.le_refl _⟩, ⟨by (try simp only [hl7_2]); (try simp only [hl9_2]); (try simp only [hl9_42]); exact kR HO_7⟩, ⟨by (try simp only [hl7_2]); (try simp only [hl9_2]); (try simp only [hl9_42]); exact kR HO_9⟩, ⟨by (try simp only [hl7_2]); (try simp only [hl9_2]); (try simp only [hl9_42]); exact kR HO_15⟩, ⟨by (try simp only [hl7_2]); (try simp only [hl9_2]); (try simp only [hl9_42]); exact bp BK162⟩, ⟨by (try simp only [hl7_2]); (try simp only [hl9_2]); (try simp only [hl9_42]); exact bp BK163⟩, ⟨by (try simp only [hl7_2]); (try simp only [hl9_2]); (try simp only [hl9_42]); exact bp BK177⟩, ⟨by (try simp only [hl7_2]); (try simp only [hl9_2]); (try simp only [hl9_42]); exact bp BK178⟩, ⟨bw HB⟩⟩
 clear H'
 obtain ⟨x7_8, x9_8, x16_8, x164000_8, x164001_8, x164002_8, x179002_8, rfl, HA, HK8, HO_7, HO_9, HO_15, BK162, BK163, BK177, BK178, HB⟩ := hrel
 have hl7_8 := (Kd.R_reads' HO_7.out).1
 rw [hl7_8] at HO_7
 (try simp only [hl7_8])
 (try simp only [hl7_8] at BK162)
 (try simp only [hl7_8] at BK163)
 (try simp only [hl7_8] at BK177)
 (try simp only [hl7_8] at BK178)
 (try simp only [hl7_8] at HO_9)
 (try simp only [hl7_8] at HO_15)
 have hl9_8 := (Kd.R_reads' HO_9.out).1
 rw [hl9_8] at HO_9
 (try simp only [hl9_8])
 (try simp only [hl9_8] at BK162)
 (try simp only [hl9_8] at BK163)
 (try simp only [hl9_8] at BK177)
 (try simp only [hl9_8] at BK178)
 (try simp only [hl9_8] at HO_7)
 (try simp only [hl9_8] at HO_15)
 rcases gk with _ | k8
 ·exact absurd HA.out (by simp [spec_l04Heights.l2])
 have H := HA.out
 clear HA
 simp only [spec_l04Heights.l2] at H
 by_cases c101 : x16_8 < (x15_92.length : Int)
 ·rw [if_pos c101] at H
  have c101b0 := decide_eq_true c101
  (try (have c101b0hl9_42 := c101b0; rw [hl9_42] at c101b0hl9_42))
  clear c101
  refine iN H ?_; clear H; intro c102 H
  have c102b0 := decide_eq_true c102
  clear c102
  by_cases c103 : (rd x15_92 x16_8) ≥ (((rd_T100 l0_0 a1).f2).length : Int)
  ·rw [if_pos c103] at H
   have c103b0 : decide ((((rd_T100 l0_0 a1).f2).length : Int) ≤ (rd x15_92 x16_8)) = true := decide_eq_true c103
   (try (have c103b0hl9_42 := c103b0; rw [hl9_42] at c103b0hl9_42))
   clear c103
   simp only [Option.some.injEq, Prod.mk.injEq] at H
   obtain ⟨rfl, rfl, rfl, rfl⟩ := H
   obtain ⟨Ao104, co104, eo104⟩ := Kd.R_slice HO_15.out
   subst eo104
   have p192 : 0 ≤ (x16_8 : Int) := of_decide_eq_true as1
   have q192 : x16_8 < (x15_92.length : Int) := of_decide_eq_true as1
   obtain ⟨ad192, e192, hx192_0⟩ := Kd.at_int (Kd.R_reads' HO_15.out).2.2 x16_8 p192 q192
   cases e192
   replace p192 := eq_true p192
   replace q192 := eq_true q192
   have hnb105 := NB178_162.out
   have hnc105 := NB162_178.out
   have hnb106 := NB178_163.out
   have hnc106 := NB163_178.out
   have hnb107 := NB178_177.out
   have hnc107 := NB177_178.out
   have hcz108 := bK wr BK178
   have hfz108 := bF BK178
   try go_wp2
   replace HO_7 : Aside0 (Kd.R (Kd.int .i64) 2 (wr.setCell ⟨gb178, 2, none⟩ (.int .i64 6)) w.heap.size (fun k_ => some k_ ≠ (.slice (some ad192) x15_92.length co104 : Value).ownBlock) (.slice (some ⟨go20, 0, none⟩) x7_8.length co25) x7_8) := ⟨by (with_reducible repeat (first | apply Kd.R_alloc | apply Kd.R_drewN | apply Kd.R_drew)); exact Kd.R_mono (Kd.R_far (p := ⟨gb178, 2, none⟩) (Kd.R_types HO_7.out BK178.out (by decide)) (fun _ hk => hk.2) (.int .i64 6)) (fun _ hk => hk.1)⟩
   replace HO_9 : Aside0 (Kd.R Kd.bool 4 (wr.setCell ⟨gb178, 2, none⟩ (.int .i64 6)) w.heap.size (fun _ => True) (.slice (some ⟨go24, 0, none⟩) x9_8.length co24) x9_8) := ⟨by (with_reducible repeat (first | apply Kd.R_alloc | apply Kd.R_drewN | apply Kd.R_drew)); exact Kd.R_mono (Kd.R_far (p := ⟨gb178, 2, none⟩) (Kd.R_types HO_9.out BK178.out (by decide)) (fun _ hk => hk.2) (.int .i64 6)) (fun _ hk => trivial)⟩
   replace HO_15 : Aside0 (Kd.R (Kd.int .i64) 2 (wr.setCell ⟨gb178, 2, none⟩ (.int .i64 6)) w.heap.size (fun k_ => some k_ ≠ (.slice (some ⟨go20, 0, none⟩) x7_8.length co25 : Value).ownBlock) (.slice (some ad192) x15_92.length co104) x15_92) := ⟨by (with_reducible repeat (first | apply Kd.R_alloc | apply Kd.R_drewN | apply Kd.R_drew)); exact Kd.R_mono (Kd.R_far (p := ⟨gb178, 2, none⟩) (Kd.R_types HO_15.out BK178.out (by decide)) (fun _ hk => hk.2) (.int .i64 6)) (fun _ hk => hk.1)⟩
   replace BK162 : Aside0 ((wr.setCell ⟨gb178, 2, none⟩ (.int .i64 6)).heap[gb162]? = some (.cells #[.slice (some ad164) l0_0.length c0_0] 30 (0, 0))) := ⟨by (with_reducible repeat (first | apply dN | apply dW | apply dA)); refine blk_far ?_ NB162_178.out _; exact bp BK162⟩
   replace BK163 : Aside0 ((wr.setCell ⟨gb178, 2, none⟩ (.int .i64 6)).heap[gb163]? = some (.cells #[.int .i64 x164000_8, .int .i64 x164001_8, .int .i64 x164002_8] 84 (0, 0))) := ⟨by (with_reducible repeat (first | apply dN | apply dW | apply dA)); refine blk_far ?_ NB163_178.out _; exact bp BK163⟩
   replace BK177 : Aside0 ((wr.setCell ⟨gb178, 2, none⟩ (.int .i64 6)).heap[gb177]? = some (.cells #[.int .i64 ((rd_T102 ((rd_T100 l0_0 a1).f2) t174).f0), .int .i64 ((rd_T102 ((rd_T100 l0_0 a1).f2) t174).f1)] 102 (0, 0))) := ⟨by (with_reducible repeat (first | apply dN | apply dW | apply dA)); refine blk_far ?_ NB177_178.out _; exact bp BK177⟩
   replace BK178 : Aside0 ((wr.setCell ⟨gb178, 2, none⟩ (.int .i64 6)).heap[gb178]? = some (.cells #[.int .i64 a1, .int .i64 t174, .int .i64 6] 84 (0, 0))) := ⟨by (with_reducible repeat (first | apply dN | apply dW | apply dA)); refine blk_put (cs := #[.int .i64 a1, .int .i64 t174, .int .i64 x179002_8]) ?_ 2 _ rfl; exact bp BK178⟩
   replace HB : Aside0 (Below w.heap.size w (wr.setCell ⟨gb178, 2, none⟩ (.int .i64 6))) := ⟨bw HB⟩
   generalize (wr.setCell ⟨gb178, 2, none⟩ (.int .i64 6)) = w109 at HO_7 HO_9 HO_15 BK162 BK163 BK177 BK178 HB ⊢
   replace HO_7 := am (Kd.R_drew HO_7.out)
   replace HO_9 := am (Kd.R_drew HO_9.out)
   replace HO_15 := am (Kd.R_drew HO_15.out)
   replace BK162 := am (blk_drew BK162.out)
   replace BK163 := am (blk_drew BK163.out)
   replace BK177 := am (blk_drew BK177.out)
   replace BK178 := am (blk_drew BK178.out)
   replace HB := am (below_drew1 HB.out)
   refine start_ (n := 4) (S := fun w' => w'.cell? ⟨gb178, 0, none⟩ = some (.int .i64 a1) ∧ w'.cell? ⟨gb178, 1, none⟩ = some (.int .i64 t174) ∧ w'.cell? ⟨gb178, 2, none⟩ = some (.int .i64 6)) (ds := []) (bv 4 0) (by kernel_rfl) rfl (by kernel_rfl) ⟨bc BK178 0, bc BK178 1, bc BK178 2⟩ (fun hHeld => ?_)
   generalize w109.drew = w110 at HO_7 HO_9 HO_15 BK162 BK163 BK177 BK178 HB hHeld ⊢
   refine pure_ (i := 0) (N := some 123) (v := ?_) (a' := ?_) (bv 4 1) rfl rfl (by kernel_rfl) (fun _ _ _ h => h) (Or.inl ⟨by rfl, ?_⟩) ?_ ?_
   rotate_left
   ·intro w'
    go_simp
    with_reducible rfl
   rotate_left
   ·simp only [Act.put, sa, sz, ss, i64_w, i32_w]
    rfl
   refine pure_ (i := 2) (N := some 4) (v := ?_) (a' := ?_) (bv 4 5) rfl rfl (by kernel_rfl) (fun _ _ _ h => h) (Or.inl ⟨by rfl, ?_⟩) ?_ ?_
   rotate_left
   ·intro w'
    go_simp
    with_reducible rfl
   rotate_left
   ·simp only [Act.put, sa, sz, ss, i64_w, i32_w]
    rfl
   refine take_ (i := 1) (N := some 124) (v := ?_) (a' := ?_) (bv 4 7) rfl rfl (by kernel_rfl) (fun _ _ _ h => h) (Or.inl ⟨by rfl, ?_⟩) hHeld ?_ ?_
   rotate_left
   ·rintro w' ⟨s0, s1, s2⟩
    go_simp
    with_reducible rfl
   rotate_left
   ·simp only [Act.put, sa, sz, ss, i64_w, i32_w]
    rfl
   refine one_ (i := 3) (N := none) (bv 4 15) rfl rfl (by kernel_rfl) (by decide) (fun K hK => ?_)
   have hs111 := bk w110 BK163 0
   have hfs111 := bf BK163 0
   have hns111_0 := NB162_163.out
   have hns111_2 := NB177_163.out
   have hns111_3 := NB178_163.out
   have hms111_0 := NB163_162.out
   have hms111_2 := NB163_177.out
   have hms111_3 := NB163_178.out
   have hs112 := bk w110 BK163 1
   have hfs112 := bf BK163 1
   have hns112_0 := NB162_163.out
   have hns112_2 := NB177_163.out
   have hns112_3 := NB178_163.out
   have hms112_0 := NB163_162.out
   have hms112_2 := NB163_177.out
   have hms112_3 := NB163_178.out
   have hs113 := bk w110 BK163 2
   have hfs113 := bf BK163 2
   have hns113_0 := NB162_163.out
   have hns113_2 := NB177_163.out
   have hns113_3 := NB178_163.out
   have hms113_0 := NB163_162.out
   have hms113_2 := NB163_177.out
   have hms113_3 := NB163_178.out
   refine skip_ (w1 := ?_) (by rfl) rfl ?_ ?_
   rotate_left
   ·go_simp
    rfl
   refine hK.out _ _ ⟨((cell_far (p := ⟨gb163, _, none⟩) NB178_163.out _).trans (((cell_far (p := ⟨gb163, _, none⟩) NB178_163.out _).trans (((cell_far (p := ⟨gb163, _, none⟩) NB178_163.out _).trans (hHeld.1)))))), ((cell_far (p := ⟨gb163, _, none⟩) NB178_163.out _).trans (((cell_far (p := ⟨gb163, _, none⟩) NB178_163.out _).trans (((cell_far (p := ⟨gb163, _, none⟩) NB178_163.out _).trans (hHeld.2.1)))))), ((cell_far (p := ⟨gb163, _, none⟩) NB178_163.out _).trans (((cell_far (p := ⟨gb163, _, none⟩) NB178_163.out _).trans (((cell_far (p := ⟨gb163, _, none⟩) NB178_163.out _).trans (hHeld.2.2))))))⟩ (fun hHeld => ?_)
   clear hK K
   refine done_ (by kernel_rfl) ?_
   try go_wp2
   refine bodyPost_ret (results_tc rfl _ _ gb163 84 #[.int .i64 a1, .int .i64 t174, .int .i64 6] (0, 0) _ rfl (bt BK163) Try.underlying84 rfl (by kernel_rfl)) rfl ?_
   exact ⟨_, er, by (with_reducible repeat (first | apply Kd.R_alloc | apply Kd.R_drewN | apply Kd.R_drew)); exact Kd.R_mono (Kd.R_far (p := ⟨gb163, 2, none⟩) (Kd.R_far (p := ⟨gb163, 1, none⟩) (Kd.R_far (p := ⟨gb163, 0, none⟩) (Kd.R_types HO_7.out BK163.out (by decide)) (fun _ hk => hk.2) (.int .i64 a1)) (fun _ hk => hk.2) (.int .i64 t174)) (fun _ hk => hk.2) (.int .i64 6)) (fun _ hk => trivial), bw HB⟩
  rw [if_neg c103] at H
  have c103b0 : decide ((((rd_T100 l0_0 a1).f2).length : Int) ≤ (rd x15_92 x16_8)) = false := decide_eq_false c103
  (try (have c103b0hl9_42 := c103b0; rw [hl9_42] at c103b0hl9_42))
  clear c103
  have HC114 := am H
  clear H
  obtain ⟨Ao115, co115, eo115⟩ := Kd.R_slice HO_15.out
  subst eo115
  have p192 : 0 ≤ (x16_8 : Int) := of_decide_eq_true as1
  have q192 : x16_8 < (x15_92.length : Int) := of_decide_eq_true as1
  obtain ⟨ad192, e192, hx192_0⟩ := Kd.at_int (Kd.R_reads' HO_15.out).2.2 x16_8 p192 q192
  cases e192
  replace p192 := eq_true p192
  replace q192 := eq_true q192
  go_upto_region 31 with (fail)
  go_cut [143] (fun v143 wc => ∃ (kq : Nat) (x143_113 : Bool), v143 = .bool x143_113 ∧ Aside0 (spec_l04Heights.j8 kq a1 ((rd_T100 l0_0 a1).f2) x7_8 x9_8 (wrap64 ((wrap64 ((rd x7_2 t174) - t179)) + t181)) x15_92 x16_8 x143_113 l0_0 a1 t174 x179002_8 = some (r1, r2, r3, r4)) ∧ Aside0 (kq ≤ k8) ∧ Aside0 (Kd.R (Kd.int .i64) 2 wc w.heap.size (fun k_ => some k_ ≠ ((.slice (some ad192) x15_92.length co115) : Value).ownBlock) (.slice (some ⟨go20, 0, none⟩) x7_8.length co25) x7_8) ∧ Aside0 (Kd.R Kd.bool 4 wc w.heap.size (fun _ => True) (.slice (some ⟨go24, 0, none⟩) x9_8.length co24) x9_8) ∧ Aside0 (Kd.R (Kd.int .i64) 2 wc w.heap.size (fun k_ => some k_ ≠ ((.slice (some ⟨go20, 0, none⟩) x7_8.length co25) : Value).ownBlock) (.slice (some ad192) x15_92.length co115) x15_92) ∧ Aside0 (wc.heap[gb162]? = some (.cells #[(.slice (some ad164) l0_0.length c0_0)] 30 (0, 0))) ∧ Aside0 (wc.heap[gb163]? = some (.cells #[.int .i64 x164000_8, .int .i64 x164001_8, .int .i64 x164002_8] 84 (0, 0))) ∧ Aside0 (wc.heap[gb177]? = some (.cells #[.int .i64 ((rd_T102 ((rd_T100 l0_0 a1).f2) t174).f0), .int .i64 ((rd_T102 ((rd_T100 l0_0 a1).f2) t174).f1)] 102 (0, 0))) ∧ Aside0 (wc.heap[gb178]? = some (.cells #[.int .i64 a1, .int .i64 t174, .int .i64 x179002_8] 84 (0, 0))) ∧ Aside0 (Below w.heap.size w wc))
  case first =>
   have H := HC114.out
   clear HC114
   refine iM H ?_; clear H; intro c116b0 H
   (first | rw [c116b0] | (simp only [i64_w, i32_w]; rw [c116b0]) | skip)
   refine iM H ?_; clear H; intro c117b0 H
   (try (have c117b0hl9_42 := c117b0; rw [hl9_42] at c117b0hl9_42))
   (try (have c117b0hl7_8 := c117b0; rw [hl7_8] at c117b0hl7_8))
   refine qL H ?_ ?_ <;> clear H <;> intro c118b0 H
   ·have H' := am H
    clear H
    have p193 : 0 ≤ (x16_8 : Int) := of_decide_eq_true as1
    have q193 : x16_8 < (x15_92.length : Int) := of_decide_eq_true as1
    obtain ⟨ad193, e193, hx193_0⟩ := Kd.at_int (Kd.R_reads' HO_15.out).2.2 x16_8 p193 q193
    obtain rfl : ad192 = ad193 := (by injection e193)
    replace p193 := eq_true p193
    replace q193 := eq_true q193
    obtain ⟨p194, q194, hx194_0⟩ := aR HO_7 (rd x15_92 x16_8)
    have p195 : 0 ≤ (x16_8 : Int) := of_decide_eq_true as1
    have q195 : x16_8 < (x15_92.length : Int) := of_decide_eq_true as1
    obtain ⟨ad195, e195, hx195_0⟩ := Kd.at_int (Kd.R_reads' HO_15.out).2.2 x16_8 p195 q195
    obtain rfl : ad192 = ad195 := (by injection e195)
    replace p195 := eq_true p195
    replace q195 := eq_true q195
    obtain ⟨p196, q196, hx196_0⟩ := aR HO_7 (rd x15_92 x16_8)
    go_wp2
    go_meet
    case rel => exact ⟨_, (((rd x7_8 (rd x15_92 x16_8)) != (wrap64 ((wrap64 ((rd x7_2 t174) - t179)) + t181)))), dr, H', ⟨by have := HK1.out; have := HK2.out; have := HJ42.out; have := HJ66.out; have := HJ78.out; have := HJ82.out; have := HJ92.out; have := HK8.out; first | omega | exact Nat.le_refl _⟩, ⟨by (try simp only [hl7_2]); (try simp only [hl9_2]); (try simp only [hl9_42]); (try simp only [hl7_8]); (try simp only [hl9_8]); exact kR HO_7⟩, ⟨by (try simp only [hl7_2]); (try simp only [hl9_2]); (try simp only [hl9_42]); (try simp only [hl7_8]); (try simp only [hl9_8]); exact kR HO_9⟩, ⟨by (try simp only [hl7_2]); (try simp only [hl9_2]); (try simp only [hl9_42]); (try simp only [hl7_8]); (try simp only [hl9_8]); exact kR HO_15⟩, ⟨by (try simp only [hl7_2]); (try simp only [hl9_2]); (try simp only [hl9_42]); (try simp only [hl7_8]); (try simp only [hl9_8]); exact bp BK162⟩, ⟨by (try simp only [hl7_2]); (try simp only [hl9_2]); (try simp only [hl9_42]); (try simp only [hl7_8]); (try simp only [hl9_8]); exact bp BK163⟩, ⟨by (try simp only [hl7_2]); (try simp only [hl9_2]); (try simp only [hl9_42]); (try simp only [hl7_8]); (try simp only [hl9_8]); exact bp BK177⟩, ⟨by (try simp only [hl7_2]); (try simp only [hl9_2]); (try simp only [hl9_42]); (try simp only [hl7_8]); (try simp only [hl9_8]); exact bp BK178⟩, ⟨bw HB⟩⟩
   have H' := am H
   clear H
   have p193 : 0 ≤ (x16_8 : Int) := of_decide_eq_true as1
   have q193 : x16_8 < (x15_92.length : Int) := of_decide_eq_true as1
   obtain ⟨ad193, e193, hx193_0⟩ := Kd.at_int (Kd.R_reads' HO_15.out).2.2 x16_8 p193 q193
   obtain rfl : ad192 = ad193 := (by injection e193)
   replace p193 := eq_true p193
   replace q193 := eq_true q193
   obtain ⟨p194, q194, hx194_0⟩ := aR HO_7 (rd x15_92 x16_8)
   go_wp2
   go_meet
   case rel => exact ⟨_, (false), dr, H', ⟨by have := HK1.out; have := HK2.out; have := HJ42.out; have := HJ66.out; have := HJ78.out; have := HJ82.out; have := HJ92.out; have := HK8.out; first | omega | exact Nat.le_refl _⟩, ⟨by (try simp only [hl7_2]); (try simp only [hl9_2]); (try simp only [hl9_42]); (try simp only [hl7_8]); (try simp only [hl9_8]); exact kR HO_7⟩, ⟨by (try simp only [hl7_2]); (try simp only [hl9_2]); (try simp only [hl9_42]); (try simp only [hl7_8]); (try simp only [hl9_8]); exact kR HO_9⟩, ⟨by (try simp only [hl7_2]); (try simp only [hl9_2]); (try simp only [hl9_42]); (try simp only [hl7_8]); (try simp only [hl9_8]); exact kR HO_15⟩, ⟨by (try simp only [hl7_2]); (try simp only [hl9_2]); (try simp only [hl9_42]); (try simp only [hl7_8]); (try simp only [hl9_8]); exact bp BK162⟩, ⟨by (try simp only [hl7_2]); (try simp only [hl9_2]); (try simp only [hl9_42]); (try simp only [hl7_8]); (try simp only [hl9_8]); exact bp BK163⟩, ⟨by (try simp only [hl7_2]); (try simp only [hl9_2]); (try simp only [hl9_42]); (try simp only [hl7_8]); (try simp only [hl9_8]); exact bp BK177⟩, ⟨by (try simp only [hl7_2]); (try simp only [hl9_2]); (try simp only [hl9_42]); (try simp only [hl7_8]); (try simp only [hl9_8]); exact bp BK178⟩, ⟨bw HB⟩⟩
  clear HC114
  (try clear c10); (try clear p19); (try clear q19); (try clear hx19); (try clear c101); (try clear c101b0); (try clear c102); (try clear c102b0); (try clear c103); (try clear c103b0); (try clear c105); (try clear c106); (try clear c107); (try clear c116); (try clear c116b0); (try clear c117); (try clear c117b0); (try clear c118); (try clear c118b0); (try clear hcz108); (try clear hfz108); (try clear hx192_0); (try clear hx193_0); (try clear hx194_0); (try clear hx195_0); (try clear hx196_0); (try clear p192); (try clear p193); (try clear p194); (try clear p195); (try clear p196); (try clear q192); (try clear q193); (try clear q194); (try clear q195); (try clear q196)
  obtain ⟨kq, x143_113, rfl, HA, HJ113, HO_7, HO_9, HO_15, BK162, BK163, BK177, BK178, HB⟩ := hcut
  rcases kq with _ | kj113
  ·exact absurd HA.out (by simp [spec_l04Heights.j8])
  have H := HA.out
  clear HA
  simp only [spec_l04Heights.j8] at H
  refine qT H ?_ ?_ <;> clear H <;> intro c119 H <;> subst c119
  ·simp only [Option.some.injEq, Prod.mk.injEq] at H
   obtain ⟨rfl, rfl, rfl, rfl⟩ := H
   try go_wp2
   replace HO_7 := am (Kd.R_drew HO_7.out)
   replace HO_9 := am (Kd.R_drew HO_9.out)
   replace HO_15 := am (Kd.R_drew HO_15.out)
   replace BK162 := am (blk_drew BK162.out)
   replace BK163 := am (blk_drew BK163.out)
   replace BK177 := am (blk_drew BK177.out)
   replace BK178 := am (blk_drew BK178.out)
   replace HB := am (below_drew1 HB.out)
   refine start_ (n := 4) (S := fun w' => w'.cell? ⟨gb178, 0, none⟩ = some (.int .i64 a1) ∧ w'.cell? ⟨gb178, 1, none⟩ = some (.int .i64 t174) ∧ w'.cell? ⟨gb178, 2, none⟩ = some (.int .i64 x179002_8)) (ds := []) (bv 4 0) (by kernel_rfl) rfl (by kernel_rfl) ⟨bc BK178 0, bc BK178 1, bc BK178 2⟩ (fun hHeld => ?_)
   generalize wc.drew = w120 at HO_7 HO_9 HO_15 BK162 BK163 BK177 BK178 HB hHeld ⊢
   refine pure_ (i := 0) (N := some 144) (v := ?_) (a' := ?_) (bv 4 1) rfl rfl (by kernel_rfl) (fun _ _ _ h => h) (Or.inl ⟨by rfl, ?_⟩) ?_ ?_
   rotate_left
   ·intro w'
    go_simp
    with_reducible rfl
   rotate_left
   ·simp only [Act.put, sa, sz, ss, i64_w, i32_w]
    rfl
   refine pure_ (i := 2) (N := some 4) (v := ?_) (a' := ?_) (bv 4 5) rfl rfl (by kernel_rfl) (fun _ _ _ h => h) (Or.inl ⟨by rfl, ?_⟩) ?_ ?_
   rotate_left
   ·intro w'
    go_simp
    with_reducible rfl
   rotate_left
   ·simp only [Act.put, sa, sz, ss, i64_w, i32_w]
    rfl
   refine take_ (i := 1) (N := some 145) (v := ?_) (a' := ?_) (bv 4 7) rfl rfl (by kernel_rfl) (fun _ _ _ h => h) (Or.inl ⟨by rfl, ?_⟩) hHeld ?_ ?_
   rotate_left
   ·rintro w' ⟨s0, s1, s2⟩
    go_simp
    with_reducible rfl
   rotate_left
   ·simp only [Act.put, sa, sz, ss, i64_w, i32_w]
    rfl
   refine one_ (i := 3) (N := none) (bv 4 15) rfl rfl (by kernel_rfl) (by decide) (fun K hK => ?_)
   have hs121 := bk w120 BK163 0
   have hfs121 := bf BK163 0
   have hns121_0 := NB162_163.out
   have hns121_2 := NB177_163.out
   have hns121_3 := NB178_163.out
   have hms121_0 := NB163_162.out
   have hms121_2 := NB163_177.out
   have hms121_3 := NB163_178.out
   have hs122 := bk w120 BK163 1
   have hfs122 := bf BK163 1
   have hns122_0 := NB162_163.out
   have hns122_2 := NB177_163.out
   have hns122_3 := NB178_163.out
   have hms122_0 := NB163_162.out
   have hms122_2 := NB163_177.out
   have hms122_3 := NB163_178.out
   have hs123 := bk w120 BK163 2
   have hfs123 := bf BK163 2
   have hns123_0 := NB162_163.out
   have hns123_2 := NB177_163.out
   have hns123_3 := NB178_163.out
   have hms123_0 := NB163_162.out
   have hms123_2 := NB163_177.out
   have hms123_3 := NB163_178.out
   refine skip_ (w1 := ?_) (by rfl) rfl ?_ ?_
   rotate_left
   ·go_simp
    rfl
   refine hK.out _ _ ⟨((cell_far (p := ⟨gb163, _, none⟩) NB178_163.out _).trans (((cell_far (p := ⟨gb163, _, none⟩) NB178_163.out _).trans (((cell_far (p := ⟨gb163, _, none⟩) NB178_163.out _).trans (hHeld.1)))))), ((cell_far (p := ⟨gb163, _, none⟩) NB178_163.out _).trans (((cell_far (p := ⟨gb163, _, none⟩) NB178_163.out _).trans (((cell_far (p := ⟨gb163, _, none⟩) NB178_163.out _).trans (hHeld.2.1)))))), ((cell_far (p := ⟨gb163, _, none⟩) NB178_163.out _).trans (((cell_far (p := ⟨gb163, _, none⟩) NB178_163.out _).trans (((cell_far (p := ⟨gb163, _, none⟩) NB178_163.out _).trans (hHeld.2.2))))))⟩ (fun hHeld => ?_)
   clear hK K
   refine done_ (by kernel_rfl) ?_
   try go_wp2
   refine bodyPost_ret (results_tc rfl _ _ gb163 84 #[.int .i64 a1, .int .i64 t174, .int .i64 x179002_8] (0, 0) _ rfl (bt BK163) Try.underlying84 rfl (by kernel_rfl)) rfl ?_
   exact ⟨_, er, by (with_reducible repeat (first | apply Kd.R_alloc | apply Kd.R_drewN | apply Kd.R_drew)); exact Kd.R_mono (Kd.R_far (p := ⟨gb163, 2, none⟩) (Kd.R_far (p := ⟨gb163, 1, none⟩) (Kd.R_far (p := ⟨gb163, 0, none⟩) (Kd.R_types HO_7.out BK163.out (by decide)) (fun _ hk => hk.2) (.int .i64 a1)) (fun _ hk => hk.2) (.int .i64 t174)) (fun _ hk => hk.2) (.int .i64 x179002_8)) (fun _ hk => trivial), bw HB⟩
  refine iM H ?_; clear H; intro c124b0 H
  refine iM H ?_; clear H; intro c125b0 H
  (try (have c125b0hl9_42 := c125b0; rw [hl9_42] at c125b0hl9_42))
  refine iM H ?_; clear H; intro c126b0 H
  refine iM H ?_; clear H; intro c127b0 H
  (try (have c127b0hl9_42 := c127b0; rw [hl9_42] at c127b0hl9_42))
  (try (have c127b0hl7_8 := c127b0; rw [hl7_8] at c127b0hl7_8))
  refine qI H ?_ ?_ <;> clear H <;> intro c128b0 H
  ·obtain ⟨y200, hy200⟩ : ∃ y_ : List Int, y_ = (x7_8.set ((rd x15_92 x16_8) : Int).toNat (wrap64 ((wrap64 ((rd x7_2 t174) - t179)) + t181))) := ⟨_, rfl⟩
   replace H : (if (rd x15_92 x16_8) < (x9_8.length : Int) then (spec_l04Heights.l2 kj113 a1 ((rd_T100 l0_0 a1).f2) y200 (x9_8.set ((rd x15_92 x16_8) : Int).toNat true) (wrap64 ((wrap64 ((rd x7_2 t174) - t179)) + t181)) x15_92 (wrap64 (x16_8 + 1)) l0_0 a1 t174 x179002_8) else (none)) = some (r1, r2, r3, r4) := by first | (rw [hy200]; with_reducible exact H) | (have H2_ := (Option.bind_some _ _).symm.trans H; rw [hy200]; with_reducible exact H2_) | (have H2_ := (Option.bind_some _ _).symm.trans H; with_reducible exact H2_) | with_reducible exact H | (rw [hy200]; exact H) | exact H
   have Ny200 := am hy200
   clear hy200
   refine iM H ?_; clear H; intro c130b0 H
   (try (have c130b0hl9_42 := c130b0; rw [hl9_42] at c130b0hl9_42))
   (try (have c130b0hl9_8 := c130b0; rw [hl9_8] at c130b0hl9_8))
   obtain ⟨y202, hy202⟩ : ∃ y_ : List Bool, y_ = (x9_8.set ((rd x15_92 x16_8) : Int).toNat true) := ⟨_, rfl⟩
   replace H : (spec_l04Heights.l2 kj113 a1 ((rd_T100 l0_0 a1).f2) y200 y202 (wrap64 ((wrap64 ((rd x7_2 t174) - t179)) + t181)) x15_92 (wrap64 (x16_8 + 1)) l0_0 a1 t174 x179002_8) = some (r1, r2, r3, r4) := by first | (rw [hy202]; with_reducible exact H) | (have H2_ := (Option.bind_some _ _).symm.trans H; rw [hy202]; with_reducible exact H2_) | (have H2_ := (Option.bind_some _ _).symm.trans H; with_reducible exact H2_) | with_reducible exact H | (rw [hy202]; exact H) | exact H
   have Ny202 := am hy202
   clear hy202
   have H' := am H
   clear H
   have p197 : 0 ≤ (x16_8 : Int) := of_decide_eq_true as1
   have q197 : x16_8 < (x15_92.length : Int) := of_decide_eq_true as1
   obtain ⟨ad197, e197, hx197_0⟩ := Kd.at_int (Kd.R_reads' HO_15.out).2.2 x16_8 p197 q197
   obtain rfl : ad192 = ad197 := (by injection e197)
   replace p197 := eq_true p197
   replace q197 := eq_true q197
   obtain ⟨p198, q198, hx198_0⟩ := aR HO_7 (rd x15_92 x16_8)
   have p199 : 0 ≤ (x16_8 : Int) := of_decide_eq_true as1
   have q199 : x16_8 < (x15_92.length : Int) := of_decide_eq_true as1
   obtain ⟨ad199, e199, hx199_0⟩ := Kd.at_int (Kd.R_reads' HO_15.out).2.2 x16_8 p199 q199
   obtain rfl : ad192 = ad199 := (by injection e199)
   replace p199 := eq_true p199
   replace q199 := eq_true q199
   have p129 : 0 ≤ ((rd x15_92 x16_8) : Int) := of_decide_eq_true as1
   have q129 : ((rd x15_92 x16_8) : Int) < ((x7_8.length : Int) : Int) := of_decide_eq_true as1
   obtain ⟨hx129_0, hf129_0⟩ := Kd.R_celln 0 HO_7.out ((rd x15_92 x16_8) : Int) p129 q129
   replace p129 := eq_true p129
   replace q129 := eq_true q129
   have HP132 := Kd.R_putg HO_7.out ((rd x15_92 x16_8) : Int) (wrap64 ((wrap64 ((rd x7_2 t174) - t179)) + t181))
   go_wp2_with (first | ((with_reducible refine gt 2 160 rfl ?_); refine sE 2 160 (wc.setCell ⟨go20, ((rd x15_92 x16_8) : Int).toNat, none⟩ (.int .i64 (wrap64 ((wrap64 ((rd x7_2 t174) - t179)) + t181)))) ?_; intro w133 hw; have hg : wc.grownBy w133 (some go20) := (by rw [hw]; exact HP132.2); have hp_ : Kd.R (Kd.int .i64) 2 w133 w.heap.size (fun k_ => some k_ ≠ (.slice (some ad192) x15_92.length co115 : Value).ownBlock) (.slice (some ⟨go20, 0, none⟩) x7_8.length co25) y200 := (by rw [hw, Ny200.out]; exact HP132.1); clear HP132; replace HO_9 := am (Kd.R_over' (v := (.slice (some ⟨go20, 0, none⟩) x7_8.length co25)) (kR HO_9) (Kd.R_typed HO_7.out) (by decide) hg); replace HO_15 := am (Kd.R_after (v := (.slice (some ⟨go20, 0, none⟩) x7_8.length co25)) (v1 := (.slice (some ⟨go20, 0, none⟩) x7_8.length co25)) (ok := (fun _ => True)) (by (with_reducible repeat (first | apply Kd.R_alloc | apply Kd.R_drewN | apply Kd.R_drew)); exact Kd.R_mono HO_15.out (fun _ hk => ⟨trivial, hk⟩)) hg (.inl rfl)); replace BK162 := bg BK162 hg (Kd.R_ne HO_7.out BK162.out (by decide)); replace BK163 := bg BK163 hg (Kd.R_ne HO_7.out BK163.out (by decide)); replace BK177 := bg BK177 hg (Kd.R_ne HO_7.out BK177.out (by decide)); replace BK178 := bg BK178 hg (Kd.R_ne HO_7.out BK178.out (by decide)); replace HO_7 := am (hp_); replace HB := am ((by rw [hw]; exact below_set (HB.out) GB20.out : Below w.heap.size w w133)); clear hg hw hp_; have p201 : 0 ≤ (x16_8 : Int) := of_decide_eq_true as1; have q201 : x16_8 < (x15_92.length : Int) := of_decide_eq_true as1; obtain ⟨ad201, e201, hx201_0⟩ := Kd.at_int (Kd.R_reads' HO_15.out).2.2 x16_8 p201 q201; obtain rfl : ad192 = ad201 := (by injection e201); replace p201 := eq_true p201; replace q201 := eq_true q201; have p131 : 0 ≤ ((rd x15_92 x16_8) : Int) := of_decide_eq_true as1; have q131 : ((rd x15_92 x16_8) : Int) < ((x9_8.length : Int) : Int) := of_decide_eq_true as1; obtain ⟨hx131_0, hf131_0⟩ := Kd.R_celln false HO_9.out ((rd x15_92 x16_8) : Int) p131 q131; replace p131 := eq_true p131; replace q131 := eq_true q131; obtain ⟨hy134_, hz134_⟩ := Kd.R_celln false HO_9.out ((rd x15_92 x16_8) : Int) (of_decide_eq_true as1) (of_decide_eq_true as1); have HP134 := Kd.R_putg HO_9.out ((rd x15_92 x16_8) : Int) true) | ((with_reducible refine gt 4 166 rfl ?_); refine sE 4 166 (w133.setCell ⟨go24, ((rd x15_92 x16_8) : Int).toNat, none⟩ (.bool true)) ?_; intro w135 hw; have hg : w133.grownBy w135 (some go24) := (by rw [hw]; exact HP134.2); have hp_ : Kd.R Kd.bool 4 w135 w.heap.size (fun _ => True) (.slice (some ⟨go24, 0, none⟩) x9_8.length co24) y202 := (by rw [hw, Ny202.out]; exact HP134.1); clear HP134; replace HO_7 := am (Kd.R_over' (v := (.slice (some ⟨go24, 0, none⟩) x9_8.length co24)) (kR HO_7) (Kd.R_typed HO_9.out) (by decide) hg); replace HO_15 := am (Kd.R_over' (v := (.slice (some ⟨go24, 0, none⟩) x9_8.length co24)) (kR HO_15) (Kd.R_typed HO_9.out) (by decide) hg); replace BK162 := bg BK162 hg (Kd.R_ne HO_9.out BK162.out (by decide)); replace BK163 := bg BK163 hg (Kd.R_ne HO_9.out BK163.out (by decide)); replace BK177 := bg BK177 hg (Kd.R_ne HO_9.out BK177.out (by decide)); replace BK178 := bg BK178 hg (Kd.R_ne HO_9.out BK178.out (by decide)); replace HO_9 := am (hp_); replace HB := am ((by rw [hw]; exact below_set (HB.out) GB24.out : Below w.heap.size w w135)); clear hg hw hp_))
   (try simp only [← hl7_8, ← hl9_8])
   go_roundg kj113
   case measure => have := HK1.out; have := HK2.out; have := HJ42.out; have := HJ66.out; have := HJ78.out; have := HJ82.out; have := HJ92.out; have := HK8.out; have := HJ113.out; omega
   case rel => exact ⟨(y200), (y202), (wrap64 (x16_8 + 1)), (x164000_8), (x164001_8), (x164002_8), (x179002_8), dr, H', ⟨by have := HK1.out; have := HK2.out; have := HJ42.out; have := HJ66.out; have := HJ78.out; have := HJ82.out; have := HJ92.out; have := HK8.out; have := HJ113.out; omega⟩, ⟨by (try simp only [hl7_2]); (try simp only [hl9_2]); (try simp only [hl9_42]); (try simp only [hl7_8]); (try simp only [hl9_8]); exact kR HO_7⟩, ⟨by (try simp only [hl7_2]); (try simp only [hl9_2]); (try simp only [hl9_42]); (try simp only [hl7_8]); (try simp only [hl9_8]); exact kR HO_9⟩, ⟨by (try simp only [hl7_2]); (try simp only [hl9_2]); (try simp only [hl9_42]); (try simp only [hl7_8]); (try simp only [hl9_8]); (with_reducible repeat (first | apply Kd.R_alloc | apply Kd.R_drewN | apply Kd.R_drew)); exact Kd.R_mono HO_15.out (fun _ hk => hk.2)⟩, ⟨by (try simp only [hl7_2]); (try simp only [hl9_2]); (try simp only [hl9_42]); (try simp only [hl7_8]); (try simp only [hl9_8]); exact bp BK162⟩, ⟨by (try simp only [hl7_2]); (try simp only [hl9_2]); (try simp only [hl9_42]); (try simp only [hl7_8]); (try simp only [hl9_8]); exact bp BK163⟩, ⟨by (try simp only [hl7_2]); (try simp only [hl9_2]); (try simp only [hl9_42]); (try simp only [hl7_8]); (try simp only [hl9_8]); exact bp BK177⟩, ⟨by (try simp only [hl7_2]); (try simp only [hl9_2]); (try simp only [hl9_42]); (try simp only [hl7_8]); (try simp only [hl9_8]); exact bp BK178⟩, ⟨bw HB⟩⟩
  have H' := am H
  clear H
  have p197 : 0 ≤ (x16_8 : Int) := of_decide_eq_true as1
  have q197 : x16_8 < (x15_92.length : Int) := of_decide_eq_true as1
  obtain ⟨ad197, e197, hx197_0⟩ := Kd.at_int (Kd.R_reads' HO_15.out).2.2 x16_8 p197 q197
  obtain rfl : ad192 = ad197 := (by injection e197)
  replace p197 := eq_true p197
  replace q197 := eq_true q197
  obtain ⟨p198, q198, hx198_0⟩ := aR HO_7 (rd x15_92 x16_8)
  go_wp2
  (try simp only [← hl7_8, ← hl9_8])
  go_roundg kj113
  case measure => have := HK1.out; have := HK2.out; have := HJ42.out; have := HJ66.out; have := HJ78.out; have := HJ82.out; have := HJ92.out; have := HK8.out; have := HJ113.out; omega
  case rel => exact ⟨(x7_8), (x9_8), (wrap64 (x16_8 + 1)), (x164000_8), (x164001_8), (x164002_8), (x179002_8), dr, H', ⟨by have := HK1.out; have := HK2.out; have := HJ42.out; have := HJ66.out; have := HJ78.out; have := HJ82.out; have := HJ92.out; have := HK8.out; have := HJ113.out; omega⟩, ⟨by (try simp only [hl7_2]); (try simp only [hl9_2]); (try simp only [hl9_42]); (try simp only [hl7_8]); (try simp only [hl9_8]); exact kR HO_7⟩, ⟨by (try simp only [hl7_2]); (try simp only [hl9_2]); (try simp only [hl9_42]); (try simp only [hl7_8]); (try simp only [hl9_8]); exact kR HO_9⟩, ⟨by (try simp only [hl7_2]); (try simp only [hl9_2]); (try simp only [hl9_42]); (try simp only [hl7_8]); (try simp only [hl9_8]); exact kR HO_15⟩, ⟨by (try simp only [hl7_2]); (try simp only [hl9_2]); (try simp only [hl9_42]); (try simp only [hl7_8]); (try simp only [hl9_8]); exact bp BK162⟩, ⟨by (try simp only [hl7_2]); (try simp only [hl9_2]); (try simp only [hl9_42]); (try simp only [hl7_8]); (try simp only [hl9_8]); exact bp BK163⟩, ⟨by (try simp only [hl7_2]); (try simp only [hl9_2]); (try simp only [hl9_42]); (try simp only [hl7_8]); (try simp only [hl9_8]); exact bp BK177⟩, ⟨by (try simp only [hl7_2]); (try simp only [hl9_2]); (try simp only [hl9_42]); (try simp only [hl7_8]); (try simp only [hl9_8]); exact bp BK178⟩, ⟨bw HB⟩⟩
 rw [if_neg c101] at H
 have c101b0 := decide_eq_false c101
 (try (have c101b0hl9_42 := c101b0; rw [hl9_42] at c101b0hl9_42))
 clear c101
 have H' := am H
 clear H
 obtain ⟨Ao136, co136, eo136⟩ := Kd.R_slice HO_15.out
 subst eo136
 go_wp2
 (try simp only [← hl7_2, ← hl9_2, ← hl9_42, ← hl7_8, ← hl9_8])
 go_roundg k8
 case measure => have := HK1.out; have := HK2.out; have := HJ42.out; have := HJ66.out; have := HJ78.out; have := HJ82.out; have := HJ92.out; have := HK8.out; omega
 case rel => exact ⟨(x7_8), (x9_8), (x164000_8), (x164001_8), (x164002_8), H', ⟨by have := HK1.out; have := HK2.out; have := HJ42.out; have := HJ66.out; have := HJ78.out; have := HJ82.out; have := HJ92.out; have := HK8.out; omega⟩, ⟨by (try simp only [hl7_2]); (try simp only [hl9_2]); (try simp only [hl9_42]); (try simp only [hl7_8]); (try simp only [hl9_8]); (with_reducible repeat (first | apply Kd.R_alloc | apply Kd.R_drewN | apply Kd.R_drew)); exact Kd.R_mono HO_7.out (fun _ hk => trivial)⟩, ⟨by (try simp only [hl7_2]); (try simp only [hl9_2]); (try simp only [hl9_42]); (try simp only [hl7_8]); (try simp only [hl9_8]); exact kR HO_9⟩, ⟨by (try simp only [hl7_2]); (try simp only [hl9_2]); (try simp only [hl9_42]); (try simp only [hl7_8]); (try simp only [hl9_8]); exact bp BK162⟩, ⟨by (try simp only [hl7_2]); (try simp only [hl9_2]); (try simp only [hl9_42]); (try simp only [hl7_8]); (try simp only [hl9_8]); exact bp BK163⟩, ⟨bw HB⟩⟩

end Go.Proofs.Ytbmjmaahcaoajaa.QFnExactSeenRight
