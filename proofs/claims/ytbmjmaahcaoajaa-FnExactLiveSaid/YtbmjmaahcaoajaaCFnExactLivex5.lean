import Derived.Test.YtbmjmaahcaoajaaCFnExactLivex0
import Derived.Test.YtbmjmaahcaoajaaCFnExactLivex3
import Derived.Test.YtbmjmaahcaoajaaCFnExactLivex4
namespace Go.Proofs.Ytbmjmaahcaoajaa.QFnExactLive
open Go.RowKit Go.Proofs.YtbmjmaahcaoajaaW
open PrintWords PrintLast PrintMore PrintShort PrintIsh
attribute [local go_sem] max2_int min2_int max_two min_two max_three min_three max_four min_four   -- for this text's walks alone
set_option linter.unusedVariables false
set_option maxHeartbeats 8000000
set_option maxRecDepth 100000
set_option linter.unusedSimpArgs false

mutual
def spec_l04Heights.l0 : Nat → Int → List (S102) → List Int → Int → List (S100) → Option (List Int × Int × Int × Int)
 | 0, _, _, _, _, _ => none
 | k + 1, x1, x6, x7, x8, x167000 => if x8 < (x7.length : Int) then (if 0 ≤ x8 then (spec_l04Heights.l0 k x1 x6 (x7.set (x8 : Int).toNat (-1)) (wrap64 (x8 + 1)) x167000) else (none)) else (if 0 < (x7.length : Int) then (if 0 ≤ (x6.length : Int) then (if ((x6.length : Int) : Int).toNat ≤ 281474976710656 then ((some (List.replicate ((x6.length : Int) : Int).toNat false : List Bool)).bind fun y174 => (if 0 < (y174.length : Int) then (spec_l04Heights.l1 k x1 x6 (x7.set (0 : Int).toNat 0) (y174.set (0 : Int).toNat true) x167000) else (none))) else (none)) else (none)) else (none))
def spec_l04Heights.l1 : Nat → Int → List (S102) → List Int → List Bool → List (S100) → Option (List Int × Int × Int × Int)
 | 0, _, _, _, _, _ => none
 | k + 1, x1, x6, x7, x9, x167000 => (spec_l04Least.f k x9).bind fun t178 => (if t178 < 0 then (some (x7, 0, 0, 0)) else (if 0 ≤ t178 then (if t178 < (x9.length : Int) then ((some (x9.set (t178 : Int).toNat false : List Bool)).bind fun y179 => (if t178 < (x6.length : Int) then ((spec_Takes.f k x167000 ((rd_T102 x6 t178).f0) ((rd_T102 x6 t178).f1)).bind fun t183 => (if t178 < (x7.length : Int) then ((spec_Puts.f k ((rd_T102 x6 t178).f0) ((rd_T102 x6 t178).f1)).bind fun t185 => (if t183 > (rd x7 t178) then (spec_l04Heights.j2 k x1 x6 x7 y179 t178 (wrap64 ((wrap64 ((rd x7 t178) - t183)) + t185)) true x167000 ((rd_T102 x6 t178).f0) ((rd_T102 x6 t178).f1) x1 t178 5) else (spec_l04Heights.j2 k x1 x6 x7 y179 t178 (wrap64 ((wrap64 ((rd x7 t178) - t183)) + t185)) (decide ((wrap64 ((wrap64 ((rd x7 t178) - t183)) + t185)) > 8)) x167000 ((rd_T102 x6 t178).f0) ((rd_T102 x6 t178).f1) x1 t178 5))) else (none))) else (none))) else (none)) else (none)))
def spec_l04Heights.j2 : Nat → Int → List (S102) → List Int → List Bool → Int → Int → Bool → List (S100) → Int → Int → Int → Int → Int → Option (List Int × Int × Int × Int)
 | 0, _, _, _, _, _, _, _, _, _, _, _, _, _ => none
 | k + 1, x1, x6, x7, x9, x10, x14, x79, x167000, x182000, x182001, x183000, x183001, x183002 => if x79 = true then (some (x7, x183000, x183001, x183002)) else ((some (([] : List Int) : List Int)).bind fun y187 => (if x182000 = 30 then (spec_l04Heights.j3 k x1 x6 x7 x9 x10 x14 y187 false x167000 x182000 x182001 x183000 x183001 x183002) else (spec_l04Heights.j3 k x1 x6 x7 x9 x10 x14 y187 (x182000 != 33) x167000 x182000 x182001 x183000 x183001 x183002)))
def spec_l04Heights.j3 : Nat → Int → List (S102) → List Int → List Bool → Int → Int → List Int → Bool → List (S100) → Int → Int → Int → Int → Int → Option (List Int × Int × Int × Int)
 | 0, _, _, _, _, _, _, _, _, _, _, _, _, _, _ => none
 | k + 1, x1, x6, x7, x9, x10, x14, x15, x90, x167000, x182000, x182001, x183000, x183001, x183002 => if x90 = true then (if x15.length < 17592186044416 then (spec_l04Heights.j4 k x1 x6 x7 x9 x14 (x15 ++ [wrap64 (x10 + 1)]) x167000 x182000 x182001 x183000 x183001 x183002) else (none)) else (spec_l04Heights.j4 k x1 x6 x7 x9 x14 x15 x167000 x182000 x182001 x183000 x183001 x183002)
def spec_l04Heights.j4 : Nat → Int → List (S102) → List Int → List Bool → Int → List Int → List (S100) → Int → Int → Int → Int → Int → Option (List Int × Int × Int × Int)
 | 0, _, _, _, _, _, _, _, _, _, _, _, _ => none
 | k + 1, x1, x6, x7, x9, x14, x15, x167000, x182000, x182001, x183000, x183001, x183002 => if x182000 = 30 then (spec_l04Heights.j5 k x1 x6 x7 x9 x14 x15 true x167000 x182000 x182001 x183000 x183001 x183002) else (spec_l04Heights.j5 k x1 x6 x7 x9 x14 x15 (x182000 == 31) x167000 x182000 x182001 x183000 x183001 x183002)
def spec_l04Heights.j5 : Nat → Int → List (S102) → List Int → List Bool → Int → List Int → Bool → List (S100) → Int → Int → Int → Int → Int → Option (List Int × Int × Int × Int)
 | 0, _, _, _, _, _, _, _, _, _, _, _, _, _ => none
 | k + 1, x1, x6, x7, x9, x14, x15, x103, x167000, x182000, x182001, x183000, x183001, x183002 => if x103 = true then (if x15.length < 17592186044416 then (spec_l04Heights.j6 k x1 x6 x7 x9 x14 (x15 ++ [x182001]) x167000 x183000 x183001 x183002) else (none)) else (spec_l04Heights.j6 k x1 x6 x7 x9 x14 x15 x167000 x183000 x183001 x183002)
def spec_l04Heights.j6 : Nat → Int → List (S102) → List Int → List Bool → Int → List Int → List (S100) → Int → Int → Int → Option (List Int × Int × Int × Int)
 | 0, _, _, _, _, _, _, _, _, _, _ => none
 | k + 1, x1, x6, x7, x9, x14, x15, x167000, x183000, x183001, x183002 => spec_l04Heights.l2 k x1 x6 x7 x9 x14 x15 0 x167000 x183000 x183001 x183002
def spec_l04Heights.l2 : Nat → Int → List (S102) → List Int → List Bool → Int → List Int → Int → List (S100) → Int → Int → Int → Option (List Int × Int × Int × Int)
 | 0, _, _, _, _, _, _, _, _, _, _, _ => none
 | k + 1, x1, x6, x7, x9, x14, x15, x16, x167000, x183000, x183001, x183002 => if x16 < (x15.length : Int) then (if 0 ≤ x16 then (if (rd x15 x16) ≥ (x6.length : Int) then (some (x7, x183000, x183001, 6)) else (if 0 ≤ (rd x15 x16) then (if (rd x15 x16) < (x7.length : Int) then (if (rd x7 (rd x15 x16)) ≥ 0 then (spec_l04Heights.j8 k x1 x6 x7 x9 x14 x15 x16 ((rd x7 (rd x15 x16)) != x14) x167000 x183000 x183001 x183002) else (spec_l04Heights.j8 k x1 x6 x7 x9 x14 x15 x16 false x167000 x183000 x183001 x183002)) else (none)) else (none))) else (none)) else (spec_l04Heights.l1 k x1 x6 x7 x9 x167000)
def spec_l04Heights.j8 : Nat → Int → List (S102) → List Int → List Bool → Int → List Int → Int → Bool → List (S100) → Int → Int → Int → Option (List Int × Int × Int × Int)
 | 0, _, _, _, _, _, _, _, _, _, _, _, _ => none
 | k + 1, x1, x6, x7, x9, x14, x15, x16, x143, x167000, x183000, x183001, x183002 => if x143 = true then (some (x7, x183000, x183001, x183002)) else (if 0 ≤ x16 then (if x16 < (x15.length : Int) then (if 0 ≤ (rd x15 x16) then (if (rd x15 x16) < (x7.length : Int) then (if (rd x7 (rd x15 x16)) < 0 then (if (rd x15 x16) < (x9.length : Int) then (spec_l04Heights.l2 k x1 x6 (x7.set ((rd x15 x16) : Int).toNat x14) (x9.set ((rd x15 x16) : Int).toNat true) x14 x15 (wrap64 (x16 + 1)) x167000 x183000 x183001 x183002) else (none)) else (spec_l04Heights.l2 k x1 x6 x7 x9 x14 x15 (wrap64 (x16 + 1)) x167000 x183000 x183001 x183002)) else (none)) else (none)) else (none)) else (none))
end
def spec_l04Heights.f (k : Nat) (l0_0 : List (S100)) (a1 : Int) : Option (List Int × Int × Int × Int) := if 0 ≤ a1 then (if a1 < (l0_0.length : Int) then (if 0 ≤ (((rd_T100 l0_0 a1).f2).length : Int) then (if ((((rd_T100 l0_0 a1).f2).length : Int) : Int).toNat ≤ 35184372088832 then (spec_l04Heights.l0 k a1 ((rd_T100 l0_0 a1).f2) (List.replicate ((((rd_T100 l0_0 a1).f2).length : Int) : Int).toNat 0) 0 l0_0) else (none)) else (none)) else (none)) else (none)
theorem spec_l04Heights.mono_l : ∀ k, (∀ y0 y1 y2 y3 y4, LeO (spec_l04Heights.l0 k y0 y1 y2 y3 y4) (spec_l04Heights.l0 (k + 1) y0 y1 y2 y3 y4)) ∧ (∀ y0 y1 y2 y3 y4, LeO (spec_l04Heights.l1 k y0 y1 y2 y3 y4) (spec_l04Heights.l1 (k + 1) y0 y1 y2 y3 y4)) ∧ (∀ y0 y1 y2 y3 y4 y5 y6 y7 y8 y9 y10 y11 y12, LeO (spec_l04Heights.j2 k y0 y1 y2 y3 y4 y5 y6 y7 y8 y9 y10 y11 y12) (spec_l04Heights.j2 (k + 1) y0 y1 y2 y3 y4 y5 y6 y7 y8 y9 y10 y11 y12)) ∧ (∀ y0 y1 y2 y3 y4 y5 y6 y7 y8 y9 y10 y11 y12 y13, LeO (spec_l04Heights.j3 k y0 y1 y2 y3 y4 y5 y6 y7 y8 y9 y10 y11 y12 y13) (spec_l04Heights.j3 (k + 1) y0 y1 y2 y3 y4 y5 y6 y7 y8 y9 y10 y11 y12 y13)) ∧ (∀ y0 y1 y2 y3 y4 y5 y6 y7 y8 y9 y10 y11, LeO (spec_l04Heights.j4 k y0 y1 y2 y3 y4 y5 y6 y7 y8 y9 y10 y11) (spec_l04Heights.j4 (k + 1) y0 y1 y2 y3 y4 y5 y6 y7 y8 y9 y10 y11)) ∧ (∀ y0 y1 y2 y3 y4 y5 y6 y7 y8 y9 y10 y11 y12, LeO (spec_l04Heights.j5 k y0 y1 y2 y3 y4 y5 y6 y7 y8 y9 y10 y11 y12) (spec_l04Heights.j5 (k + 1) y0 y1 y2 y3 y4 y5 y6 y7 y8 y9 y10 y11 y12)) ∧ (∀ y0 y1 y2 y3 y4 y5 y6 y7 y8 y9, LeO (spec_l04Heights.j6 k y0 y1 y2 y3 y4 y5 y6 y7 y8 y9) (spec_l04Heights.j6 (k + 1) y0 y1 y2 y3 y4 y5 y6 y7 y8 y9)) ∧ (∀ y0 y1 y2 y3 y4 y5 y6 y7 y8 y9 y10, LeO (spec_l04Heights.l2 k y0 y1 y2 y3 y4 y5 y6 y7 y8 y9 y10) (spec_l04Heights.l2 (k + 1) y0 y1 y2 y3 y4 y5 y6 y7 y8 y9 y10)) ∧ (∀ y0 y1 y2 y3 y4 y5 y6 y7 y8 y9 y10 y11, LeO (spec_l04Heights.j8 k y0 y1 y2 y3 y4 y5 y6 y7 y8 y9 y10 y11) (spec_l04Heights.j8 (k + 1) y0 y1 y2 y3 y4 y5 y6 y7 y8 y9 y10 y11))
 | 0 => ⟨fun _ _ _ _ _ r h => by simp [spec_l04Heights.l0] at h, fun _ _ _ _ _ r h => by simp [spec_l04Heights.l1] at h, fun _ _ _ _ _ _ _ _ _ _ _ _ _ r h => by simp [spec_l04Heights.j2] at h, fun _ _ _ _ _ _ _ _ _ _ _ _ _ _ r h => by simp [spec_l04Heights.j3] at h, fun _ _ _ _ _ _ _ _ _ _ _ _ r h => by simp [spec_l04Heights.j4] at h, fun _ _ _ _ _ _ _ _ _ _ _ _ _ r h => by simp [spec_l04Heights.j5] at h, fun _ _ _ _ _ _ _ _ _ _ r h => by simp [spec_l04Heights.j6] at h, fun _ _ _ _ _ _ _ _ _ _ _ r h => by simp [spec_l04Heights.l2] at h, fun _ _ _ _ _ _ _ _ _ _ _ _ r h => by simp [spec_l04Heights.j8] at h⟩
 | k + 1 => by
  obtain ⟨ih0, ih1, ih2, ih3, ih4, ih5, ih6, ih7, ih8⟩ := spec_l04Heights.mono_l k
  refine ⟨?_, ?_, ?_, ?_, ?_, ?_, ?_, ?_, ?_⟩
  ·intro y0 y1 y2 y3 y4
   unfold spec_l04Heights.l0
   with_reducible repeat' first | exact ih0 .. | exact ih1 .. | exact ih2 .. | exact ih3 .. | exact ih4 .. | exact ih5 .. | exact ih6 .. | exact ih7 .. | exact ih8 .. | exact spec_Puts.mono .. | exact spec_Takes.mono .. | exact spec_l04Least.mono .. | exact LeO.refl _ | exact LeO.none _ | refine LeO.ite ?_ ?_ | refine LeO.bind ?_ (fun _ => ?_)
  ·intro y0 y1 y2 y3 y4
   unfold spec_l04Heights.l1
   with_reducible repeat' first | exact ih0 .. | exact ih1 .. | exact ih2 .. | exact ih3 .. | exact ih4 .. | exact ih5 .. | exact ih6 .. | exact ih7 .. | exact ih8 .. | exact spec_Puts.mono .. | exact spec_Takes.mono .. | exact spec_l04Least.mono .. | exact LeO.refl _ | exact LeO.none _ | refine LeO.ite ?_ ?_ | refine LeO.bind ?_ (fun _ => ?_)
  ·intro y0 y1 y2 y3 y4 y5 y6 y7 y8 y9 y10 y11 y12
   unfold spec_l04Heights.j2
   with_reducible repeat' first | exact ih0 .. | exact ih1 .. | exact ih2 .. | exact ih3 .. | exact ih4 .. | exact ih5 .. | exact ih6 .. | exact ih7 .. | exact ih8 .. | exact spec_Puts.mono .. | exact spec_Takes.mono .. | exact spec_l04Least.mono .. | exact LeO.refl _ | exact LeO.none _ | refine LeO.ite ?_ ?_ | refine LeO.bind ?_ (fun _ => ?_)
  ·intro y0 y1 y2 y3 y4 y5 y6 y7 y8 y9 y10 y11 y12 y13
   unfold spec_l04Heights.j3
   with_reducible repeat' first | exact ih0 .. | exact ih1 .. | exact ih2 .. | exact ih3 .. | exact ih4 .. | exact ih5 .. | exact ih6 .. | exact ih7 .. | exact ih8 .. | exact spec_Puts.mono .. | exact spec_Takes.mono .. | exact spec_l04Least.mono .. | exact LeO.refl _ | exact LeO.none _ | refine LeO.ite ?_ ?_ | refine LeO.bind ?_ (fun _ => ?_)
  ·intro y0 y1 y2 y3 y4 y5 y6 y7 y8 y9 y10 y11
   unfold spec_l04Heights.j4
   with_reducible repeat' first | exact ih0 .. | exact ih1 .. | exact ih2 .. | exact ih3 .. | exact ih4 .. | exact ih5 .. | exact ih6 .. | exact ih7 .. | exact ih8 .. | exact spec_Puts.mono .. | exact spec_Takes.mono .. | exact spec_l04Least.mono .. | exact LeO.refl _ | exact LeO.none _ | refine LeO.ite ?_ ?_ | refine LeO.bind ?_ (fun _ => ?_)
  ·intro y0 y1 y2 y3 y4 y5 y6 y7 y8 y9 y10 y11 y12
   unfold spec_l04Heights.j5
   with_reducible repeat' first | exact ih0 .. | exact ih1 .. | exact ih2 .. | exact ih3 .. | exact ih4 .. | exact ih5 .. | exact ih6 .. | exact ih7 .. | exact ih8 .. | exact spec_Puts.mono .. | exact spec_Takes.mono .. | exact spec_l04Least.mono .. | exact LeO.refl _ | exact LeO.none _ | refine LeO.ite ?_ ?_ | refine LeO.bind ?_ (fun _ => ?_)
  ·intro y0 y1 y2 y3 y4 y5 y6 y7 y8 y9
   unfold spec_l04Heights.j6
   with_reducible repeat' first | exact ih0 .. | exact ih1 .. | exact ih2 .. | exact ih3 .. | exact ih4 .. | exact ih5 .. | exact ih6 .. | exact ih7 .. | exact ih8 .. | exact spec_Puts.mono .. | exact spec_Takes.mono .. | exact spec_l04Least.mono .. | exact LeO.refl _ | exact LeO.none _ | refine LeO.ite ?_ ?_ | refine LeO.bind ?_ (fun _ => ?_)
  ·intro y0 y1 y2 y3 y4 y5 y6 y7 y8 y9 y10
   unfold spec_l04Heights.l2
   with_reducible repeat' first | exact ih0 .. | exact ih1 .. | exact ih2 .. | exact ih3 .. | exact ih4 .. | exact ih5 .. | exact ih6 .. | exact ih7 .. | exact ih8 .. | exact spec_Puts.mono .. | exact spec_Takes.mono .. | exact spec_l04Least.mono .. | exact LeO.refl _ | exact LeO.none _ | refine LeO.ite ?_ ?_ | refine LeO.bind ?_ (fun _ => ?_)
  ·intro y0 y1 y2 y3 y4 y5 y6 y7 y8 y9 y10 y11
   unfold spec_l04Heights.j8
   with_reducible repeat' first | exact ih0 .. | exact ih1 .. | exact ih2 .. | exact ih3 .. | exact ih4 .. | exact ih5 .. | exact ih6 .. | exact ih7 .. | exact ih8 .. | exact spec_Puts.mono .. | exact spec_Takes.mono .. | exact spec_l04Least.mono .. | exact LeO.refl _ | exact LeO.none _ | refine LeO.ite ?_ ?_ | refine LeO.bind ?_ (fun _ => ?_)
theorem spec_l04Heights.mono : ∀ a0 a1 k, LeO (spec_l04Heights.f k a0 a1) (spec_l04Heights.f (k + 1) a0 a1) := by
 intro a0 a1 k
 obtain ⟨ih0, ih1, ih2, ih3, ih4, ih5, ih6, ih7, ih8⟩ := spec_l04Heights.mono_l k
 unfold spec_l04Heights.f
 with_reducible repeat' first | exact ih0 .. | exact ih1 .. | exact ih2 .. | exact ih3 .. | exact ih4 .. | exact ih5 .. | exact ih6 .. | exact ih7 .. | exact ih8 .. | exact spec_Puts.mono .. | exact spec_Takes.mono .. | exact spec_l04Least.mono .. | exact LeO.refl _ | exact LeO.none _ | refine LeO.ite ?_ ?_ | refine LeO.bind ?_ (fun _ => ?_)
def spec_l04Heights.T17 : Bool × List (List Nat × List Nat) := (true, [([], []), ([], []), ([0, 1], [0, 1]), ([2], [2]), ([], []), ([3, 4], [3, 4]), ([], []), ([6], [6]), ([5, 7], [5, 7]), ([8, 7, 0, 1, 2, 3, 4, 5, 6, 7, 8], [8])])
def spec_l04Heights.B17 : List Nat := [0, 0, 3, 7, 0, 31, 0, 64, 255, 511]
theorem spec_l04Heights.tab17 : rtab .any (opsOf Try.f58 17) = spec_l04Heights.T17 := by kernel_rfl
theorem spec_l04Heights.bits17 : waitsOk spec_l04Heights.T17.2 spec_l04Heights.B17 = true := by kernel_rfl
theorem spec_l04Heights.calls (k : Nat) (A0_0 : Option Addr) (c0_0 : Nat) (l0_0 : List (S100)) (a1 : Int) (r1 : List Int) (r2 : Int) (r3 : Int) (r4 : Int) (w : World) (hr0_0 : Kd.C k100 w A0_0 l0_0.length l0_0) (hc0_0 : l0_0.length ≤ c0_0) (h : spec_l04Heights.f k l0_0 a1 = some (r1, r2, r3, r4)) :
  Calls Try.prog 58 #[.agg #[.slice A0_0 l0_0.length c0_0], .int .i64 a1] w fun e w' => ∃ v0_ : Value, e = .returned (.tuple #[v0_, .agg #[.int .i64 r2, .int .i64 r3, .int .i64 r4]]) ∧ Kd.R (Kd.int .i64) 2 w' w.heap.size (fun _ => True) v0_ r1 ∧ Below w.heap.size w w' := by
 have hu30 := Try.underlying30
 have hu84 := Try.underlying84
 have hu102 := Try.underlying102
 have HR0_0 := am hr0_0
 have HC0_0 := am hc0_0
 clear hr0_0 hc0_0
 have HB := am (Below.refl w.heap.size w)
 have H : (if 0 ≤ a1 then (if a1 < (l0_0.length : Int) then (if 0 ≤ (((rd_T100 l0_0 a1).f2).length : Int) then (if ((((rd_T100 l0_0 a1).f2).length : Int) : Int).toNat ≤ 35184372088832 then (spec_l04Heights.l0 k a1 ((rd_T100 l0_0 a1).f2) (List.replicate ((((rd_T100 l0_0 a1).f2).length : Int) : Int).toNat 0) 0 l0_0) else (none)) else (none)) else (none)) else (none)) = some (r1, r2, r3, r4) := h
 clear h
 refine iN H ?_; clear H; intro c3 H
 have c3b0 := decide_eq_true c3
 clear c3
 refine iN H ?_; clear H; intro c4 H
 have c4b0 := decide_eq_true c4
 clear c4
 refine iN H ?_; clear H; intro c5 H
 have c5b0 := eq_true c5
 have c5b1 := decide_eq_true c5
 clear c5
 refine iN H ?_; clear H; intro c6 H
 have c6b0 := eq_true c6
 have c6b1 := decide_eq_true c6
 clear c6
 obtain ⟨y169, hy169⟩ : ∃ y_ : List Int, y_ = (List.replicate ((((rd_T100 l0_0 a1).f2).length : Int) : Int).toNat 0) := ⟨_, rfl⟩
 replace H : (spec_l04Heights.l0 k a1 ((rd_T100 l0_0 a1).f2) y169 0 l0_0) = some (r1, r2, r3, r4) := by first | (rw [hy169]; with_reducible exact H) | (have H2_ := (Option.bind_some _ _).symm.trans H; rw [hy169]; with_reducible exact H2_) | (have H2_ := (Option.bind_some _ _).symm.trans H; with_reducible exact H2_) | with_reducible exact H | (rw [hy169]; exact H) | exact H
 have Ny169 := am hy169
 clear hy169
 have H' := am H
 clear H
 go_enter Try.func58, Try.ntmps58
 go_wp2_with (first | ((with_reducible refine gd 2 rfl ?_); refine bX 2 #[.slice A0_0 l0_0.length c0_0] 30 HB ?_; clear HB; intro gb166 w7 hg hb BK166 GW166 HB; clear hb hg) | ((with_reducible refine gd 5 rfl ?_); refine bX 5 #[.int .i64 0, .int .i64 0, .int .i64 0] 84 HB ?_; clear HB; intro gb167 w8 hg hb BK167 GW167 HB; obtain ⟨NB166_167, NB167_166, BK166⟩ := b3 hg BK166 hb; clear hb hg; have hnb9 := NB166_167.out; have hnc9 := NB167_166.out; have hcz10 := bK w8 BK166; have hfz10 := bF BK166; have p168 : 0 ≤ (a1 : Int) := of_decide_eq_true as1; have q168 : a1 < (l0_0.length : Int) := of_decide_eq_true as1; obtain ⟨ad168, A168_2, c168_2, e168, hx168_0, hx168_1, hx168_2, hl168_2, hi168_2⟩ := at_T100 HR0_0.out a1 p168 q168; cases e168; replace hx168_0 := cl HB hx168_0; replace hx168_1 := cl HB hx168_1; replace hx168_2 := cl HB hx168_2; have HR168_2 := am hi168_2; have HC168_2 := am hl168_2; clear hi168_2 hl168_2; replace p168 := eq_true p168; replace q168 := eq_true q168) | ((with_reducible refine gate_dst (N := 25) rfl ?_); refine Kd.R_make (Kd.int .i64) _ 2 rfl (N := 25) rfl 26 _ _ rfl (((rd_T100 l0_0 a1).f2).length : Int) rfl rfl Try.underlying26 (.int .i64 0) 8 info2 rfl (by decide) (by omega) 0 (ok := fun _ => True) (okp := fun _ => True) rfl (fun _ hk => hk) trivial (of_decide_eq_true as1) (Nat.le_trans (Nat.mul_le_mul_right _ (of_decide_eq_true as1 : (((rd_T100 l0_0 a1).f2).length : Int).toNat ≤ 35184372088832)) (by omega)) (Below.refl _ _) (Nat.le_refl _) ?_; intro v170 w11 ho12 hb hg_ hnew_; clear hg_ hnew_; (first | rw [← Ny169.out] at ho12 | (simp only [Int.reduceToNat] at ho12; rw [← Ny169.out] at ho12)); have HO171 := am (Kd.R_lower ho12 (below_size (bw HB))); replace BK166 := bb BK166 hb; replace BK167 := bb BK167 hb; replace HB := bs HB hb; clear hb ho12))
 go_loopg [8] k (fun kq v8 w' => ∃ (x7_1 : List Int) (x8_1 : Int), v8 = .int .i64 x8_1 ∧ Aside0 (spec_l04Heights.l0 kq a1 ((rd_T100 l0_0 a1).f2) x7_1 x8_1 l0_0 = some (r1, r2, r3, r4)) ∧ Aside0 (kq ≤ k) ∧ Aside0 (Kd.R (Kd.int .i64) 2 w' w.heap.size (fun _ => True) v170 x7_1) ∧ Aside0 (w'.heap[gb166]? = some (.cells #[(.slice (some ad168) l0_0.length c0_0)] 30 (0, 0))) ∧ Aside0 (w'.heap[gb167]? = some (.cells #[.int .i64 0, .int .i64 0, .int .i64 0] 84 (0, 0))) ∧ Aside0 (Below w.heap.size w w'))
 case atStart => exact ⟨(y169), (0), dr, H', ⟨Nat.le_refl _⟩, ⟨kR HO171⟩, ⟨bp BK166⟩, ⟨bp BK167⟩, ⟨bw HB⟩⟩
 clear H'
 (try clear c1); (try clear p1); (try clear q1); (try clear hx1); (try clear p2); (try clear c3); (try clear c3b0); (try clear c4); (try clear c4b0); (try clear c5); (try clear c5b0); (try clear c5b1); (try clear c6); (try clear c6b0); (try clear c6b1); (try clear c9); (try clear hcz10); (try clear hfz10); (try clear hx168_0); (try clear hx168_1); (try clear hx168_2); (try clear p168); (try clear q168)
 obtain ⟨x7_1, x8_1, rfl, HA, HK1, HO_7, BK166, BK167, HB⟩ := hrel
 rcases gk with _ | k1
 ·exact absurd HA.out (by simp [spec_l04Heights.l0])
 have H := HA.out
 clear HA
 simp only [spec_l04Heights.l0] at H
 by_cases c13 : x8_1 < (x7_1.length : Int)
 ·rw [if_pos c13] at H
  have c13b0 := decide_eq_true c13
  clear c13
  refine iM H ?_; clear H; intro c14b0 H
  obtain ⟨y172, hy172⟩ : ∃ y_ : List Int, y_ = (x7_1.set (x8_1 : Int).toNat (-1)) := ⟨_, rfl⟩
  replace H : (spec_l04Heights.l0 k1 a1 ((rd_T100 l0_0 a1).f2) y172 (wrap64 (x8_1 + 1)) l0_0) = some (r1, r2, r3, r4) := by first | (rw [hy172]; with_reducible exact H) | (have H2_ := (Option.bind_some _ _).symm.trans H; rw [hy172]; with_reducible exact H2_) | (have H2_ := (Option.bind_some _ _).symm.trans H; with_reducible exact H2_) | with_reducible exact H | (rw [hy172]; exact H) | exact H
  have Ny172 := am hy172
  clear hy172
  have H' := am H
  clear H
  obtain ⟨Ao16, co16, eo16⟩ := Kd.R_slice HO_7.out
  subst eo16
  have p15 : 0 ≤ (x8_1 : Int) := of_decide_eq_true as1
  have q15 : (x8_1 : Int) < ((x7_1.length : Int) : Int) := of_decide_eq_true as1
  obtain ⟨go15, co15, eo15, gb15, gl15, cl15, HG15⟩ := Kd.R_form HO_7.out (by omega)
  (first | cases eo15 | (injection eo15 with ea_ en_ ec_; (first | subst ea_ | (injection ea_ with ea_; subst ea_)); subst ec_; clear en_))
  have GB15 := am gb15
  have GG15 := am HG15
  clear gb15 gl15 HG15
  obtain ⟨hx15_0, hf15_0⟩ := Kd.R_celln 0 HO_7.out (x8_1 : Int) p15 q15
  replace p15 := eq_true p15
  replace q15 := eq_true q15
  have HP17 := Kd.R_putg HO_7.out (x8_1 : Int) (-1)
  go_wp2_with (first | ((with_reducible refine gt 2 34 rfl ?_); refine sE 2 34 (wr.setCell ⟨go15, (x8_1 : Int).toNat, none⟩ (.int .i64 (-1))) ?_; intro w18 hw; have hg : wr.grownBy w18 (some go15) := (by rw [hw]; exact HP17.2); have hp_ : Kd.R (Kd.int .i64) 2 w18 w.heap.size (fun _ => True) (.slice (some ⟨go15, 0, none⟩) x7_1.length co16) y172 := (by rw [hw, Ny172.out]; exact HP17.1); clear HP17; replace BK166 := bg BK166 hg (Kd.R_ne HO_7.out BK166.out (by decide)); replace BK167 := bg BK167 hg (Kd.R_ne HO_7.out BK167.out (by decide)); replace HO_7 := am (hp_); replace HB := am ((by rw [hw]; exact below_set (HB.out) GB15.out : Below w.heap.size w w18)); clear hg hw hp_))
  go_roundg k1
  case measure => have := HK1.out; omega
  case rel => exact ⟨(y172), (wrap64 (x8_1 + 1)), dr, H', ⟨by have := HK1.out; omega⟩, ⟨kR HO_7⟩, ⟨bp BK166⟩, ⟨bp BK167⟩, ⟨bw HB⟩⟩
 rw [if_neg c13] at H
 have c13b0 := decide_eq_false c13
 clear c13
 refine iN H ?_; clear H; intro c19 H
 have c19b0 := decide_eq_true c19
 have c19b1 : decide (0 < x7_1.length) = true := decide_eq_true (by omega)
 clear c19
 obtain ⟨y173, hy173⟩ : ∃ y_ : List Int, y_ = (x7_1.set (0 : Int).toNat 0) := ⟨_, rfl⟩
 replace H : (if 0 ≤ (((rd_T100 l0_0 a1).f2).length : Int) then (if ((((rd_T100 l0_0 a1).f2).length : Int) : Int).toNat ≤ 281474976710656 then ((some (List.replicate ((((rd_T100 l0_0 a1).f2).length : Int) : Int).toNat false : List Bool)).bind fun y174 => (if 0 < (y174.length : Int) then (spec_l04Heights.l1 k1 a1 ((rd_T100 l0_0 a1).f2) y173 (y174.set (0 : Int).toNat true) l0_0) else (none))) else (none)) else (none)) = some (r1, r2, r3, r4) := by first | (rw [hy173]; with_reducible exact H) | (have H2_ := (Option.bind_some _ _).symm.trans H; rw [hy173]; with_reducible exact H2_) | (have H2_ := (Option.bind_some _ _).symm.trans H; with_reducible exact H2_) | with_reducible exact H | (rw [hy173]; exact H) | exact H
 have Ny173 := am hy173
 clear hy173
 refine iN H ?_; clear H; intro c21 H
 have c21b0 := eq_true c21
 have c21b1 := decide_eq_true c21
 clear c21
 refine iN H ?_; clear H; intro c22 H
 have c22b0 := eq_true c22
 have c22b1 := decide_eq_true c22
 clear c22
 obtain ⟨y174, hy174⟩ : ∃ y_ : List Bool, y_ = (List.replicate ((((rd_T100 l0_0 a1).f2).length : Int) : Int).toNat false) := ⟨_, rfl⟩
 replace H : (if 0 < (y174.length : Int) then (spec_l04Heights.l1 k1 a1 ((rd_T100 l0_0 a1).f2) y173 (y174.set (0 : Int).toNat true) l0_0) else (none)) = some (r1, r2, r3, r4) := by first | (rw [hy174]; with_reducible exact H) | (have H2_ := (Option.bind_some _ _).symm.trans H; rw [hy174]; with_reducible exact H2_) | (have H2_ := (Option.bind_some _ _).symm.trans H; with_reducible exact H2_) | with_reducible exact H | (rw [hy174]; exact H) | exact H
 have Ny174 := am hy174
 clear hy174
 refine iN H ?_; clear H; intro c23 H
 have c23b0 := decide_eq_true c23
 have c23b1 : decide (0 < y174.length) = true := decide_eq_true (by omega)
 clear c23
 obtain ⟨y177, hy177⟩ : ∃ y_ : List Bool, y_ = (y174.set (0 : Int).toNat true) := ⟨_, rfl⟩
 replace H : (spec_l04Heights.l1 k1 a1 ((rd_T100 l0_0 a1).f2) y173 y177 l0_0) = some (r1, r2, r3, r4) := by first | (rw [hy177]; with_reducible exact H) | (have H2_ := (Option.bind_some _ _).symm.trans H; rw [hy177]; with_reducible exact H2_) | (have H2_ := (Option.bind_some _ _).symm.trans H; with_reducible exact H2_) | with_reducible exact H | (rw [hy177]; exact H) | exact H
 have Ny177 := am hy177
 clear hy177
 have H' := am H
 clear H
 obtain ⟨Ao25, co25, eo25⟩ := Kd.R_slice HO_7.out
 subst eo25
 have p20 : 0 ≤ (0 : Int) := (by omega)
 have q20 : (0 : Int) < ((x7_1.length : Int) : Int) := of_decide_eq_true as1
 have qi20 : (0 < x7_1.length) = True := eq_true (by omega)
 obtain ⟨go20, co20, eo20, gb20, gl20, cl20, HG20⟩ := Kd.R_form HO_7.out (by omega)
 (first | cases eo20 | (injection eo20 with ea_ en_ ec_; (first | subst ea_ | (injection ea_ with ea_; subst ea_)); subst ec_; clear en_))
 have GB20 := am gb20
 have GG20 := am HG20
 clear gb20 gl20 HG20
 obtain ⟨hx20_0, hf20_0⟩ := Kd.R_celln 0 HO_7.out (0 : Int) p20 q20
 (try rw [show ((0 : Int)).toNat = 0 from rfl] at hx20_0)
 (try simp only [Nat.reduceMul, Nat.zero_mul, Nat.zero_add, Nat.reduceAdd] at hx20_0)
 (try rw [show ((0 : Int)).toNat = 0 from rfl] at hf20_0)
 (try simp only [Nat.reduceMul, Nat.zero_mul, Nat.zero_add, Nat.reduceAdd] at hf20_0)
 replace p20 := eq_true p20
 replace q20 := eq_true q20
 have HP26 := Kd.R_putg HO_7.out (0 : Int) 0
 go_wp2_with (first | ((with_reducible refine gt 2 36 rfl ?_); refine sE 2 36 (wr.setCell ⟨go20, (0 : Int).toNat, none⟩ (.int .i64 0)) ?_; intro w27 hw; have hg : wr.grownBy w27 (some go20) := (by rw [hw]; exact HP26.2); have hp_ : Kd.R (Kd.int .i64) 2 w27 w.heap.size (fun _ => True) (.slice (some ⟨go20, 0, none⟩) x7_1.length co25) y173 := (by rw [hw, Ny173.out]; exact HP26.1); clear HP26; replace BK166 := bg BK166 hg (Kd.R_ne HO_7.out BK166.out (by decide)); replace BK167 := bg BK167 hg (Kd.R_ne HO_7.out BK167.out (by decide)); replace HO_7 := am (hp_); replace HB := am ((by rw [hw]; exact below_set (HB.out) GB20.out : Below w.heap.size w w27)); clear hg hw hp_) | ((with_reducible refine gate_dst (N := 39) rfl ?_); refine Kd.R_make Kd.bool _ 4 rfl (N := 39) rfl 166 _ _ rfl (((rd_T100 l0_0 a1).f2).length : Int) rfl rfl Try.underlying166 (.bool false) 1 info4 rfl (by decide) (by omega) false (ok := fun _ => True) (okp := fun _ => True) rfl (fun _ hk => hk) trivial (of_decide_eq_true as1) (Nat.le_trans (Nat.mul_le_mul_right _ (of_decide_eq_true as1 : (((rd_T100 l0_0 a1).f2).length : Int).toNat ≤ 281474976710656)) (by omega)) (Below.refl _ _) (Nat.le_refl _) ?_; intro v175 w28 ho29 hb hg_ hnew_; clear hg_ hnew_; (first | rw [← Ny174.out] at ho29 | (simp only [Int.reduceToNat] at ho29; rw [← Ny174.out] at ho29)); replace HO_7 := am (Kd.R_below (kR HO_7) hb); have HO176 := am (Kd.R_lower ho29 (below_size (bw HB))); replace BK166 := bb BK166 hb; replace BK167 := bb BK167 hb; replace HB := bs HB hb; clear hb ho29; have p24 : 0 ≤ (0 : Int) := (by omega); have q24 : (0 : Int) < ((y174.length : Int) : Int) := of_decide_eq_true as1; have qi24 : (0 < y174.length) = True := eq_true (by omega); obtain ⟨go24, co24, eo24, gb24, gl24, cl24, HG24⟩ := Kd.R_form HO176.out (by omega); (first | cases eo24 | (injection eo24 with ea_ en_ ec_; (first | subst ea_ | (injection ea_ with ea_; subst ea_)); subst ec_; clear en_)); have GB24 := am gb24; have GG24 := am HG24; clear gb24 gl24 HG24; obtain ⟨hx24_0, hf24_0⟩ := Kd.R_celln false HO176.out (0 : Int) p24 q24; (try rw [show ((0 : Int)).toNat = 0 from rfl] at hx24_0); (try simp only [Nat.reduceMul, Nat.zero_mul, Nat.zero_add, Nat.reduceAdd] at hx24_0); (try rw [show ((0 : Int)).toNat = 0 from rfl] at hf24_0); (try simp only [Nat.reduceMul, Nat.zero_mul, Nat.zero_add, Nat.reduceAdd] at hf24_0); replace p24 := eq_true p24; replace q24 := eq_true q24; obtain ⟨hy30_, hz30_⟩ := Kd.R_celln false HO176.out (0 : Int) (by omega) (of_decide_eq_true as1); (try simp only [Int.reduceToNat, Int.toNat_zero, Int.toNat_ofNat, Nat.reduceMul, Nat.zero_mul, Nat.zero_add] at hy30_ hz30_); (try rw [show ((0 : Int)).toNat = 0 from rfl] at hy30_); (try rw [show ((0 : Int)).toNat = 0 from rfl] at hz30_); have HP30 := Kd.R_putg HO176.out (0 : Int) true) | ((with_reducible refine gt 4 41 rfl ?_); refine sE 4 41 (w28.setCell ⟨go24, (0 : Int).toNat, none⟩ (.bool true)) ?_; intro w31 hw; have hg : w28.grownBy w31 (some go24) := (by rw [hw]; exact HP30.2); have hp_ : Kd.R Kd.bool 4 w31 w.heap.size (fun _ => True) (.slice (some ⟨go24, 0, none⟩) y174.length co24) y177 := (by rw [hw, Ny177.out]; exact HP30.1); clear HP30; replace HO_7 := am (Kd.R_over' (v := (.slice (some ⟨go24, 0, none⟩) y174.length co24)) (kR HO_7) (Kd.R_typed HO176.out) (by decide) hg); replace BK166 := bg BK166 hg (Kd.R_ne HO176.out BK166.out (by decide)); replace BK167 := bg BK167 hg (Kd.R_ne HO176.out BK167.out (by decide)); replace HO176 := am (hp_); replace HB := am ((by rw [hw]; exact below_set (HB.out) GB24.out : Below w.heap.size w w31)); clear hg hw hp_))
 go_loopg [] k1 (fun kq w' => ∃ (x7_2 : List Int) (x9_2 : List Bool) (x168000_2 : Int) (x168001_2 : Int) (x168002_2 : Int), Aside0 (spec_l04Heights.l1 kq a1 ((rd_T100 l0_0 a1).f2) x7_2 x9_2 l0_0 = some (r1, r2, r3, r4)) ∧ Aside0 (kq ≤ k1) ∧ Aside0 (Kd.R (Kd.int .i64) 2 w' w.heap.size (fun _ => True) (.slice (some ⟨go20, 0, none⟩) x7_1.length co25) x7_2) ∧ Aside0 (Kd.R Kd.bool 4 w' w.heap.size (fun _ => True) (.slice (some ⟨go24, 0, none⟩) y174.length co24) x9_2) ∧ Aside0 (w'.heap[gb166]? = some (.cells #[(.slice (some ad168) l0_0.length c0_0)] 30 (0, 0))) ∧ Aside0 (w'.heap[gb167]? = some (.cells #[.int .i64 x168000_2, .int .i64 x168001_2, .int .i64 x168002_2] 84 (0, 0))) ∧ Aside0 (Below w.heap.size w w'))
 case atStart => exact ⟨(y173), (y177), (0), (0), (0), H', ⟨Nat.le_refl _⟩, ⟨kR HO_7⟩, ⟨kR HO176⟩, ⟨bp BK166⟩, ⟨bp BK167⟩, ⟨bw HB⟩⟩
 clear H'
 (try clear c2); (try clear q2); (try clear hx2); (try clear qi2); (try clear hf2); (try clear p6); (try clear c13); (try clear c13b0); (try clear c14); (try clear c14b0); (try clear p15); (try clear q15); (try clear hx15); (try clear hf15); (try clear c16); (try clear p16); (try clear q16); (try clear hx16); (try clear c19); (try clear c19b0); (try clear c19b1); (try clear p20); (try clear q20); (try clear hx20); (try clear qi20); (try clear hf20); (try clear c21); (try clear c21b0); (try clear c21b1); (try clear c22); (try clear c22b0); (try clear c22b1); (try clear c23); (try clear c23b0); (try clear c23b1); (try clear p24); (try clear q24); (try clear hx24); (try clear qi24); (try clear hf24); (try clear hx15_0); (try clear hx20_0); (try clear hx24_0); (try clear p15); (try clear p20); (try clear p24); (try clear q15); (try clear q20); (try clear q24)
 obtain ⟨x7_2, x9_2, x168000_2, x168001_2, x168002_2, HA, HK2, HO_7, HO_9, BK166, BK167, HB⟩ := hrel
 have hl7_2 := (Kd.R_reads' HO_7.out).1
 rw [hl7_2] at HO_7
 (try simp only [hl7_2])
 (try simp only [hl7_2] at BK166)
 (try simp only [hl7_2] at BK167)
 (try simp only [hl7_2] at HO_9)
 have hl9_2 := (Kd.R_reads' HO_9.out).1
 rw [hl9_2] at HO_9
 (try simp only [hl9_2])
 (try simp only [hl9_2] at BK166)
 (try simp only [hl9_2] at BK167)
 (try simp only [hl9_2] at HO_7)
 rcases gk with _ | k2
 ·exact absurd HA.out (by simp [spec_l04Heights.l1])
 have H := HA.out
 clear HA
 simp only [spec_l04Heights.l1] at H
 refine be H ?_; clear H; intro t178 A32 H
 have HC33 := am H
 clear H
 go_upto_if 45 with (first | ((with_reducible refine gk 117 rfl ?_); refine gD 117 (some 43) Try.func117 #[.slice (some ⟨go24, 0, none⟩) x9_2.length co24] (spec_l04Least.calls k2 _ _ x9_2 t178 _ (cc (Kd.R_reads' HO_9.out).2.2) ((Kd.R_reads' HO_9.out).2.1) A32.out) ?_; intro nd))
 (try simp only [Act.put, sa, sz, ss])
 (try simp only [World.drewN_drewN])
 generalize hq_ : World.drewN wr _ = w34
 replace HO_7 : Aside0 (Kd.R (Kd.int .i64) 2 w34 w.heap.size (fun _ => True) (.slice (some ⟨go20, 0, none⟩) x7_2.length co25) x7_2) := ⟨by rw [← hq_]; exact (kR HO_7)⟩
 replace HO_9 : Aside0 (Kd.R Kd.bool 4 w34 w.heap.size (fun _ => True) (.slice (some ⟨go24, 0, none⟩) x9_2.length co24) x9_2) := ⟨by rw [← hq_]; exact (kR HO_9)⟩
 replace BK166 : Aside0 (w34.heap[gb166]? = some (.cells #[.slice (some ad168) l0_0.length c0_0] 30 (0, 0))) := ⟨by rw [← hq_]; exact (bp BK166)⟩
 replace BK167 : Aside0 (w34.heap[gb167]? = some (.cells #[.int .i64 x168000_2, .int .i64 x168001_2, .int .i64 x168002_2] 84 (0, 0))) := ⟨by rw [← hq_]; exact (bp BK167)⟩
 replace HB : Aside0 (Below w.heap.size w w34) := ⟨by rw [← hq_]; exact (bw HB)⟩
 clear hq_
 have H := HC33.out
 clear HC33
 by_cases c35 : t178 < 0
 ·rw [if_pos c35] at H
  have c35b0 := decide_eq_true c35
  clear c35
  (first | rw [c35b0] | (simp only [i64_w, i32_w]; rw [c35b0]) | skip)
  simp only [Option.some.injEq, Prod.mk.injEq] at H
  obtain ⟨rfl, rfl, rfl, rfl⟩ := H
  have hnb36 := NB167_166.out
  have hnc36 := NB166_167.out
  have hcz37 := bK w34 BK167
  have hfz37 := bF BK167
  go_wp2
  refine bodyPost_ret (results_tc rfl _ _ gb167 84 #[.int .i64 0, .int .i64 0, .int .i64 0] (0, 0) _ rfl (bt BK167) Try.underlying84 rfl (by kernel_rfl)) rfl ?_
  exact ⟨_, er, by (with_reducible repeat (first | apply Kd.R_alloc | apply Kd.R_drewN | apply Kd.R_drew)); exact Kd.R_mono (Kd.R_far (p := ⟨gb167, 2, none⟩) (Kd.R_far (p := ⟨gb167, 1, none⟩) (Kd.R_far (p := ⟨gb167, 0, none⟩) (Kd.R_types HO_7.out BK167.out (by decide)) (fun _ hk => hk.2) (.int .i64 0)) (fun _ hk => hk.2) (.int .i64 0)) (fun _ hk => hk.2) (.int .i64 0)) (fun _ hk => trivial), bw HB⟩
 rw [if_neg c35] at H
 have c35b0 := decide_eq_false c35
 clear c35
 (first | rw [c35b0] | (simp only [i64_w, i32_w]; rw [c35b0]) | skip)
 refine iN H ?_; clear H; intro c38 H
 have c38b0 := decide_eq_true c38
 clear c38
 refine iN H ?_; clear H; intro c39 H
 have c39b0 := decide_eq_true c39
 (try (have c39b0hl9_2 := c39b0; rw [hl9_2] at c39b0hl9_2))
 clear c39
 obtain ⟨y179, hy179⟩ : ∃ y_ : List Bool, y_ = (x9_2.set (t178 : Int).toNat false) := ⟨_, rfl⟩
 replace H : (if t178 < (((rd_T100 l0_0 a1).f2).length : Int) then ((spec_Takes.f k2 l0_0 ((rd_T102 ((rd_T100 l0_0 a1).f2) t178).f0) ((rd_T102 ((rd_T100 l0_0 a1).f2) t178).f1)).bind fun t183 => (if t178 < (x7_2.length : Int) then ((spec_Puts.f k2 ((rd_T102 ((rd_T100 l0_0 a1).f2) t178).f0) ((rd_T102 ((rd_T100 l0_0 a1).f2) t178).f1)).bind fun t185 => (if t183 > (rd x7_2 t178) then (spec_l04Heights.j2 k2 a1 ((rd_T100 l0_0 a1).f2) x7_2 y179 t178 (wrap64 ((wrap64 ((rd x7_2 t178) - t183)) + t185)) true l0_0 ((rd_T102 ((rd_T100 l0_0 a1).f2) t178).f0) ((rd_T102 ((rd_T100 l0_0 a1).f2) t178).f1) a1 t178 5) else (spec_l04Heights.j2 k2 a1 ((rd_T100 l0_0 a1).f2) x7_2 y179 t178 (wrap64 ((wrap64 ((rd x7_2 t178) - t183)) + t185)) (decide ((wrap64 ((wrap64 ((rd x7_2 t178) - t183)) + t185)) > 8)) l0_0 ((rd_T102 ((rd_T100 l0_0 a1).f2) t178).f0) ((rd_T102 ((rd_T100 l0_0 a1).f2) t178).f1) a1 t178 5))) else (none))) else (none)) = some (r1, r2, r3, r4) := by first | (rw [hy179]; with_reducible exact H) | (have H2_ := (Option.bind_some _ _).symm.trans H; rw [hy179]; with_reducible exact H2_) | (have H2_ := (Option.bind_some _ _).symm.trans H; with_reducible exact H2_) | with_reducible exact H | (rw [hy179]; exact H) | exact H
 have Ny179 := am hy179
 clear hy179
 refine iN H ?_; clear H; intro c41 H
 have c41b0 := decide_eq_true c41
 clear c41
 refine be H ?_; clear H; intro t183 A42 H
 refine iN H ?_; clear H; intro c43 H
 have c43b0 := decide_eq_true c43
 (try (have c43b0hl7_2 := c43b0; rw [hl7_2] at c43b0hl7_2))
 clear c43
 refine be H ?_; clear H; intro t185 A44 H
 have HC45 := am H
 clear H
 have p40 : 0 ≤ (t178 : Int) := of_decide_eq_true as1
 have q40 : (t178 : Int) < ((x9_2.length : Int) : Int) := of_decide_eq_true as1
 obtain ⟨hx40_0, hf40_0⟩ := Kd.R_celln false HO_9.out (t178 : Int) p40 q40
 replace p40 := eq_true p40
 replace q40 := eq_true q40
 have HP46 := Kd.R_putg HO_9.out (t178 : Int) false
 try go_wp2_with (first | ((with_reducible refine gt 4 50 rfl ?_); refine sE 4 50 (w34.setCell ⟨go24, (t178 : Int).toNat, none⟩ (.bool false)) ?_; intro w47 hw; have hg : w34.grownBy w47 (some go24) := (by rw [hw]; exact HP46.2); have hp_ : Kd.R Kd.bool 4 w47 w.heap.size (fun _ => True) (.slice (some ⟨go24, 0, none⟩) x9_2.length co24) y179 := (by rw [hw, Ny179.out]; exact HP46.1); clear HP46; replace HO_7 := am (Kd.R_over' (v := (.slice (some ⟨go24, 0, none⟩) x9_2.length co24)) (kR HO_7) (Kd.R_typed HO_9.out) (by decide) hg); replace BK166 := bg BK166 hg (Kd.R_ne HO_9.out BK166.out (by decide)); replace BK167 := bg BK167 hg (Kd.R_ne HO_9.out BK167.out (by decide)); replace HO_9 := am (hp_); replace HB := am ((by rw [hw]; exact below_set (HB.out) GB24.out : Below w.heap.size w w47)); clear hg hw hp_; have p180 : 0 ≤ (t178 : Int) := of_decide_eq_true as1; have q180 : t178 < (((rd_T100 l0_0 a1).f2).length : Int) := of_decide_eq_true as1; obtain ⟨ad180, e180, hx180_0, hx180_1⟩ := at_T102 HR168_2.out t178 p180 q180; cases e180; replace hx180_0 := cl HB hx180_0; replace hx180_1 := cl HB hx180_1; replace p180 := eq_true p180; replace q180 := eq_true q180) | ((with_reducible refine gd 11 rfl ?_); refine bX 11 #[.int .i64 0, .int .i64 0] 102 HB ?_; clear HB; intro gb181 w48 hg hb BK181 GW181 HB; replace HO_7 := am (Kd.R_below (kR HO_7) hb); replace HO_9 := am (Kd.R_below (kR HO_9) hb); obtain ⟨NB166_181, NB181_166, BK166⟩ := b3 hg BK166 hb; obtain ⟨NB167_181, NB181_167, BK167⟩ := b3 hg BK167 hb; clear hb hg; have hnb49 := NB181_166.out; have hnc49 := NB166_181.out; have hnb50 := NB181_167.out; have hnc50 := NB167_181.out; have hcz51 := bK w48 BK181; have hfz51 := bF BK181) | ((with_reducible refine gd 12 rfl ?_); refine bx 12 #[.int .i64 0, .int .i64 0, .int .i64 0] 84 ?_; intro gb182 hg w52 hbox hb; replace HO_7 := am (Kd.R_below (by (with_reducible repeat (first | apply Kd.R_alloc | apply Kd.R_drewN | apply Kd.R_drew)); exact (Kd.R_mono (Kd.R_far (p := ⟨gb181, 1, none⟩) (Kd.R_far (p := ⟨gb181, 0, none⟩) (Kd.R_types HO_7.out BK181.out (by decide)) (fun _ hk => hk.2) (.int .i64 ((rd_T102 ((rd_T100 l0_0 a1).f2) t178).f0))) (fun _ hk => hk.2) (.int .i64 ((rd_T102 ((rd_T100 l0_0 a1).f2) t178).f1))) (fun _ h_ => h_.1))) hb); replace HO_9 := am (Kd.R_below (by (with_reducible repeat (first | apply Kd.R_alloc | apply Kd.R_drewN | apply Kd.R_drew)); exact (Kd.R_mono (Kd.R_far (p := ⟨gb181, 1, none⟩) (Kd.R_far (p := ⟨gb181, 0, none⟩) (Kd.R_types HO_9.out BK181.out (by decide)) (fun _ hk => hk.2) (.int .i64 ((rd_T102 ((rd_T100 l0_0 a1).f2) t178).f0))) (fun _ hk => hk.2) (.int .i64 ((rd_T102 ((rd_T100 l0_0 a1).f2) t178).f1))) (fun _ h_ => h_.1))) hb); have BK182 := am (hbox); have GW182 := gw hg HB; replace HB := bs HB hb; obtain ⟨NB166_182, NB182_166⟩ := n3 hg BK166; replace BK166 := bb2 BK166 hb; obtain ⟨NB167_182, NB182_167⟩ := n3 hg BK167; replace BK167 := bb2 BK167 hb; obtain ⟨NB181_182, NB182_181⟩ := n3 hg BK181; replace BK181 := bo #[.int .i64 ((rd_T102 ((rd_T100 l0_0 a1).f2) t178).f0), .int .i64 ((rd_T102 ((rd_T100 l0_0 a1).f2) t178).f1)] BK181 hb; clear hb hbox hg; have hnb53 := NB182_166.out; have hnc53 := NB166_182.out; have hnb54 := NB182_167.out; have hnc54 := NB167_182.out; have hnb55 := NB182_181.out; have hnc55 := NB181_182.out; have hcz56 := bK w52 BK182; have hfz56 := bF BK182; have hnb57 := NB166_167.out; have hnc57 := NB167_166.out; have hcz58 := bK w52 BK166; have hfz58 := bF BK166; have hcz59 := bK w52 BK181; have hfz59 := bF BK181) | ((with_reducible refine gk 118 rfl ?_); refine gB 118 (some 60) Try.func118 #[.agg #[.slice (some ad168) l0_0.length c0_0], .agg #[.int .i64 ((rd_T102 ((rd_T100 l0_0 a1).f2) t178).f0), .int .i64 ((rd_T102 ((rd_T100 l0_0 a1).f2) t178).f1)]] (spec_Takes.calls k2 _ _ l0_0 ((rd_T102 ((rd_T100 l0_0 a1).f2) t178).f0) ((rd_T102 ((rd_T100 l0_0 a1).f2) t178).f1) t183 _ (Kd.C_below HR0_0.out (bw HB)) HC0_0.out A42.out) ?_; intro w60 hb; replace HO_7 := am (Kd.R_below (by (with_reducible repeat (first | apply Kd.R_alloc | apply Kd.R_drewN | apply Kd.R_drew)); exact (Kd.R_mono (Kd.R_far (p := ⟨gb182, 2, none⟩) (Kd.R_far (p := ⟨gb182, 1, none⟩) (Kd.R_far (p := ⟨gb182, 0, none⟩) (Kd.R_types HO_7.out BK182.out (by decide)) (fun _ hk => hk.2) (.int .i64 a1)) (fun _ hk => hk.2) (.int .i64 t178)) (fun _ hk => hk.2) (.int .i64 5)) (fun _ h_ => h_.1))) hb); replace HO_9 := am (Kd.R_below (by (with_reducible repeat (first | apply Kd.R_alloc | apply Kd.R_drewN | apply Kd.R_drew)); exact (Kd.R_mono (Kd.R_far (p := ⟨gb182, 2, none⟩) (Kd.R_far (p := ⟨gb182, 1, none⟩) (Kd.R_far (p := ⟨gb182, 0, none⟩) (Kd.R_types HO_9.out BK182.out (by decide)) (fun _ hk => hk.2) (.int .i64 a1)) (fun _ hk => hk.2) (.int .i64 t178)) (fun _ hk => hk.2) (.int .i64 5)) (fun _ h_ => h_.1))) hb); replace BK166 := bb2 BK166 hb; replace BK167 := bb2 BK167 hb; replace BK181 := bb2 BK181 hb; replace BK182 := bo #[.int .i64 a1, .int .i64 t178, .int .i64 5] BK182 hb; replace HB := bs HB hb; clear hb))
 replace HO_7 := am (Kd.R_drew HO_7.out)
 replace HO_9 := am (Kd.R_drew HO_9.out)
 replace BK166 := am (blk_drew BK166.out)
 replace BK167 := am (blk_drew BK167.out)
 replace BK181 := am (blk_drew BK181.out)
 replace BK182 := am (blk_drew BK182.out)
 replace HB := am (below_drew1 HB.out)
 obtain ⟨p184, q184, hx184_0⟩ := aR HO_7 t178
 refine start_ (n := 10) (S := fun w' => w'.cell? ⟨gb181, 0, none⟩ = some (.int .i64 ((rd_T102 ((rd_T100 l0_0 a1).f2) t178).f0)) ∧ w'.cell? ⟨gb181, 1, none⟩ = some (.int .i64 ((rd_T102 ((rd_T100 l0_0 a1).f2) t178).f1)) ∧ w'.cell? ⟨go20, (t178).toNat, none⟩ = some (.int .i64 (rd x7_2 t178))) (ds := []) (bv 10 0) (by kernel_rfl) rfl (by kernel_rfl) ⟨bc BK181 0, bc BK181 1, hx184_0⟩ (fun hHeld => ?_); refine with_tabW spec_l04Heights.tab17 spec_l04Heights.bits17 (fun HT_ HW_ => ?_)
 generalize w60.drew = w61 at HO_7 HO_9 BK166 BK167 BK181 BK182 HB hx184_0 hHeld ⊢
 refine pu 0 61 10 1 HT_ ?_
 refine pu 1 62 10 3 HT_ ?_
 refine pu 2 63 10 7 HT_ ?_
 refine pu 4 65 10 23 HT_ ?_
 refine tk 3 64 10 31 HT_ HW_ hHeld ?_
 refine pu 5 66 10 63 HT_ ?_
 refine tk 6 67 10 127 HT_ HW_ hHeld ?_
 refine on 7 (some 68) 10 255 HT_ fun K hK => ?_
 refine goes_ Try.func119 (by kernel_rfl) rfl #[.agg #[.int .i64 ((rd_T102 ((rd_T100 l0_0 a1).f2) t178).f0), .int .i64 ((rd_T102 ((rd_T100 l0_0 a1).f2) t178).f1)]] (by rfl) rfl rfl gl ?_
 with_reducible refine (spec_Puts.calls k2 ((rd_T102 ((rd_T100 l0_0 a1).f2) t178).f0) ((rd_T102 ((rd_T100 l0_0 a1).f2) t178).f1) t185 _ A44.out).mono ?_
 rintro e w62 ⟨rfl, hb⟩
 have HS2_ := (hb.cell (World.block_lt_of_cell? _ _ (hHeld.2.2))).trans (hHeld.2.2)
 refine ⟨_, rfl, ?_⟩
 replace HO_7 := am (Kd.R_below (kR HO_7) hb)
 replace HO_9 := am (Kd.R_below (kR HO_9) hb)
 replace BK166 := bb BK166 hb
 replace BK167 := bb BK167 hb
 replace BK181 := bb BK181 hb
 replace BK182 := bb BK182 hb
 replace HB := am (below_step (bw HB) hb)
 clear hb
 refine hK.out _ _ ⟨bc BK181 0, bc BK181 1, HS2_⟩ (fun hHeld => ?_)
 clear hK K
 refine nm (some 68) ?_
 refine pu 8 69 10 511 HT_ ?_
 refine pu 9 14 10 1023 HT_ ?_
 refine done_ (done_of HT_.out (by kernel_rfl)) ?_
 go_upto_region 18 with (fail)
 go_cut [79] (fun v79 wc => ∃ (kq : Nat) (x79_44 : Bool), v79 = .bool x79_44 ∧ Aside0 (spec_l04Heights.j2 kq a1 ((rd_T100 l0_0 a1).f2) x7_2 y179 t178 (wrap64 ((wrap64 ((rd x7_2 t178) - t183)) + t185)) x79_44 l0_0 ((rd_T102 ((rd_T100 l0_0 a1).f2) t178).f0) ((rd_T102 ((rd_T100 l0_0 a1).f2) t178).f1) a1 t178 5 = some (r1, r2, r3, r4)) ∧ Aside0 (kq ≤ k2) ∧ Aside0 (Kd.R (Kd.int .i64) 2 wc w.heap.size (fun _ => True) (.slice (some ⟨go20, 0, none⟩) x7_2.length co25) x7_2) ∧ Aside0 (Kd.R Kd.bool 4 wc w.heap.size (fun _ => True) (.slice (some ⟨go24, 0, none⟩) x9_2.length co24) y179) ∧ Aside0 (wc.heap[gb166]? = some (.cells #[(.slice (some ad168) l0_0.length c0_0)] 30 (0, 0))) ∧ Aside0 (wc.heap[gb167]? = some (.cells #[.int .i64 x168000_2, .int .i64 x168001_2, .int .i64 x168002_2] 84 (0, 0))) ∧ Aside0 (wc.heap[gb181]? = some (.cells #[.int .i64 ((rd_T102 ((rd_T100 l0_0 a1).f2) t178).f0), .int .i64 ((rd_T102 ((rd_T100 l0_0 a1).f2) t178).f1)] 102 (0, 0))) ∧ Aside0 (wc.heap[gb182]? = some (.cells #[.int .i64 a1, .int .i64 t178, .int .i64 5] 84 (0, 0))) ∧ Aside0 (Below w.heap.size w wc))
 case first =>
  have H := HC45.out
  clear HC45
  refine qG H ?_ ?_ <;> clear H <;> intro c63b0 H
  ·(first | rw [c63b0] | (simp only [i64_w, i32_w]; rw [c63b0]) | skip)
   have H' := am H
   clear H
   obtain ⟨p186, q186, hx186_0⟩ := aR HO_7 t178
   go_wp2
   go_meet
   case rel => exact ⟨_, (true), dr, H', ⟨lk2 HK1 HK2⟩, ⟨by (try simp only [hl7_2]); (try simp only [hl9_2]); exact kR HO_7⟩, ⟨by (try simp only [hl7_2]); (try simp only [hl9_2]); exact kR HO_9⟩, ⟨by (try simp only [hl7_2]); (try simp only [hl9_2]); exact bp BK166⟩, ⟨by (try simp only [hl7_2]); (try simp only [hl9_2]); exact bp BK167⟩, ⟨by (try simp only [hl7_2]); (try simp only [hl9_2]); exact bp BK181⟩, ⟨by (try simp only [hl7_2]); (try simp only [hl9_2]); exact bp BK182⟩, ⟨bw HB⟩⟩
  (first | rw [c63b0] | (simp only [i64_w, i32_w]; rw [c63b0]) | skip)
  have H' := am H
  clear H
  obtain ⟨p186, q186, hx186_0⟩ := aR HO_7 t178
  go_wp2
  go_meet
  case rel => exact ⟨_, (decide ((wrap64 ((wrap64 ((rd x7_2 t178) - t183)) + t185)) > 8)), dr, H', ⟨lk2 HK1 HK2⟩, ⟨by (try simp only [hl7_2]); (try simp only [hl9_2]); exact kR HO_7⟩, ⟨by (try simp only [hl7_2]); (try simp only [hl9_2]); exact kR HO_9⟩, ⟨by (try simp only [hl7_2]); (try simp only [hl9_2]); exact bp BK166⟩, ⟨by (try simp only [hl7_2]); (try simp only [hl9_2]); exact bp BK167⟩, ⟨by (try simp only [hl7_2]); (try simp only [hl9_2]); exact bp BK181⟩, ⟨by (try simp only [hl7_2]); (try simp only [hl9_2]); exact bp BK182⟩, ⟨bw HB⟩⟩
 clear HC45
 (try clear p4); (try clear q4); (try clear hx4); (try clear hf4); (try clear c11); (try clear p18); (try clear q18); (try clear hx18); (try clear c35); (try clear c35b0); (try clear c36); (try clear c38); (try clear c38b0); (try clear c39); (try clear c39b0); (try clear p40); (try clear q40); (try clear hx40); (try clear hf40); (try clear c41); (try clear c41b0); (try clear c43); (try clear c43b0); (try clear c49); (try clear c50); (try clear c53); (try clear c54); (try clear c55); (try clear c57); (try clear c58); (try clear c63); (try clear c63b0); (try clear hcz37); (try clear hcz51); (try clear hcz56); (try clear hcz58); (try clear hcz59); (try clear hfz37); (try clear hfz51); (try clear hfz56); (try clear hfz58); (try clear hfz59); (try clear hx180_0); (try clear hx180_1); (try clear hx184_0); (try clear hx186_0); (try clear hx40_0); (try clear p180); (try clear p184); (try clear p186); (try clear p40); (try clear q180); (try clear q184); (try clear q186); (try clear q40)
 obtain ⟨kq, x79_44, rfl, HA, HJ44, HO_7, HO_9, BK166, BK167, BK181, BK182, HB⟩ := hcut
 have hl9_44 := (Kd.R_reads' HO_9.out).1
 rw [hl9_44] at HO_9
 (try simp only [hl9_44])
 (try simp only [hl9_44] at BK166)
 (try simp only [hl9_44] at BK167)
 (try simp only [hl9_44] at BK181)
 (try simp only [hl9_44] at BK182)
 (try simp only [hl9_44] at HO_7)
 rcases kq with _ | kj44
 ·exact absurd HA.out (by simp [spec_l04Heights.j2])
 have H := HA.out
 clear HA
 simp only [spec_l04Heights.j2] at H
 refine qT H ?_ ?_ <;> clear H <;> intro c64 H <;> subst c64
 ·simp only [Option.some.injEq, Prod.mk.injEq] at H
  obtain ⟨rfl, rfl, rfl, rfl⟩ := H
  try go_wp2
  replace HO_7 := am (Kd.R_drew HO_7.out)
  replace HO_9 := am (Kd.R_drew HO_9.out)
  replace BK166 := am (blk_drew BK166.out)
  replace BK167 := am (blk_drew BK167.out)
  replace BK181 := am (blk_drew BK181.out)
  replace BK182 := am (blk_drew BK182.out)
  replace HB := am (below_drew1 HB.out)
  refine start_ (n := 4) (S := fun w' => w'.cell? ⟨gb182, 0, none⟩ = some (.int .i64 a1) ∧ w'.cell? ⟨gb182, 1, none⟩ = some (.int .i64 t178) ∧ w'.cell? ⟨gb182, 2, none⟩ = some (.int .i64 5)) (ds := []) (bv 4 0) (by kernel_rfl) rfl (by kernel_rfl) ⟨bc BK182 0, bc BK182 1, bc BK182 2⟩ (fun hHeld => ?_)
  generalize wc.drew = w65 at HO_7 HO_9 BK166 BK167 BK181 BK182 HB hHeld ⊢
  refine pure_ (i := 0) (N := some 80) (v := ?_) (a' := ?_) (bv 4 1) rfl rfl (by kernel_rfl) (fun _ _ _ h => h) (Or.inl ⟨by rfl, ?_⟩) ?_ ?_
  rotate_left
  ·intro w'
   go_simp
   with_reducible rfl
  rotate_left
  ·simp only [Act.put, sa, sz, ss, i64_w, i32_w]
   rfl
  refine pure_ (i := 2) (N := some 4) (v := ?_) (a' := ?_) (bv 4 5) rfl rfl (by kernel_rfl) (fun _ _ _ h => h) (Or.inl ⟨by rfl, ?_⟩) ?_ ?_
  rotate_left
  ·intro w'
   go_simp
   with_reducible rfl
  rotate_left
  ·simp only [Act.put, sa, sz, ss, i64_w, i32_w]
   rfl
  refine take_ (i := 1) (N := some 81) (v := ?_) (a' := ?_) (bv 4 7) rfl rfl (by kernel_rfl) (fun _ _ _ h => h) (Or.inl ⟨by rfl, ?_⟩) hHeld ?_ ?_
  rotate_left
  ·rintro w' ⟨s0, s1, s2⟩
   go_simp
   with_reducible rfl
  rotate_left
  ·simp only [Act.put, sa, sz, ss, i64_w, i32_w]
   rfl
  refine one_ (i := 3) (N := none) (bv 4 15) rfl rfl (by kernel_rfl) (by decide) (fun K hK => ?_)
  have hs66 := bk w65 BK167 0
  have hfs66 := bf BK167 0
  have hns66_0 := NB166_167.out
  have hns66_2 := NB181_167.out
  have hns66_3 := NB182_167.out
  have hms66_0 := NB167_166.out
  have hms66_2 := NB167_181.out
  have hms66_3 := NB167_182.out
  have hs67 := bk w65 BK167 1
  have hfs67 := bf BK167 1
  have hns67_0 := NB166_167.out
  have hns67_2 := NB181_167.out
  have hns67_3 := NB182_167.out
  have hms67_0 := NB167_166.out
  have hms67_2 := NB167_181.out
  have hms67_3 := NB167_182.out
  have hs68 := bk w65 BK167 2
  have hfs68 := bf BK167 2
  have hns68_0 := NB166_167.out
  have hns68_2 := NB181_167.out
  have hns68_3 := NB182_167.out
  have hms68_0 := NB167_166.out
  have hms68_2 := NB167_181.out
  have hms68_3 := NB167_182.out
  refine skip_ (w1 := ?_) (by rfl) rfl ?_ ?_
  rotate_left
  ·go_simp
   rfl
  refine hK.out _ _ ⟨((cell_far (p := ⟨gb167, _, none⟩) NB182_167.out _).trans (((cell_far (p := ⟨gb167, _, none⟩) NB182_167.out _).trans (((cell_far (p := ⟨gb167, _, none⟩) NB182_167.out _).trans (hHeld.1)))))), ((cell_far (p := ⟨gb167, _, none⟩) NB182_167.out _).trans (((cell_far (p := ⟨gb167, _, none⟩) NB182_167.out _).trans (((cell_far (p := ⟨gb167, _, none⟩) NB182_167.out _).trans (hHeld.2.1)))))), ((cell_far (p := ⟨gb167, _, none⟩) NB182_167.out _).trans (((cell_far (p := ⟨gb167, _, none⟩) NB182_167.out _).trans (((cell_far (p := ⟨gb167, _, none⟩) NB182_167.out _).trans (hHeld.2.2))))))⟩ (fun hHeld => ?_)
  clear hK K
  refine done_ (by kernel_rfl) ?_
  try go_wp2
  refine bodyPost_ret (results_tc rfl _ _ gb167 84 #[.int .i64 a1, .int .i64 t178, .int .i64 5] (0, 0) _ rfl (bt BK167) Try.underlying84 rfl (by kernel_rfl)) rfl ?_
  exact ⟨_, er, by (with_reducible repeat (first | apply Kd.R_alloc | apply Kd.R_drewN | apply Kd.R_drew)); exact Kd.R_mono (Kd.R_far (p := ⟨gb167, 2, none⟩) (Kd.R_far (p := ⟨gb167, 1, none⟩) (Kd.R_far (p := ⟨gb167, 0, none⟩) (Kd.R_types HO_7.out BK167.out (by decide)) (fun _ hk => hk.2) (.int .i64 a1)) (fun _ hk => hk.2) (.int .i64 t178)) (fun _ hk => hk.2) (.int .i64 5)) (fun _ hk => trivial), bw HB⟩
 obtain ⟨y187, hy187⟩ : ∃ y_ : List Int, y_ = (([] : List Int)) := ⟨_, rfl⟩
 replace H : (if ((rd_T102 ((rd_T100 l0_0 a1).f2) t178).f0) = 30 then (spec_l04Heights.j3 kj44 a1 ((rd_T100 l0_0 a1).f2) x7_2 y179 t178 (wrap64 ((wrap64 ((rd x7_2 t178) - t183)) + t185)) y187 false l0_0 ((rd_T102 ((rd_T100 l0_0 a1).f2) t178).f0) ((rd_T102 ((rd_T100 l0_0 a1).f2) t178).f1) a1 t178 5) else (spec_l04Heights.j3 kj44 a1 ((rd_T100 l0_0 a1).f2) x7_2 y179 t178 (wrap64 ((wrap64 ((rd x7_2 t178) - t183)) + t185)) y187 (((rd_T102 ((rd_T100 l0_0 a1).f2) t178).f0) != 33) l0_0 ((rd_T102 ((rd_T100 l0_0 a1).f2) t178).f0) ((rd_T102 ((rd_T100 l0_0 a1).f2) t178).f1) a1 t178 5)) = some (r1, r2, r3, r4) := by first | (rw [hy187]; with_reducible exact H) | (have H2_ := (Option.bind_some _ _).symm.trans H; rw [hy187]; with_reducible exact H2_) | (have H2_ := (Option.bind_some _ _).symm.trans H; with_reducible exact H2_) | with_reducible exact H | (rw [hy187]; exact H) | exact H
 have Ny187 := am hy187
 clear hy187
 have HC69 := am H
 clear H
 go_upto_region 21 with (first | ((with_reducible refine gate_dst (N := 82) rfl ?_); refine Kd.R_lit (Kd.int .i64) _ 2 ?hg (N := 82) ?hd (xs := ([] : List Int)) (inner := []) (ok := fun _ => True) (okp := fun _ => True) ?hr ?hp (fun _ hk => hk) trivial (Below.refl _ _) (Nat.le_refl _) (by simp) ?_; (case hd => rfl); (case hg => rfl); (case hr => exact gs); (case hp => exact (Reps.none _ _)); intro v188 w70 ho71 hb hg_ hnew_; clear hg_ hnew_; (first | rw [← Ny187.out] at ho71 | (simp only [Int.reduceToNat] at ho71; rw [← Ny187.out] at ho71)); replace HO_9 := am (Kd.R_below (kR HO_9) hb); have HO189 := am (Kd.R_lower (Kd.R_new' ho71 (Kd.R_lt (kR HO_7))) (below_size (bw HB))); replace HO_7 := am (Kd.R_elder' (kR HO_7) (Kd.R_base ho71) hb); replace BK166 := bb BK166 hb; replace BK167 := bb BK167 hb; replace BK181 := bb BK181 hb; replace BK182 := bb BK182 hb; replace HB := bs HB hb; clear hb ho71))
 (try simp only [Act.put, sa, sz, ss])
 go_cut [90] (fun v90 wc => ∃ (kq : Nat) (x90_68 : Bool), v90 = .bool x90_68 ∧ Aside0 (spec_l04Heights.j3 kq a1 ((rd_T100 l0_0 a1).f2) x7_2 y179 t178 (wrap64 ((wrap64 ((rd x7_2 t178) - t183)) + t185)) y187 x90_68 l0_0 ((rd_T102 ((rd_T100 l0_0 a1).f2) t178).f0) ((rd_T102 ((rd_T100 l0_0 a1).f2) t178).f1) a1 t178 5 = some (r1, r2, r3, r4)) ∧ Aside0 (kq ≤ kj44) ∧ Aside0 (Kd.R (Kd.int .i64) 2 wc w.heap.size (fun k_ => some k_ ≠ (v188 : Value).ownBlock) (.slice (some ⟨go20, 0, none⟩) x7_2.length co25) x7_2) ∧ Aside0 (Kd.R Kd.bool 4 wc w.heap.size (fun _ => True) (.slice (some ⟨go24, 0, none⟩) y179.length co24) y179) ∧ Aside0 (Kd.R (Kd.int .i64) 2 wc w.heap.size (fun k_ => some k_ ≠ ((.slice (some ⟨go20, 0, none⟩) x7_2.length co25) : Value).ownBlock) v188 y187) ∧ Aside0 (wc.heap[gb166]? = some (.cells #[(.slice (some ad168) l0_0.length c0_0)] 30 (0, 0))) ∧ Aside0 (wc.heap[gb167]? = some (.cells #[.int .i64 x168000_2, .int .i64 x168001_2, .int .i64 x168002_2] 84 (0, 0))) ∧ Aside0 (wc.heap[gb181]? = some (.cells #[.int .i64 ((rd_T102 ((rd_T100 l0_0 a1).f2) t178).f0), .int .i64 ((rd_T102 ((rd_T100 l0_0 a1).f2) t178).f1)] 102 (0, 0))) ∧ Aside0 (wc.heap[gb182]? = some (.cells #[.int .i64 a1, .int .i64 t178, .int .i64 5] 84 (0, 0))) ∧ Aside0 (Below w.heap.size w wc))
 case first =>
  have H := HC69.out
  clear HC69
  refine qE H ?_ ?_ <;> clear H
  ·intro c72b0 c72b1 H
   (first | rw [c72b0] | (simp only [i64_w, i32_w]; rw [c72b0]) | skip)
   have H' := am H
   clear H
   have hnb73 := NB181_166.out
   have hnc73 := NB166_181.out
   have hnb74 := NB181_167.out
   have hnc74 := NB167_181.out
   have hnb75 := NB181_182.out
   have hnc75 := NB182_181.out
   have hcz76 := bK w70 BK181
   have hfz76 := bF BK181
   go_wp2
   go_meet
   case rel => exact ⟨_, (false), dr, H', ⟨lk3 HK1 HK2 HJ44⟩, ⟨by (try simp only [hl7_2]); (try simp only [hl9_2]); (try simp only [hl9_44]); (with_reducible repeat (first | apply Kd.R_alloc | apply Kd.R_drewN | apply Kd.R_drew)); exact Kd.R_mono HO_7.out (fun _ hk => hk.2)⟩, ⟨by (try simp only [hl7_2]); (try simp only [hl9_2]); (try simp only [hl9_44]); exact kR HO_9⟩, ⟨by (try simp only [hl7_2]); (try simp only [hl9_2]); (try simp only [hl9_44]); (with_reducible repeat (first | apply Kd.R_alloc | apply Kd.R_drewN | apply Kd.R_drew)); exact Kd.R_mono HO189.out (fun _ hk => hk.2)⟩, ⟨by (try simp only [hl7_2]); (try simp only [hl9_2]); (try simp only [hl9_44]); exact bp BK166⟩, ⟨by (try simp only [hl7_2]); (try simp only [hl9_2]); (try simp only [hl9_44]); exact bp BK167⟩, ⟨by (try simp only [hl7_2]); (try simp only [hl9_2]); (try simp only [hl9_44]); exact bp BK181⟩, ⟨by (try simp only [hl7_2]); (try simp only [hl9_2]); (try simp only [hl9_44]); exact bp BK182⟩, ⟨bw HB⟩⟩
  intro c72 c72b0 c72b1 H
  (first | rw [c72b0] | (simp only [i64_w, i32_w]; rw [c72b0]) | skip)
  have H' := am H
  clear H
  have hnb77 := NB181_166.out
  have hnc77 := NB166_181.out
  have hnb78 := NB181_167.out
  have hnc78 := NB167_181.out
  have hnb79 := NB181_182.out
  have hnc79 := NB182_181.out
  have hcz80 := bK w70 BK181
  have hfz80 := bF BK181
  go_wp2
  go_meet
  case rel => exact ⟨_, ((((rd_T102 ((rd_T100 l0_0 a1).f2) t178).f0) != 33)), dr, H', ⟨lk3 HK1 HK2 HJ44⟩, ⟨by (try simp only [hl7_2]); (try simp only [hl9_2]); (try simp only [hl9_44]); (with_reducible repeat (first | apply Kd.R_alloc | apply Kd.R_drewN | apply Kd.R_drew)); exact Kd.R_mono HO_7.out (fun _ hk => hk.2)⟩, ⟨by (try simp only [hl7_2]); (try simp only [hl9_2]); (try simp only [hl9_44]); exact kR HO_9⟩, ⟨by (try simp only [hl7_2]); (try simp only [hl9_2]); (try simp only [hl9_44]); (with_reducible repeat (first | apply Kd.R_alloc | apply Kd.R_drewN | apply Kd.R_drew)); exact Kd.R_mono HO189.out (fun _ hk => hk.2)⟩, ⟨by (try simp only [hl7_2]); (try simp only [hl9_2]); (try simp only [hl9_44]); exact bp BK166⟩, ⟨by (try simp only [hl7_2]); (try simp only [hl9_2]); (try simp only [hl9_44]); exact bp BK167⟩, ⟨by (try simp only [hl7_2]); (try simp only [hl9_2]); (try simp only [hl9_44]); exact bp BK181⟩, ⟨by (try simp only [hl7_2]); (try simp only [hl9_2]); (try simp only [hl9_44]); exact bp BK182⟩, ⟨bw HB⟩⟩
 clear HC69
 (try clear c7); (try clear c64); (try clear p64); (try clear c72); (try clear c72b0); (try clear c72b1); (try clear c73); (try clear c74); (try clear c75); (try clear c77); (try clear c78); (try clear c79); (try clear hcz76); (try clear hcz80); (try clear hfz76); (try clear hfz80)
 obtain ⟨kq, x90_68, rfl, HA, HJ68, HO_7, HO_9, HO_15, BK166, BK167, BK181, BK182, HB⟩ := hcut
 rcases kq with _ | kj68
 ·exact absurd HA.out (by simp [spec_l04Heights.j3])
 have H := HA.out
 clear HA
 simp only [spec_l04Heights.j3] at H
 have HC81 := am H
 clear H
 go_upto_if 90 with (fail)
 go_cut [15] (fun v15 wc => ∃ (kq : Nat) (x15_80 : List Int), Aside0 (spec_l04Heights.j4 kq a1 ((rd_T100 l0_0 a1).f2) x7_2 y179 (wrap64 ((wrap64 ((rd x7_2 t178) - t183)) + t185)) x15_80 l0_0 ((rd_T102 ((rd_T100 l0_0 a1).f2) t178).f0) ((rd_T102 ((rd_T100 l0_0 a1).f2) t178).f1) a1 t178 5 = some (r1, r2, r3, r4)) ∧ Aside0 (kq ≤ kj68) ∧ Aside0 (Kd.R (Kd.int .i64) 2 wc w.heap.size (fun k_ => some k_ ≠ (v15 : Value).ownBlock) (.slice (some ⟨go20, 0, none⟩) x7_2.length co25) x7_2) ∧ Aside0 (Kd.R Kd.bool 4 wc w.heap.size (fun _ => True) (.slice (some ⟨go24, 0, none⟩) y179.length co24) y179) ∧ Aside0 (Kd.R (Kd.int .i64) 2 wc w.heap.size (fun k_ => some k_ ≠ ((.slice (some ⟨go20, 0, none⟩) x7_2.length co25) : Value).ownBlock) v15 x15_80) ∧ Aside0 (wc.heap[gb166]? = some (.cells #[(.slice (some ad168) l0_0.length c0_0)] 30 (0, 0))) ∧ Aside0 (wc.heap[gb167]? = some (.cells #[.int .i64 x168000_2, .int .i64 x168001_2, .int .i64 x168002_2] 84 (0, 0))) ∧ Aside0 (wc.heap[gb181]? = some (.cells #[.int .i64 ((rd_T102 ((rd_T100 l0_0 a1).f2) t178).f0), .int .i64 ((rd_T102 ((rd_T100 l0_0 a1).f2) t178).f1)] 102 (0, 0))) ∧ Aside0 (wc.heap[gb182]? = some (.cells #[.int .i64 a1, .int .i64 t178, .int .i64 5] 84 (0, 0))) ∧ Aside0 (Below w.heap.size w wc))
 case first =>
  have H := HC81.out
  clear HC81
  refine qT H ?_ ?_ <;> clear H <;> intro c82 H <;> subst c82
  ·refine iN H ?_; clear H; intro c83 H
   have LMc83 := am c83
   clear c83
   obtain ⟨y190, hy190⟩ : ∃ y_ : List Int, y_ = (y187 ++ [wrap64 (t178 + 1)]) := ⟨_, rfl⟩
   replace H : (spec_l04Heights.j4 kj68 a1 ((rd_T100 l0_0 a1).f2) x7_2 y179 (wrap64 ((wrap64 ((rd x7_2 t178) - t183)) + t185)) y190 l0_0 ((rd_T102 ((rd_T100 l0_0 a1).f2) t178).f0) ((rd_T102 ((rd_T100 l0_0 a1).f2) t178).f1) a1 t178 5) = some (r1, r2, r3, r4) := by first | (rw [hy190]; with_reducible exact H) | (have H2_ := (Option.bind_some _ _).symm.trans H; rw [hy190]; with_reducible exact H2_) | (have H2_ := (Option.bind_some _ _).symm.trans H; with_reducible exact H2_) | with_reducible exact H | (rw [hy190]; exact H) | exact H
   have Ny190 := am hy190
   clear hy190
   have H' := am H
   clear H
   go_wp2_with (first | ((with_reducible refine gate_builtin (b := .append) (xs := #[.tmp 91, .tmp 94]) rfl ?_); at_builtin; refine Kd.R_append (Kd.int .i64) (w0 := w) w.heap.size rfl (.tmp 91) (.tmp 94) 26 2 (.int .i64 0) 8 rfl Try.underlying26 info2 rfl (by decide) (by omega) v188 y187 (wrap64 (t178 + 1)) [.int .i64 (wrap64 (t178 + 1))] (fun k_ => some k_ ≠ (.slice (some ⟨go20, 0, none⟩) x7_2.length co25 : Value).ownBlock) (fun _ => False) rfl rfl ?aP (fun _ hk => hk.elim) ?aF ?aO ?aB ?aS ?aL ?_; (case aP => exact rfl); (case aB => exact (bw HB)); (case aF => exact (fun k_ hk => Kd.fresh' (Kd.R_lt (kR HO_7)) k_ hk)); (case aO => exact (kR HO_15)); (case aS => exact (below_size (bw HB))); (case aL => have := LMc83.out; omega); intro v191 w84 ho hb hg hat; rw [← Ny190.out] at ho; replace HO_7 := am (Kd.R_after (ok := (fun _ => True)) (by (with_reducible repeat (first | apply Kd.R_alloc | apply Kd.R_drewN | apply Kd.R_drew)); exact Kd.R_mono HO_7.out (fun _ hk => ⟨trivial, hk⟩)) hg hat); replace HO_9 := am (Kd.R_over' (kR HO_9) (Kd.R_typed (kR HO_15)) (by decide) hg); replace BK166 := bg BK166 hg (Kd.R_ne HO_15.out BK166.out (by decide)); replace BK167 := bg BK167 hg (Kd.R_ne HO_15.out BK167.out (by decide)); replace BK181 := bg BK181 hg (Kd.R_ne HO_15.out BK181.out (by decide)); replace BK182 := bg BK182 hg (Kd.R_ne HO_15.out BK182.out (by decide)); replace HB := am (hb); have HO192 := am (ho); clear HO_15; clear ho hb hg hat))
   go_meet
   case rel => exact ⟨_, (y190), H', ⟨lk4 HK1 HK2 HJ44 HJ68⟩, ⟨by (try simp only [hl7_2]); (try simp only [hl9_2]); (try simp only [hl9_44]); (with_reducible repeat (first | apply Kd.R_alloc | apply Kd.R_drewN | apply Kd.R_drew)); exact Kd.R_mono HO_7.out (fun _ hk => hk.2)⟩, ⟨by (try simp only [hl7_2]); (try simp only [hl9_2]); (try simp only [hl9_44]); exact kR HO_9⟩, ⟨by (try simp only [hl7_2]); (try simp only [hl9_2]); (try simp only [hl9_44]); exact kR HO192⟩, ⟨by (try simp only [hl7_2]); (try simp only [hl9_2]); (try simp only [hl9_44]); exact bp BK166⟩, ⟨by (try simp only [hl7_2]); (try simp only [hl9_2]); (try simp only [hl9_44]); exact bp BK167⟩, ⟨by (try simp only [hl7_2]); (try simp only [hl9_2]); (try simp only [hl9_44]); exact bp BK181⟩, ⟨by (try simp only [hl7_2]); (try simp only [hl9_2]); (try simp only [hl9_44]); exact bp BK182⟩, ⟨bw HB⟩⟩
  have H' := am H
  clear H
  go_wp2
  go_meet
  case rel => exact ⟨_, (y187), H', ⟨lk4 HK1 HK2 HJ44 HJ68⟩, ⟨by (try simp only [hl7_2]); (try simp only [hl9_2]); (try simp only [hl9_44]); exact kR HO_7⟩, ⟨by (try simp only [hl7_2]); (try simp only [hl9_2]); (try simp only [hl9_44]); exact kR HO_9⟩, ⟨by (try simp only [hl7_2]); (try simp only [hl9_2]); (try simp only [hl9_44]); exact kR HO_15⟩, ⟨by (try simp only [hl7_2]); (try simp only [hl9_2]); (try simp only [hl9_44]); exact bp BK166⟩, ⟨by (try simp only [hl7_2]); (try simp only [hl9_2]); (try simp only [hl9_44]); exact bp BK167⟩, ⟨by (try simp only [hl7_2]); (try simp only [hl9_2]); (try simp only [hl9_44]); exact bp BK181⟩, ⟨by (try simp only [hl7_2]); (try simp only [hl9_2]); (try simp only [hl9_44]); exact bp BK182⟩, ⟨bw HB⟩⟩
 clear HC81
 (try clear c8); (try clear c82); (try clear c83)
 obtain ⟨kq, x15_80, HA, HJ80, HO_7, HO_9, HO_15, BK166, BK167, BK181, BK182, HB⟩ := hcut
 rcases kq with _ | kj80
 ·exact absurd HA.out (by simp [spec_l04Heights.j4])
 have H := HA.out
 clear HA
 simp only [spec_l04Heights.j4] at H
 have HC85 := am H
 clear H
 go_upto_region 23 with (fail)
 go_cut [103] (fun v103 wc => ∃ (kq : Nat) (x103_84 : Bool), v103 = .bool x103_84 ∧ Aside0 (spec_l04Heights.j5 kq a1 ((rd_T100 l0_0 a1).f2) x7_2 y179 (wrap64 ((wrap64 ((rd x7_2 t178) - t183)) + t185)) x15_80 x103_84 l0_0 ((rd_T102 ((rd_T100 l0_0 a1).f2) t178).f0) ((rd_T102 ((rd_T100 l0_0 a1).f2) t178).f1) a1 t178 5 = some (r1, r2, r3, r4)) ∧ Aside0 (kq ≤ kj80) ∧ Aside0 (Kd.R (Kd.int .i64) 2 wc w.heap.size (fun k_ => some k_ ≠ (u15 : Value).ownBlock) (.slice (some ⟨go20, 0, none⟩) x7_2.length co25) x7_2) ∧ Aside0 (Kd.R Kd.bool 4 wc w.heap.size (fun _ => True) (.slice (some ⟨go24, 0, none⟩) y179.length co24) y179) ∧ Aside0 (Kd.R (Kd.int .i64) 2 wc w.heap.size (fun k_ => some k_ ≠ ((.slice (some ⟨go20, 0, none⟩) x7_2.length co25) : Value).ownBlock) u15 x15_80) ∧ Aside0 (wc.heap[gb166]? = some (.cells #[(.slice (some ad168) l0_0.length c0_0)] 30 (0, 0))) ∧ Aside0 (wc.heap[gb167]? = some (.cells #[.int .i64 x168000_2, .int .i64 x168001_2, .int .i64 x168002_2] 84 (0, 0))) ∧ Aside0 (wc.heap[gb181]? = some (.cells #[.int .i64 ((rd_T102 ((rd_T100 l0_0 a1).f2) t178).f0), .int .i64 ((rd_T102 ((rd_T100 l0_0 a1).f2) t178).f1)] 102 (0, 0))) ∧ Aside0 (wc.heap[gb182]? = some (.cells #[.int .i64 a1, .int .i64 t178, .int .i64 5] 84 (0, 0))) ∧ Aside0 (Below w.heap.size w wc))
 case first =>
  have H := HC85.out
  clear HC85
  refine qE H ?_ ?_ <;> clear H
  ·intro c86b0 c86b1 H
   (first | rw [c86b0] | (simp only [i64_w, i32_w]; rw [c86b0]) | skip)
   have H' := am H
   clear H
   have hnb87 := NB181_166.out
   have hnc87 := NB166_181.out
   have hnb88 := NB181_167.out
   have hnc88 := NB167_181.out
   have hnb89 := NB181_182.out
   have hnc89 := NB182_181.out
   have hcz90 := bK wc BK181
   have hfz90 := bF BK181
   go_wp2
   go_meet
   case rel => exact ⟨_, (true), dr, H', ⟨lk5 HK1 HK2 HJ44 HJ68 HJ80⟩, ⟨by (try simp only [hl7_2]); (try simp only [hl9_2]); (try simp only [hl9_44]); exact kR HO_7⟩, ⟨by (try simp only [hl7_2]); (try simp only [hl9_2]); (try simp only [hl9_44]); exact kR HO_9⟩, ⟨by (try simp only [hl7_2]); (try simp only [hl9_2]); (try simp only [hl9_44]); exact kR HO_15⟩, ⟨by (try simp only [hl7_2]); (try simp only [hl9_2]); (try simp only [hl9_44]); exact bp BK166⟩, ⟨by (try simp only [hl7_2]); (try simp only [hl9_2]); (try simp only [hl9_44]); exact bp BK167⟩, ⟨by (try simp only [hl7_2]); (try simp only [hl9_2]); (try simp only [hl9_44]); exact bp BK181⟩, ⟨by (try simp only [hl7_2]); (try simp only [hl9_2]); (try simp only [hl9_44]); exact bp BK182⟩, ⟨bw HB⟩⟩
  intro c86 c86b0 c86b1 H
  (first | rw [c86b0] | (simp only [i64_w, i32_w]; rw [c86b0]) | skip)
  have H' := am H
  clear H
  have hnb91 := NB181_166.out
  have hnc91 := NB166_181.out
  have hnb92 := NB181_167.out
  have hnc92 := NB167_181.out
  have hnb93 := NB181_182.out
  have hnc93 := NB182_181.out
  have hcz94 := bK wc BK181
  have hfz94 := bF BK181
  go_wp2
  go_meet
  case rel => exact ⟨_, ((((rd_T102 ((rd_T100 l0_0 a1).f2) t178).f0) == 31)), dr, H', ⟨lk5 HK1 HK2 HJ44 HJ68 HJ80⟩, ⟨by (try simp only [hl7_2]); (try simp only [hl9_2]); (try simp only [hl9_44]); exact kR HO_7⟩, ⟨by (try simp only [hl7_2]); (try simp only [hl9_2]); (try simp only [hl9_44]); exact kR HO_9⟩, ⟨by (try simp only [hl7_2]); (try simp only [hl9_2]); (try simp only [hl9_44]); exact kR HO_15⟩, ⟨by (try simp only [hl7_2]); (try simp only [hl9_2]); (try simp only [hl9_44]); exact bp BK166⟩, ⟨by (try simp only [hl7_2]); (try simp only [hl9_2]); (try simp only [hl9_44]); exact bp BK167⟩, ⟨by (try simp only [hl7_2]); (try simp only [hl9_2]); (try simp only [hl9_44]); exact bp BK181⟩, ⟨by (try simp only [hl7_2]); (try simp only [hl9_2]); (try simp only [hl9_44]); exact bp BK182⟩, ⟨bw HB⟩⟩
 clear HC85
 (try clear c86); (try clear c86b0); (try clear c86b1); (try clear c87); (try clear c88); (try clear c89); (try clear c91); (try clear c92); (try clear c93); (try clear hcz90); (try clear hcz94); (try clear hfz90); (try clear hfz94)
 obtain ⟨kq, x103_84, rfl, HA, HJ84, HO_7, HO_9, HO_15, BK166, BK167, BK181, BK182, HB⟩ := hcut
 rcases kq with _ | kj84
 ·exact absurd HA.out (by simp [spec_l04Heights.j5])
 have H := HA.out
 clear HA
 simp only [spec_l04Heights.j5] at H
 have HC95 := am H
 clear H
 go_upto_if 103 with (fail)
 go_cut [15] (fun v15 wc => ∃ (kq : Nat) (x15_94 : List Int), Aside0 (spec_l04Heights.j6 kq a1 ((rd_T100 l0_0 a1).f2) x7_2 y179 (wrap64 ((wrap64 ((rd x7_2 t178) - t183)) + t185)) x15_94 l0_0 a1 t178 5 = some (r1, r2, r3, r4)) ∧ Aside0 (kq ≤ kj84) ∧ Aside0 (Kd.R (Kd.int .i64) 2 wc w.heap.size (fun k_ => some k_ ≠ (v15 : Value).ownBlock) (.slice (some ⟨go20, 0, none⟩) x7_2.length co25) x7_2) ∧ Aside0 (Kd.R Kd.bool 4 wc w.heap.size (fun _ => True) (.slice (some ⟨go24, 0, none⟩) y179.length co24) y179) ∧ Aside0 (Kd.R (Kd.int .i64) 2 wc w.heap.size (fun k_ => some k_ ≠ ((.slice (some ⟨go20, 0, none⟩) x7_2.length co25) : Value).ownBlock) v15 x15_94) ∧ Aside0 (wc.heap[gb166]? = some (.cells #[(.slice (some ad168) l0_0.length c0_0)] 30 (0, 0))) ∧ Aside0 (wc.heap[gb167]? = some (.cells #[.int .i64 x168000_2, .int .i64 x168001_2, .int .i64 x168002_2] 84 (0, 0))) ∧ Aside0 (wc.heap[gb181]? = some (.cells #[.int .i64 ((rd_T102 ((rd_T100 l0_0 a1).f2) t178).f0), .int .i64 ((rd_T102 ((rd_T100 l0_0 a1).f2) t178).f1)] 102 (0, 0))) ∧ Aside0 (wc.heap[gb182]? = some (.cells #[.int .i64 a1, .int .i64 t178, .int .i64 5] 84 (0, 0))) ∧ Aside0 (Below w.heap.size w wc))
 case first =>
  have H := HC95.out
  clear HC95
  refine qT H ?_ ?_ <;> clear H <;> intro c96 H <;> subst c96
  ·refine iN H ?_; clear H; intro c97 H
   have LMc97 := am c97
   clear c97
   obtain ⟨y193, hy193⟩ : ∃ y_ : List Int, y_ = (x15_80 ++ [((rd_T102 ((rd_T100 l0_0 a1).f2) t178).f1)]) := ⟨_, rfl⟩
   replace H : (spec_l04Heights.j6 kj84 a1 ((rd_T100 l0_0 a1).f2) x7_2 y179 (wrap64 ((wrap64 ((rd x7_2 t178) - t183)) + t185)) y193 l0_0 a1 t178 5) = some (r1, r2, r3, r4) := by first | (rw [hy193]; with_reducible exact H) | (have H2_ := (Option.bind_some _ _).symm.trans H; rw [hy193]; with_reducible exact H2_) | (have H2_ := (Option.bind_some _ _).symm.trans H; with_reducible exact H2_) | with_reducible exact H | (rw [hy193]; exact H) | exact H
   have Ny193 := am hy193
   clear hy193
   have H' := am H
   clear H
   have hnb98 := NB181_166.out
   have hnc98 := NB166_181.out
   have hnb99 := NB181_167.out
   have hnc99 := NB167_181.out
   have hnb100 := NB181_182.out
   have hnc100 := NB182_181.out
   have hcz101 := bK wc BK181
   have hfz101 := bF BK181
   go_wp2_with (first | ((with_reducible refine gate_builtin (b := .append) (xs := #[.tmp 104, .tmp 107]) rfl ?_); at_builtin; refine Kd.R_append (Kd.int .i64) (w0 := w) w.heap.size rfl (.tmp 104) (.tmp 107) 26 2 (.int .i64 0) 8 rfl Try.underlying26 info2 rfl (by decide) (by omega) u15 x15_80 ((rd_T102 ((rd_T100 l0_0 a1).f2) t178).f1) [.int .i64 ((rd_T102 ((rd_T100 l0_0 a1).f2) t178).f1)] (fun k_ => some k_ ≠ (.slice (some ⟨go20, 0, none⟩) x7_2.length co25 : Value).ownBlock) (fun _ => False) rfl rfl ?aP (fun _ hk => hk.elim) ?aF ?aO ?aB ?aS ?aL ?_; (case aP => exact rfl); (case aB => exact (bw HB)); (case aF => exact (fun k_ hk => Kd.fresh' (Kd.R_lt (kR HO_7)) k_ hk)); (case aO => exact (kR HO_15)); (case aS => exact (below_size (bw HB))); (case aL => have := LMc97.out; omega); intro v194 w102 ho hb hg hat; rw [← Ny193.out] at ho; replace HO_7 := am (Kd.R_after (ok := (fun _ => True)) (by (with_reducible repeat (first | apply Kd.R_alloc | apply Kd.R_drewN | apply Kd.R_drew)); exact Kd.R_mono HO_7.out (fun _ hk => ⟨trivial, hk⟩)) hg hat); replace HO_9 := am (Kd.R_over' (kR HO_9) (Kd.R_typed (kR HO_15)) (by decide) hg); replace BK166 := bg BK166 hg (Kd.R_ne HO_15.out BK166.out (by decide)); replace BK167 := bg BK167 hg (Kd.R_ne HO_15.out BK167.out (by decide)); replace BK181 := bg BK181 hg (Kd.R_ne HO_15.out BK181.out (by decide)); replace BK182 := bg BK182 hg (Kd.R_ne HO_15.out BK182.out (by decide)); replace HB := am (hb); have HO195 := am (ho); clear HO_15; clear ho hb hg hat))
   go_meet
   case rel => exact ⟨_, (y193), H', ⟨lk6 HK1 HK2 HJ44 HJ68 HJ80 HJ84⟩, ⟨by (try simp only [hl7_2]); (try simp only [hl9_2]); (try simp only [hl9_44]); (with_reducible repeat (first | apply Kd.R_alloc | apply Kd.R_drewN | apply Kd.R_drew)); exact Kd.R_mono HO_7.out (fun _ hk => hk.2)⟩, ⟨by (try simp only [hl7_2]); (try simp only [hl9_2]); (try simp only [hl9_44]); exact kR HO_9⟩, ⟨by (try simp only [hl7_2]); (try simp only [hl9_2]); (try simp only [hl9_44]); exact kR HO195⟩, ⟨by (try simp only [hl7_2]); (try simp only [hl9_2]); (try simp only [hl9_44]); exact bp BK166⟩, ⟨by (try simp only [hl7_2]); (try simp only [hl9_2]); (try simp only [hl9_44]); exact bp BK167⟩, ⟨by (try simp only [hl7_2]); (try simp only [hl9_2]); (try simp only [hl9_44]); exact bp BK181⟩, ⟨by (try simp only [hl7_2]); (try simp only [hl9_2]); (try simp only [hl9_44]); exact bp BK182⟩, ⟨bw HB⟩⟩
  have H' := am H
  clear H
  go_wp2
  go_meet
  case rel => exact ⟨_, (x15_80), H', ⟨lk6 HK1 HK2 HJ44 HJ68 HJ80 HJ84⟩, ⟨by (try simp only [hl7_2]); (try simp only [hl9_2]); (try simp only [hl9_44]); exact kR HO_7⟩, ⟨by (try simp only [hl7_2]); (try simp only [hl9_2]); (try simp only [hl9_44]); exact kR HO_9⟩, ⟨by (try simp only [hl7_2]); (try simp only [hl9_2]); (try simp only [hl9_44]); exact kR HO_15⟩, ⟨by (try simp only [hl7_2]); (try simp only [hl9_2]); (try simp only [hl9_44]); exact bp BK166⟩, ⟨by (try simp only [hl7_2]); (try simp only [hl9_2]); (try simp only [hl9_44]); exact bp BK167⟩, ⟨by (try simp only [hl7_2]); (try simp only [hl9_2]); (try simp only [hl9_44]); exact bp BK181⟩, ⟨by (try simp only [hl7_2]); (try simp only [hl9_2]); (try simp only [hl9_44]); exact bp BK182⟩, ⟨bw HB⟩⟩
 clear HC95
 (try clear c10); (try clear c96); (try clear c97); (try clear c98); (try clear c99); (try clear c100); (try clear hcz101); (try clear hfz101)
 obtain ⟨kq, x15_94, HA, HJ94, HO_7, HO_9, HO_15, BK166, BK167, BK181, BK182, HB⟩ := hcut
 rcases kq with _ | kj94
 ·exact absurd HA.out (by simp [spec_l04Heights.j6])
 have H := HA.out
 clear HA
 simp only [spec_l04Heights.j6] at H
 have H' := am H
 clear H
 go_wp2
 go_loopg [16] kj94 (fun kq v16 w' => ∃ (x7_8 : List Int) (x9_8 : List Bool) (x16_8 : Int) (x168000_8 : Int) (x168001_8 : Int) (x168002_8 : Int) (x183002_8 : Int), v16 = .int .i64 x16_8 ∧ Aside0 (spec_l04Heights.l2 kq a1 ((rd_T100 l0_0 a1).f2) x7_8 x9_8 (wrap64 ((wrap64 ((rd x7_2 t178) - t183)) + t185)) x15_94 x16_8 l0_0 a1 t178 x183002_8 = some (r1, r2, r3, r4)) ∧ Aside0 (kq ≤ kj94) ∧ Aside0 (Kd.R (Kd.int .i64) 2 w' w.heap.size (fun k_ => some k_ ≠ (u15 : Value).ownBlock) (.slice (some ⟨go20, 0, none⟩) x7_2.length co25) x7_8) ∧ Aside0 (Kd.R Kd.bool 4 w' w.heap.size (fun _ => True) (.slice (some ⟨go24, 0, none⟩) y179.length co24) x9_8) ∧ Aside0 (Kd.R (Kd.int .i64) 2 w' w.heap.size (fun k_ => some k_ ≠ ((.slice (some ⟨go20, 0, none⟩) x7_2.length co25) : Value).ownBlock) u15 x15_94) ∧ Aside0 (w'.heap[gb166]? = some (.cells #[(.slice (some ad168) l0_0.length c0_0)] 30 (0, 0))) ∧ Aside0 (w'.heap[gb167]? = some (.cells #[.int .i64 x168000_8, .int .i64 x168001_8, .int .i64 x168002_8] 84 (0, 0))) ∧ Aside0 (w'.heap[gb181]? = some (.cells #[.int .i64 ((rd_T102 ((rd_T100 l0_0 a1).f2) t178).f0), .int .i64 ((rd_T102 ((rd_T100 l0_0 a1).f2) t178).f1)] 102 (0, 0))) ∧ Aside0 (w'.heap[gb182]? = some (.cells #[.int .i64 a1, .int .i64 t178, .int .i64 x183002_8] 84 (0, 0))) ∧ Aside0 (Below w.heap.size w w'))
 case atStart => exact ⟨(x7_2), (y179), (0), (x168000_2), (x168001_2), (x168002_2), (5), dr, H', ⟨Nat.le_refl _⟩, ⟨by (try simp only [hl7_2]); (try simp only [hl9_2]); (try simp only [hl9_44]); exact kR HO_7⟩, ⟨by (try simp only [hl7_2]); (try simp only [hl9_2]); (try simp only [hl9_44]); exact kR HO_9⟩, ⟨by (try simp only [hl7_2]); (try simp only [hl9_2]); (try simp only [hl9_44]); exact kR HO_15⟩, ⟨by (try simp only [hl7_2]); (try simp only [hl9_2]); (try simp only [hl9_44]); exact bp BK166⟩, ⟨by (try simp only [hl7_2]); (try simp only [hl9_2]); (try simp only [hl9_44]); exact bp BK167⟩, ⟨by (try simp only [hl7_2]); (try simp only [hl9_2]); (try simp only [hl9_44]); exact bp BK181⟩, ⟨by (try simp only [hl7_2]); (try simp only [hl9_2]); (try simp only [hl9_44]); exact bp BK182⟩, ⟨bw HB⟩⟩
 clear H'
 obtain ⟨x7_8, x9_8, x16_8, x168000_8, x168001_8, x168002_8, x183002_8, rfl, HA, HK8, HO_7, HO_9, HO_15, BK166, BK167, BK181, BK182, HB⟩ := hrel
 have hl7_8 := (Kd.R_reads' HO_7.out).1
 rw [hl7_8] at HO_7
 (try simp only [hl7_8])
 (try simp only [hl7_8] at BK166)
 (try simp only [hl7_8] at BK167)
 (try simp only [hl7_8] at BK181)
 (try simp only [hl7_8] at BK182)
 (try simp only [hl7_8] at HO_9)
 (try simp only [hl7_8] at HO_15)
 have hl9_8 := (Kd.R_reads' HO_9.out).1
 rw [hl9_8] at HO_9
 (try simp only [hl9_8])
 (try simp only [hl9_8] at BK166)
 (try simp only [hl9_8] at BK167)
 (try simp only [hl9_8] at BK181)
 (try simp only [hl9_8] at BK182)
 (try simp only [hl9_8] at HO_7)
 (try simp only [hl9_8] at HO_15)
 rcases gk with _ | k8
 ·exact absurd HA.out (by simp [spec_l04Heights.l2])
 have H := HA.out
 clear HA
 simp only [spec_l04Heights.l2] at H
 by_cases c103 : x16_8 < (x15_94.length : Int)
 ·rw [if_pos c103] at H
  have c103b0 := decide_eq_true c103
  (try (have c103b0hl9_44 := c103b0; rw [hl9_44] at c103b0hl9_44))
  clear c103
  refine iN H ?_; clear H; intro c104 H
  have c104b0 := decide_eq_true c104
  clear c104
  by_cases c105 : (rd x15_94 x16_8) ≥ (((rd_T100 l0_0 a1).f2).length : Int)
  ·rw [if_pos c105] at H
   have c105b0 : decide ((((rd_T100 l0_0 a1).f2).length : Int) ≤ (rd x15_94 x16_8)) = true := decide_eq_true c105
   (try (have c105b0hl9_44 := c105b0; rw [hl9_44] at c105b0hl9_44))
   clear c105
   simp only [Option.some.injEq, Prod.mk.injEq] at H
   obtain ⟨rfl, rfl, rfl, rfl⟩ := H
   obtain ⟨Ao106, co106, eo106⟩ := Kd.R_slice HO_15.out
   subst eo106
   have p196 : 0 ≤ (x16_8 : Int) := of_decide_eq_true as1
   have q196 : x16_8 < (x15_94.length : Int) := of_decide_eq_true as1
   obtain ⟨ad196, e196, hx196_0⟩ := Kd.at_int (Kd.R_reads' HO_15.out).2.2 x16_8 p196 q196
   cases e196
   replace p196 := eq_true p196
   replace q196 := eq_true q196
   have hnb107 := NB182_166.out
   have hnc107 := NB166_182.out
   have hnb108 := NB182_167.out
   have hnc108 := NB167_182.out
   have hnb109 := NB182_181.out
   have hnc109 := NB181_182.out
   have hcz110 := bK wr BK182
   have hfz110 := bF BK182
   try go_wp2
   replace HO_7 : Aside0 (Kd.R (Kd.int .i64) 2 (wr.setCell ⟨gb182, 2, none⟩ (.int .i64 6)) w.heap.size (fun k_ => some k_ ≠ (.slice (some ad196) x15_94.length co106 : Value).ownBlock) (.slice (some ⟨go20, 0, none⟩) x7_8.length co25) x7_8) := ⟨by (with_reducible repeat (first | apply Kd.R_alloc | apply Kd.R_drewN | apply Kd.R_drew)); exact Kd.R_mono (Kd.R_far (p := ⟨gb182, 2, none⟩) (Kd.R_types HO_7.out BK182.out (by decide)) (fun _ hk => hk.2) (.int .i64 6)) (fun _ hk => hk.1)⟩
   replace HO_9 : Aside0 (Kd.R Kd.bool 4 (wr.setCell ⟨gb182, 2, none⟩ (.int .i64 6)) w.heap.size (fun _ => True) (.slice (some ⟨go24, 0, none⟩) x9_8.length co24) x9_8) := ⟨by (with_reducible repeat (first | apply Kd.R_alloc | apply Kd.R_drewN | apply Kd.R_drew)); exact Kd.R_mono (Kd.R_far (p := ⟨gb182, 2, none⟩) (Kd.R_types HO_9.out BK182.out (by decide)) (fun _ hk => hk.2) (.int .i64 6)) (fun _ hk => trivial)⟩
   replace HO_15 : Aside0 (Kd.R (Kd.int .i64) 2 (wr.setCell ⟨gb182, 2, none⟩ (.int .i64 6)) w.heap.size (fun k_ => some k_ ≠ (.slice (some ⟨go20, 0, none⟩) x7_8.length co25 : Value).ownBlock) (.slice (some ad196) x15_94.length co106) x15_94) := ⟨by (with_reducible repeat (first | apply Kd.R_alloc | apply Kd.R_drewN | apply Kd.R_drew)); exact Kd.R_mono (Kd.R_far (p := ⟨gb182, 2, none⟩) (Kd.R_types HO_15.out BK182.out (by decide)) (fun _ hk => hk.2) (.int .i64 6)) (fun _ hk => hk.1)⟩
   replace BK166 : Aside0 ((wr.setCell ⟨gb182, 2, none⟩ (.int .i64 6)).heap[gb166]? = some (.cells #[.slice (some ad168) l0_0.length c0_0] 30 (0, 0))) := ⟨by (with_reducible repeat (first | apply dN | apply dW | apply dA)); refine blk_far ?_ NB166_182.out _; exact bp BK166⟩
   replace BK167 : Aside0 ((wr.setCell ⟨gb182, 2, none⟩ (.int .i64 6)).heap[gb167]? = some (.cells #[.int .i64 x168000_8, .int .i64 x168001_8, .int .i64 x168002_8] 84 (0, 0))) := ⟨by (with_reducible repeat (first | apply dN | apply dW | apply dA)); refine blk_far ?_ NB167_182.out _; exact bp BK167⟩
   replace BK181 : Aside0 ((wr.setCell ⟨gb182, 2, none⟩ (.int .i64 6)).heap[gb181]? = some (.cells #[.int .i64 ((rd_T102 ((rd_T100 l0_0 a1).f2) t178).f0), .int .i64 ((rd_T102 ((rd_T100 l0_0 a1).f2) t178).f1)] 102 (0, 0))) := ⟨by (with_reducible repeat (first | apply dN | apply dW | apply dA)); refine blk_far ?_ NB181_182.out _; exact bp BK181⟩
   replace BK182 : Aside0 ((wr.setCell ⟨gb182, 2, none⟩ (.int .i64 6)).heap[gb182]? = some (.cells #[.int .i64 a1, .int .i64 t178, .int .i64 6] 84 (0, 0))) := ⟨by (with_reducible repeat (first | apply dN | apply dW | apply dA)); refine blk_put (cs := #[.int .i64 a1, .int .i64 t178, .int .i64 x183002_8]) ?_ 2 _ rfl; exact bp BK182⟩
   replace HB : Aside0 (Below w.heap.size w (wr.setCell ⟨gb182, 2, none⟩ (.int .i64 6))) := ⟨bw HB⟩
   generalize (wr.setCell ⟨gb182, 2, none⟩ (.int .i64 6)) = w111 at HO_7 HO_9 HO_15 BK166 BK167 BK181 BK182 HB ⊢
   replace HO_7 := am (Kd.R_drew HO_7.out)
   replace HO_9 := am (Kd.R_drew HO_9.out)
   replace HO_15 := am (Kd.R_drew HO_15.out)
   replace BK166 := am (blk_drew BK166.out)
   replace BK167 := am (blk_drew BK167.out)
   replace BK181 := am (blk_drew BK181.out)
   replace BK182 := am (blk_drew BK182.out)
   replace HB := am (below_drew1 HB.out)
   refine start_ (n := 4) (S := fun w' => w'.cell? ⟨gb182, 0, none⟩ = some (.int .i64 a1) ∧ w'.cell? ⟨gb182, 1, none⟩ = some (.int .i64 t178) ∧ w'.cell? ⟨gb182, 2, none⟩ = some (.int .i64 6)) (ds := []) (bv 4 0) (by kernel_rfl) rfl (by kernel_rfl) ⟨bc BK182 0, bc BK182 1, bc BK182 2⟩ (fun hHeld => ?_)
   generalize w111.drew = w112 at HO_7 HO_9 HO_15 BK166 BK167 BK181 BK182 HB hHeld ⊢
   refine pure_ (i := 0) (N := some 123) (v := ?_) (a' := ?_) (bv 4 1) rfl rfl (by kernel_rfl) (fun _ _ _ h => h) (Or.inl ⟨by rfl, ?_⟩) ?_ ?_
   rotate_left
   ·intro w'
    go_simp
    with_reducible rfl
   rotate_left
   ·simp only [Act.put, sa, sz, ss, i64_w, i32_w]
    rfl
   refine pure_ (i := 2) (N := some 4) (v := ?_) (a' := ?_) (bv 4 5) rfl rfl (by kernel_rfl) (fun _ _ _ h => h) (Or.inl ⟨by rfl, ?_⟩) ?_ ?_
   rotate_left
   ·intro w'
    go_simp
    with_reducible rfl
   rotate_left
   ·simp only [Act.put, sa, sz, ss, i64_w, i32_w]
    rfl
   refine take_ (i := 1) (N := some 124) (v := ?_) (a' := ?_) (bv 4 7) rfl rfl (by kernel_rfl) (fun _ _ _ h => h) (Or.inl ⟨by rfl, ?_⟩) hHeld ?_ ?_
   rotate_left
   ·rintro w' ⟨s0, s1, s2⟩
    go_simp
    with_reducible rfl
   rotate_left
   ·simp only [Act.put, sa, sz, ss, i64_w, i32_w]
    rfl
   refine one_ (i := 3) (N := none) (bv 4 15) rfl rfl (by kernel_rfl) (by decide) (fun K hK => ?_)
   have hs113 := bk w112 BK167 0
   have hfs113 := bf BK167 0
   have hns113_0 := NB166_167.out
   have hns113_2 := NB181_167.out
   have hns113_3 := NB182_167.out
   have hms113_0 := NB167_166.out
   have hms113_2 := NB167_181.out
   have hms113_3 := NB167_182.out
   have hs114 := bk w112 BK167 1
   have hfs114 := bf BK167 1
   have hns114_0 := NB166_167.out
   have hns114_2 := NB181_167.out
   have hns114_3 := NB182_167.out
   have hms114_0 := NB167_166.out
   have hms114_2 := NB167_181.out
   have hms114_3 := NB167_182.out
   have hs115 := bk w112 BK167 2
   have hfs115 := bf BK167 2
   have hns115_0 := NB166_167.out
   have hns115_2 := NB181_167.out
   have hns115_3 := NB182_167.out
   have hms115_0 := NB167_166.out
   have hms115_2 := NB167_181.out
   have hms115_3 := NB167_182.out
   refine skip_ (w1 := ?_) (by rfl) rfl ?_ ?_
   rotate_left
   ·go_simp
    rfl
   refine hK.out _ _ ⟨((cell_far (p := ⟨gb167, _, none⟩) NB182_167.out _).trans (((cell_far (p := ⟨gb167, _, none⟩) NB182_167.out _).trans (((cell_far (p := ⟨gb167, _, none⟩) NB182_167.out _).trans (hHeld.1)))))), ((cell_far (p := ⟨gb167, _, none⟩) NB182_167.out _).trans (((cell_far (p := ⟨gb167, _, none⟩) NB182_167.out _).trans (((cell_far (p := ⟨gb167, _, none⟩) NB182_167.out _).trans (hHeld.2.1)))))), ((cell_far (p := ⟨gb167, _, none⟩) NB182_167.out _).trans (((cell_far (p := ⟨gb167, _, none⟩) NB182_167.out _).trans (((cell_far (p := ⟨gb167, _, none⟩) NB182_167.out _).trans (hHeld.2.2))))))⟩ (fun hHeld => ?_)
   clear hK K
   refine done_ (by kernel_rfl) ?_
   try go_wp2
   refine bodyPost_ret (results_tc rfl _ _ gb167 84 #[.int .i64 a1, .int .i64 t178, .int .i64 6] (0, 0) _ rfl (bt BK167) Try.underlying84 rfl (by kernel_rfl)) rfl ?_
   exact ⟨_, er, by (with_reducible repeat (first | apply Kd.R_alloc | apply Kd.R_drewN | apply Kd.R_drew)); exact Kd.R_mono (Kd.R_far (p := ⟨gb167, 2, none⟩) (Kd.R_far (p := ⟨gb167, 1, none⟩) (Kd.R_far (p := ⟨gb167, 0, none⟩) (Kd.R_types HO_7.out BK167.out (by decide)) (fun _ hk => hk.2) (.int .i64 a1)) (fun _ hk => hk.2) (.int .i64 t178)) (fun _ hk => hk.2) (.int .i64 6)) (fun _ hk => trivial), bw HB⟩
  rw [if_neg c105] at H
  have c105b0 : decide ((((rd_T100 l0_0 a1).f2).length : Int) ≤ (rd x15_94 x16_8)) = false := decide_eq_false c105
  (try (have c105b0hl9_44 := c105b0; rw [hl9_44] at c105b0hl9_44))
  clear c105
  have HC116 := am H
  clear H
  obtain ⟨Ao117, co117, eo117⟩ := Kd.R_slice HO_15.out
  subst eo117
  have p196 : 0 ≤ (x16_8 : Int) := of_decide_eq_true as1
  have q196 : x16_8 < (x15_94.length : Int) := of_decide_eq_true as1
  obtain ⟨ad196, e196, hx196_0⟩ := Kd.at_int (Kd.R_reads' HO_15.out).2.2 x16_8 p196 q196
  cases e196
  replace p196 := eq_true p196
  replace q196 := eq_true q196
  go_upto_region 31 with (fail)
  go_cut [143] (fun v143 wc => ∃ (kq : Nat) (x143_115 : Bool), v143 = .bool x143_115 ∧ Aside0 (spec_l04Heights.j8 kq a1 ((rd_T100 l0_0 a1).f2) x7_8 x9_8 (wrap64 ((wrap64 ((rd x7_2 t178) - t183)) + t185)) x15_94 x16_8 x143_115 l0_0 a1 t178 x183002_8 = some (r1, r2, r3, r4)) ∧ Aside0 (kq ≤ k8) ∧ Aside0 (Kd.R (Kd.int .i64) 2 wc w.heap.size (fun k_ => some k_ ≠ ((.slice (some ad196) x15_94.length co117) : Value).ownBlock) (.slice (some ⟨go20, 0, none⟩) x7_8.length co25) x7_8) ∧ Aside0 (Kd.R Kd.bool 4 wc w.heap.size (fun _ => True) (.slice (some ⟨go24, 0, none⟩) x9_8.length co24) x9_8) ∧ Aside0 (Kd.R (Kd.int .i64) 2 wc w.heap.size (fun k_ => some k_ ≠ ((.slice (some ⟨go20, 0, none⟩) x7_8.length co25) : Value).ownBlock) (.slice (some ad196) x15_94.length co117) x15_94) ∧ Aside0 (wc.heap[gb166]? = some (.cells #[(.slice (some ad168) l0_0.length c0_0)] 30 (0, 0))) ∧ Aside0 (wc.heap[gb167]? = some (.cells #[.int .i64 x168000_8, .int .i64 x168001_8, .int .i64 x168002_8] 84 (0, 0))) ∧ Aside0 (wc.heap[gb181]? = some (.cells #[.int .i64 ((rd_T102 ((rd_T100 l0_0 a1).f2) t178).f0), .int .i64 ((rd_T102 ((rd_T100 l0_0 a1).f2) t178).f1)] 102 (0, 0))) ∧ Aside0 (wc.heap[gb182]? = some (.cells #[.int .i64 a1, .int .i64 t178, .int .i64 x183002_8] 84 (0, 0))) ∧ Aside0 (Below w.heap.size w wc))
  case first =>
   have H := HC116.out
   clear HC116
   refine iM H ?_; clear H; intro c118b0 H
   (first | rw [c118b0] | (simp only [i64_w, i32_w]; rw [c118b0]) | skip)
   refine iM H ?_; clear H; intro c119b0 H
   (try (have c119b0hl9_44 := c119b0; rw [hl9_44] at c119b0hl9_44))
   (try (have c119b0hl7_8 := c119b0; rw [hl7_8] at c119b0hl7_8))
   refine qL H ?_ ?_ <;> clear H <;> intro c120b0 H
   ·have H' := am H
    clear H
    have p197 : 0 ≤ (x16_8 : Int) := of_decide_eq_true as1
    have q197 : x16_8 < (x15_94.length : Int) := of_decide_eq_true as1
    obtain ⟨ad197, e197, hx197_0⟩ := Kd.at_int (Kd.R_reads' HO_15.out).2.2 x16_8 p197 q197
    obtain rfl : ad196 = ad197 := (by injection e197)
    replace p197 := eq_true p197
    replace q197 := eq_true q197
    obtain ⟨p198, q198, hx198_0⟩ := aR HO_7 (rd x15_94 x16_8)
    have p199 : 0 ≤ (x16_8 : Int) := of_decide_eq_true as1
    have q199 : x16_8 < (x15_94.length : Int) := of_decide_eq_true as1
    obtain ⟨ad199, e199, hx199_0⟩ := Kd.at_int (Kd.R_reads' HO_15.out).2.2 x16_8 p199 q199
    obtain rfl : ad196 = ad199 := (by injection e199)
    replace p199 := eq_true p199
    replace q199 := eq_true q199
    obtain ⟨p200, q200, hx200_0⟩ := aR HO_7 (rd x15_94 x16_8)
    go_wp2
    go_meet
    case rel => exact ⟨_, (((rd x7_8 (rd x15_94 x16_8)) != (wrap64 ((wrap64 ((rd x7_2 t178) - t183)) + t185)))), dr, H', ⟨by have := HK1.out; have := HK2.out; have := HJ44.out; have := HJ68.out; have := HJ80.out; have := HJ84.out; have := HJ94.out; have := HK8.out; first | omega | exact Nat.le_refl _⟩, ⟨by (try simp only [hl7_2]); (try simp only [hl9_2]); (try simp only [hl9_44]); (try simp only [hl7_8]); (try simp only [hl9_8]); exact kR HO_7⟩, ⟨by (try simp only [hl7_2]); (try simp only [hl9_2]); (try simp only [hl9_44]); (try simp only [hl7_8]); (try simp only [hl9_8]); exact kR HO_9⟩, ⟨by (try simp only [hl7_2]); (try simp only [hl9_2]); (try simp only [hl9_44]); (try simp only [hl7_8]); (try simp only [hl9_8]); exact kR HO_15⟩, ⟨by (try simp only [hl7_2]); (try simp only [hl9_2]); (try simp only [hl9_44]); (try simp only [hl7_8]); (try simp only [hl9_8]); exact bp BK166⟩, ⟨by (try simp only [hl7_2]); (try simp only [hl9_2]); (try simp only [hl9_44]); (try simp only [hl7_8]); (try simp only [hl9_8]); exact bp BK167⟩, ⟨by (try simp only [hl7_2]); (try simp only [hl9_2]); (try simp only [hl9_44]); (try simp only [hl7_8]); (try simp only [hl9_8]); exact bp BK181⟩, ⟨by (try simp only [hl7_2]); (try simp only [hl9_2]); (try simp only [hl9_44]); (try simp only [hl7_8]); (try simp only [hl9_8]); exact bp BK182⟩, ⟨bw HB⟩⟩
   have H' := am H
   clear H
   have p197 : 0 ≤ (x16_8 : Int) := of_decide_eq_true as1
   have q197 : x16_8 < (x15_94.length : Int) := of_decide_eq_true as1
   obtain ⟨ad197, e197, hx197_0⟩ := Kd.at_int (Kd.R_reads' HO_15.out).2.2 x16_8 p197 q197
   obtain rfl : ad196 = ad197 := (by injection e197)
   replace p197 := eq_true p197
   replace q197 := eq_true q197
   obtain ⟨p198, q198, hx198_0⟩ := aR HO_7 (rd x15_94 x16_8)
   go_wp2
   go_meet
   case rel => exact ⟨_, (false), dr, H', ⟨by have := HK1.out; have := HK2.out; have := HJ44.out; have := HJ68.out; have := HJ80.out; have := HJ84.out; have := HJ94.out; have := HK8.out; first | omega | exact Nat.le_refl _⟩, ⟨by (try simp only [hl7_2]); (try simp only [hl9_2]); (try simp only [hl9_44]); (try simp only [hl7_8]); (try simp only [hl9_8]); exact kR HO_7⟩, ⟨by (try simp only [hl7_2]); (try simp only [hl9_2]); (try simp only [hl9_44]); (try simp only [hl7_8]); (try simp only [hl9_8]); exact kR HO_9⟩, ⟨by (try simp only [hl7_2]); (try simp only [hl9_2]); (try simp only [hl9_44]); (try simp only [hl7_8]); (try simp only [hl9_8]); exact kR HO_15⟩, ⟨by (try simp only [hl7_2]); (try simp only [hl9_2]); (try simp only [hl9_44]); (try simp only [hl7_8]); (try simp only [hl9_8]); exact bp BK166⟩, ⟨by (try simp only [hl7_2]); (try simp only [hl9_2]); (try simp only [hl9_44]); (try simp only [hl7_8]); (try simp only [hl9_8]); exact bp BK167⟩, ⟨by (try simp only [hl7_2]); (try simp only [hl9_2]); (try simp only [hl9_44]); (try simp only [hl7_8]); (try simp only [hl9_8]); exact bp BK181⟩, ⟨by (try simp only [hl7_2]); (try simp only [hl9_2]); (try simp only [hl9_44]); (try simp only [hl7_8]); (try simp only [hl9_8]); exact bp BK182⟩, ⟨bw HB⟩⟩
  clear HC116
  (try clear c12); (try clear p19); (try clear q19); (try clear hx19); (try clear c103); (try clear c103b0); (try clear c104); (try clear c104b0); (try clear c105); (try clear c105b0); (try clear c107); (try clear c108); (try clear c109); (try clear c118); (try clear c118b0); (try clear c119); (try clear c119b0); (try clear c120); (try clear c120b0); (try clear hcz110); (try clear hfz110); (try clear hx196_0); (try clear hx197_0); (try clear hx198_0); (try clear hx199_0); (try clear hx200_0); (try clear p196); (try clear p197); (try clear p198); (try clear p199); (try clear p200); (try clear q196); (try clear q197); (try clear q198); (try clear q199); (try clear q200)
  obtain ⟨kq, x143_115, rfl, HA, HJ115, HO_7, HO_9, HO_15, BK166, BK167, BK181, BK182, HB⟩ := hcut
  rcases kq with _ | kj115
  ·exact absurd HA.out (by simp [spec_l04Heights.j8])
  have H := HA.out
  clear HA
  simp only [spec_l04Heights.j8] at H
  refine qT H ?_ ?_ <;> clear H <;> intro c121 H <;> subst c121
  ·simp only [Option.some.injEq, Prod.mk.injEq] at H
   obtain ⟨rfl, rfl, rfl, rfl⟩ := H
   try go_wp2
   replace HO_7 := am (Kd.R_drew HO_7.out)
   replace HO_9 := am (Kd.R_drew HO_9.out)
   replace HO_15 := am (Kd.R_drew HO_15.out)
   replace BK166 := am (blk_drew BK166.out)
   replace BK167 := am (blk_drew BK167.out)
   replace BK181 := am (blk_drew BK181.out)
   replace BK182 := am (blk_drew BK182.out)
   replace HB := am (below_drew1 HB.out)
   refine start_ (n := 4) (S := fun w' => w'.cell? ⟨gb182, 0, none⟩ = some (.int .i64 a1) ∧ w'.cell? ⟨gb182, 1, none⟩ = some (.int .i64 t178) ∧ w'.cell? ⟨gb182, 2, none⟩ = some (.int .i64 x183002_8)) (ds := []) (bv 4 0) (by kernel_rfl) rfl (by kernel_rfl) ⟨bc BK182 0, bc BK182 1, bc BK182 2⟩ (fun hHeld => ?_)
   generalize wc.drew = w122 at HO_7 HO_9 HO_15 BK166 BK167 BK181 BK182 HB hHeld ⊢
   refine pure_ (i := 0) (N := some 144) (v := ?_) (a' := ?_) (bv 4 1) rfl rfl (by kernel_rfl) (fun _ _ _ h => h) (Or.inl ⟨by rfl, ?_⟩) ?_ ?_
   rotate_left
   ·intro w'
    go_simp
    with_reducible rfl
   rotate_left
   ·simp only [Act.put, sa, sz, ss, i64_w, i32_w]
    rfl
   refine pure_ (i := 2) (N := some 4) (v := ?_) (a' := ?_) (bv 4 5) rfl rfl (by kernel_rfl) (fun _ _ _ h => h) (Or.inl ⟨by rfl, ?_⟩) ?_ ?_
   rotate_left
   ·intro w'
    go_simp
    with_reducible rfl
   rotate_left
   ·simp only [Act.put, sa, sz, ss, i64_w, i32_w]
    rfl
   refine take_ (i := 1) (N := some 145) (v := ?_) (a' := ?_) (bv 4 7) rfl rfl (by kernel_rfl) (fun _ _ _ h => h) (Or.inl ⟨by rfl, ?_⟩) hHeld ?_ ?_
   rotate_left
   ·rintro w' ⟨s0, s1, s2⟩
    go_simp
    with_reducible rfl
   rotate_left
   ·simp only [Act.put, sa, sz, ss, i64_w, i32_w]
    rfl
   refine one_ (i := 3) (N := none) (bv 4 15) rfl rfl (by kernel_rfl) (by decide) (fun K hK => ?_)
   have hs123 := bk w122 BK167 0
   have hfs123 := bf BK167 0
   have hns123_0 := NB166_167.out
   have hns123_2 := NB181_167.out
   have hns123_3 := NB182_167.out
   have hms123_0 := NB167_166.out
   have hms123_2 := NB167_181.out
   have hms123_3 := NB167_182.out
   have hs124 := bk w122 BK167 1
   have hfs124 := bf BK167 1
   have hns124_0 := NB166_167.out
   have hns124_2 := NB181_167.out
   have hns124_3 := NB182_167.out
   have hms124_0 := NB167_166.out
   have hms124_2 := NB167_181.out
   have hms124_3 := NB167_182.out
   have hs125 := bk w122 BK167 2
   have hfs125 := bf BK167 2
   have hns125_0 := NB166_167.out
   have hns125_2 := NB181_167.out
   have hns125_3 := NB182_167.out
   have hms125_0 := NB167_166.out
   have hms125_2 := NB167_181.out
   have hms125_3 := NB167_182.out
   refine skip_ (w1 := ?_) (by rfl) rfl ?_ ?_
   rotate_left
   ·go_simp
    rfl
   refine hK.out _ _ ⟨((cell_far (p := ⟨gb167, _, none⟩) NB182_167.out _).trans (((cell_far (p := ⟨gb167, _, none⟩) NB182_167.out _).trans (((cell_far (p := ⟨gb167, _, none⟩) NB182_167.out _).trans (hHeld.1)))))), ((cell_far (p := ⟨gb167, _, none⟩) NB182_167.out _).trans (((cell_far (p := ⟨gb167, _, none⟩) NB182_167.out _).trans (((cell_far (p := ⟨gb167, _, none⟩) NB182_167.out _).trans (hHeld.2.1)))))), ((cell_far (p := ⟨gb167, _, none⟩) NB182_167.out _).trans (((cell_far (p := ⟨gb167, _, none⟩) NB182_167.out _).trans (((cell_far (p := ⟨gb167, _, none⟩) NB182_167.out _).trans (hHeld.2.2))))))⟩ (fun hHeld => ?_)
   clear hK K
   refine done_ (by kernel_rfl) ?_
   try go_wp2
   refine bodyPost_ret (results_tc rfl _ _ gb167 84 #[.int .i64 a1, .int .i64 t178, .int .i64 x183002_8] (0, 0) _ rfl (bt BK167) Try.underlying84 rfl (by kernel_rfl)) rfl ?_
   exact ⟨_, er, by (with_reducible repeat (first | apply Kd.R_alloc | apply Kd.R_drewN | apply Kd.R_drew)); exact Kd.R_mono (Kd.R_far (p := ⟨gb167, 2, none⟩) (Kd.R_far (p := ⟨gb167, 1, none⟩) (Kd.R_far (p := ⟨gb167, 0, none⟩) (Kd.R_types HO_7.out BK167.out (by decide)) (fun _ hk => hk.2) (.int .i64 a1)) (fun _ hk => hk.2) (.int .i64 t178)) (fun _ hk => hk.2) (.int .i64 x183002_8)) (fun _ hk => trivial), bw HB⟩
  refine iM H ?_; clear H; intro c126b0 H
  refine iM H ?_; clear H; intro c127b0 H
  (try (have c127b0hl9_44 := c127b0; rw [hl9_44] at c127b0hl9_44))
  refine iM H ?_; clear H; intro c128b0 H
  refine iM H ?_; clear H; intro c129b0 H
  (try (have c129b0hl9_44 := c129b0; rw [hl9_44] at c129b0hl9_44))
  (try (have c129b0hl7_8 := c129b0; rw [hl7_8] at c129b0hl7_8))
  refine qI H ?_ ?_ <;> clear H <;> intro c130b0 H
  ·obtain ⟨y204, hy204⟩ : ∃ y_ : List Int, y_ = (x7_8.set ((rd x15_94 x16_8) : Int).toNat (wrap64 ((wrap64 ((rd x7_2 t178) - t183)) + t185))) := ⟨_, rfl⟩
   replace H : (if (rd x15_94 x16_8) < (x9_8.length : Int) then (spec_l04Heights.l2 kj115 a1 ((rd_T100 l0_0 a1).f2) y204 (x9_8.set ((rd x15_94 x16_8) : Int).toNat true) (wrap64 ((wrap64 ((rd x7_2 t178) - t183)) + t185)) x15_94 (wrap64 (x16_8 + 1)) l0_0 a1 t178 x183002_8) else (none)) = some (r1, r2, r3, r4) := by first | (rw [hy204]; with_reducible exact H) | (have H2_ := (Option.bind_some _ _).symm.trans H; rw [hy204]; with_reducible exact H2_) | (have H2_ := (Option.bind_some _ _).symm.trans H; with_reducible exact H2_) | with_reducible exact H | (rw [hy204]; exact H) | exact H
   have Ny204 := am hy204
   clear hy204
   refine iM H ?_; clear H; intro c132b0 H
   (try (have c132b0hl9_44 := c132b0; rw [hl9_44] at c132b0hl9_44))
   (try (have c132b0hl9_8 := c132b0; rw [hl9_8] at c132b0hl9_8))
   obtain ⟨y206, hy206⟩ : ∃ y_ : List Bool, y_ = (x9_8.set ((rd x15_94 x16_8) : Int).toNat true) := ⟨_, rfl⟩
   replace H : (spec_l04Heights.l2 kj115 a1 ((rd_T100 l0_0 a1).f2) y204 y206 (wrap64 ((wrap64 ((rd x7_2 t178) - t183)) + t185)) x15_94 (wrap64 (x16_8 + 1)) l0_0 a1 t178 x183002_8) = some (r1, r2, r3, r4) := by first | (rw [hy206]; with_reducible exact H) | (have H2_ := (Option.bind_some _ _).symm.trans H; rw [hy206]; with_reducible exact H2_) | (have H2_ := (Option.bind_some _ _).symm.trans H; with_reducible exact H2_) | with_reducible exact H | (rw [hy206]; exact H) | exact H
   have Ny206 := am hy206
   clear hy206
   have H' := am H
   clear H
   have p201 : 0 ≤ (x16_8 : Int) := of_decide_eq_true as1
   have q201 : x16_8 < (x15_94.length : Int) := of_decide_eq_true as1
   obtain ⟨ad201, e201, hx201_0⟩ := Kd.at_int (Kd.R_reads' HO_15.out).2.2 x16_8 p201 q201
   obtain rfl : ad196 = ad201 := (by injection e201)
   replace p201 := eq_true p201
   replace q201 := eq_true q201
   obtain ⟨p202, q202, hx202_0⟩ := aR HO_7 (rd x15_94 x16_8)
   have p203 : 0 ≤ (x16_8 : Int) := of_decide_eq_true as1
   have q203 : x16_8 < (x15_94.length : Int) := of_decide_eq_true as1
   obtain ⟨ad203, e203, hx203_0⟩ := Kd.at_int (Kd.R_reads' HO_15.out).2.2 x16_8 p203 q203
   obtain rfl : ad196 = ad203 := (by injection e203)
   replace p203 := eq_true p203
   replace q203 := eq_true q203
   have p131 : 0 ≤ ((rd x15_94 x16_8) : Int) := of_decide_eq_true as1
   have q131 : ((rd x15_94 x16_8) : Int) < ((x7_8.length : Int) : Int) := of_decide_eq_true as1
   obtain ⟨hx131_0, hf131_0⟩ := Kd.R_celln 0 HO_7.out ((rd x15_94 x16_8) : Int) p131 q131
   replace p131 := eq_true p131
   replace q131 := eq_true q131
   have HP134 := Kd.R_putg HO_7.out ((rd x15_94 x16_8) : Int) (wrap64 ((wrap64 ((rd x7_2 t178) - t183)) + t185))
   go_wp2_with (first | ((with_reducible refine gt 2 160 rfl ?_); refine sE 2 160 (wc.setCell ⟨go20, ((rd x15_94 x16_8) : Int).toNat, none⟩ (.int .i64 (wrap64 ((wrap64 ((rd x7_2 t178) - t183)) + t185)))) ?_; intro w135 hw; have hg : wc.grownBy w135 (some go20) := (by rw [hw]; exact HP134.2); have hp_ : Kd.R (Kd.int .i64) 2 w135 w.heap.size (fun k_ => some k_ ≠ (.slice (some ad196) x15_94.length co117 : Value).ownBlock) (.slice (some ⟨go20, 0, none⟩) x7_8.length co25) y204 := (by rw [hw, Ny204.out]; exact HP134.1); clear HP134; replace HO_9 := am (Kd.R_over' (v := (.slice (some ⟨go20, 0, none⟩) x7_8.length co25)) (kR HO_9) (Kd.R_typed HO_7.out) (by decide) hg); replace HO_15 := am (Kd.R_after (v := (.slice (some ⟨go20, 0, none⟩) x7_8.length co25)) (v1 := (.slice (some ⟨go20, 0, none⟩) x7_8.length co25)) (ok := (fun _ => True)) (by (with_reducible repeat (first | apply Kd.R_alloc | apply Kd.R_drewN | apply Kd.R_drew)); exact Kd.R_mono HO_15.out (fun _ hk => ⟨trivial, hk⟩)) hg (.inl rfl)); replace BK166 := bg BK166 hg (Kd.R_ne HO_7.out BK166.out (by decide)); replace BK167 := bg BK167 hg (Kd.R_ne HO_7.out BK167.out (by decide)); replace BK181 := bg BK181 hg (Kd.R_ne HO_7.out BK181.out (by decide)); replace BK182 := bg BK182 hg (Kd.R_ne HO_7.out BK182.out (by decide)); replace HO_7 := am (hp_); replace HB := am ((by rw [hw]; exact below_set (HB.out) GB20.out : Below w.heap.size w w135)); clear hg hw hp_; have p205 : 0 ≤ (x16_8 : Int) := of_decide_eq_true as1; have q205 : x16_8 < (x15_94.length : Int) := of_decide_eq_true as1; obtain ⟨ad205, e205, hx205_0⟩ := Kd.at_int (Kd.R_reads' HO_15.out).2.2 x16_8 p205 q205; obtain rfl : ad196 = ad205 := (by injection e205); replace p205 := eq_true p205; replace q205 := eq_true q205; have p133 : 0 ≤ ((rd x15_94 x16_8) : Int) := of_decide_eq_true as1; have q133 : ((rd x15_94 x16_8) : Int) < ((x9_8.length : Int) : Int) := of_decide_eq_true as1; obtain ⟨hx133_0, hf133_0⟩ := Kd.R_celln false HO_9.out ((rd x15_94 x16_8) : Int) p133 q133; replace p133 := eq_true p133; replace q133 := eq_true q133; obtain ⟨hy136_, hz136_⟩ := Kd.R_celln false HO_9.out ((rd x15_94 x16_8) : Int) (of_decide_eq_true as1) (of_decide_eq_true as1); have HP136 := Kd.R_putg HO_9.out ((rd x15_94 x16_8) : Int) true) | ((with_reducible refine gt 4 166 rfl ?_); refine sE 4 166 (w135.setCell ⟨go24, ((rd x15_94 x16_8) : Int).toNat, none⟩ (.bool true)) ?_; intro w137 hw; have hg : w135.grownBy w137 (some go24) := (by rw [hw]; exact HP136.2); have hp_ : Kd.R Kd.bool 4 w137 w.heap.size (fun _ => True) (.slice (some ⟨go24, 0, none⟩) x9_8.length co24) y206 := (by rw [hw, Ny206.out]; exact HP136.1); clear HP136; replace HO_7 := am (Kd.R_over' (v := (.slice (some ⟨go24, 0, none⟩) x9_8.length co24)) (kR HO_7) (Kd.R_typed HO_9.out) (by decide) hg); replace HO_15 := am (Kd.R_over' (v := (.slice (some ⟨go24, 0, none⟩) x9_8.length co24)) (kR HO_15) (Kd.R_typed HO_9.out) (by decide) hg); replace BK166 := bg BK166 hg (Kd.R_ne HO_9.out BK166.out (by decide)); replace BK167 := bg BK167 hg (Kd.R_ne HO_9.out BK167.out (by decide)); replace BK181 := bg BK181 hg (Kd.R_ne HO_9.out BK181.out (by decide)); replace BK182 := bg BK182 hg (Kd.R_ne HO_9.out BK182.out (by decide)); replace HO_9 := am (hp_); replace HB := am ((by rw [hw]; exact below_set (HB.out) GB24.out : Below w.heap.size w w137)); clear hg hw hp_))
   (try simp only [← hl7_8, ← hl9_8])
   go_roundg kj115
   case measure => have := HK1.out; have := HK2.out; have := HJ44.out; have := HJ68.out; have := HJ80.out; have := HJ84.out; have := HJ94.out; have := HK8.out; have := HJ115.out; omega
   case rel => exact ⟨(y204), (y206), (wrap64 (x16_8 + 1)), (x168000_8), (x168001_8), (x168002_8), (x183002_8), dr, H', ⟨by have := HK1.out; have := HK2.out; have := HJ44.out; have := HJ68.out; have := HJ80.out; have := HJ84.out; have := HJ94.out; have := HK8.out; have := HJ115.out; omega⟩, ⟨by (try simp only [hl7_2]); (try simp only [hl9_2]); (try simp only [hl9_44]); (try simp only [hl7_8]); (try simp only [hl9_8]); exact kR HO_7⟩, ⟨by (try simp only [hl7_2]); (try simp only [hl9_2]); (try simp only [hl9_44]); (try simp only [hl7_8]); (try simp only [hl9_8]); exact kR HO_9⟩, ⟨by (try simp only [hl7_2]); (try simp only [hl9_2]); (try simp only [hl9_44]); (try simp only [hl7_8]); (try simp only [hl9_8]); (with_reducible repeat (first | apply Kd.R_alloc | apply Kd.R_drewN | apply Kd.R_drew)); exact Kd.R_mono HO_15.out (fun _ hk => hk.2)⟩, ⟨by (try simp only [hl7_2]); (try simp only [hl9_2]); (try simp only [hl9_44]); (try simp only [hl7_8]); (try simp only [hl9_8]); exact bp BK166⟩, ⟨by (try simp only [hl7_2]); (try simp only [hl9_2]); (try simp only [hl9_44]); (try simp only [hl7_8]); (try simp only [hl9_8]); exact bp BK167⟩, ⟨by (try simp only [hl7_2]); (try simp only [hl9_2]); (try simp only [hl9_44]); (try simp only [hl7_8]); (try simp only [hl9_8]); exact bp BK181⟩, ⟨by (try simp only [hl7_2]); (try simp only [hl9_2]); (try simp only [hl9_44]); (try simp only [hl7_8]); (try simp only [hl9_8]); exact bp BK182⟩, ⟨bw HB⟩⟩
  have H' := am H
  clear H
  have p201 : 0 ≤ (x16_8 : Int) := of_decide_eq_true as1
  have q201 : x16_8 < (x15_94.length : Int) := of_decide_eq_true as1
  obtain ⟨ad201, e201, hx201_0⟩ := Kd.at_int (Kd.R_reads' HO_15.out).2.2 x16_8 p201 q201
  obtain rfl : ad196 = ad201 := (by injection e201)
  replace p201 := eq_true p201
  replace q201 := eq_true q201
  obtain ⟨p202, q202, hx202_0⟩ := aR HO_7 (rd x15_94 x16_8)
  go_wp2
  (try simp only [← hl7_8, ← hl9_8])
  go_roundg kj115
  case measure => have := HK1.out; have := HK2.out; have := HJ44.out; have := HJ68.out; have := HJ80.out; have := HJ84.out; have := HJ94.out; have := HK8.out; have := HJ115.out; omega
  case rel => exact ⟨(x7_8), (x9_8), (wrap64 (x16_8 + 1)), (x168000_8), (x168001_8), (x168002_8), (x183002_8), dr, H', ⟨by have := HK1.out; have := HK2.out; have := HJ44.out; have := HJ68.out; have := HJ80.out; have := HJ84.out; have := HJ94.out; have := HK8.out; have := HJ115.out; omega⟩, ⟨by (try simp only [hl7_2]); (try simp only [hl9_2]); (try simp only [hl9_44]); (try simp only [hl7_8]); (try simp only [hl9_8]); exact kR HO_7⟩, ⟨by (try simp only [hl7_2]); (try simp only [hl9_2]); (try simp only [hl9_44]); (try simp only [hl7_8]); (try simp only [hl9_8]); exact kR HO_9⟩, ⟨by (try simp only [hl7_2]); (try simp only [hl9_2]); (try simp only [hl9_44]); (try simp only [hl7_8]); (try simp only [hl9_8]); exact kR HO_15⟩, ⟨by (try simp only [hl7_2]); (try simp only [hl9_2]); (try simp only [hl9_44]); (try simp only [hl7_8]); (try simp only [hl9_8]); exact bp BK166⟩, ⟨by (try simp only [hl7_2]); (try simp only [hl9_2]); (try simp only [hl9_44]); (try simp only [hl7_8]); (try simp only [hl9_8]); exact bp BK167⟩, ⟨by (try simp only [hl7_2]); (try simp only [hl9_2]); (try simp only [hl9_44]); (try simp only [hl7_8]); (try simp only [hl9_8]); exact bp BK181⟩, ⟨by (try simp only [hl7_2]); (try simp only [hl9_2]); (try simp only [hl9_44]); (try simp only [hl7_8]); (try simp only [hl9_8]); exact bp BK182⟩, ⟨bw HB⟩⟩
 rw [if_neg c103] at H
 have c103b0 := decide_eq_false c103
 (try (have c103b0hl9_44 := c103b0; rw [hl9_44] at c103b0hl9_44))
 clear c103
 have H' := am H
 clear H
 obtain ⟨Ao138, co138, eo138⟩ := Kd.R_slice HO_15.out
 subst eo138
 go_wp2
 (try simp only [← hl7_2, ← hl9_2, ← hl9_44, ← hl7_8, ← hl9_8])
 go_roundg k8
 case measure => have := HK1.out; have := HK2.out; have := HJ44.out; have := HJ68.out; have := HJ80.out; have := HJ84.out; have := HJ94.out; have := HK8.out; omega
 case rel => exact ⟨(x7_8), (x9_8), (x168000_8), (x168001_8), (x168002_8), H', ⟨by have := HK1.out; have := HK2.out; have := HJ44.out; have := HJ68.out; have := HJ80.out; have := HJ84.out; have := HJ94.out; have := HK8.out; omega⟩, ⟨by (try simp only [hl7_2]); (try simp only [hl9_2]); (try simp only [hl9_44]); (try simp only [hl7_8]); (try simp only [hl9_8]); (with_reducible repeat (first | apply Kd.R_alloc | apply Kd.R_drewN | apply Kd.R_drew)); exact Kd.R_mono HO_7.out (fun _ hk => trivial)⟩, ⟨by (try simp only [hl7_2]); (try simp only [hl9_2]); (try simp only [hl9_44]); (try simp only [hl7_8]); (try simp only [hl9_8]); exact kR HO_9⟩, ⟨by (try simp only [hl7_2]); (try simp only [hl9_2]); (try simp only [hl9_44]); (try simp only [hl7_8]); (try simp only [hl9_8]); exact bp BK166⟩, ⟨by (try simp only [hl7_2]); (try simp only [hl9_2]); (try simp only [hl9_44]); (try simp only [hl7_8]); (try simp only [hl9_8]); exact bp BK167⟩, ⟨bw HB⟩⟩

end Go.Proofs.Ytbmjmaahcaoajaa.QFnExactLive
