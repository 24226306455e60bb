import Derived.Test.YtbmjmaahcaoajaaCFnExactFileBytesx0
import Derived.Test.YtbmjmaahcaoajaaCFnExactFileBytesx3
import Derived.Test.YtbmjmaahcaoajaaCFnExactFileBytesx4
namespace Go.Proofs.Ytbmjmaahcaoajaa.QFnExactFileBytes
open Go.RowKit Go.Proofs.YtbmjmaahcaoajaaW
open PrintWords PrintLast PrintMore PrintShort
attribute [local go_sem] max2_int min2_int max_two min_two max_three min_three max_four min_four   -- for this text's walks alone
set_option linter.unusedVariables false
set_option maxHeartbeats 8000000
set_option maxRecDepth 100000
set_option linter.unusedSimpArgs false

mutual
def spec_l04Heights.l0 : Nat → Int → List (S102) → List Int → Int → List (S100) → Option (List Int × Int × Int × Int)
 | 0, _, _, _, _, _ => none
 | k + 1, x1, x6, x7, x8, x163000 => if x8 < (x7.length : Int) then (if 0 ≤ x8 then (spec_l04Heights.l0 k x1 x6 (x7.set (x8 : Int).toNat (-1)) (wrap64 (x8 + 1)) x163000) else (none)) else (if 0 < (x7.length : Int) then (if 0 ≤ (x6.length : Int) then (if ((x6.length : Int) : Int).toNat ≤ 281474976710656 then ((some (List.replicate ((x6.length : Int) : Int).toNat false : List Bool)).bind fun y170 => (if 0 < (y170.length : Int) then (spec_l04Heights.l1 k x1 x6 (x7.set (0 : Int).toNat 0) (y170.set (0 : Int).toNat true) x163000) else (none))) else (none)) else (none)) else (none))
def spec_l04Heights.l1 : Nat → Int → List (S102) → List Int → List Bool → List (S100) → Option (List Int × Int × Int × Int)
 | 0, _, _, _, _, _ => none
 | k + 1, x1, x6, x7, x9, x163000 => (spec_l04Least.f k x9).bind fun t174 => (if t174 < 0 then (some (x7, 0, 0, 0)) else (if 0 ≤ t174 then (if t174 < (x9.length : Int) then ((some (x9.set (t174 : Int).toNat false : List Bool)).bind fun y175 => (if t174 < (x6.length : Int) then ((spec_Takes.f k x163000 ((rd_T102 x6 t174).f0) ((rd_T102 x6 t174).f1)).bind fun t179 => (if t174 < (x7.length : Int) then ((spec_Puts.f k ((rd_T102 x6 t174).f0) ((rd_T102 x6 t174).f1)).bind fun t181 => (if t179 > (rd x7 t174) then (spec_l04Heights.j2 k x1 x6 x7 y175 t174 (wrap64 ((wrap64 ((rd x7 t174) - t179)) + t181)) true x163000 ((rd_T102 x6 t174).f0) ((rd_T102 x6 t174).f1) x1 t174 5) else (spec_l04Heights.j2 k x1 x6 x7 y175 t174 (wrap64 ((wrap64 ((rd x7 t174) - t179)) + t181)) (decide ((wrap64 ((wrap64 ((rd x7 t174) - t179)) + t181)) > 8)) x163000 ((rd_T102 x6 t174).f0) ((rd_T102 x6 t174).f1) x1 t174 5))) else (none))) else (none))) else (none)) else (none)))
def spec_l04Heights.j2 : Nat → Int → List (S102) → List Int → List Bool → Int → Int → Bool → List (S100) → Int → Int → Int → Int → Int → Option (List Int × Int × Int × Int)
 | 0, _, _, _, _, _, _, _, _, _, _, _, _, _ => none
 | k + 1, x1, x6, x7, x9, x10, x14, x79, x163000, x178000, x178001, x179000, x179001, x179002 => if x79 = true then (some (x7, x179000, x179001, x179002)) else ((some (([] : List Int) : List Int)).bind fun y183 => (if x178000 = 30 then (spec_l04Heights.j3 k x1 x6 x7 x9 x10 x14 y183 false x163000 x178000 x178001 x179000 x179001 x179002) else (spec_l04Heights.j3 k x1 x6 x7 x9 x10 x14 y183 (x178000 != 33) x163000 x178000 x178001 x179000 x179001 x179002)))
def spec_l04Heights.j3 : Nat → Int → List (S102) → List Int → List Bool → Int → Int → List Int → Bool → List (S100) → Int → Int → Int → Int → Int → Option (List Int × Int × Int × Int)
 | 0, _, _, _, _, _, _, _, _, _, _, _, _, _, _ => none
 | k + 1, x1, x6, x7, x9, x10, x14, x15, x90, x163000, x178000, x178001, x179000, x179001, x179002 => if x90 = true then (if x15.length < 17592186044416 then (spec_l04Heights.j4 k x1 x6 x7 x9 x14 (x15 ++ [wrap64 (x10 + 1)]) x163000 x178000 x178001 x179000 x179001 x179002) else (none)) else (spec_l04Heights.j4 k x1 x6 x7 x9 x14 x15 x163000 x178000 x178001 x179000 x179001 x179002)
def spec_l04Heights.j4 : Nat → Int → List (S102) → List Int → List Bool → Int → List Int → List (S100) → Int → Int → Int → Int → Int → Option (List Int × Int × Int × Int)
 | 0, _, _, _, _, _, _, _, _, _, _, _, _ => none
 | k + 1, x1, x6, x7, x9, x14, x15, x163000, x178000, x178001, x179000, x179001, x179002 => if x178000 = 30 then (spec_l04Heights.j5 k x1 x6 x7 x9 x14 x15 true x163000 x178000 x178001 x179000 x179001 x179002) else (spec_l04Heights.j5 k x1 x6 x7 x9 x14 x15 (x178000 == 31) x163000 x178000 x178001 x179000 x179001 x179002)
def spec_l04Heights.j5 : Nat → Int → List (S102) → List Int → List Bool → Int → List Int → Bool → List (S100) → Int → Int → Int → Int → Int → Option (List Int × Int × Int × Int)
 | 0, _, _, _, _, _, _, _, _, _, _, _, _, _ => none
 | k + 1, x1, x6, x7, x9, x14, x15, x103, x163000, x178000, x178001, x179000, x179001, x179002 => if x103 = true then (if x15.length < 17592186044416 then (spec_l04Heights.j6 k x1 x6 x7 x9 x14 (x15 ++ [x178001]) x163000 x179000 x179001 x179002) else (none)) else (spec_l04Heights.j6 k x1 x6 x7 x9 x14 x15 x163000 x179000 x179001 x179002)
def spec_l04Heights.j6 : Nat → Int → List (S102) → List Int → List Bool → Int → List Int → List (S100) → Int → Int → Int → Option (List Int × Int × Int × Int)
 | 0, _, _, _, _, _, _, _, _, _, _ => none
 | k + 1, x1, x6, x7, x9, x14, x15, x163000, x179000, x179001, x179002 => spec_l04Heights.l2 k x1 x6 x7 x9 x14 x15 0 x163000 x179000 x179001 x179002
def spec_l04Heights.l2 : Nat → Int → List (S102) → List Int → List Bool → Int → List Int → Int → List (S100) → Int → Int → Int → Option (List Int × Int × Int × Int)
 | 0, _, _, _, _, _, _, _, _, _, _, _ => none
 | k + 1, x1, x6, x7, x9, x14, x15, x16, x163000, x179000, x179001, x179002 => if x16 < (x15.length : Int) then (if 0 ≤ x16 then (if (rd x15 x16) ≥ (x6.length : Int) then (some (x7, x179000, x179001, 6)) else (if 0 ≤ (rd x15 x16) then (if (rd x15 x16) < (x7.length : Int) then (if (rd x7 (rd x15 x16)) ≥ 0 then (spec_l04Heights.j8 k x1 x6 x7 x9 x14 x15 x16 ((rd x7 (rd x15 x16)) != x14) x163000 x179000 x179001 x179002) else (spec_l04Heights.j8 k x1 x6 x7 x9 x14 x15 x16 false x163000 x179000 x179001 x179002)) else (none)) else (none))) else (none)) else (spec_l04Heights.l1 k x1 x6 x7 x9 x163000)
def spec_l04Heights.j8 : Nat → Int → List (S102) → List Int → List Bool → Int → List Int → Int → Bool → List (S100) → Int → Int → Int → Option (List Int × Int × Int × Int)
 | 0, _, _, _, _, _, _, _, _, _, _, _, _ => none
 | k + 1, x1, x6, x7, x9, x14, x15, x16, x143, x163000, x179000, x179001, x179002 => if x143 = true then (some (x7, x179000, x179001, x179002)) else (if 0 ≤ x16 then (if x16 < (x15.length : Int) then (if 0 ≤ (rd x15 x16) then (if (rd x15 x16) < (x7.length : Int) then (if (rd x7 (rd x15 x16)) < 0 then (if (rd x15 x16) < (x9.length : Int) then (spec_l04Heights.l2 k x1 x6 (x7.set ((rd x15 x16) : Int).toNat x14) (x9.set ((rd x15 x16) : Int).toNat true) x14 x15 (wrap64 (x16 + 1)) x163000 x179000 x179001 x179002) else (none)) else (spec_l04Heights.l2 k x1 x6 x7 x9 x14 x15 (wrap64 (x16 + 1)) x163000 x179000 x179001 x179002)) else (none)) else (none)) else (none)) else (none))
end
def spec_l04Heights.f (k : Nat) (l0_0 : List (S100)) (a1 : Int) : Option (List Int × Int × Int × Int) := if 0 ≤ a1 then (if a1 < (l0_0.length : Int) then (if 0 ≤ (((rd_T100 l0_0 a1).f2).length : Int) then (if ((((rd_T100 l0_0 a1).f2).length : Int) : Int).toNat ≤ 35184372088832 then (spec_l04Heights.l0 k a1 ((rd_T100 l0_0 a1).f2) (List.replicate ((((rd_T100 l0_0 a1).f2).length : Int) : Int).toNat 0) 0 l0_0) else (none)) else (none)) else (none)) else (none)
theorem spec_l04Heights.mono_l : ∀ k, (∀ y0 y1 y2 y3 y4, LeO (spec_l04Heights.l0 k y0 y1 y2 y3 y4) (spec_l04Heights.l0 (k + 1) y0 y1 y2 y3 y4)) ∧ (∀ y0 y1 y2 y3 y4, LeO (spec_l04Heights.l1 k y0 y1 y2 y3 y4) (spec_l04Heights.l1 (k + 1) y0 y1 y2 y3 y4)) ∧ (∀ y0 y1 y2 y3 y4 y5 y6 y7 y8 y9 y10 y11 y12, LeO (spec_l04Heights.j2 k y0 y1 y2 y3 y4 y5 y6 y7 y8 y9 y10 y11 y12) (spec_l04Heights.j2 (k + 1) y0 y1 y2 y3 y4 y5 y6 y7 y8 y9 y10 y11 y12)) ∧ (∀ y0 y1 y2 y3 y4 y5 y6 y7 y8 y9 y10 y11 y12 y13, LeO (spec_l04Heights.j3 k y0 y1 y2 y3 y4 y5 y6 y7 y8 y9 y10 y11 y12 y13) (spec_l04Heights.j3 (k + 1) y0 y1 y2 y3 y4 y5 y6 y7 y8 y9 y10 y11 y12 y13)) ∧ (∀ y0 y1 y2 y3 y4 y5 y6 y7 y8 y9 y10 y11, LeO (spec_l04Heights.j4 k y0 y1 y2 y3 y4 y5 y6 y7 y8 y9 y10 y11) (spec_l04Heights.j4 (k + 1) y0 y1 y2 y3 y4 y5 y6 y7 y8 y9 y10 y11)) ∧ (∀ y0 y1 y2 y3 y4 y5 y6 y7 y8 y9 y10 y11 y12, LeO (spec_l04Heights.j5 k y0 y1 y2 y3 y4 y5 y6 y7 y8 y9 y10 y11 y12) (spec_l04Heights.j5 (k + 1) y0 y1 y2 y3 y4 y5 y6 y7 y8 y9 y10 y11 y12)) ∧ (∀ y0 y1 y2 y3 y4 y5 y6 y7 y8 y9, LeO (spec_l04Heights.j6 k y0 y1 y2 y3 y4 y5 y6 y7 y8 y9) (spec_l04Heights.j6 (k + 1) y0 y1 y2 y3 y4 y5 y6 y7 y8 y9)) ∧ (∀ y0 y1 y2 y3 y4 y5 y6 y7 y8 y9 y10, LeO (spec_l04Heights.l2 k y0 y1 y2 y3 y4 y5 y6 y7 y8 y9 y10) (spec_l04Heights.l2 (k + 1) y0 y1 y2 y3 y4 y5 y6 y7 y8 y9 y10)) ∧ (∀ y0 y1 y2 y3 y4 y5 y6 y7 y8 y9 y10 y11, LeO (spec_l04Heights.j8 k y0 y1 y2 y3 y4 y5 y6 y7 y8 y9 y10 y11) (spec_l04Heights.j8 (k + 1) y0 y1 y2 y3 y4 y5 y6 y7 y8 y9 y10 y11))
 | 0 => ⟨fun _ _ _ _ _ r h => by simp [spec_l04Heights.l0] at h, fun _ _ _ _ _ r h => by simp [spec_l04Heights.l1] at h, fun _ _ _ _ _ _ _ _ _ _ _ _ _ r h => by simp [spec_l04Heights.j2] at h, fun _ _ _ _ _ _ _ _ _ _ _ _ _ _ r h => by simp [spec_l04Heights.j3] at h, fun _ _ _ _ _ _ _ _ _ _ _ _ r h => by simp [spec_l04Heights.j4] at h, fun _ _ _ _ _ _ _ _ _ _ _ _ _ r h => by simp [spec_l04Heights.j5] at h, fun _ _ _ _ _ _ _ _ _ _ r h => by simp [spec_l04Heights.j6] at h, fun _ _ _ _ _ _ _ _ _ _ _ r h => by simp [spec_l04Heights.l2] at h, fun _ _ _ _ _ _ _ _ _ _ _ _ r h => by simp [spec_l04Heights.j8] at h⟩
 | k + 1 => by
  obtain ⟨ih0, ih1, ih2, ih3, ih4, ih5, ih6, ih7, ih8⟩ := spec_l04Heights.mono_l k
  refine ⟨?_, ?_, ?_, ?_, ?_, ?_, ?_, ?_, ?_⟩
  ·intro y0 y1 y2 y3 y4
   unfold spec_l04Heights.l0
   repeat' first
   | (with_reducible exact ih0 _ _ _ _ _)
   | (with_reducible exact ih1 _ _ _ _ _)
   | (with_reducible exact ih2 _ _ _ _ _ _ _ _ _ _ _ _ _)
   | (with_reducible exact ih3 _ _ _ _ _ _ _ _ _ _ _ _ _ _)
   | (with_reducible exact ih4 _ _ _ _ _ _ _ _ _ _ _ _)
   | (with_reducible exact ih5 _ _ _ _ _ _ _ _ _ _ _ _ _)
   | (with_reducible exact ih6 _ _ _ _ _ _ _ _ _ _)
   | (with_reducible exact ih7 _ _ _ _ _ _ _ _ _ _ _)
   | (with_reducible exact ih8 _ _ _ _ _ _ _ _ _ _ _ _)
   | (with_reducible exact spec_Puts.mono _ _ _)
   | (with_reducible exact spec_Takes.mono _ _ _ _)
   | (with_reducible exact spec_l04Least.mono _ _)
   | (with_reducible exact LeO.refl _)
   | (with_reducible exact LeO.none _)
   | (with_reducible refine LeO.ite ?_ ?_)
   | (with_reducible refine LeO.bind ?_ (fun _ => ?_))
  ·intro y0 y1 y2 y3 y4
   unfold spec_l04Heights.l1
   repeat' first
   | (with_reducible exact ih0 _ _ _ _ _)
   | (with_reducible exact ih1 _ _ _ _ _)
   | (with_reducible exact ih2 _ _ _ _ _ _ _ _ _ _ _ _ _)
   | (with_reducible exact ih3 _ _ _ _ _ _ _ _ _ _ _ _ _ _)
   | (with_reducible exact ih4 _ _ _ _ _ _ _ _ _ _ _ _)
   | (with_reducible exact ih5 _ _ _ _ _ _ _ _ _ _ _ _ _)
   | (with_reducible exact ih6 _ _ _ _ _ _ _ _ _ _)
   | (with_reducible exact ih7 _ _ _ _ _ _ _ _ _ _ _)
   | (with_reducible exact ih8 _ _ _ _ _ _ _ _ _ _ _ _)
   | (with_reducible exact spec_Puts.mono _ _ _)
   | (with_reducible exact spec_Takes.mono _ _ _ _)
   | (with_reducible exact spec_l04Least.mono _ _)
   | (with_reducible exact LeO.refl _)
   | (with_reducible exact LeO.none _)
   | (with_reducible refine LeO.ite ?_ ?_)
   | (with_reducible refine LeO.bind ?_ (fun _ => ?_))
  ·intro y0 y1 y2 y3 y4 y5 y6 y7 y8 y9 y10 y11 y12
   unfold spec_l04Heights.j2
   repeat' first
   | (with_reducible exact ih0 _ _ _ _ _)
   | (with_reducible exact ih1 _ _ _ _ _)
   | (with_reducible exact ih2 _ _ _ _ _ _ _ _ _ _ _ _ _)
   | (with_reducible exact ih3 _ _ _ _ _ _ _ _ _ _ _ _ _ _)
   | (with_reducible exact ih4 _ _ _ _ _ _ _ _ _ _ _ _)
   | (with_reducible exact ih5 _ _ _ _ _ _ _ _ _ _ _ _ _)
   | (with_reducible exact ih6 _ _ _ _ _ _ _ _ _ _)
   | (with_reducible exact ih7 _ _ _ _ _ _ _ _ _ _ _)
   | (with_reducible exact ih8 _ _ _ _ _ _ _ _ _ _ _ _)
   | (with_reducible exact spec_Puts.mono _ _ _)
   | (with_reducible exact spec_Takes.mono _ _ _ _)
   | (with_reducible exact spec_l04Least.mono _ _)
   | (with_reducible exact LeO.refl _)
   | (with_reducible exact LeO.none _)
   | (with_reducible refine LeO.ite ?_ ?_)
   | (with_reducible refine LeO.bind ?_ (fun _ => ?_))
  ·intro y0 y1 y2 y3 y4 y5 y6 y7 y8 y9 y10 y11 y12 y13
   unfold spec_l04Heights.j3
   repeat' first
   | (with_reducible exact ih0 _ _ _ _ _)
   | (with_reducible exact ih1 _ _ _ _ _)
   | (with_reducible exact ih2 _ _ _ _ _ _ _ _ _ _ _ _ _)
   | (with_reducible exact ih3 _ _ _ _ _ _ _ _ _ _ _ _ _ _)
   | (with_reducible exact ih4 _ _ _ _ _ _ _ _ _ _ _ _)
   | (with_reducible exact ih5 _ _ _ _ _ _ _ _ _ _ _ _ _)
   | (with_reducible exact ih6 _ _ _ _ _ _ _ _ _ _)
   | (with_reducible exact ih7 _ _ _ _ _ _ _ _ _ _ _)
   | (with_reducible exact ih8 _ _ _ _ _ _ _ _ _ _ _ _)
   | (with_reducible exact spec_Puts.mono _ _ _)
   | (with_reducible exact spec_Takes.mono _ _ _ _)
   | (with_reducible exact spec_l04Least.mono _ _)
   | (with_reducible exact LeO.refl _)
   | (with_reducible exact LeO.none _)
   | (with_reducible refine LeO.ite ?_ ?_)
   | (with_reducible refine LeO.bind ?_ (fun _ => ?_))
  ·intro y0 y1 y2 y3 y4 y5 y6 y7 y8 y9 y10 y11
   unfold spec_l04Heights.j4
   repeat' first
   | (with_reducible exact ih0 _ _ _ _ _)
   | (with_reducible exact ih1 _ _ _ _ _)
   | (with_reducible exact ih2 _ _ _ _ _ _ _ _ _ _ _ _ _)
   | (with_reducible exact ih3 _ _ _ _ _ _ _ _ _ _ _ _ _ _)
   | (with_reducible exact ih4 _ _ _ _ _ _ _ _ _ _ _ _)
   | (with_reducible exact ih5 _ _ _ _ _ _ _ _ _ _ _ _ _)
   | (with_reducible exact ih6 _ _ _ _ _ _ _ _ _ _)
   | (with_reducible exact ih7 _ _ _ _ _ _ _ _ _ _ _)
   | (with_reducible exact ih8 _ _ _ _ _ _ _ _ _ _ _ _)
   | (with_reducible exact spec_Puts.mono _ _ _)
   | (with_reducible exact spec_Takes.mono _ _ _ _)
   | (with_reducible exact spec_l04Least.mono _ _)
   | (with_reducible exact LeO.refl _)
   | (with_reducible exact LeO.none _)
   | (with_reducible refine LeO.ite ?_ ?_)
   | (with_reducible refine LeO.bind ?_ (fun _ => ?_))
  ·intro y0 y1 y2 y3 y4 y5 y6 y7 y8 y9 y10 y11 y12
   unfold spec_l04Heights.j5
   repeat' first
   | (with_reducible exact ih0 _ _ _ _ _)
   | (with_reducible exact ih1 _ _ _ _ _)
   | (with_reducible exact ih2 _ _ _ _ _ _ _ _ _ _ _ _ _)
   | (with_reducible exact ih3 _ _ _ _ _ _ _ _ _ _ _ _ _ _)
   | (with_reducible exact ih4 _ _ _ _ _ _ _ _ _ _ _ _)
   | (with_reducible exact ih5 _ _ _ _ _ _ _ _ _ _ _ _ _)
   | (with_reducible exact ih6 _ _ _ _ _ _ _ _ _ _)
   | (with_reducible exact ih7 _ _ _ _ _ _ _ _ _ _ _)
   | (with_reducible exact ih8 _ _ _ _ _ _ _ _ _ _ _ _)
   | (with_reducible exact spec_Puts.mono _ _ _)
   | (with_reducible exact spec_Takes.mono _ _ _ _)
   | (with_reducible exact spec_l04Least.mono _ _)
   | (with_reducible exact LeO.refl _)
   | (with_reducible exact LeO.none _)
   | (with_reducible refine LeO.ite ?_ ?_)
   | (with_reducible refine LeO.bind ?_ (fun _ => ?_))
  ·intro y0 y1 y2 y3 y4 y5 y6 y7 y8 y9
   unfold spec_l04Heights.j6
   repeat' first
   | (with_reducible exact ih0 _ _ _ _ _)
   | (with_reducible exact ih1 _ _ _ _ _)
   | (with_reducible exact ih2 _ _ _ _ _ _ _ _ _ _ _ _ _)
   | (with_reducible exact ih3 _ _ _ _ _ _ _ _ _ _ _ _ _ _)
   | (with_reducible exact ih4 _ _ _ _ _ _ _ _ _ _ _ _)
   | (with_reducible exact ih5 _ _ _ _ _ _ _ _ _ _ _ _ _)
   | (with_reducible exact ih6 _ _ _ _ _ _ _ _ _ _)
   | (with_reducible exact ih7 _ _ _ _ _ _ _ _ _ _ _)
   | (with_reducible exact ih8 _ _ _ _ _ _ _ _ _ _ _ _)
   | (with_reducible exact spec_Puts.mono _ _ _)
   | (with_reducible exact spec_Takes.mono _ _ _ _)
   | (with_reducible exact spec_l04Least.mono _ _)
   | (with_reducible exact LeO.refl _)
   | (with_reducible exact LeO.none _)
   | (with_reducible refine LeO.ite ?_ ?_)
   | (with_reducible refine LeO.bind ?_ (fun _ => ?_))
  ·intro y0 y1 y2 y3 y4 y5 y6 y7 y8 y9 y10
   unfold spec_l04Heights.l2
   repeat' first
   | (with_reducible exact ih0 _ _ _ _ _)
   | (with_reducible exact ih1 _ _ _ _ _)
   | (with_reducible exact ih2 _ _ _ _ _ _ _ _ _ _ _ _ _)
   | (with_reducible exact ih3 _ _ _ _ _ _ _ _ _ _ _ _ _ _)
   | (with_reducible exact ih4 _ _ _ _ _ _ _ _ _ _ _ _)
   | (with_reducible exact ih5 _ _ _ _ _ _ _ _ _ _ _ _ _)
   | (with_reducible exact ih6 _ _ _ _ _ _ _ _ _ _)
   | (with_reducible exact ih7 _ _ _ _ _ _ _ _ _ _ _)
   | (with_reducible exact ih8 _ _ _ _ _ _ _ _ _ _ _ _)
   | (with_reducible exact spec_Puts.mono _ _ _)
   | (with_reducible exact spec_Takes.mono _ _ _ _)
   | (with_reducible exact spec_l04Least.mono _ _)
   | (with_reducible exact LeO.refl _)
   | (with_reducible exact LeO.none _)
   | (with_reducible refine LeO.ite ?_ ?_)
   | (with_reducible refine LeO.bind ?_ (fun _ => ?_))
  ·intro y0 y1 y2 y3 y4 y5 y6 y7 y8 y9 y10 y11
   unfold spec_l04Heights.j8
   repeat' first
   | (with_reducible exact ih0 _ _ _ _ _)
   | (with_reducible exact ih1 _ _ _ _ _)
   | (with_reducible exact ih2 _ _ _ _ _ _ _ _ _ _ _ _ _)
   | (with_reducible exact ih3 _ _ _ _ _ _ _ _ _ _ _ _ _ _)
   | (with_reducible exact ih4 _ _ _ _ _ _ _ _ _ _ _ _)
   | (with_reducible exact ih5 _ _ _ _ _ _ _ _ _ _ _ _ _)
   | (with_reducible exact ih6 _ _ _ _ _ _ _ _ _ _)
   | (with_reducible exact ih7 _ _ _ _ _ _ _ _ _ _ _)
   | (with_reducible exact ih8 _ _ _ _ _ _ _ _ _ _ _ _)
   | (with_reducible exact spec_Puts.mono _ _ _)
   | (with_reducible exact spec_Takes.mono _ _ _ _)
   | (with_reducible exact spec_l04Least.mono _ _)
   | (with_reducible exact LeO.refl _)
   | (with_reducible exact LeO.none _)
   | (with_reducible refine LeO.ite ?_ ?_)
   | (with_reducible refine LeO.bind ?_ (fun _ => ?_))
theorem spec_l04Heights.mono : ∀ a0 a1 k, LeO (spec_l04Heights.f k a0 a1) (spec_l04Heights.f (k + 1) a0 a1) := by
 intro a0 a1 k
 obtain ⟨ih0, ih1, ih2, ih3, ih4, ih5, ih6, ih7, ih8⟩ := spec_l04Heights.mono_l k
 unfold spec_l04Heights.f
 repeat' first
   | (with_reducible exact ih0 _ _ _ _ _)
   | (with_reducible exact ih1 _ _ _ _ _)
   | (with_reducible exact ih2 _ _ _ _ _ _ _ _ _ _ _ _ _)
   | (with_reducible exact ih3 _ _ _ _ _ _ _ _ _ _ _ _ _ _)
   | (with_reducible exact ih4 _ _ _ _ _ _ _ _ _ _ _ _)
   | (with_reducible exact ih5 _ _ _ _ _ _ _ _ _ _ _ _ _)
   | (with_reducible exact ih6 _ _ _ _ _ _ _ _ _ _)
   | (with_reducible exact ih7 _ _ _ _ _ _ _ _ _ _ _)
   | (with_reducible exact ih8 _ _ _ _ _ _ _ _ _ _ _ _)
   | (with_reducible exact spec_Puts.mono _ _ _)
   | (with_reducible exact spec_Takes.mono _ _ _ _)
   | (with_reducible exact spec_l04Least.mono _ _)
   | (with_reducible exact LeO.refl _)
   | (with_reducible exact LeO.none _)
   | (with_reducible refine LeO.ite ?_ ?_)
   | (with_reducible refine LeO.bind ?_ (fun _ => ?_))
def spec_l04Heights.T17 : Bool × List (List Nat × List Nat) := (true, [([], []), ([], []), ([0, 1], [0, 1]), ([2], [2]), ([], []), ([3, 4], [3, 4]), ([], []), ([6], [6]), ([5, 7], [5, 7]), ([8, 7, 0, 1, 2, 3, 4, 5, 6, 7, 8], [8])])
def spec_l04Heights.B17 : List Nat := [0, 0, 3, 7, 0, 31, 0, 64, 255, 511]
theorem spec_l04Heights.tab17 : rtab .any (opsOf Try.f58 17) = spec_l04Heights.T17 := by kernel_rfl
theorem spec_l04Heights.bits17 : waitsOk spec_l04Heights.T17.2 spec_l04Heights.B17 = true := by kernel_rfl
theorem spec_l04Heights.calls (k : Nat) (A0_0 : Option Addr) (c0_0 : Nat) (l0_0 : List (S100)) (a1 : Int) (r1 : List Int) (r2 : Int) (r3 : Int) (r4 : Int) (w : World) (hr0_0 : Kd.C k100 w A0_0 l0_0.length l0_0) (hc0_0 : l0_0.length ≤ c0_0) (h : spec_l04Heights.f k l0_0 a1 = some (r1, r2, r3, r4)) :
  Calls Try.prog 58 #[.agg #[.slice A0_0 l0_0.length c0_0], .int .i64 a1] w fun e w' => ∃ v0_ : Value, e = .returned (.tuple #[v0_, .agg #[.int .i64 r2, .int .i64 r3, .int .i64 r4]]) ∧ Kd.R (Kd.int .i64) 2 w' w.heap.size (fun _ => True) v0_ r1 ∧ Below w.heap.size w w' := by
 have hu30 := Try.underlying30
 have hu84 := Try.underlying84
 have hu102 := Try.underlying102
 have HR0_0 := am hr0_0
 have HC0_0 := am hc0_0
 clear hr0_0 hc0_0
 have HB := am (Below.refl w.heap.size w)
 have H : (if 0 ≤ a1 then (if a1 < (l0_0.length : Int) then (if 0 ≤ (((rd_T100 l0_0 a1).f2).length : Int) then (if ((((rd_T100 l0_0 a1).f2).length : Int) : Int).toNat ≤ 35184372088832 then (spec_l04Heights.l0 k a1 ((rd_T100 l0_0 a1).f2) (List.replicate ((((rd_T100 l0_0 a1).f2).length : Int) : Int).toNat 0) 0 l0_0) else (none)) else (none)) else (none)) else (none)) = some (r1, r2, r3, r4) := h
 clear h
 by_cases c3 : 0 ≤ a1
 ·rw [if_pos c3] at H
  have c3b0 := decide_eq_true c3
  clear c3
  by_cases c4 : a1 < (l0_0.length : Int)
  ·rw [if_pos c4] at H
   have c4b0 := decide_eq_true c4
   clear c4
   by_cases c5 : 0 ≤ (((rd_T100 l0_0 a1).f2).length : Int)
   ·rw [if_pos c5] at H
    have c5b0 := eq_true c5
    have c5b1 := decide_eq_true c5
    clear c5
    by_cases c6 : ((((rd_T100 l0_0 a1).f2).length : Int) : Int).toNat ≤ 35184372088832
    ·rw [if_pos c6] at H
     have c6b0 := eq_true c6
     have c6b1 := decide_eq_true c6
     clear c6
     obtain ⟨y165, hy165⟩ : ∃ y_ : List Int, y_ = (List.replicate ((((rd_T100 l0_0 a1).f2).length : Int) : Int).toNat 0) := ⟨_, rfl⟩
     replace H : (spec_l04Heights.l0 k a1 ((rd_T100 l0_0 a1).f2) y165 0 l0_0) = some (r1, r2, r3, r4) := by first | (rw [hy165]; with_reducible exact H) | (have H2_ := (Option.bind_some _ _).symm.trans H; rw [hy165]; with_reducible exact H2_) | (have H2_ := (Option.bind_some _ _).symm.trans H; with_reducible exact H2_) | with_reducible exact H | (rw [hy165]; exact H) | exact H
     have Ny165 := am hy165
     clear hy165
     have H' := am H
     clear H
     go_enter Try.func58, Try.ntmps58
     go_wp2_with (first | ((with_reducible refine gate_dst (N := 2) rfl ?_); refine box_event ?hg (N := 2) ?hd (cs := #[.slice A0_0 l0_0.length c0_0]) (t := 30) ?hr ?_; (case hd => rfl); (case hg => rfl); (case hr => exact gs); intro gb162 hg w7 hbox hb; have BK162 := am (hbox); have GW162 := am ((by rw [hg]; exact (below_size (bw HB)) : w.heap.size ≤ gb162)); have GE162 := am ((by rw [hg]; exact (below_size (bw HB)) : w.heap.size ≤ gb162)); replace HB := am (below_step (bw HB) hb); clear hb hbox hg) | ((with_reducible refine gate_dst (N := 5) rfl ?_); refine box_event ?hg (N := 5) ?hd (cs := #[.int .i64 0, .int .i64 0, .int .i64 0]) (t := 84) ?hr ?_; (case hd => rfl); (case hg => rfl); (case hr => exact gs); intro gb163 hg w8 hbox hb; have BK163 := am (hbox); have GW163 := am ((by rw [hg]; exact (below_size (bw HB)) : w.heap.size ≤ gb163)); have GE163 := am ((by rw [hg]; exact (below_size (bw HB)) : w.heap.size ≤ gb163)); replace HB := am (below_step (bw HB) hb); have NB162_163 := am ((by rw [hg]; exact Nat.ne_of_lt (blk_lt (g := gb162) (o := .cells #[.slice A0_0 l0_0.length c0_0] 30 (0, 0)) (bp BK162)) : gb162 ≠ gb163)); have NB163_162 := am ((by rw [hg]; exact Nat.ne_of_gt (blk_lt (g := gb162) (o := .cells #[.slice A0_0 l0_0.length c0_0] 30 (0, 0)) (bp BK162)) : gb163 ≠ gb162)); replace BK162 := am (blk_below (g := gb162) (o := .cells #[.slice A0_0 l0_0.length c0_0] 30 (0, 0)) (bp BK162) hb); clear hb hbox hg; have hnb9 := NB162_163.out; have hnc9 := NB163_162.out; have hcz10_0 : w8.cell? ⟨gb162, 0, none⟩ = some (.slice A0_0 l0_0.length c0_0) := bc BK162 0; have hfz10_0 := bf BK162 0; have p164 : 0 ≤ (a1 : Int) := of_decide_eq_true as1; have q164 : a1 < (l0_0.length : Int) := of_decide_eq_true as1; obtain ⟨ad164, A164_2, c164_2, e164, hx164_0, hx164_1, hx164_2, hl164_2, hi164_2⟩ := at_T100 HR0_0.out a1 p164 q164; cases e164; replace hx164_0 := (HB.out.cell (World.block_lt_of_cell? w _ hx164_0)).trans hx164_0; replace hx164_1 := (HB.out.cell (World.block_lt_of_cell? w _ hx164_1)).trans hx164_1; replace hx164_2 := (HB.out.cell (World.block_lt_of_cell? w _ hx164_2)).trans hx164_2; have HR164_2 := am hi164_2; have HC164_2 := am hl164_2; clear hi164_2 hl164_2; replace p164 := eq_true p164; replace q164 := eq_true q164) | ((with_reducible refine gate_dst (N := 25) rfl ?_); refine Kd.R_make (Kd.int .i64) _ 2 rfl (N := 25) rfl 26 _ _ rfl (((rd_T100 l0_0 a1).f2).length : Int) rfl rfl Try.underlying26 (.int .i64 0) 8 info2 rfl (by decide) (by omega) 0 (ok := fun _ => True) (okp := fun _ => True) rfl (fun _ hk => hk) trivial (of_decide_eq_true as1) (Nat.le_trans (Nat.mul_le_mul_right _ (of_decide_eq_true as1 : (((rd_T100 l0_0 a1).f2).length : Int).toNat ≤ 35184372088832)) (by omega)) (Below.refl _ _) (Nat.le_refl _) ?_; intro v166 w11 ho12 hb hg_ hnew_; clear hg_ hnew_; (first | rw [← Ny165.out] at ho12 | (simp only [Int.reduceToNat] at ho12; rw [← Ny165.out] at ho12)); have HO167 := am (Kd.R_lower ho12 (below_size (bw HB))); replace BK162 := am (blk_below (g := gb162) (o := .cells #[.slice (some ad164) l0_0.length c0_0] 30 (0, 0)) (bp BK162) hb); replace BK163 := am (blk_below (g := gb163) (o := .cells #[.int .i64 0, .int .i64 0, .int .i64 0] 84 (0, 0)) (bp BK163) hb); replace HB := am (below_step (bw HB) hb); clear hb ho12))
     go_loopg [8] k (fun kq v8 w' => ∃ (x7_1 : List Int) (x8_1 : Int), v8 = .int .i64 x8_1 ∧ Aside0 (spec_l04Heights.l0 kq a1 ((rd_T100 l0_0 a1).f2) x7_1 x8_1 l0_0 = some (r1, r2, r3, r4)) ∧ Aside0 (kq ≤ k) ∧ Aside0 (Kd.R (Kd.int .i64) 2 w' w.heap.size (fun _ => True) v166 x7_1) ∧ Aside0 (w'.heap[gb162]? = some (.cells #[(.slice (some ad164) l0_0.length c0_0)] 30 (0, 0))) ∧ Aside0 (w'.heap[gb163]? = some (.cells #[.int .i64 0, .int .i64 0, .int .i64 0] 84 (0, 0))) ∧ Aside0 (Below w.heap.size w w'))
     case atStart => exact ⟨(y165), (0), dr, H', ⟨Nat.le_refl _⟩, ⟨kR HO167⟩, ⟨bp BK162⟩, ⟨bp BK163⟩, ⟨bw HB⟩⟩
     case round =>
      clear H'
      (try clear c1); (try clear p1); (try clear q1); (try clear hx1); (try clear p2); (try clear c3); (try clear c3b0); (try clear c4); (try clear c4b0); (try clear c5); (try clear c5b0); (try clear c5b1); (try clear c6); (try clear c6b0); (try clear c6b1); (try clear c9); (try clear hcz10_0); (try clear hfz10_0); (try clear hx164_0); (try clear hx164_1); (try clear hx164_2); (try clear p164); (try clear q164)
      obtain ⟨x7_1, x8_1, rfl, HA, HK1, HO_7, BK162, BK163, HB⟩ := hrel
      cases gk with
      | zero => exact absurd HA.out (by simp [spec_l04Heights.l0])
      | succ k1 =>
       have H := HA.out
       clear HA
       simp only [spec_l04Heights.l0] at H
       by_cases c13 : x8_1 < (x7_1.length : Int)
       ·rw [if_pos c13] at H
        have c13b0 := decide_eq_true c13
        clear c13
        by_cases c14 : 0 ≤ x8_1
        ·rw [if_pos c14] at H
         have c14b0 := decide_eq_true c14
         clear c14
         obtain ⟨y168, hy168⟩ : ∃ y_ : List Int, y_ = (x7_1.set (x8_1 : Int).toNat (-1)) := ⟨_, rfl⟩
         replace H : (spec_l04Heights.l0 k1 a1 ((rd_T100 l0_0 a1).f2) y168 (wrap64 (x8_1 + 1)) l0_0) = some (r1, r2, r3, r4) := by first | (rw [hy168]; with_reducible exact H) | (have H2_ := (Option.bind_some _ _).symm.trans H; rw [hy168]; with_reducible exact H2_) | (have H2_ := (Option.bind_some _ _).symm.trans H; with_reducible exact H2_) | with_reducible exact H | (rw [hy168]; exact H) | exact H
         have Ny168 := am hy168
         clear hy168
         have H' := am H
         clear H
         obtain ⟨Ao16, co16, eo16⟩ := Kd.R_slice HO_7.out
         subst eo16
         have p15 : 0 ≤ (x8_1 : Int) := of_decide_eq_true as1
         have q15 : (x8_1 : Int) < ((x7_1.length : Int) : Int) := of_decide_eq_true as1
         obtain ⟨go15, co15, eo15, gb15, gl15, cl15, HG15⟩ := Kd.R_form HO_7.out (by omega)
         (first | cases eo15 | (injection eo15 with ea_ en_ ec_; (first | subst ea_ | (injection ea_ with ea_; subst ea_)); subst ec_; clear en_))
         have GB15 := am gb15
         have GG15 := am HG15
         clear gb15 gl15 HG15
         obtain ⟨hx15_0, hf15_0⟩ := Kd.R_celln 0 HO_7.out (x8_1 : Int) p15 q15
         replace p15 := eq_true p15
         replace q15 := eq_true q15
         have HP17 := Kd.R_putg HO_7.out (x8_1 : Int) (-1)
         go_wp2_with (first | ((with_reducible refine gate_store (t := 2) (p := 34) rfl ?_); refine store_event (t := 2) (p := 34) (v := ?vo_w18) (w1 := (wr.setCell ⟨go15, (x8_1 : Int).toNat, none⟩ (.int .i64 (-1)))) ?hg ?ho ?hn ?hr ?_; (case ho => rfl); (case hg => rfl); (case hn => rfl); (case hr => exact gs); intro w18 hw; have hg : wr.grownBy w18 (some go15) := (by rw [hw]; exact HP17.2); have hp_ : Kd.R (Kd.int .i64) 2 w18 w.heap.size (fun _ => True) (.slice (some ⟨go15, 0, none⟩) x7_1.length co16) y168 := (by rw [hw, Ny168.out]; exact HP17.1); clear HP17; replace BK162 := am (blk_grown (g := gb162) (o := .cells #[.slice (some ad164) l0_0.length c0_0] 30 (0, 0)) (bp BK162) hg (Kd.R_ne HO_7.out BK162.out (by decide))); replace BK163 := am (blk_grown (g := gb163) (o := .cells #[.int .i64 0, .int .i64 0, .int .i64 0] 84 (0, 0)) (bp BK163) hg (Kd.R_ne HO_7.out BK163.out (by decide))); replace HO_7 := am (hp_); replace HB := am ((by rw [hw]; exact below_set (HB.out) GB15.out : Below w.heap.size w w18)); clear hg hw hp_))
         go_roundg k1
         case measure => have := HK1.out; omega
         case rel => exact ⟨(y168), (wrap64 (x8_1 + 1)), dr, H', ⟨by have := HK1.out; omega⟩, ⟨kR HO_7⟩, ⟨bp BK162⟩, ⟨bp BK163⟩, ⟨bw HB⟩⟩
        ·rw [if_neg c14] at H
         exact absurd H (by simp)
       ·rw [if_neg c13] at H
        have c13b0 := decide_eq_false c13
        clear c13
        by_cases c19 : 0 < (x7_1.length : Int)
        ·rw [if_pos c19] at H
         have c19b0 := decide_eq_true c19
         have c19b1 : decide (0 < x7_1.length) = true := decide_eq_true (by omega)
         clear c19
         obtain ⟨y169, hy169⟩ : ∃ y_ : List Int, y_ = (x7_1.set (0 : Int).toNat 0) := ⟨_, rfl⟩
         replace H : (if 0 ≤ (((rd_T100 l0_0 a1).f2).length : Int) then (if ((((rd_T100 l0_0 a1).f2).length : Int) : Int).toNat ≤ 281474976710656 then ((some (List.replicate ((((rd_T100 l0_0 a1).f2).length : Int) : Int).toNat false : List Bool)).bind fun y170 => (if 0 < (y170.length : Int) then (spec_l04Heights.l1 k1 a1 ((rd_T100 l0_0 a1).f2) y169 (y170.set (0 : Int).toNat true) l0_0) else (none))) else (none)) else (none)) = some (r1, r2, r3, r4) := by first | (rw [hy169]; with_reducible exact H) | (have H2_ := (Option.bind_some _ _).symm.trans H; rw [hy169]; with_reducible exact H2_) | (have H2_ := (Option.bind_some _ _).symm.trans H; with_reducible exact H2_) | with_reducible exact H | (rw [hy169]; exact H) | exact H
         have Ny169 := am hy169
         clear hy169
         by_cases c21 : 0 ≤ (((rd_T100 l0_0 a1).f2).length : Int)
         ·rw [if_pos c21] at H
          have c21b0 := eq_true c21
          have c21b1 := decide_eq_true c21
          clear c21
          by_cases c22 : ((((rd_T100 l0_0 a1).f2).length : Int) : Int).toNat ≤ 281474976710656
          ·rw [if_pos c22] at H
           have c22b0 := eq_true c22
           have c22b1 := decide_eq_true c22
           clear c22
           obtain ⟨y170, hy170⟩ : ∃ y_ : List Bool, y_ = (List.replicate ((((rd_T100 l0_0 a1).f2).length : Int) : Int).toNat false) := ⟨_, rfl⟩
           replace H : (if 0 < (y170.length : Int) then (spec_l04Heights.l1 k1 a1 ((rd_T100 l0_0 a1).f2) y169 (y170.set (0 : Int).toNat true) l0_0) else (none)) = some (r1, r2, r3, r4) := by first | (rw [hy170]; with_reducible exact H) | (have H2_ := (Option.bind_some _ _).symm.trans H; rw [hy170]; with_reducible exact H2_) | (have H2_ := (Option.bind_some _ _).symm.trans H; with_reducible exact H2_) | with_reducible exact H | (rw [hy170]; exact H) | exact H
           have Ny170 := am hy170
           clear hy170
           by_cases c23 : 0 < (y170.length : Int)
           ·rw [if_pos c23] at H
            have c23b0 := decide_eq_true c23
            have c23b1 : decide (0 < y170.length) = true := decide_eq_true (by omega)
            clear c23
            obtain ⟨y173, hy173⟩ : ∃ y_ : List Bool, y_ = (y170.set (0 : Int).toNat true) := ⟨_, rfl⟩
            replace H : (spec_l04Heights.l1 k1 a1 ((rd_T100 l0_0 a1).f2) y169 y173 l0_0) = some (r1, r2, r3, r4) := by first | (rw [hy173]; with_reducible exact H) | (have H2_ := (Option.bind_some _ _).symm.trans H; rw [hy173]; with_reducible exact H2_) | (have H2_ := (Option.bind_some _ _).symm.trans H; with_reducible exact H2_) | with_reducible exact H | (rw [hy173]; exact H) | exact H
            have Ny173 := am hy173
            clear hy173
            have H' := am H
            clear H
            obtain ⟨Ao25, co25, eo25⟩ := Kd.R_slice HO_7.out
            subst eo25
            have p20 : 0 ≤ (0 : Int) := (by omega)
            have q20 : (0 : Int) < ((x7_1.length : Int) : Int) := of_decide_eq_true as1
            have qi20 : (0 < x7_1.length) = True := eq_true (by omega)
            obtain ⟨go20, co20, eo20, gb20, gl20, cl20, HG20⟩ := Kd.R_form HO_7.out (by omega)
            (first | cases eo20 | (injection eo20 with ea_ en_ ec_; (first | subst ea_ | (injection ea_ with ea_; subst ea_)); subst ec_; clear en_))
            have GB20 := am gb20
            have GG20 := am HG20
            clear gb20 gl20 HG20
            obtain ⟨hx20_0, hf20_0⟩ := Kd.R_celln 0 HO_7.out (0 : Int) p20 q20
            (try rw [show ((0 : Int)).toNat = 0 from rfl] at hx20_0)
            (try simp only [Nat.reduceMul, Nat.zero_mul, Nat.zero_add, Nat.reduceAdd] at hx20_0)
            (try rw [show ((0 : Int)).toNat = 0 from rfl] at hf20_0)
            (try simp only [Nat.reduceMul, Nat.zero_mul, Nat.zero_add, Nat.reduceAdd] at hf20_0)
            replace p20 := eq_true p20
            replace q20 := eq_true q20
            have HP26 := Kd.R_putg HO_7.out (0 : Int) 0
            go_wp2_with (first | ((with_reducible refine gate_store (t := 2) (p := 36) rfl ?_); refine store_event (t := 2) (p := 36) (v := ?vo_w27) (w1 := (wr.setCell ⟨go20, (0 : Int).toNat, none⟩ (.int .i64 0))) ?hg ?ho ?hn ?hr ?_; (case ho => rfl); (case hg => rfl); (case hn => rfl); (case hr => exact gs); intro w27 hw; have hg : wr.grownBy w27 (some go20) := (by rw [hw]; exact HP26.2); have hp_ : Kd.R (Kd.int .i64) 2 w27 w.heap.size (fun _ => True) (.slice (some ⟨go20, 0, none⟩) x7_1.length co25) y169 := (by rw [hw, Ny169.out]; exact HP26.1); clear HP26; replace BK162 := am (blk_grown (g := gb162) (o := .cells #[.slice (some ad164) l0_0.length c0_0] 30 (0, 0)) (bp BK162) hg (Kd.R_ne HO_7.out BK162.out (by decide))); replace BK163 := am (blk_grown (g := gb163) (o := .cells #[.int .i64 0, .int .i64 0, .int .i64 0] 84 (0, 0)) (bp BK163) hg (Kd.R_ne HO_7.out BK163.out (by decide))); replace HO_7 := am (hp_); replace HB := am ((by rw [hw]; exact below_set (HB.out) GB20.out : Below w.heap.size w w27)); clear hg hw hp_) | ((with_reducible refine gate_dst (N := 39) rfl ?_); refine Kd.R_make Kd.bool _ 4 rfl (N := 39) rfl 166 _ _ rfl (((rd_T100 l0_0 a1).f2).length : Int) rfl rfl Try.underlying166 (.bool false) 1 info4 rfl (by decide) (by omega) false (ok := fun _ => True) (okp := fun _ => True) rfl (fun _ hk => hk) trivial (of_decide_eq_true as1) (Nat.le_trans (Nat.mul_le_mul_right _ (of_decide_eq_true as1 : (((rd_T100 l0_0 a1).f2).length : Int).toNat ≤ 281474976710656)) (by omega)) (Below.refl _ _) (Nat.le_refl _) ?_; intro v171 w28 ho29 hb hg_ hnew_; clear hg_ hnew_; (first | rw [← Ny170.out] at ho29 | (simp only [Int.reduceToNat] at ho29; rw [← Ny170.out] at ho29)); replace HO_7 := am (Kd.R_below (kR HO_7) hb); have HO172 := am (Kd.R_lower ho29 (below_size (bw HB))); replace BK162 := am (blk_below (g := gb162) (o := .cells #[.slice (some ad164) l0_0.length c0_0] 30 (0, 0)) (bp BK162) hb); replace BK163 := am (blk_below (g := gb163) (o := .cells #[.int .i64 0, .int .i64 0, .int .i64 0] 84 (0, 0)) (bp BK163) hb); replace HB := am (below_step (bw HB) hb); clear hb ho29; have p24 : 0 ≤ (0 : Int) := (by omega); have q24 : (0 : Int) < ((y170.length : Int) : Int) := of_decide_eq_true as1; have qi24 : (0 < y170.length) = True := eq_true (by omega); obtain ⟨go24, co24, eo24, gb24, gl24, cl24, HG24⟩ := Kd.R_form HO172.out (by omega); (first | cases eo24 | (injection eo24 with ea_ en_ ec_; (first | subst ea_ | (injection ea_ with ea_; subst ea_)); subst ec_; clear en_)); have GB24 := am gb24; have GG24 := am HG24; clear gb24 gl24 HG24; obtain ⟨hx24_0, hf24_0⟩ := Kd.R_celln false HO172.out (0 : Int) p24 q24; (try rw [show ((0 : Int)).toNat = 0 from rfl] at hx24_0); (try simp only [Nat.reduceMul, Nat.zero_mul, Nat.zero_add, Nat.reduceAdd] at hx24_0); (try rw [show ((0 : Int)).toNat = 0 from rfl] at hf24_0); (try simp only [Nat.reduceMul, Nat.zero_mul, Nat.zero_add, Nat.reduceAdd] at hf24_0); replace p24 := eq_true p24; replace q24 := eq_true q24; obtain ⟨hy30_, hz30_⟩ := Kd.R_celln false HO172.out (0 : Int) (by omega) (of_decide_eq_true as1); (try simp only [Int.reduceToNat, Int.toNat_zero, Int.toNat_ofNat, Nat.reduceMul, Nat.zero_mul, Nat.zero_add] at hy30_ hz30_); (try rw [show ((0 : Int)).toNat = 0 from rfl] at hy30_); (try rw [show ((0 : Int)).toNat = 0 from rfl] at hz30_); have HP30 := Kd.R_putg HO172.out (0 : Int) true) | ((with_reducible refine gate_store (t := 4) (p := 41) rfl ?_); refine store_event (t := 4) (p := 41) (v := ?vo_w31) (w1 := (w28.setCell ⟨go24, (0 : Int).toNat, none⟩ (.bool true))) ?hg ?ho ?hn ?hr ?_; (case ho => rfl); (case hg => rfl); (case hn => rfl); (case hr => exact gs); intro w31 hw; have hg : w28.grownBy w31 (some go24) := (by rw [hw]; exact HP30.2); have hp_ : Kd.R Kd.bool 4 w31 w.heap.size (fun _ => True) (.slice (some ⟨go24, 0, none⟩) y170.length co24) y173 := (by rw [hw, Ny173.out]; exact HP30.1); clear HP30; replace HO_7 := am (Kd.R_over' (v := (.slice (some ⟨go24, 0, none⟩) y170.length co24)) (kR HO_7) (Kd.R_typed HO172.out) (by decide) hg); replace BK162 := am (blk_grown (g := gb162) (o := .cells #[.slice (some ad164) l0_0.length c0_0] 30 (0, 0)) (bp BK162) hg (Kd.R_ne HO172.out BK162.out (by decide))); replace BK163 := am (blk_grown (g := gb163) (o := .cells #[.int .i64 0, .int .i64 0, .int .i64 0] 84 (0, 0)) (bp BK163) hg (Kd.R_ne HO172.out BK163.out (by decide))); replace HO172 := am (hp_); replace HB := am ((by rw [hw]; exact below_set (HB.out) GB24.out : Below w.heap.size w w31)); clear hg hw hp_))
            go_loopg [] k1 (fun kq w' => ∃ (x7_2 : List Int) (x9_2 : List Bool) (x164000_2 : Int) (x164001_2 : Int) (x164002_2 : Int), Aside0 (spec_l04Heights.l1 kq a1 ((rd_T100 l0_0 a1).f2) x7_2 x9_2 l0_0 = some (r1, r2, r3, r4)) ∧ Aside0 (kq ≤ k1) ∧ Aside0 (Kd.R (Kd.int .i64) 2 w' w.heap.size (fun _ => True) (.slice (some ⟨go20, 0, none⟩) x7_1.length co25) x7_2) ∧ Aside0 (Kd.R Kd.bool 4 w' w.heap.size (fun _ => True) (.slice (some ⟨go24, 0, none⟩) y170.length co24) x9_2) ∧ Aside0 (w'.heap[gb162]? = some (.cells #[(.slice (some ad164) l0_0.length c0_0)] 30 (0, 0))) ∧ Aside0 (w'.heap[gb163]? = some (.cells #[.int .i64 x164000_2, .int .i64 x164001_2, .int .i64 x164002_2] 84 (0, 0))) ∧ Aside0 (Below w.heap.size w w'))
            case atStart => exact ⟨(y169), (y173), (0), (0), (0), H', ⟨Nat.le_refl _⟩, ⟨kR HO_7⟩, ⟨kR HO172⟩, ⟨bp BK162⟩, ⟨bp BK163⟩, ⟨bw HB⟩⟩
            case round =>
             clear H'
             (try clear c1); (try clear p1); (try clear q1); (try clear hx1); (try clear c2); (try clear p2); (try clear q2); (try clear hx2); (try clear qi2); (try clear hf2); (try clear c3); (try clear c3b0); (try clear c4); (try clear c4b0); (try clear c5); (try clear c5b0); (try clear c5b1); (try clear c6); (try clear c6b0); (try clear c6b1); (try clear p6); (try clear c9); (try clear c13); (try clear c13b0); (try clear c14); (try clear c14b0); (try clear p15); (try clear q15); (try clear hx15); (try clear hf15); (try clear c16); (try clear p16); (try clear q16); (try clear hx16); (try clear c19); (try clear c19b0); (try clear c19b1); (try clear p20); (try clear q20); (try clear hx20); (try clear qi20); (try clear hf20); (try clear c21); (try clear c21b0); (try clear c21b1); (try clear c22); (try clear c22b0); (try clear c22b1); (try clear c23); (try clear c23b0); (try clear c23b1); (try clear p24); (try clear q24); (try clear hx24); (try clear qi24); (try clear hf24); (try clear hcz10_0); (try clear hfz10_0); (try clear hx15_0); (try clear hx164_0); (try clear hx164_1); (try clear hx164_2); (try clear hx20_0); (try clear hx24_0); (try clear p1); (try clear p15); (try clear p164); (try clear p2); (try clear p20); (try clear p24); (try clear q1); (try clear q15); (try clear q164); (try clear q20); (try clear q24)
             obtain ⟨x7_2, x9_2, x164000_2, x164001_2, x164002_2, HA, HK2, HO_7, HO_9, BK162, BK163, HB⟩ := hrel
             have hl7_2 := (Kd.R_reads' HO_7.out).1
             rw [hl7_2] at HO_7
             (try simp only [hl7_2])
             (try simp only [hl7_2] at BK162)
             (try simp only [hl7_2] at BK163)
             (try simp only [hl7_2] at HO_9)
             have hl9_2 := (Kd.R_reads' HO_9.out).1
             rw [hl9_2] at HO_9
             (try simp only [hl9_2])
             (try simp only [hl9_2] at BK162)
             (try simp only [hl9_2] at BK163)
             (try simp only [hl9_2] at HO_7)
             cases gk with
             | zero => exact absurd HA.out (by simp [spec_l04Heights.l1])
             | succ k2 =>
              have H := HA.out
              clear HA
              simp only [spec_l04Heights.l1] at H
              replace H := Option.bind_eq_some_iff.mp H
              obtain ⟨t174, A320, H⟩ := H
              replace H : (if t174 < 0 then (some (x7_2, 0, 0, 0)) else (if 0 ≤ t174 then (if t174 < (x9_2.length : Int) then ((some (x9_2.set (t174 : Int).toNat false : List Bool)).bind fun y175 => (if t174 < (((rd_T100 l0_0 a1).f2).length : Int) then ((spec_Takes.f k2 l0_0 ((rd_T102 ((rd_T100 l0_0 a1).f2) t174).f0) ((rd_T102 ((rd_T100 l0_0 a1).f2) t174).f1)).bind fun t179 => (if t174 < (x7_2.length : Int) then ((spec_Puts.f k2 ((rd_T102 ((rd_T100 l0_0 a1).f2) t174).f0) ((rd_T102 ((rd_T100 l0_0 a1).f2) t174).f1)).bind fun t181 => (if t179 > (rd x7_2 t174) then (spec_l04Heights.j2 k2 a1 ((rd_T100 l0_0 a1).f2) x7_2 y175 t174 (wrap64 ((wrap64 ((rd x7_2 t174) - t179)) + t181)) true l0_0 ((rd_T102 ((rd_T100 l0_0 a1).f2) t174).f0) ((rd_T102 ((rd_T100 l0_0 a1).f2) t174).f1) a1 t174 5) else (spec_l04Heights.j2 k2 a1 ((rd_T100 l0_0 a1).f2) x7_2 y175 t174 (wrap64 ((wrap64 ((rd x7_2 t174) - t179)) + t181)) (decide ((wrap64 ((wrap64 ((rd x7_2 t174) - t179)) + t181)) > 8)) l0_0 ((rd_T102 ((rd_T100 l0_0 a1).f2) t174).f0) ((rd_T102 ((rd_T100 l0_0 a1).f2) t174).f1) a1 t174 5))) else (none))) else (none))) else (none)) else (none))) = some (r1, r2, r3, r4) := H
              have A32 := am A320
              clear A320
              by_cases c33 : t174 < 0
              ·rw [if_pos c33] at H
               have c33b0 := decide_eq_true c33
               clear c33
               simp only [Option.some.injEq, Prod.mk.injEq] at H
               obtain ⟨rfl, rfl, rfl, rfl⟩ := H
               go_wp2_with (first | ((with_reducible refine gate_callee (f := 117) rfl ?_); refine goesL_ (some 43) rfl rfl Try.func117 (by kernel_rfl) rfl #[.slice (some ⟨go24, 0, none⟩) x9_2.length co24] rfl gl ?_; (with_reducible refine (spec_l04Least.calls k2 _ _ x9_2 t174 _ ?side1 ?side2 A32.out).mono ?_); (case side1 => exact cc (Kd.R_reads' HO_9.out).2.2); (case side2 => exact (Kd.R_reads' HO_9.out).2.1); rintro e w' ⟨rfl, ⟨nd, rfl⟩⟩; refine ⟨_, rfl, ?_⟩; (try (rw [drewN_self wr]; generalize hq_ : World.drewN wr _ = wr; have n0_ : Aside0 (Kd.R (Kd.int .i64) 2 wr w.heap.size (fun _ => True) (.slice (some ⟨go20, 0, none⟩) x7_2.length co25) x7_2) := ⟨by rw [← hq_]; exact (kR HO_7)⟩; have n1_ : Aside0 (Kd.R Kd.bool 4 wr w.heap.size (fun _ => True) (.slice (some ⟨go24, 0, none⟩) x9_2.length co24) x9_2) := ⟨by rw [← hq_]; exact (kR HO_9)⟩; have n2_ : Aside0 (wr.heap[gb162]? = some (.cells #[.slice (some ad164) l0_0.length c0_0] 30 (0, 0))) := ⟨by rw [← hq_]; exact (bp BK162)⟩; have n3_ : Aside0 (wr.heap[gb163]? = some (.cells #[.int .i64 x164000_2, .int .i64 x164001_2, .int .i64 x164002_2] 84 (0, 0))) := ⟨by rw [← hq_]; exact (bp BK163)⟩; have n4_ : Aside0 (Below w.heap.size w wr) := ⟨by rw [← hq_]; exact (bw HB)⟩; clear HO_7 HO_9 BK162 BK163 HB hq_; have HO_7 := n0_; have HO_9 := n1_; have BK162 := n2_; have BK163 := n3_; have HB := n4_; clear n0_ n1_ n2_ n3_ n4_)); have hnb34 := NB163_162.out; have hnc34 := NB162_163.out; have hcz35_0 : wr.cell? ⟨gb163, 0, none⟩ = some (.int .i64 x164000_2) := bc BK163 0; have hcz35_1 : wr.cell? ⟨gb163, 1, none⟩ = some (.int .i64 x164001_2) := bc BK163 1; have hcz35_2 : wr.cell? ⟨gb163, 2, none⟩ = some (.int .i64 x164002_2) := bc BK163 2; have hfz35_0 := bf BK163 0; have hfz35_1 := bf BK163 1; have hfz35_2 := bf BK163 2))
               refine bodyPost_ret (results_tc rfl _ _ gb163 84 #[.int .i64 0, .int .i64 0, .int .i64 0] (0, 0) _ rfl (by (with_reducible repeat (first | apply dN | apply dW | apply dA)); refine blk_put (cs := #[.int .i64 0, .int .i64 0, .int .i64 x164002_2]) ?_ 2 _ rfl; (with_reducible repeat (first | apply dN | apply dW | apply dA)); refine blk_put (cs := #[.int .i64 0, .int .i64 x164001_2, .int .i64 x164002_2]) ?_ 1 _ rfl; (with_reducible repeat (first | apply dN | apply dW | apply dA)); refine blk_put (cs := #[.int .i64 x164000_2, .int .i64 x164001_2, .int .i64 x164002_2]) ?_ 0 _ rfl; exact bp BK163) Try.underlying84 rfl (by kernel_rfl)) rfl ?_
               exact ⟨_, er, by (with_reducible repeat (first | apply Kd.R_alloc | apply Kd.R_drewN | apply Kd.R_drew)); exact Kd.R_mono (Kd.R_far (p := ⟨gb163, 2, none⟩) (Kd.R_far (p := ⟨gb163, 1, none⟩) (Kd.R_far (p := ⟨gb163, 0, none⟩) (Kd.R_types HO_7.out BK163.out (by decide)) (fun _ hk => hk.2) (.int .i64 0)) (fun _ hk => hk.2) (.int .i64 0)) (fun _ hk => hk.2) (.int .i64 0)) (fun _ hk => trivial), bw HB⟩
              ·rw [if_neg c33] at H
               have c33b0 := decide_eq_false c33
               clear c33
               by_cases c36 : 0 ≤ t174
               ·rw [if_pos c36] at H
                have c36b0 := decide_eq_true c36
                clear c36
                by_cases c37 : t174 < (x9_2.length : Int)
                ·rw [if_pos c37] at H
                 have c37b0 := decide_eq_true c37
                 (try (have c37b0hl7_2 := c37b0; rw [hl7_2] at c37b0hl7_2))
                 (try (have c37b0hl9_2 := c37b0; rw [hl9_2] at c37b0hl9_2))
                 clear c37
                 obtain ⟨y175, hy175⟩ : ∃ y_ : List Bool, y_ = (x9_2.set (t174 : Int).toNat false) := ⟨_, rfl⟩
                 replace H : (if t174 < (((rd_T100 l0_0 a1).f2).length : Int) then ((spec_Takes.f k2 l0_0 ((rd_T102 ((rd_T100 l0_0 a1).f2) t174).f0) ((rd_T102 ((rd_T100 l0_0 a1).f2) t174).f1)).bind fun t179 => (if t174 < (x7_2.length : Int) then ((spec_Puts.f k2 ((rd_T102 ((rd_T100 l0_0 a1).f2) t174).f0) ((rd_T102 ((rd_T100 l0_0 a1).f2) t174).f1)).bind fun t181 => (if t179 > (rd x7_2 t174) then (spec_l04Heights.j2 k2 a1 ((rd_T100 l0_0 a1).f2) x7_2 y175 t174 (wrap64 ((wrap64 ((rd x7_2 t174) - t179)) + t181)) true l0_0 ((rd_T102 ((rd_T100 l0_0 a1).f2) t174).f0) ((rd_T102 ((rd_T100 l0_0 a1).f2) t174).f1) a1 t174 5) else (spec_l04Heights.j2 k2 a1 ((rd_T100 l0_0 a1).f2) x7_2 y175 t174 (wrap64 ((wrap64 ((rd x7_2 t174) - t179)) + t181)) (decide ((wrap64 ((wrap64 ((rd x7_2 t174) - t179)) + t181)) > 8)) l0_0 ((rd_T102 ((rd_T100 l0_0 a1).f2) t174).f0) ((rd_T102 ((rd_T100 l0_0 a1).f2) t174).f1) a1 t174 5))) else (none))) else (none)) = some (r1, r2, r3, r4) := by first | (rw [hy175]; with_reducible exact H) | (have H2_ := (Option.bind_some _ _).symm.trans H; rw [hy175]; with_reducible exact H2_) | (have H2_ := (Option.bind_some _ _).symm.trans H; with_reducible exact H2_) | with_reducible exact H | (rw [hy175]; exact H) | exact H
                 have Ny175 := am hy175
                 clear hy175
                 by_cases c39 : t174 < (((rd_T100 l0_0 a1).f2).length : Int)
                 ·rw [if_pos c39] at H
                  have c39b0 := decide_eq_true c39
                  (try (have c39b0hl7_2 := c39b0; rw [hl7_2] at c39b0hl7_2))
                  (try (have c39b0hl9_2 := c39b0; rw [hl9_2] at c39b0hl9_2))
                  clear c39
                  replace H := Option.bind_eq_some_iff.mp H
                  obtain ⟨t179, A400, H⟩ := H
                  replace H : (if t174 < (x7_2.length : Int) then ((spec_Puts.f k2 ((rd_T102 ((rd_T100 l0_0 a1).f2) t174).f0) ((rd_T102 ((rd_T100 l0_0 a1).f2) t174).f1)).bind fun t181 => (if t179 > (rd x7_2 t174) then (spec_l04Heights.j2 k2 a1 ((rd_T100 l0_0 a1).f2) x7_2 y175 t174 (wrap64 ((wrap64 ((rd x7_2 t174) - t179)) + t181)) true l0_0 ((rd_T102 ((rd_T100 l0_0 a1).f2) t174).f0) ((rd_T102 ((rd_T100 l0_0 a1).f2) t174).f1) a1 t174 5) else (spec_l04Heights.j2 k2 a1 ((rd_T100 l0_0 a1).f2) x7_2 y175 t174 (wrap64 ((wrap64 ((rd x7_2 t174) - t179)) + t181)) (decide ((wrap64 ((wrap64 ((rd x7_2 t174) - t179)) + t181)) > 8)) l0_0 ((rd_T102 ((rd_T100 l0_0 a1).f2) t174).f0) ((rd_T102 ((rd_T100 l0_0 a1).f2) t174).f1) a1 t174 5))) else (none)) = some (r1, r2, r3, r4) := H
                  have A40 := am A400
                  clear A400
                  by_cases c41 : t174 < (x7_2.length : Int)
                  ·rw [if_pos c41] at H
                   have c41b0 := decide_eq_true c41
                   (try (have c41b0hl7_2 := c41b0; rw [hl7_2] at c41b0hl7_2))
                   (try (have c41b0hl9_2 := c41b0; rw [hl9_2] at c41b0hl9_2))
                   clear c41
                   replace H := Option.bind_eq_some_iff.mp H
                   obtain ⟨t181, A420, H⟩ := H
                   replace H : (if t179 > (rd x7_2 t174) then (spec_l04Heights.j2 k2 a1 ((rd_T100 l0_0 a1).f2) x7_2 y175 t174 (wrap64 ((wrap64 ((rd x7_2 t174) - t179)) + t181)) true l0_0 ((rd_T102 ((rd_T100 l0_0 a1).f2) t174).f0) ((rd_T102 ((rd_T100 l0_0 a1).f2) t174).f1) a1 t174 5) else (spec_l04Heights.j2 k2 a1 ((rd_T100 l0_0 a1).f2) x7_2 y175 t174 (wrap64 ((wrap64 ((rd x7_2 t174) - t179)) + t181)) (decide ((wrap64 ((wrap64 ((rd x7_2 t174) - t179)) + t181)) > 8)) l0_0 ((rd_T102 ((rd_T100 l0_0 a1).f2) t174).f0) ((rd_T102 ((rd_T100 l0_0 a1).f2) t174).f1) a1 t174 5)) = some (r1, r2, r3, r4) := H
                   have A42 := am A420
                   clear A420
                   have HC43 := am H
                   clear H
                   try go_wp2_with (first | ((with_reducible refine gate_callee (f := 117) rfl ?_); refine goesL_ (some 43) rfl rfl Try.func117 (by kernel_rfl) rfl #[.slice (some ⟨go24, 0, none⟩) x9_2.length co24] rfl gl ?_; (with_reducible refine (spec_l04Least.calls k2 _ _ x9_2 t174 _ ?side1 ?side2 A32.out).mono ?_); (case side1 => exact cc (Kd.R_reads' HO_9.out).2.2); (case side2 => exact (Kd.R_reads' HO_9.out).2.1); rintro e w' ⟨rfl, ⟨nd, rfl⟩⟩; refine ⟨_, rfl, ?_⟩; (try (rw [drewN_self wr]; generalize hq_ : World.drewN wr _ = wr; have n0_ : Aside0 (Kd.R (Kd.int .i64) 2 wr w.heap.size (fun _ => True) (.slice (some ⟨go20, 0, none⟩) x7_2.length co25) x7_2) := ⟨by rw [← hq_]; exact (kR HO_7)⟩; have n1_ : Aside0 (Kd.R Kd.bool 4 wr w.heap.size (fun _ => True) (.slice (some ⟨go24, 0, none⟩) x9_2.length co24) x9_2) := ⟨by rw [← hq_]; exact (kR HO_9)⟩; have n2_ : Aside0 (wr.heap[gb162]? = some (.cells #[.slice (some ad164) l0_0.length c0_0] 30 (0, 0))) := ⟨by rw [← hq_]; exact (bp BK162)⟩; have n3_ : Aside0 (wr.heap[gb163]? = some (.cells #[.int .i64 x164000_2, .int .i64 x164001_2, .int .i64 x164002_2] 84 (0, 0))) := ⟨by rw [← hq_]; exact (bp BK163)⟩; have n4_ : Aside0 (Below w.heap.size w wr) := ⟨by rw [← hq_]; exact (bw HB)⟩; clear HO_7 HO_9 BK162 BK163 HB hq_; have HO_7 := n0_; have HO_9 := n1_; have BK162 := n2_; have BK163 := n3_; have HB := n4_; clear n0_ n1_ n2_ n3_ n4_)); have p38 : 0 ≤ (t174 : Int) := of_decide_eq_true as1; have q38 : (t174 : Int) < ((x9_2.length : Int) : Int) := of_decide_eq_true as1; obtain ⟨hx38_0, hf38_0⟩ := Kd.R_celln false HO_9.out (t174 : Int) p38 q38; replace p38 := eq_true p38; replace q38 := eq_true q38; obtain ⟨hy44_, hz44_⟩ := Kd.R_celln false HO_9.out (t174 : Int) (of_decide_eq_true as1) (of_decide_eq_true as1); have HP44 := Kd.R_putg HO_9.out (t174 : Int) false) | ((with_reducible refine gate_store (t := 4) (p := 50) rfl ?_); refine store_event (t := 4) (p := 50) (v := ?vo_w45) (w1 := (wr.setCell ⟨go24, (t174 : Int).toNat, none⟩ (.bool false))) ?hg ?ho ?hn ?hr ?_; (case ho => rfl); (case hg => rfl); (case hn => rfl); (case hr => exact gs); intro w45 hw; have hg : wr.grownBy w45 (some go24) := (by rw [hw]; exact HP44.2); have hp_ : Kd.R Kd.bool 4 w45 w.heap.size (fun _ => True) (.slice (some ⟨go24, 0, none⟩) x9_2.length co24) y175 := (by rw [hw, Ny175.out]; exact HP44.1); clear HP44; replace HO_7 := am (Kd.R_over' (v := (.slice (some ⟨go24, 0, none⟩) x9_2.length co24)) (kR HO_7) (Kd.R_typed HO_9.out) (by decide) hg); replace BK162 := am (blk_grown (g := gb162) (o := .cells #[.slice (some ad164) l0_0.length c0_0] 30 (0, 0)) (bp BK162) hg (Kd.R_ne HO_9.out BK162.out (by decide))); replace BK163 := am (blk_grown (g := gb163) (o := .cells #[.int .i64 x164000_2, .int .i64 x164001_2, .int .i64 x164002_2] 84 (0, 0)) (bp BK163) hg (Kd.R_ne HO_9.out BK163.out (by decide))); replace HO_9 := am (hp_); replace HB := am ((by rw [hw]; exact below_set (HB.out) GB24.out : Below w.heap.size w w45)); clear hg hw hp_; have p176 : 0 ≤ (t174 : Int) := of_decide_eq_true as1; have q176 : t174 < (((rd_T100 l0_0 a1).f2).length : Int) := of_decide_eq_true as1; obtain ⟨ad176, e176, hx176_0, hx176_1⟩ := at_T102 HR164_2.out t174 p176 q176; cases e176; replace hx176_0 := (HB.out.cell (World.block_lt_of_cell? w _ hx176_0)).trans hx176_0; replace hx176_1 := (HB.out.cell (World.block_lt_of_cell? w _ hx176_1)).trans hx176_1; replace p176 := eq_true p176; replace q176 := eq_true q176) | ((with_reducible refine gate_dst (N := 11) rfl ?_); refine box_event ?hg (N := 11) ?hd (cs := #[.int .i64 0, .int .i64 0]) (t := 102) ?hr ?_; (case hd => rfl); (case hg => rfl); (case hr => exact gs); intro gb177 hg w46 hbox hb; replace HO_7 := am (Kd.R_below (kR HO_7) hb); replace HO_9 := am (Kd.R_below (kR HO_9) hb); have BK177 := am (hbox); have GW177 := am ((by rw [hg]; exact (below_size (bw HB)) : w.heap.size ≤ gb177)); have GE177 := am ((by rw [hg]; exact (below_size (bw HB)) : w.heap.size ≤ gb177)); replace HB := am (below_step (bw HB) hb); have NB162_177 := am ((by rw [hg]; exact Nat.ne_of_lt (blk_lt (g := gb162) (o := .cells #[.slice (some ad164) l0_0.length c0_0] 30 (0, 0)) (bp BK162)) : gb162 ≠ gb177)); have NB177_162 := am ((by rw [hg]; exact Nat.ne_of_gt (blk_lt (g := gb162) (o := .cells #[.slice (some ad164) l0_0.length c0_0] 30 (0, 0)) (bp BK162)) : gb177 ≠ gb162)); replace BK162 := am (blk_below (g := gb162) (o := .cells #[.slice (some ad164) l0_0.length c0_0] 30 (0, 0)) (bp BK162) hb); have NB163_177 := am ((by rw [hg]; exact Nat.ne_of_lt (blk_lt (g := gb163) (o := .cells #[.int .i64 x164000_2, .int .i64 x164001_2, .int .i64 x164002_2] 84 (0, 0)) (bp BK163)) : gb163 ≠ gb177)); have NB177_163 := am ((by rw [hg]; exact Nat.ne_of_gt (blk_lt (g := gb163) (o := .cells #[.int .i64 x164000_2, .int .i64 x164001_2, .int .i64 x164002_2] 84 (0, 0)) (bp BK163)) : gb177 ≠ gb163)); replace BK163 := am (blk_below (g := gb163) (o := .cells #[.int .i64 x164000_2, .int .i64 x164001_2, .int .i64 x164002_2] 84 (0, 0)) (bp BK163) hb); clear hb hbox hg; have hnb47 := NB177_162.out; have hnc47 := NB162_177.out; have hnb48 := NB177_163.out; have hnc48 := NB163_177.out; have hcz49_0 : w46.cell? ⟨gb177, 0, none⟩ = some (.int .i64 0) := bc BK177 0; have hcz49_1 : w46.cell? ⟨gb177, 1, none⟩ = some (.int .i64 0) := bc BK177 1; have hfz49_0 := bf BK177 0; have hfz49_1 := bf BK177 1) | ((with_reducible refine gate_dst (N := 12) rfl ?_); refine box_event ?hg (N := 12) ?hd (cs := #[.int .i64 0, .int .i64 0, .int .i64 0]) (t := 84) ?hr ?_; (case hd => rfl); (case hg => rfl); (case hr => exact gs); intro gb178 hg w50 hbox hb; replace HO_7 := am (Kd.R_below (by (with_reducible repeat (first | apply Kd.R_alloc | apply Kd.R_drewN | apply Kd.R_drew)); exact (Kd.R_mono (Kd.R_far (p := ⟨gb177, 1, none⟩) (Kd.R_far (p := ⟨gb177, 0, none⟩) (Kd.R_types HO_7.out BK177.out (by decide)) (fun _ hk => hk.2) (.int .i64 ((rd_T102 ((rd_T100 l0_0 a1).f2) t174).f0))) (fun _ hk => hk.2) (.int .i64 ((rd_T102 ((rd_T100 l0_0 a1).f2) t174).f1))) (fun _ h_ => h_.1))) hb); replace HO_9 := am (Kd.R_below (by (with_reducible repeat (first | apply Kd.R_alloc | apply Kd.R_drewN | apply Kd.R_drew)); exact (Kd.R_mono (Kd.R_far (p := ⟨gb177, 1, none⟩) (Kd.R_far (p := ⟨gb177, 0, none⟩) (Kd.R_types HO_9.out BK177.out (by decide)) (fun _ hk => hk.2) (.int .i64 ((rd_T102 ((rd_T100 l0_0 a1).f2) t174).f0))) (fun _ hk => hk.2) (.int .i64 ((rd_T102 ((rd_T100 l0_0 a1).f2) t174).f1))) (fun _ h_ => h_.1))) hb); have BK178 := am (hbox); have GW178 := am ((by rw [hg]; exact (below_size (bw HB)) : w.heap.size ≤ gb178)); have GE178 := am ((by rw [hg]; exact (below_size (bw HB)) : w.heap.size ≤ gb178)); replace HB := am (below_step (bw HB) hb); have NB162_178 := am ((by rw [hg]; exact Nat.ne_of_lt (blk_lt (g := gb162) (o := .cells #[.slice (some ad164) l0_0.length c0_0] 30 (0, 0)) (by (with_reducible repeat (first | apply dN | apply dW | apply dA)); refine blk_far ?_ NB162_177.out _; (with_reducible repeat (first | apply dN | apply dW | apply dA)); refine blk_far ?_ NB162_177.out _; exact bp BK162)) : gb162 ≠ gb178)); have NB178_162 := am ((by rw [hg]; exact Nat.ne_of_gt (blk_lt (g := gb162) (o := .cells #[.slice (some ad164) l0_0.length c0_0] 30 (0, 0)) (by (with_reducible repeat (first | apply dN | apply dW | apply dA)); refine blk_far ?_ NB162_177.out _; (with_reducible repeat (first | apply dN | apply dW | apply dA)); refine blk_far ?_ NB162_177.out _; exact bp BK162)) : gb178 ≠ gb162)); replace BK162 := am (blk_below (g := gb162) (o := .cells #[.slice (some ad164) l0_0.length c0_0] 30 (0, 0)) (by (with_reducible repeat (first | apply dN | apply dW | apply dA)); refine blk_far ?_ NB162_177.out _; (with_reducible repeat (first | apply dN | apply dW | apply dA)); refine blk_far ?_ NB162_177.out _; exact bp BK162) hb); have NB163_178 := am ((by rw [hg]; exact Nat.ne_of_lt (blk_lt (g := gb163) (o := .cells #[.int .i64 x164000_2, .int .i64 x164001_2, .int .i64 x164002_2] 84 (0, 0)) (by (with_reducible repeat (first | apply dN | apply dW | apply dA)); refine blk_far ?_ NB163_177.out _; (with_reducible repeat (first | apply dN | apply dW | apply dA)); refine blk_far ?_ NB163_177.out _; exact bp BK163)) : gb163 ≠ gb178)); have NB178_163 := am ((by rw [hg]; exact Nat.ne_of_gt (blk_lt (g := gb163) (o := .cells #[.int .i64 x164000_2, .int .i64 x164001_2, .int .i64 x164002_2] 84 (0, 0)) (by (with_reducible repeat (first | apply dN | apply dW | apply dA)); refine blk_far ?_ NB163_177.out _; (with_reducible repeat (first | apply dN | apply dW | apply dA)); refine blk_far ?_ NB163_177.out _; exact bp BK163)) : gb178 ≠ gb163)); replace BK163 := am (blk_below (g := gb163) (o := .cells #[.int .i64 x164000_2, .int .i64 x164001_2, .int .i64 x164002_2] 84 (0, 0)) (by (with_reducible repeat (first | apply dN | apply dW | apply dA)); refine blk_far ?_ NB163_177.out _; (with_reducible repeat (first | apply dN | apply dW | apply dA)); refine blk_far ?_ NB163_177.out _; exact bp BK163) hb); have NB177_178 := am ((by rw [hg]; exact Nat.ne_of_lt (blk_lt (g := gb177) (o := .cells #[.int .i64 ((rd_T102 ((rd_T100 l0_0 a1).f2) t174).f0), .int .i64 ((rd_T102 ((rd_T100 l0_0 a1).f2) t174).f1)] 102 (0, 0)) (by (with_reducible repeat (first | apply dN | apply dW | apply dA)); refine blk_put (cs := #[.int .i64 ((rd_T102 ((rd_T100 l0_0 a1).f2) t174).f0), .int .i64 0]) ?_ 1 _ rfl; (with_reducible repeat (first | apply dN | apply dW | apply dA)); refine blk_put (cs := #[.int .i64 0, .int .i64 0]) ?_ 0 _ rfl; exact bp BK177)) : gb177 ≠ gb178)); have NB178_177 := am ((by rw [hg]; exact Nat.ne_of_gt (blk_lt (g := gb177) (o := .cells #[.int .i64 ((rd_T102 ((rd_T100 l0_0 a1).f2) t174).f0), .int .i64 ((rd_T102 ((rd_T100 l0_0 a1).f2) t174).f1)] 102 (0, 0)) (by (with_reducible repeat (first | apply dN | apply dW | apply dA)); refine blk_put (cs := #[.int .i64 ((rd_T102 ((rd_T100 l0_0 a1).f2) t174).f0), .int .i64 0]) ?_ 1 _ rfl; (with_reducible repeat (first | apply dN | apply dW | apply dA)); refine blk_put (cs := #[.int .i64 0, .int .i64 0]) ?_ 0 _ rfl; exact bp BK177)) : gb178 ≠ gb177)); replace BK177 := am (blk_below (g := gb177) (o := .cells #[.int .i64 ((rd_T102 ((rd_T100 l0_0 a1).f2) t174).f0), .int .i64 ((rd_T102 ((rd_T100 l0_0 a1).f2) t174).f1)] 102 (0, 0)) (by (with_reducible repeat (first | apply dN | apply dW | apply dA)); refine blk_put (cs := #[.int .i64 ((rd_T102 ((rd_T100 l0_0 a1).f2) t174).f0), .int .i64 0]) ?_ 1 _ rfl; (with_reducible repeat (first | apply dN | apply dW | apply dA)); refine blk_put (cs := #[.int .i64 0, .int .i64 0]) ?_ 0 _ rfl; exact bp BK177) hb); clear hb hbox hg; have hnb51 := NB178_162.out; have hnc51 := NB162_178.out; have hnb52 := NB178_163.out; have hnc52 := NB163_178.out; have hnb53 := NB178_177.out; have hnc53 := NB177_178.out; have hcz54_0 : w50.cell? ⟨gb178, 0, none⟩ = some (.int .i64 0) := bc BK178 0; have hcz54_1 : w50.cell? ⟨gb178, 1, none⟩ = some (.int .i64 0) := bc BK178 1; have hcz54_2 : w50.cell? ⟨gb178, 2, none⟩ = some (.int .i64 0) := bc BK178 2; have hfz54_0 := bf BK178 0; have hfz54_1 := bf BK178 1; have hfz54_2 := bf BK178 2; have hnb55 := NB162_163.out; have hnc55 := NB163_162.out; have hcz56_0 : w50.cell? ⟨gb162, 0, none⟩ = some (.slice (some ad164) l0_0.length c0_0) := bc BK162 0; have hfz56_0 := bf BK162 0; have hcz57_0 : w50.cell? ⟨gb177, 0, none⟩ = some (.int .i64 ((rd_T102 ((rd_T100 l0_0 a1).f2) t174).f0)) := bc BK177 0; have hcz57_1 : w50.cell? ⟨gb177, 1, none⟩ = some (.int .i64 ((rd_T102 ((rd_T100 l0_0 a1).f2) t174).f1)) := bc BK177 1; have hfz57_0 := bf BK177 0; have hfz57_1 := bf BK177 1) | ((with_reducible refine gate_callee (f := 118) rfl ?_); refine goesL_ (some 60) rfl rfl Try.func118 (by kernel_rfl) rfl #[.agg #[.slice (some ad164) l0_0.length c0_0], .agg #[.int .i64 ((rd_T102 ((rd_T100 l0_0 a1).f2) t174).f0), .int .i64 ((rd_T102 ((rd_T100 l0_0 a1).f2) t174).f1)]] rfl gl ?_; (with_reducible refine (spec_Takes.calls k2 _ _ l0_0 ((rd_T102 ((rd_T100 l0_0 a1).f2) t174).f0) ((rd_T102 ((rd_T100 l0_0 a1).f2) t174).f1) t179 _ ?side1 ?side2 A40.out).mono ?_); (case side1 => exact Kd.C_below HR0_0.out (bw HB)); (case side2 => exact HC0_0.out); rintro e w58 ⟨rfl, hb⟩; refine ⟨_, rfl, ?_⟩; replace HO_7 := am (Kd.R_below (by (with_reducible repeat (first | apply Kd.R_alloc | apply Kd.R_drewN | apply Kd.R_drew)); exact (Kd.R_mono (Kd.R_far (p := ⟨gb178, 2, none⟩) (Kd.R_far (p := ⟨gb178, 1, none⟩) (Kd.R_far (p := ⟨gb178, 0, none⟩) (Kd.R_types HO_7.out BK178.out (by decide)) (fun _ hk => hk.2) (.int .i64 a1)) (fun _ hk => hk.2) (.int .i64 t174)) (fun _ hk => hk.2) (.int .i64 5)) (fun _ h_ => h_.1))) hb); replace HO_9 := am (Kd.R_below (by (with_reducible repeat (first | apply Kd.R_alloc | apply Kd.R_drewN | apply Kd.R_drew)); exact (Kd.R_mono (Kd.R_far (p := ⟨gb178, 2, none⟩) (Kd.R_far (p := ⟨gb178, 1, none⟩) (Kd.R_far (p := ⟨gb178, 0, none⟩) (Kd.R_types HO_9.out BK178.out (by decide)) (fun _ hk => hk.2) (.int .i64 a1)) (fun _ hk => hk.2) (.int .i64 t174)) (fun _ hk => hk.2) (.int .i64 5)) (fun _ h_ => h_.1))) hb); replace BK162 := am (blk_below (g := gb162) (o := .cells #[.slice (some ad164) l0_0.length c0_0] 30 (0, 0)) (by (with_reducible repeat (first | apply dN | apply dW | apply dA)); refine blk_far ?_ NB162_178.out _; (with_reducible repeat (first | apply dN | apply dW | apply dA)); refine blk_far ?_ NB162_178.out _; (with_reducible repeat (first | apply dN | apply dW | apply dA)); refine blk_far ?_ NB162_178.out _; exact bp BK162) hb); replace BK163 := am (blk_below (g := gb163) (o := .cells #[.int .i64 x164000_2, .int .i64 x164001_2, .int .i64 x164002_2] 84 (0, 0)) (by (with_reducible repeat (first | apply dN | apply dW | apply dA)); refine blk_far ?_ NB163_178.out _; (with_reducible repeat (first | apply dN | apply dW | apply dA)); refine blk_far ?_ NB163_178.out _; (with_reducible repeat (first | apply dN | apply dW | apply dA)); refine blk_far ?_ NB163_178.out _; exact bp BK163) hb); replace BK177 := am (blk_below (g := gb177) (o := .cells #[.int .i64 ((rd_T102 ((rd_T100 l0_0 a1).f2) t174).f0), .int .i64 ((rd_T102 ((rd_T100 l0_0 a1).f2) t174).f1)] 102 (0, 0)) (by (with_reducible repeat (first | apply dN | apply dW | apply dA)); refine blk_far ?_ NB177_178.out _; (with_reducible repeat (first | apply dN | apply dW | apply dA)); refine blk_far ?_ NB177_178.out _; (with_reducible repeat (first | apply dN | apply dW | apply dA)); refine blk_far ?_ NB177_178.out _; exact bp BK177) hb); replace BK178 := am (blk_below (g := gb178) (o := .cells #[.int .i64 a1, .int .i64 t174, .int .i64 5] 84 (0, 0)) (by (with_reducible repeat (first | apply dN | apply dW | apply dA)); refine blk_put (cs := #[.int .i64 a1, .int .i64 t174, .int .i64 0]) ?_ 2 _ rfl; (with_reducible repeat (first | apply dN | apply dW | apply dA)); refine blk_put (cs := #[.int .i64 a1, .int .i64 0, .int .i64 0]) ?_ 1 _ rfl; (with_reducible repeat (first | apply dN | apply dW | apply dA)); refine blk_put (cs := #[.int .i64 0, .int .i64 0, .int .i64 0]) ?_ 0 _ rfl; exact bp BK178) hb); replace HB := am (below_step (bw HB) hb); (try clear hb); (try clear hb2); (try clear hk); (try clear hi)))
                   have n0_ := am (Kd.R_drew HO_7.out)
                   have n1_ := am (Kd.R_drew HO_9.out)
                   have n2_ := am (blk_drew BK162.out)
                   have n3_ := am (blk_drew BK163.out)
                   have n4_ := am (blk_drew BK177.out)
                   have n5_ := am (blk_drew BK178.out)
                   have n6_ := am (below_drew1 HB.out)
                   clear HO_7
                   clear HO_9
                   clear BK162
                   clear BK163
                   clear BK177
                   clear BK178
                   clear HB
                   have HO_7 := n0_
                   have HO_9 := n1_
                   have BK162 := n2_
                   have BK163 := n3_
                   have BK177 := n4_
                   have BK178 := n5_
                   have HB := n6_
                   clear n0_ n1_ n2_ n3_ n4_ n5_ n6_
                   have p180 : 0 ≤ (t174 : Int) := of_decide_eq_true as1
                   have q180 : t174 < (x7_2.length : Int) := of_decide_eq_true as1
                   obtain ⟨ad180, e180, hx180_0⟩ := Kd.at_int (Kd.R_reads' HO_7.out).2.2 t174 p180 q180
                   obtain rfl : (⟨go20, 0, none⟩ : Addr) = ad180 := (by injection e180)
                   (first | simp only [add_plain] at hx180_0 | simp only [add_at] at hx180_0 | simp only [Addr.add, Nat.zero_add] at hx180_0 | skip)
                   replace p180 := eq_true p180
                   replace q180 := eq_true q180
                   refine start_ (n := 10) (S := fun w' => w'.cell? ⟨gb177, 0, none⟩ = some (.int .i64 ((rd_T102 ((rd_T100 l0_0 a1).f2) t174).f0)) ∧ w'.cell? ⟨gb177, 1, none⟩ = some (.int .i64 ((rd_T102 ((rd_T100 l0_0 a1).f2) t174).f1)) ∧ w'.cell? ⟨go20, (t174).toNat, none⟩ = some (.int .i64 (rd x7_2 t174))) (ds := []) #[false, false, false, false, false, false, false, false, false, false] (by kernel_rfl) rfl rfl ⟨bc BK177 0, bc BK177 1, hx180_0⟩ (fun hHeld => ?_); refine with_tabW spec_l04Heights.tab17 spec_l04Heights.bits17 (fun HT_ HW_ => ?_)
                   generalize w58.drew = w59 at HO_7 HO_9 BK162 BK163 BK177 BK178 HB hx180_0 hHeld ⊢
                   refine pure_ (i := 0) (N := some 61) (v := ?_) (a' := ?_) #[true, false, false, false, false, false, false, false, false, false] rfl rfl (any_of HT_.out (by kernel_rfl)) (fun _ _ _ h => h) (Or.inl ⟨by rfl, ?_⟩) ?_ ?_
                   rotate_left
                   ·intro w'
                    go_simp
                    with_reducible rfl
                   rotate_left
                   ·simp only [Act.put, sa, sz, ss, i64_w, i32_w]
                    rfl
                   refine pure_ (i := 1) (N := some 62) (v := ?_) (a' := ?_) #[true, true, false, false, false, false, false, false, false, false] rfl rfl (any_of HT_.out (by kernel_rfl)) (fun _ _ _ h => h) (Or.inl ⟨by rfl, ?_⟩) ?_ ?_
                   rotate_left
                   ·intro w'
                    go_simp
                    with_reducible rfl
                   rotate_left
                   ·simp only [Act.put, sa, sz, ss, i64_w, i32_w]
                    rfl
                   refine pure_ (i := 2) (N := some 63) (v := ?_) (a' := ?_) #[true, true, true, false, false, false, false, false, false, false] rfl rfl (any_of HT_.out (by kernel_rfl)) (fun _ _ _ h => h) (Or.inl ⟨by rfl, ?_⟩) ?_ ?_
                   rotate_left
                   ·intro w'
                    go_simp
                    with_reducible rfl
                   rotate_left
                   ·simp only [Act.put, sa, sz, ss, i64_w, i32_w]
                    rfl
                   refine pure_ (i := 4) (N := some 65) (v := ?_) (a' := ?_) #[true, true, true, false, true, false, false, false, false, false] rfl rfl (any_of HT_.out (by kernel_rfl)) (fun _ _ _ h => h) (Or.inl ⟨by rfl, ?_⟩) ?_ ?_
                   rotate_left
                   ·intro w'
                    go_simp
                    with_reducible rfl
                   rotate_left
                   ·simp only [Act.put, sa, sz, ss, i64_w, i32_w]
                    rfl
                   refine take_ (i := 3) (N := some 64) (v := ?_) (a' := ?_) #[true, true, true, true, true, false, false, false, false, false] rfl rfl (take_ofW HT_.out HW_.out (by kernel_rfl)) (fun _ _ _ h => h) (Or.inl ⟨by rfl, ?_⟩) hHeld ?_ ?_
                   rotate_left
                   ·rintro w' ⟨s0, s1, s2⟩
                    go_simp
                    with_reducible rfl
                   rotate_left
                   ·simp only [Act.put, sa, sz, ss, i64_w, i32_w]
                    rfl
                   refine pure_ (i := 5) (N := some 66) (v := ?_) (a' := ?_) #[true, true, true, true, true, true, false, false, false, false] rfl rfl (any_of HT_.out (by kernel_rfl)) (fun _ _ _ h => h) (Or.inl ⟨by rfl, ?_⟩) ?_ ?_
                   rotate_left
                   ·intro w'
                    go_simp
                    with_reducible rfl
                   rotate_left
                   ·simp only [Act.put, sa, sz, ss, i64_w, i32_w]
                    rfl
                   refine take_ (i := 6) (N := some 67) (v := ?_) (a' := ?_) #[true, true, true, true, true, true, true, false, false, false] rfl rfl (take_ofW HT_.out HW_.out (by kernel_rfl)) (fun _ _ _ h => h) (Or.inl ⟨by rfl, ?_⟩) hHeld ?_ ?_
                   rotate_left
                   ·rintro w' ⟨s0, s1, s2⟩
                    go_simp
                    with_reducible rfl
                   rotate_left
                   ·simp only [Act.put, sa, sz, ss, i64_w, i32_w]
                    rfl
                   refine one_ (i := 7) (N := some 68) #[true, true, true, true, true, true, true, true, false, false] rfl rfl (one_of HT_.out (by kernel_rfl)) (by decide) (fun K hK => ?_)
                   refine goes_ Try.func119 (by kernel_rfl) rfl #[.agg #[.int .i64 ((rd_T102 ((rd_T100 l0_0 a1).f2) t174).f0), .int .i64 ((rd_T102 ((rd_T100 l0_0 a1).f2) t174).f1)]] (by rfl) rfl rfl gl ?_
                   with_reducible refine (spec_Puts.calls k2 ((rd_T102 ((rd_T100 l0_0 a1).f2) t174).f0) ((rd_T102 ((rd_T100 l0_0 a1).f2) t174).f1) t181 _ A42.out).mono ?_
                   rintro e w60 ⟨rfl, hb⟩
                   have HS2_ := (hb.cell (World.block_lt_of_cell? _ _ (hHeld.2.2))).trans (hHeld.2.2)
                   refine ⟨_, rfl, ?_⟩
                   have n0_ := am (Kd.R_below (kR HO_7) hb)
                   have n1_ := am (Kd.R_below (kR HO_9) hb)
                   have n2_ := am (blk_below (g := gb162) (o := .cells #[.slice (some ad164) l0_0.length c0_0] 30 (0, 0)) (bp BK162) hb)
                   have n3_ := am (blk_below (g := gb163) (o := .cells #[.int .i64 x164000_2, .int .i64 x164001_2, .int .i64 x164002_2] 84 (0, 0)) (bp BK163) hb)
                   have n4_ := am (blk_below (g := gb177) (o := .cells #[.int .i64 ((rd_T102 ((rd_T100 l0_0 a1).f2) t174).f0), .int .i64 ((rd_T102 ((rd_T100 l0_0 a1).f2) t174).f1)] 102 (0, 0)) (bp BK177) hb)
                   have n5_ := am (blk_below (g := gb178) (o := .cells #[.int .i64 a1, .int .i64 t174, .int .i64 5] 84 (0, 0)) (bp BK178) hb)
                   have n6_ := am (below_step (bw HB) hb)
                   clear HO_7
                   clear HO_9
                   clear BK162
                   clear BK163
                   clear BK177
                   clear BK178
                   clear HB
                   have HO_7 := n0_
                   have HO_9 := n1_
                   have BK162 := n2_
                   have BK163 := n3_
                   have BK177 := n4_
                   have BK178 := n5_
                   have HB := n6_
                   clear n0_ n1_ n2_ n3_ n4_ n5_ n6_
                   (try clear hb)
                   (try clear hb2)
                   (try clear hk)
                   (try clear hi)
                   refine hK.out _ _ ⟨bc BK177 0, bc BK177 1, HS2_⟩ (fun hHeld => ?_)
                   clear hK K
                   refine norm_ (a' := ?_) ?_ ?_
                   rotate_left
                   ·show Act.put _ (some 68) _ = _
                    simp only [Act.put, sa, sz, ss, i64_w, i32_w]
                    rfl
                   refine pure_ (i := 8) (N := some 69) (v := ?_) (a' := ?_) #[true, true, true, true, true, true, true, true, true, false] rfl rfl (any_of HT_.out (by kernel_rfl)) (fun _ _ _ h => h) (Or.inl ⟨by rfl, ?_⟩) ?_ ?_
                   rotate_left
                   ·intro w'
                    go_simp
                    with_reducible rfl
                   rotate_left
                   ·simp only [Act.put, sa, sz, ss, i64_w, i32_w]
                    rfl
                   refine pure_ (i := 9) (N := some 14) (v := ?_) (a' := ?_) #[true, true, true, true, true, true, true, true, true, true] rfl rfl (any_of HT_.out (by kernel_rfl)) (fun _ _ _ h => h) (Or.inl ⟨by rfl, ?_⟩) ?_ ?_
                   rotate_left
                   ·intro w'
                    go_simp
                    with_reducible rfl
                   rotate_left
                   ·simp only [Act.put, sa, sz, ss, i64_w, i32_w]
                    rfl
                   refine done_ (done_of HT_.out (by kernel_rfl)) ?_
                   go_upto_region 18 with (fail)
                   go_cut [79] (fun v79 wc => ∃ (kq : Nat) (x79_42 : Bool), v79 = .bool x79_42 ∧ Aside0 (spec_l04Heights.j2 kq a1 ((rd_T100 l0_0 a1).f2) x7_2 y175 t174 (wrap64 ((wrap64 ((rd x7_2 t174) - t179)) + t181)) x79_42 l0_0 ((rd_T102 ((rd_T100 l0_0 a1).f2) t174).f0) ((rd_T102 ((rd_T100 l0_0 a1).f2) t174).f1) a1 t174 5 = some (r1, r2, r3, r4)) ∧ Aside0 (kq ≤ k2) ∧ Aside0 (Kd.R (Kd.int .i64) 2 wc w.heap.size (fun _ => True) (.slice (some ⟨go20, 0, none⟩) x7_2.length co25) x7_2) ∧ Aside0 (Kd.R Kd.bool 4 wc w.heap.size (fun _ => True) (.slice (some ⟨go24, 0, none⟩) x9_2.length co24) y175) ∧ Aside0 (wc.heap[gb162]? = some (.cells #[(.slice (some ad164) l0_0.length c0_0)] 30 (0, 0))) ∧ Aside0 (wc.heap[gb163]? = some (.cells #[.int .i64 x164000_2, .int .i64 x164001_2, .int .i64 x164002_2] 84 (0, 0))) ∧ Aside0 (wc.heap[gb177]? = some (.cells #[.int .i64 ((rd_T102 ((rd_T100 l0_0 a1).f2) t174).f0), .int .i64 ((rd_T102 ((rd_T100 l0_0 a1).f2) t174).f1)] 102 (0, 0))) ∧ Aside0 (wc.heap[gb178]? = some (.cells #[.int .i64 a1, .int .i64 t174, .int .i64 5] 84 (0, 0))) ∧ Aside0 (Below w.heap.size w wc))
                   case first =>
                    have H := HC43.out
                    clear HC43
                    by_cases c61 : t179 > (rd x7_2 t174)
                    ·rw [if_pos c61] at H
                     have c61b0 : decide ((rd x7_2 t174) < t179) = true := decide_eq_true c61
                     clear c61
                     (first | rw [c61b0] | (simp only [i64_w, i32_w]; rw [c61b0]) | skip)
                     have H' := am H
                     clear H
                     have p182 : 0 ≤ (t174 : Int) := of_decide_eq_true as1
                     have q182 : t174 < (x7_2.length : Int) := of_decide_eq_true as1
                     obtain ⟨ad182, e182, hx182_0⟩ := Kd.at_int (Kd.R_reads' HO_7.out).2.2 t174 p182 q182
                     obtain rfl : (⟨go20, 0, none⟩ : Addr) = ad182 := (by injection e182)
                     (first | simp only [add_plain] at hx182_0 | simp only [add_at] at hx182_0 | simp only [Addr.add, Nat.zero_add] at hx182_0 | skip)
                     replace p182 := eq_true p182
                     replace q182 := eq_true q182
                     go_wp2
                     go_meet
                     case rel => exact ⟨_, (true), dr, H', ⟨by have := HK1.out; have := HK2.out; first | omega | exact Nat.le_refl _⟩, ⟨by (try simp only [hl7_2]); (try simp only [hl9_2]); exact kR HO_7⟩, ⟨by (try simp only [hl7_2]); (try simp only [hl9_2]); exact kR HO_9⟩, ⟨by (try simp only [hl7_2]); (try simp only [hl9_2]); exact bp BK162⟩, ⟨by (try simp only [hl7_2]); (try simp only [hl9_2]); exact bp BK163⟩, ⟨by (try simp only [hl7_2]); (try simp only [hl9_2]); exact bp BK177⟩, ⟨by (try simp only [hl7_2]); (try simp only [hl9_2]); exact bp BK178⟩, ⟨bw HB⟩⟩
                    ·rw [if_neg c61] at H
                     have c61b0 : decide ((rd x7_2 t174) < t179) = false := decide_eq_false c61
                     clear c61
                     (first | rw [c61b0] | (simp only [i64_w, i32_w]; rw [c61b0]) | skip)
                     have H' := am H
                     clear H
                     have p182 : 0 ≤ (t174 : Int) := of_decide_eq_true as1
                     have q182 : t174 < (x7_2.length : Int) := of_decide_eq_true as1
                     obtain ⟨ad182, e182, hx182_0⟩ := Kd.at_int (Kd.R_reads' HO_7.out).2.2 t174 p182 q182
                     obtain rfl : (⟨go20, 0, none⟩ : Addr) = ad182 := (by injection e182)
                     (first | simp only [add_plain] at hx182_0 | simp only [add_at] at hx182_0 | simp only [Addr.add, Nat.zero_add] at hx182_0 | skip)
                     replace p182 := eq_true p182
                     replace q182 := eq_true q182
                     go_wp2
                     go_meet
                     case rel => exact ⟨_, (decide ((wrap64 ((wrap64 ((rd x7_2 t174) - t179)) + t181)) > 8)), dr, H', ⟨by have := HK1.out; have := HK2.out; first | omega | exact Nat.le_refl _⟩, ⟨by (try simp only [hl7_2]); (try simp only [hl9_2]); exact kR HO_7⟩, ⟨by (try simp only [hl7_2]); (try simp only [hl9_2]); exact kR HO_9⟩, ⟨by (try simp only [hl7_2]); (try simp only [hl9_2]); exact bp BK162⟩, ⟨by (try simp only [hl7_2]); (try simp only [hl9_2]); exact bp BK163⟩, ⟨by (try simp only [hl7_2]); (try simp only [hl9_2]); exact bp BK177⟩, ⟨by (try simp only [hl7_2]); (try simp only [hl9_2]); exact bp BK178⟩, ⟨bw HB⟩⟩
                   case rest =>
                    clear HC43
                    (try clear c1); (try clear p1); (try clear q1); (try clear hx1); (try clear c2); (try clear p2); (try clear q2); (try clear hx2); (try clear qi2); (try clear hf2); (try clear c3); (try clear c3b0); (try clear p3); (try clear q3); (try clear hx3); (try clear hf3); (try clear c4); (try clear c4b0); (try clear c5); (try clear c5b0); (try clear c5b1); (try clear c6); (try clear c6b0); (try clear c6b1); (try clear p6); (try clear c9); (try clear c11); (try clear c13); (try clear c13b0); (try clear c14); (try clear c14b0); (try clear p15); (try clear q15); (try clear hx15); (try clear hf15); (try clear c16); (try clear p16); (try clear q16); (try clear hx16); (try clear p17); (try clear q17); (try clear hx17); (try clear p18); (try clear q18); (try clear hx18); (try clear c19); (try clear c19b0); (try clear c19b1); (try clear p20); (try clear q20); (try clear hx20); (try clear qi20); (try clear hf20); (try clear c21); (try clear c21b0); (try clear c21b1); (try clear c22); (try clear c22b0); (try clear c22b1); (try clear c23); (try clear c23b0); (try clear c23b1); (try clear p24); (try clear q24); (try clear hx24); (try clear qi24); (try clear hf24); (try clear c33); (try clear c33b0); (try clear c34); (try clear c36); (try clear c36b0); (try clear c37); (try clear c37b0); (try clear p38); (try clear q38); (try clear hx38); (try clear hf38); (try clear c39); (try clear c39b0); (try clear c41); (try clear c41b0); (try clear c47); (try clear c48); (try clear c51); (try clear c52); (try clear c53); (try clear c55); (try clear c58); (try clear c61); (try clear c61b0); (try clear hcz10_0); (try clear hcz35_0); (try clear hcz35_1); (try clear hcz35_2); (try clear hcz49_0); (try clear hcz49_1); (try clear hcz54_0); (try clear hcz54_1); (try clear hcz54_2); (try clear hcz56_0); (try clear hcz57_0); (try clear hcz57_1); (try clear hfz10_0); (try clear hfz35_0); (try clear hfz35_1); (try clear hfz35_2); (try clear hfz49_0); (try clear hfz49_1); (try clear hfz54_0); (try clear hfz54_1); (try clear hfz54_2); (try clear hfz56_0); (try clear hfz57_0); (try clear hfz57_1); (try clear hx15_0); (try clear hx164_0); (try clear hx164_1); (try clear hx164_2); (try clear hx176_0); (try clear hx176_1); (try clear hx180_0); (try clear hx182_0); (try clear hx20_0); (try clear hx24_0); (try clear hx38_0); (try clear p1); (try clear p15); (try clear p16); (try clear p164); (try clear p176); (try clear p180); (try clear p182); (try clear p2); (try clear p20); (try clear p24); (try clear p38); (try clear p6); (try clear q1); (try clear q15); (try clear q16); (try clear q164); (try clear q176); (try clear q180); (try clear q182); (try clear q2); (try clear q20); (try clear q24); (try clear q38)
                    obtain ⟨kq, x79_42, rfl, HA, HJ42, HO_7, HO_9, BK162, BK163, BK177, BK178, HB⟩ := hcut
                    have hl9_42 := (Kd.R_reads' HO_9.out).1
                    rw [hl9_42] at HO_9
                    (try simp only [hl9_42])
                    (try simp only [hl9_42] at BK162)
                    (try simp only [hl9_42] at BK163)
                    (try simp only [hl9_42] at BK177)
                    (try simp only [hl9_42] at BK178)
                    (try simp only [hl9_42] at HO_7)
                    cases kq with
                    | zero => exact absurd HA.out (by simp [spec_l04Heights.j2])
                    | succ kj42 =>
                     have H := HA.out
                     clear HA
                     simp only [spec_l04Heights.j2] at H
                     by_cases c62 : x79_42 = true
                     ·subst c62
                      have H1 : (some (x7_2, a1, t174, 5)) = some (r1, r2, r3, r4) := by rw [if_pos rfl] at H; exact H
                      clear H
                      have H := H1
                      clear H1
                      simp only [Option.some.injEq, Prod.mk.injEq] at H
                      obtain ⟨rfl, rfl, rfl, rfl⟩ := H
                      try go_wp2
                      have n0_ := am (Kd.R_drew HO_7.out)
                      have n1_ := am (Kd.R_drew HO_9.out)
                      have n2_ := am (blk_drew BK162.out)
                      have n3_ := am (blk_drew BK163.out)
                      have n4_ := am (blk_drew BK177.out)
                      have n5_ := am (blk_drew BK178.out)
                      have n6_ := am (below_drew1 HB.out)
                      clear HO_7
                      clear HO_9
                      clear BK162
                      clear BK163
                      clear BK177
                      clear BK178
                      clear HB
                      have HO_7 := n0_
                      have HO_9 := n1_
                      have BK162 := n2_
                      have BK163 := n3_
                      have BK177 := n4_
                      have BK178 := n5_
                      have HB := n6_
                      clear n0_ n1_ n2_ n3_ n4_ n5_ n6_
                      refine start_ (n := 4) (S := fun w' => w'.cell? ⟨gb178, 0, none⟩ = some (.int .i64 a1) ∧ w'.cell? ⟨gb178, 1, none⟩ = some (.int .i64 t174) ∧ w'.cell? ⟨gb178, 2, none⟩ = some (.int .i64 5)) (ds := []) #[false, false, false, false] (by kernel_rfl) rfl rfl ⟨bc BK178 0, bc BK178 1, bc BK178 2⟩ (fun hHeld => ?_)
                      generalize wc.drew = w63 at HO_7 HO_9 BK162 BK163 BK177 BK178 HB hHeld ⊢
                      refine pure_ (i := 0) (N := some 80) (v := ?_) (a' := ?_) #[true, false, false, false] rfl rfl (by kernel_rfl) (fun _ _ _ h => h) (Or.inl ⟨by rfl, ?_⟩) ?_ ?_
                      rotate_left
                      ·intro w'
                       go_simp
                       with_reducible rfl
                      rotate_left
                      ·simp only [Act.put, sa, sz, ss, i64_w, i32_w]
                       rfl
                      refine pure_ (i := 2) (N := some 4) (v := ?_) (a' := ?_) #[true, false, true, false] rfl rfl (by kernel_rfl) (fun _ _ _ h => h) (Or.inl ⟨by rfl, ?_⟩) ?_ ?_
                      rotate_left
                      ·intro w'
                       go_simp
                       with_reducible rfl
                      rotate_left
                      ·simp only [Act.put, sa, sz, ss, i64_w, i32_w]
                       rfl
                      refine take_ (i := 1) (N := some 81) (v := ?_) (a' := ?_) #[true, true, true, false] rfl rfl (by kernel_rfl) (fun _ _ _ h => h) (Or.inl ⟨by rfl, ?_⟩) hHeld ?_ ?_
                      rotate_left
                      ·rintro w' ⟨s0, s1, s2⟩
                       go_simp
                       with_reducible rfl
                      rotate_left
                      ·simp only [Act.put, sa, sz, ss, i64_w, i32_w]
                       rfl
                      refine one_ (i := 3) (N := none) #[true, true, true, true] rfl rfl (by kernel_rfl) (by decide) (fun K hK => ?_)
                      have hs64 : w63.cell? ⟨gb163, 0, none⟩ = some (.int .i64 x164000_2) := bc BK163 0
                      have hfs64 := bf BK163 0
                      have hns64_0 := NB162_163.out
                      have hns64_2 := NB177_163.out
                      have hns64_3 := NB178_163.out
                      have hms64_0 := NB163_162.out
                      have hms64_2 := NB163_177.out
                      have hms64_3 := NB163_178.out
                      have hs65 : w63.cell? ⟨gb163, 1, none⟩ = some (.int .i64 x164001_2) := bc BK163 1
                      have hfs65 := bf BK163 1
                      have hns65_0 := NB162_163.out
                      have hns65_2 := NB177_163.out
                      have hns65_3 := NB178_163.out
                      have hms65_0 := NB163_162.out
                      have hms65_2 := NB163_177.out
                      have hms65_3 := NB163_178.out
                      have hs66 : w63.cell? ⟨gb163, 2, none⟩ = some (.int .i64 x164002_2) := bc BK163 2
                      have hfs66 := bf BK163 2
                      have hns66_0 := NB162_163.out
                      have hns66_2 := NB177_163.out
                      have hns66_3 := NB178_163.out
                      have hms66_0 := NB163_162.out
                      have hms66_2 := NB163_177.out
                      have hms66_3 := NB163_178.out
                      refine skip_ (w1 := ?_) (by rfl) rfl ?_ ?_
                      rotate_left
                      ·go_simp
                       rfl
                      refine hK.out _ _ ⟨((cell_far (p := ⟨gb163, _, none⟩) NB178_163.out _).trans (((cell_far (p := ⟨gb163, _, none⟩) NB178_163.out _).trans (((cell_far (p := ⟨gb163, _, none⟩) NB178_163.out _).trans (hHeld.1)))))), ((cell_far (p := ⟨gb163, _, none⟩) NB178_163.out _).trans (((cell_far (p := ⟨gb163, _, none⟩) NB178_163.out _).trans (((cell_far (p := ⟨gb163, _, none⟩) NB178_163.out _).trans (hHeld.2.1)))))), ((cell_far (p := ⟨gb163, _, none⟩) NB178_163.out _).trans (((cell_far (p := ⟨gb163, _, none⟩) NB178_163.out _).trans (((cell_far (p := ⟨gb163, _, none⟩) NB178_163.out _).trans (hHeld.2.2))))))⟩ (fun hHeld => ?_)
                      clear hK K
                      refine done_ (by kernel_rfl) ?_
                      try go_wp2
                      refine bodyPost_ret (results_tc rfl _ _ gb163 84 #[.int .i64 a1, .int .i64 t174, .int .i64 5] (0, 0) _ rfl (by (with_reducible repeat (first | apply dN | apply dW | apply dA)); refine blk_put (cs := #[.int .i64 a1, .int .i64 t174, .int .i64 x164002_2]) ?_ 2 _ rfl; (with_reducible repeat (first | apply dN | apply dW | apply dA)); refine blk_put (cs := #[.int .i64 a1, .int .i64 x164001_2, .int .i64 x164002_2]) ?_ 1 _ rfl; (with_reducible repeat (first | apply dN | apply dW | apply dA)); refine blk_put (cs := #[.int .i64 x164000_2, .int .i64 x164001_2, .int .i64 x164002_2]) ?_ 0 _ rfl; exact bp BK163) Try.underlying84 rfl (by kernel_rfl)) rfl ?_
                      exact ⟨_, er, by (with_reducible repeat (first | apply Kd.R_alloc | apply Kd.R_drewN | apply Kd.R_drew)); exact Kd.R_mono (Kd.R_far (p := ⟨gb163, 2, none⟩) (Kd.R_far (p := ⟨gb163, 1, none⟩) (Kd.R_far (p := ⟨gb163, 0, none⟩) (Kd.R_types HO_7.out BK163.out (by decide)) (fun _ hk => hk.2) (.int .i64 a1)) (fun _ hk => hk.2) (.int .i64 t174)) (fun _ hk => hk.2) (.int .i64 5)) (fun _ hk => trivial), bw HB⟩
                     ·replace c62 := Bool.eq_false_iff.mpr c62
                      subst c62
                      have H1 : ((some (([] : List Int) : List Int)).bind fun y183 => (if ((rd_T102 ((rd_T100 l0_0 a1).f2) t174).f0) = 30 then (spec_l04Heights.j3 kj42 a1 ((rd_T100 l0_0 a1).f2) x7_2 y175 t174 (wrap64 ((wrap64 ((rd x7_2 t174) - t179)) + t181)) y183 false l0_0 ((rd_T102 ((rd_T100 l0_0 a1).f2) t174).f0) ((rd_T102 ((rd_T100 l0_0 a1).f2) t174).f1) a1 t174 5) else (spec_l04Heights.j3 kj42 a1 ((rd_T100 l0_0 a1).f2) x7_2 y175 t174 (wrap64 ((wrap64 ((rd x7_2 t174) - t179)) + t181)) y183 (((rd_T102 ((rd_T100 l0_0 a1).f2) t174).f0) != 33) l0_0 ((rd_T102 ((rd_T100 l0_0 a1).f2) t174).f0) ((rd_T102 ((rd_T100 l0_0 a1).f2) t174).f1) a1 t174 5))) = some (r1, r2, r3, r4) := by rw [if_neg (show ¬ (false = true) by decide)] at H; exact H
                      clear H
                      have H := H1
                      clear H1
                      obtain ⟨y183, hy183⟩ : ∃ y_ : List Int, y_ = (([] : List Int)) := ⟨_, rfl⟩
                      replace H : (if ((rd_T102 ((rd_T100 l0_0 a1).f2) t174).f0) = 30 then (spec_l04Heights.j3 kj42 a1 ((rd_T100 l0_0 a1).f2) x7_2 y175 t174 (wrap64 ((wrap64 ((rd x7_2 t174) - t179)) + t181)) y183 false l0_0 ((rd_T102 ((rd_T100 l0_0 a1).f2) t174).f0) ((rd_T102 ((rd_T100 l0_0 a1).f2) t174).f1) a1 t174 5) else (spec_l04Heights.j3 kj42 a1 ((rd_T100 l0_0 a1).f2) x7_2 y175 t174 (wrap64 ((wrap64 ((rd x7_2 t174) - t179)) + t181)) y183 (((rd_T102 ((rd_T100 l0_0 a1).f2) t174).f0) != 33) l0_0 ((rd_T102 ((rd_T100 l0_0 a1).f2) t174).f0) ((rd_T102 ((rd_T100 l0_0 a1).f2) t174).f1) a1 t174 5)) = some (r1, r2, r3, r4) := by first | (rw [hy183]; with_reducible exact H) | (have H2_ := (Option.bind_some _ _).symm.trans H; rw [hy183]; with_reducible exact H2_) | (have H2_ := (Option.bind_some _ _).symm.trans H; with_reducible exact H2_) | with_reducible exact H | (rw [hy183]; exact H) | exact H
                      have Ny183 := am hy183
                      clear hy183
                      have HC67 := am H
                      clear H
                      go_upto_region 21 with (first | ((with_reducible refine gate_dst (N := 82) rfl ?_); refine Kd.R_lit (Kd.int .i64) _ 2 ?hg (N := 82) ?hd (xs := ([] : List Int)) (inner := []) (ok := fun _ => True) (okp := fun _ => True) ?hr ?hp (fun _ hk => hk) trivial (Below.refl _ _) (Nat.le_refl _) (by simp) ?_; (case hd => rfl); (case hg => rfl); (case hr => exact gs); (case hp => exact (Reps.none _ _)); intro v184 w68 ho69 hb hg_ hnew_; clear hg_ hnew_; (first | rw [← Ny183.out] at ho69 | (simp only [Int.reduceToNat] at ho69; rw [← Ny183.out] at ho69)); replace HO_9 := am (Kd.R_below (kR HO_9) hb); have HO185 := am (Kd.R_lower (Kd.R_new' ho69 (Kd.R_lt (kR HO_7))) (below_size (bw HB))); replace HO_7 := am (Kd.R_elder' (kR HO_7) (Kd.R_base ho69) hb); replace BK162 := am (blk_below (g := gb162) (o := .cells #[.slice (some ad164) l0_0.length c0_0] 30 (0, 0)) (bp BK162) hb); replace BK163 := am (blk_below (g := gb163) (o := .cells #[.int .i64 x164000_2, .int .i64 x164001_2, .int .i64 x164002_2] 84 (0, 0)) (bp BK163) hb); replace BK177 := am (blk_below (g := gb177) (o := .cells #[.int .i64 ((rd_T102 ((rd_T100 l0_0 a1).f2) t174).f0), .int .i64 ((rd_T102 ((rd_T100 l0_0 a1).f2) t174).f1)] 102 (0, 0)) (bp BK177) hb); replace BK178 := am (blk_below (g := gb178) (o := .cells #[.int .i64 a1, .int .i64 t174, .int .i64 5] 84 (0, 0)) (bp BK178) hb); replace HB := am (below_step (bw HB) hb); clear hb ho69))
                      (try simp only [Act.put, sa, sz, ss])
                      go_cut [90] (fun v90 wc => ∃ (kq : Nat) (x90_66 : Bool), v90 = .bool x90_66 ∧ Aside0 (spec_l04Heights.j3 kq a1 ((rd_T100 l0_0 a1).f2) x7_2 y175 t174 (wrap64 ((wrap64 ((rd x7_2 t174) - t179)) + t181)) y183 x90_66 l0_0 ((rd_T102 ((rd_T100 l0_0 a1).f2) t174).f0) ((rd_T102 ((rd_T100 l0_0 a1).f2) t174).f1) a1 t174 5 = some (r1, r2, r3, r4)) ∧ Aside0 (kq ≤ kj42) ∧ Aside0 (Kd.R (Kd.int .i64) 2 wc w.heap.size (fun k_ => some k_ ≠ (v184 : Value).ownBlock) (.slice (some ⟨go20, 0, none⟩) x7_2.length co25) x7_2) ∧ Aside0 (Kd.R Kd.bool 4 wc w.heap.size (fun _ => True) (.slice (some ⟨go24, 0, none⟩) y175.length co24) y175) ∧ Aside0 (Kd.R (Kd.int .i64) 2 wc w.heap.size (fun k_ => some k_ ≠ ((.slice (some ⟨go20, 0, none⟩) x7_2.length co25) : Value).ownBlock) v184 y183) ∧ Aside0 (wc.heap[gb162]? = some (.cells #[(.slice (some ad164) l0_0.length c0_0)] 30 (0, 0))) ∧ Aside0 (wc.heap[gb163]? = some (.cells #[.int .i64 x164000_2, .int .i64 x164001_2, .int .i64 x164002_2] 84 (0, 0))) ∧ Aside0 (wc.heap[gb177]? = some (.cells #[.int .i64 ((rd_T102 ((rd_T100 l0_0 a1).f2) t174).f0), .int .i64 ((rd_T102 ((rd_T100 l0_0 a1).f2) t174).f1)] 102 (0, 0))) ∧ Aside0 (wc.heap[gb178]? = some (.cells #[.int .i64 a1, .int .i64 t174, .int .i64 5] 84 (0, 0))) ∧ Aside0 (Below w.heap.size w wc))
                      case first =>
                       have H := HC67.out
                       clear HC67
                       by_cases c70 : ((rd_T102 ((rd_T100 l0_0 a1).f2) t174).f0) = 30
                       ·rw [if_pos c70] at H
                        have c70b0 : (((rd_T102 ((rd_T100 l0_0 a1).f2) t174).f0) == 30) = true := beq_iff_eq.mpr c70
                        have c70b1 : (((rd_T102 ((rd_T100 l0_0 a1).f2) t174).f0) != 30) = false := bne_eq_false_iff_eq.mpr c70
                        clear c70
                        (first | rw [c70b0] | (simp only [i64_w, i32_w]; rw [c70b0]) | skip)
                        have H' := am H
                        clear H
                        have hnb71 := NB177_162.out
                        have hnc71 := NB162_177.out
                        have hnb72 := NB177_163.out
                        have hnc72 := NB163_177.out
                        have hnb73 := NB177_178.out
                        have hnc73 := NB178_177.out
                        have hcz74_0 : w68.cell? ⟨gb177, 0, none⟩ = some (.int .i64 ((rd_T102 ((rd_T100 l0_0 a1).f2) t174).f0)) := bc BK177 0
                        have hcz74_1 : w68.cell? ⟨gb177, 1, none⟩ = some (.int .i64 ((rd_T102 ((rd_T100 l0_0 a1).f2) t174).f1)) := bc BK177 1
                        have hfz74_0 := bf BK177 0
                        have hfz74_1 := bf BK177 1
                        go_wp2
                        go_meet
                        case rel => exact ⟨_, (false), dr, H', ⟨by have := HK1.out; have := HK2.out; have := HJ42.out; first | omega | exact Nat.le_refl _⟩, ⟨by (try simp only [hl7_2]); (try simp only [hl9_2]); (try simp only [hl9_42]); (with_reducible repeat (first | apply Kd.R_alloc | apply Kd.R_drewN | apply Kd.R_drew)); exact Kd.R_mono HO_7.out (fun _ hk => hk.2)⟩, ⟨by (try simp only [hl7_2]); (try simp only [hl9_2]); (try simp only [hl9_42]); exact kR HO_9⟩, ⟨by (try simp only [hl7_2]); (try simp only [hl9_2]); (try simp only [hl9_42]); (with_reducible repeat (first | apply Kd.R_alloc | apply Kd.R_drewN | apply Kd.R_drew)); exact Kd.R_mono HO185.out (fun _ hk => hk.2)⟩, ⟨by (try simp only [hl7_2]); (try simp only [hl9_2]); (try simp only [hl9_42]); exact bp BK162⟩, ⟨by (try simp only [hl7_2]); (try simp only [hl9_2]); (try simp only [hl9_42]); exact bp BK163⟩, ⟨by (try simp only [hl7_2]); (try simp only [hl9_2]); (try simp only [hl9_42]); exact bp BK177⟩, ⟨by (try simp only [hl7_2]); (try simp only [hl9_2]); (try simp only [hl9_42]); exact bp BK178⟩, ⟨bw HB⟩⟩
                       ·rw [if_neg c70] at H
                        have c70b0 : (((rd_T102 ((rd_T100 l0_0 a1).f2) t174).f0) == 30) = false := beq_eq_false_iff_ne.mpr c70
                        have c70b1 : (((rd_T102 ((rd_T100 l0_0 a1).f2) t174).f0) != 30) = true := bne_iff_ne.mpr c70
                        (first | rw [c70b0] | (simp only [i64_w, i32_w]; rw [c70b0]) | skip)
                        have H' := am H
                        clear H
                        have hnb75 := NB177_162.out
                        have hnc75 := NB162_177.out
                        have hnb76 := NB177_163.out
                        have hnc76 := NB163_177.out
                        have hnb77 := NB177_178.out
                        have hnc77 := NB178_177.out
                        have hcz78_0 : w68.cell? ⟨gb177, 0, none⟩ = some (.int .i64 ((rd_T102 ((rd_T100 l0_0 a1).f2) t174).f0)) := bc BK177 0
                        have hcz78_1 : w68.cell? ⟨gb177, 1, none⟩ = some (.int .i64 ((rd_T102 ((rd_T100 l0_0 a1).f2) t174).f1)) := bc BK177 1
                        have hfz78_0 := bf BK177 0
                        have hfz78_1 := bf BK177 1
                        go_wp2
                        go_meet
                        case rel => exact ⟨_, ((((rd_T102 ((rd_T100 l0_0 a1).f2) t174).f0) != 33)), dr, H', ⟨by have := HK1.out; have := HK2.out; have := HJ42.out; first | omega | exact Nat.le_refl _⟩, ⟨by (try simp only [hl7_2]); (try simp only [hl9_2]); (try simp only [hl9_42]); (with_reducible repeat (first | apply Kd.R_alloc | apply Kd.R_drewN | apply Kd.R_drew)); exact Kd.R_mono HO_7.out (fun _ hk => hk.2)⟩, ⟨by (try simp only [hl7_2]); (try simp only [hl9_2]); (try simp only [hl9_42]); exact kR HO_9⟩, ⟨by (try simp only [hl7_2]); (try simp only [hl9_2]); (try simp only [hl9_42]); (with_reducible repeat (first | apply Kd.R_alloc | apply Kd.R_drewN | apply Kd.R_drew)); exact Kd.R_mono HO185.out (fun _ hk => hk.2)⟩, ⟨by (try simp only [hl7_2]); (try simp only [hl9_2]); (try simp only [hl9_42]); exact bp BK162⟩, ⟨by (try simp only [hl7_2]); (try simp only [hl9_2]); (try simp only [hl9_42]); exact bp BK163⟩, ⟨by (try simp only [hl7_2]); (try simp only [hl9_2]); (try simp only [hl9_42]); exact bp BK177⟩, ⟨by (try simp only [hl7_2]); (try simp only [hl9_2]); (try simp only [hl9_42]); exact bp BK178⟩, ⟨bw HB⟩⟩
                      case rest =>
                       clear HC67
                       (try clear c1); (try clear p1); (try clear q1); (try clear hx1); (try clear c2); (try clear p2); (try clear q2); (try clear hx2); (try clear qi2); (try clear hf2); (try clear c3); (try clear c3b0); (try clear p3); (try clear q3); (try clear hx3); (try clear hf3); (try clear c4); (try clear c4b0); (try clear c5); (try clear c5b0); (try clear c5b1); (try clear c6); (try clear c6b0); (try clear c6b1); (try clear p6); (try clear c7); (try clear c9); (try clear c11); (try clear c13); (try clear c13b0); (try clear c14); (try clear c14b0); (try clear p15); (try clear q15); (try clear hx15); (try clear hf15); (try clear c16); (try clear p16); (try clear q16); (try clear hx16); (try clear p17); (try clear q17); (try clear hx17); (try clear p18); (try clear q18); (try clear hx18); (try clear c19); (try clear c19b0); (try clear c19b1); (try clear p20); (try clear q20); (try clear hx20); (try clear qi20); (try clear hf20); (try clear c21); (try clear c21b0); (try clear c21b1); (try clear c22); (try clear c22b0); (try clear c22b1); (try clear c23); (try clear c23b0); (try clear c23b1); (try clear p24); (try clear q24); (try clear hx24); (try clear qi24); (try clear hf24); (try clear c33); (try clear c33b0); (try clear c34); (try clear c36); (try clear c36b0); (try clear c37); (try clear c37b0); (try clear p38); (try clear q38); (try clear hx38); (try clear hf38); (try clear c39); (try clear c39b0); (try clear c41); (try clear c41b0); (try clear c47); (try clear c48); (try clear c51); (try clear c52); (try clear c53); (try clear c55); (try clear c58); (try clear c61); (try clear c61b0); (try clear c62); (try clear p64); (try clear c70); (try clear c70b0); (try clear c70b1); (try clear c71); (try clear c72); (try clear c73); (try clear c75); (try clear c76); (try clear c77); (try clear hcz10_0); (try clear hcz35_0); (try clear hcz35_1); (try clear hcz35_2); (try clear hcz49_0); (try clear hcz49_1); (try clear hcz54_0); (try clear hcz54_1); (try clear hcz54_2); (try clear hcz56_0); (try clear hcz57_0); (try clear hcz57_1); (try clear hcz74_0); (try clear hcz74_1); (try clear hcz78_0); (try clear hcz78_1); (try clear hfz10_0); (try clear hfz35_0); (try clear hfz35_1); (try clear hfz35_2); (try clear hfz49_0); (try clear hfz49_1); (try clear hfz54_0); (try clear hfz54_1); (try clear hfz54_2); (try clear hfz56_0); (try clear hfz57_0); (try clear hfz57_1); (try clear hfz74_0); (try clear hfz74_1); (try clear hfz78_0); (try clear hfz78_1); (try clear hx15_0); (try clear hx164_0); (try clear hx164_1); (try clear hx164_2); (try clear hx176_0); (try clear hx176_1); (try clear hx180_0); (try clear hx182_0); (try clear hx20_0); (try clear hx24_0); (try clear hx38_0); (try clear p1); (try clear p15); (try clear p16); (try clear p164); (try clear p17); (try clear p176); (try clear p18); (try clear p180); (try clear p182); (try clear p2); (try clear p20); (try clear p24); (try clear p3); (try clear p38); (try clear p6); (try clear q1); (try clear q15); (try clear q16); (try clear q164); (try clear q17); (try clear q176); (try clear q18); (try clear q180); (try clear q182); (try clear q2); (try clear q20); (try clear q24); (try clear q3); (try clear q38)
                       obtain ⟨kq, x90_66, rfl, HA, HJ66, HO_7, HO_9, HO_15, BK162, BK163, BK177, BK178, HB⟩ := hcut
                       cases kq with
                       | zero => exact absurd HA.out (by simp [spec_l04Heights.j3])
                       | succ kj66 =>
                        have H := HA.out
                        clear HA
                        simp only [spec_l04Heights.j3] at H
                        have HC79 := am H
                        clear H
                        go_upto_if 90 with (fail)
                        go_cut [15] (fun v15 wc => ∃ (kq : Nat) (x15_78 : List Int), Aside0 (spec_l04Heights.j4 kq a1 ((rd_T100 l0_0 a1).f2) x7_2 y175 (wrap64 ((wrap64 ((rd x7_2 t174) - t179)) + t181)) x15_78 l0_0 ((rd_T102 ((rd_T100 l0_0 a1).f2) t174).f0) ((rd_T102 ((rd_T100 l0_0 a1).f2) t174).f1) a1 t174 5 = some (r1, r2, r3, r4)) ∧ Aside0 (kq ≤ kj66) ∧ Aside0 (Kd.R (Kd.int .i64) 2 wc w.heap.size (fun k_ => some k_ ≠ (v15 : Value).ownBlock) (.slice (some ⟨go20, 0, none⟩) x7_2.length co25) x7_2) ∧ Aside0 (Kd.R Kd.bool 4 wc w.heap.size (fun _ => True) (.slice (some ⟨go24, 0, none⟩) y175.length co24) y175) ∧ Aside0 (Kd.R (Kd.int .i64) 2 wc w.heap.size (fun k_ => some k_ ≠ ((.slice (some ⟨go20, 0, none⟩) x7_2.length co25) : Value).ownBlock) v15 x15_78) ∧ Aside0 (wc.heap[gb162]? = some (.cells #[(.slice (some ad164) l0_0.length c0_0)] 30 (0, 0))) ∧ Aside0 (wc.heap[gb163]? = some (.cells #[.int .i64 x164000_2, .int .i64 x164001_2, .int .i64 x164002_2] 84 (0, 0))) ∧ Aside0 (wc.heap[gb177]? = some (.cells #[.int .i64 ((rd_T102 ((rd_T100 l0_0 a1).f2) t174).f0), .int .i64 ((rd_T102 ((rd_T100 l0_0 a1).f2) t174).f1)] 102 (0, 0))) ∧ Aside0 (wc.heap[gb178]? = some (.cells #[.int .i64 a1, .int .i64 t174, .int .i64 5] 84 (0, 0))) ∧ Aside0 (Below w.heap.size w wc))
                        case first =>
                         have H := HC79.out
                         clear HC79
                         by_cases c80 : x90_66 = true
                         ·subst c80
                          have H1 : (if y183.length < 17592186044416 then (spec_l04Heights.j4 kj66 a1 ((rd_T100 l0_0 a1).f2) x7_2 y175 (wrap64 ((wrap64 ((rd x7_2 t174) - t179)) + t181)) (y183 ++ [wrap64 (t174 + 1)]) l0_0 ((rd_T102 ((rd_T100 l0_0 a1).f2) t174).f0) ((rd_T102 ((rd_T100 l0_0 a1).f2) t174).f1) a1 t174 5) else (none)) = some (r1, r2, r3, r4) := by rw [if_pos rfl] at H; exact H
                          clear H
                          have H := H1
                          clear H1
                          by_cases c81 : y183.length < 17592186044416
                          ·rw [if_pos c81] at H
                           have LMc81 := am c81
                           clear c81
                           obtain ⟨y186, hy186⟩ : ∃ y_ : List Int, y_ = (y183 ++ [wrap64 (t174 + 1)]) := ⟨_, rfl⟩
                           replace H : (spec_l04Heights.j4 kj66 a1 ((rd_T100 l0_0 a1).f2) x7_2 y175 (wrap64 ((wrap64 ((rd x7_2 t174) - t179)) + t181)) y186 l0_0 ((rd_T102 ((rd_T100 l0_0 a1).f2) t174).f0) ((rd_T102 ((rd_T100 l0_0 a1).f2) t174).f1) a1 t174 5) = some (r1, r2, r3, r4) := by first | (rw [hy186]; with_reducible exact H) | (have H2_ := (Option.bind_some _ _).symm.trans H; rw [hy186]; with_reducible exact H2_) | (have H2_ := (Option.bind_some _ _).symm.trans H; with_reducible exact H2_) | with_reducible exact H | (rw [hy186]; exact H) | exact H
                           have Ny186 := am hy186
                           clear hy186
                           have H' := am H
                           clear H
                           go_wp2_with (first | ((with_reducible refine gate_builtin (b := .append) (xs := #[.tmp 91, .tmp 94]) rfl ?_); at_builtin; refine Kd.R_append (Kd.int .i64) (w0 := w) w.heap.size rfl (.tmp 91) (.tmp 94) 26 2 (.int .i64 0) 8 rfl Try.underlying26 info2 rfl (by decide) (by omega) v184 y183 (wrap64 (t174 + 1)) [.int .i64 (wrap64 (t174 + 1))] (fun k_ => some k_ ≠ (.slice (some ⟨go20, 0, none⟩) x7_2.length co25 : Value).ownBlock) (fun _ => False) rfl rfl ?aP (fun _ hk => hk.elim) ?aF ?aO ?aB ?aS ?aL ?_; (case aP => exact rfl); (case aB => exact (bw HB)); (case aF => exact (fun k_ hk => Kd.fresh' (Kd.R_lt (kR HO_7)) k_ hk)); (case aO => exact (kR HO_15)); (case aS => exact (below_size (bw HB))); (case aL => have := LMc81.out; omega); intro v187 w82 ho hb hg hat; rw [← Ny186.out] at ho; replace HO_7 := am (Kd.R_after (ok := (fun _ => True)) (by (with_reducible repeat (first | apply Kd.R_alloc | apply Kd.R_drewN | apply Kd.R_drew)); exact Kd.R_mono HO_7.out (fun _ hk => ⟨trivial, hk⟩)) hg hat); replace HO_9 := am (Kd.R_over' (kR HO_9) (Kd.R_typed (kR HO_15)) (by decide) hg); replace BK162 := am (blk_grown (g := gb162) (o := .cells #[.slice (some ad164) l0_0.length c0_0] 30 (0, 0)) (bp BK162) hg (Kd.R_ne HO_15.out BK162.out (by decide))); replace BK163 := am (blk_grown (g := gb163) (o := .cells #[.int .i64 x164000_2, .int .i64 x164001_2, .int .i64 x164002_2] 84 (0, 0)) (bp BK163) hg (Kd.R_ne HO_15.out BK163.out (by decide))); replace BK177 := am (blk_grown (g := gb177) (o := .cells #[.int .i64 ((rd_T102 ((rd_T100 l0_0 a1).f2) t174).f0), .int .i64 ((rd_T102 ((rd_T100 l0_0 a1).f2) t174).f1)] 102 (0, 0)) (bp BK177) hg (Kd.R_ne HO_15.out BK177.out (by decide))); replace BK178 := am (blk_grown (g := gb178) (o := .cells #[.int .i64 a1, .int .i64 t174, .int .i64 5] 84 (0, 0)) (bp BK178) hg (Kd.R_ne HO_15.out BK178.out (by decide))); replace HB := am (hb); have HO188 := am (ho); clear HO_15; clear ho hb hg hat))
                           go_meet
                           case rel => exact ⟨_, (y186), H', ⟨by have := HK1.out; have := HK2.out; have := HJ42.out; have := HJ66.out; first | omega | exact Nat.le_refl _⟩, ⟨by (try simp only [hl7_2]); (try simp only [hl9_2]); (try simp only [hl9_42]); (with_reducible repeat (first | apply Kd.R_alloc | apply Kd.R_drewN | apply Kd.R_drew)); exact Kd.R_mono HO_7.out (fun _ hk => hk.2)⟩, ⟨by (try simp only [hl7_2]); (try simp only [hl9_2]); (try simp only [hl9_42]); exact kR HO_9⟩, ⟨by (try simp only [hl7_2]); (try simp only [hl9_2]); (try simp only [hl9_42]); exact kR HO188⟩, ⟨by (try simp only [hl7_2]); (try simp only [hl9_2]); (try simp only [hl9_42]); exact bp BK162⟩, ⟨by (try simp only [hl7_2]); (try simp only [hl9_2]); (try simp only [hl9_42]); exact bp BK163⟩, ⟨by (try simp only [hl7_2]); (try simp only [hl9_2]); (try simp only [hl9_42]); exact bp BK177⟩, ⟨by (try simp only [hl7_2]); (try simp only [hl9_2]); (try simp only [hl9_42]); exact bp BK178⟩, ⟨bw HB⟩⟩
                          ·rw [if_neg c81] at H
                           exact absurd H (by simp)
                         ·replace c80 := Bool.eq_false_iff.mpr c80
                          subst c80
                          have H1 : (spec_l04Heights.j4 kj66 a1 ((rd_T100 l0_0 a1).f2) x7_2 y175 (wrap64 ((wrap64 ((rd x7_2 t174) - t179)) + t181)) y183 l0_0 ((rd_T102 ((rd_T100 l0_0 a1).f2) t174).f0) ((rd_T102 ((rd_T100 l0_0 a1).f2) t174).f1) a1 t174 5) = some (r1, r2, r3, r4) := by rw [if_neg (show ¬ (false = true) by decide)] at H; exact H
                          clear H
                          have H := H1
                          clear H1
                          have H' := am H
                          clear H
                          go_wp2
                          go_meet
                          case rel => exact ⟨_, (y183), H', ⟨by have := HK1.out; have := HK2.out; have := HJ42.out; have := HJ66.out; first | omega | exact Nat.le_refl _⟩, ⟨by (try simp only [hl7_2]); (try simp only [hl9_2]); (try simp only [hl9_42]); exact kR HO_7⟩, ⟨by (try simp only [hl7_2]); (try simp only [hl9_2]); (try simp only [hl9_42]); exact kR HO_9⟩, ⟨by (try simp only [hl7_2]); (try simp only [hl9_2]); (try simp only [hl9_42]); exact kR HO_15⟩, ⟨by (try simp only [hl7_2]); (try simp only [hl9_2]); (try simp only [hl9_42]); exact bp BK162⟩, ⟨by (try simp only [hl7_2]); (try simp only [hl9_2]); (try simp only [hl9_42]); exact bp BK163⟩, ⟨by (try simp only [hl7_2]); (try simp only [hl9_2]); (try simp only [hl9_42]); exact bp BK177⟩, ⟨by (try simp only [hl7_2]); (try simp only [hl9_2]); (try simp only [hl9_42]); exact bp BK178⟩, ⟨bw HB⟩⟩
                        case rest =>
                         clear HC79
                         (try clear c1); (try clear p1); (try clear q1); (try clear hx1); (try clear c2); (try clear p2); (try clear q2); (try clear hx2); (try clear qi2); (try clear hf2); (try clear c3); (try clear c3b0); (try clear p3); (try clear q3); (try clear hx3); (try clear hf3); (try clear c4); (try clear c4b0); (try clear c5); (try clear c5b0); (try clear c5b1); (try clear c6); (try clear c6b0); (try clear c6b1); (try clear p6); (try clear c7); (try clear c8); (try clear c9); (try clear c11); (try clear c13); (try clear c13b0); (try clear c14); (try clear c14b0); (try clear p15); (try clear q15); (try clear hx15); (try clear hf15); (try clear c16); (try clear p16); (try clear q16); (try clear hx16); (try clear p17); (try clear q17); (try clear hx17); (try clear p18); (try clear q18); (try clear hx18); (try clear c19); (try clear c19b0); (try clear c19b1); (try clear p20); (try clear q20); (try clear hx20); (try clear qi20); (try clear hf20); (try clear c21); (try clear c21b0); (try clear c21b1); (try clear c22); (try clear c22b0); (try clear c22b1); (try clear c23); (try clear c23b0); (try clear c23b1); (try clear p24); (try clear q24); (try clear hx24); (try clear qi24); (try clear hf24); (try clear c33); (try clear c33b0); (try clear c34); (try clear c36); (try clear c36b0); (try clear c37); (try clear c37b0); (try clear p38); (try clear q38); (try clear hx38); (try clear hf38); (try clear c39); (try clear c39b0); (try clear c41); (try clear c41b0); (try clear c47); (try clear c48); (try clear c51); (try clear c52); (try clear c53); (try clear c55); (try clear c58); (try clear c61); (try clear c61b0); (try clear c62); (try clear p64); (try clear c70); (try clear c70b0); (try clear c70b1); (try clear c71); (try clear c72); (try clear c73); (try clear c75); (try clear c76); (try clear c77); (try clear c80); (try clear c81); (try clear hcz10_0); (try clear hcz35_0); (try clear hcz35_1); (try clear hcz35_2); (try clear hcz49_0); (try clear hcz49_1); (try clear hcz54_0); (try clear hcz54_1); (try clear hcz54_2); (try clear hcz56_0); (try clear hcz57_0); (try clear hcz57_1); (try clear hcz74_0); (try clear hcz74_1); (try clear hcz78_0); (try clear hcz78_1); (try clear hfz10_0); (try clear hfz35_0); (try clear hfz35_1); (try clear hfz35_2); (try clear hfz49_0); (try clear hfz49_1); (try clear hfz54_0); (try clear hfz54_1); (try clear hfz54_2); (try clear hfz56_0); (try clear hfz57_0); (try clear hfz57_1); (try clear hfz74_0); (try clear hfz74_1); (try clear hfz78_0); (try clear hfz78_1); (try clear hx15_0); (try clear hx164_0); (try clear hx164_1); (try clear hx164_2); (try clear hx176_0); (try clear hx176_1); (try clear hx180_0); (try clear hx182_0); (try clear hx20_0); (try clear hx24_0); (try clear hx38_0); (try clear p1); (try clear p15); (try clear p16); (try clear p164); (try clear p17); (try clear p176); (try clear p18); (try clear p180); (try clear p182); (try clear p2); (try clear p20); (try clear p24); (try clear p3); (try clear p38); (try clear p6); (try clear p64); (try clear q1); (try clear q15); (try clear q16); (try clear q164); (try clear q17); (try clear q176); (try clear q18); (try clear q180); (try clear q182); (try clear q2); (try clear q20); (try clear q24); (try clear q3); (try clear q38)
                         obtain ⟨kq, x15_78, HA, HJ78, HO_7, HO_9, HO_15, BK162, BK163, BK177, BK178, HB⟩ := hcut
                         cases kq with
                         | zero => exact absurd HA.out (by simp [spec_l04Heights.j4])
                         | succ kj78 =>
                          have H := HA.out
                          clear HA
                          simp only [spec_l04Heights.j4] at H
                          have HC83 := am H
                          clear H
                          go_upto_region 23 with (fail)
                          go_cut [103] (fun v103 wc => ∃ (kq : Nat) (x103_82 : Bool), v103 = .bool x103_82 ∧ Aside0 (spec_l04Heights.j5 kq a1 ((rd_T100 l0_0 a1).f2) x7_2 y175 (wrap64 ((wrap64 ((rd x7_2 t174) - t179)) + t181)) x15_78 x103_82 l0_0 ((rd_T102 ((rd_T100 l0_0 a1).f2) t174).f0) ((rd_T102 ((rd_T100 l0_0 a1).f2) t174).f1) a1 t174 5 = some (r1, r2, r3, r4)) ∧ Aside0 (kq ≤ kj78) ∧ Aside0 (Kd.R (Kd.int .i64) 2 wc w.heap.size (fun k_ => some k_ ≠ (u15 : Value).ownBlock) (.slice (some ⟨go20, 0, none⟩) x7_2.length co25) x7_2) ∧ Aside0 (Kd.R Kd.bool 4 wc w.heap.size (fun _ => True) (.slice (some ⟨go24, 0, none⟩) y175.length co24) y175) ∧ Aside0 (Kd.R (Kd.int .i64) 2 wc w.heap.size (fun k_ => some k_ ≠ ((.slice (some ⟨go20, 0, none⟩) x7_2.length co25) : Value).ownBlock) u15 x15_78) ∧ Aside0 (wc.heap[gb162]? = some (.cells #[(.slice (some ad164) l0_0.length c0_0)] 30 (0, 0))) ∧ Aside0 (wc.heap[gb163]? = some (.cells #[.int .i64 x164000_2, .int .i64 x164001_2, .int .i64 x164002_2] 84 (0, 0))) ∧ Aside0 (wc.heap[gb177]? = some (.cells #[.int .i64 ((rd_T102 ((rd_T100 l0_0 a1).f2) t174).f0), .int .i64 ((rd_T102 ((rd_T100 l0_0 a1).f2) t174).f1)] 102 (0, 0))) ∧ Aside0 (wc.heap[gb178]? = some (.cells #[.int .i64 a1, .int .i64 t174, .int .i64 5] 84 (0, 0))) ∧ Aside0 (Below w.heap.size w wc))
                          case first =>
                           have H := HC83.out
                           clear HC83
                           by_cases c84 : ((rd_T102 ((rd_T100 l0_0 a1).f2) t174).f0) = 30
                           ·rw [if_pos c84] at H
                            have c84b0 : (((rd_T102 ((rd_T100 l0_0 a1).f2) t174).f0) == 30) = true := beq_iff_eq.mpr c84
                            have c84b1 : (((rd_T102 ((rd_T100 l0_0 a1).f2) t174).f0) != 30) = false := bne_eq_false_iff_eq.mpr c84
                            clear c84
                            (first | rw [c84b0] | (simp only [i64_w, i32_w]; rw [c84b0]) | skip)
                            have H' := am H
                            clear H
                            have hnb85 := NB177_162.out
                            have hnc85 := NB162_177.out
                            have hnb86 := NB177_163.out
                            have hnc86 := NB163_177.out
                            have hnb87 := NB177_178.out
                            have hnc87 := NB178_177.out
                            have hcz88_0 : wc.cell? ⟨gb177, 0, none⟩ = some (.int .i64 ((rd_T102 ((rd_T100 l0_0 a1).f2) t174).f0)) := bc BK177 0
                            have hcz88_1 : wc.cell? ⟨gb177, 1, none⟩ = some (.int .i64 ((rd_T102 ((rd_T100 l0_0 a1).f2) t174).f1)) := bc BK177 1
                            have hfz88_0 := bf BK177 0
                            have hfz88_1 := bf BK177 1
                            go_wp2
                            go_meet
                            case rel => exact ⟨_, (true), dr, H', ⟨by have := HK1.out; have := HK2.out; have := HJ42.out; have := HJ66.out; have := HJ78.out; first | omega | exact Nat.le_refl _⟩, ⟨by (try simp only [hl7_2]); (try simp only [hl9_2]); (try simp only [hl9_42]); exact kR HO_7⟩, ⟨by (try simp only [hl7_2]); (try simp only [hl9_2]); (try simp only [hl9_42]); exact kR HO_9⟩, ⟨by (try simp only [hl7_2]); (try simp only [hl9_2]); (try simp only [hl9_42]); exact kR HO_15⟩, ⟨by (try simp only [hl7_2]); (try simp only [hl9_2]); (try simp only [hl9_42]); exact bp BK162⟩, ⟨by (try simp only [hl7_2]); (try simp only [hl9_2]); (try simp only [hl9_42]); exact bp BK163⟩, ⟨by (try simp only [hl7_2]); (try simp only [hl9_2]); (try simp only [hl9_42]); exact bp BK177⟩, ⟨by (try simp only [hl7_2]); (try simp only [hl9_2]); (try simp only [hl9_42]); exact bp BK178⟩, ⟨bw HB⟩⟩
                           ·rw [if_neg c84] at H
                            have c84b0 : (((rd_T102 ((rd_T100 l0_0 a1).f2) t174).f0) == 30) = false := beq_eq_false_iff_ne.mpr c84
                            have c84b1 : (((rd_T102 ((rd_T100 l0_0 a1).f2) t174).f0) != 30) = true := bne_iff_ne.mpr c84
                            (first | rw [c84b0] | (simp only [i64_w, i32_w]; rw [c84b0]) | skip)
                            have H' := am H
                            clear H
                            have hnb89 := NB177_162.out
                            have hnc89 := NB162_177.out
                            have hnb90 := NB177_163.out
                            have hnc90 := NB163_177.out
                            have hnb91 := NB177_178.out
                            have hnc91 := NB178_177.out
                            have hcz92_0 : wc.cell? ⟨gb177, 0, none⟩ = some (.int .i64 ((rd_T102 ((rd_T100 l0_0 a1).f2) t174).f0)) := bc BK177 0
                            have hcz92_1 : wc.cell? ⟨gb177, 1, none⟩ = some (.int .i64 ((rd_T102 ((rd_T100 l0_0 a1).f2) t174).f1)) := bc BK177 1
                            have hfz92_0 := bf BK177 0
                            have hfz92_1 := bf BK177 1
                            go_wp2
                            go_meet
                            case rel => exact ⟨_, ((((rd_T102 ((rd_T100 l0_0 a1).f2) t174).f0) == 31)), dr, H', ⟨by have := HK1.out; have := HK2.out; have := HJ42.out; have := HJ66.out; have := HJ78.out; first | omega | exact Nat.le_refl _⟩, ⟨by (try simp only [hl7_2]); (try simp only [hl9_2]); (try simp only [hl9_42]); exact kR HO_7⟩, ⟨by (try simp only [hl7_2]); (try simp only [hl9_2]); (try simp only [hl9_42]); exact kR HO_9⟩, ⟨by (try simp only [hl7_2]); (try simp only [hl9_2]); (try simp only [hl9_42]); exact kR HO_15⟩, ⟨by (try simp only [hl7_2]); (try simp only [hl9_2]); (try simp only [hl9_42]); exact bp BK162⟩, ⟨by (try simp only [hl7_2]); (try simp only [hl9_2]); (try simp only [hl9_42]); exact bp BK163⟩, ⟨by (try simp only [hl7_2]); (try simp only [hl9_2]); (try simp only [hl9_42]); exact bp BK177⟩, ⟨by (try simp only [hl7_2]); (try simp only [hl9_2]); (try simp only [hl9_42]); exact bp BK178⟩, ⟨bw HB⟩⟩
                          case rest =>
                           clear HC83
                           (try clear c1); (try clear p1); (try clear q1); (try clear hx1); (try clear c2); (try clear p2); (try clear q2); (try clear hx2); (try clear qi2); (try clear hf2); (try clear c3); (try clear c3b0); (try clear p3); (try clear q3); (try clear hx3); (try clear hf3); (try clear c4); (try clear c4b0); (try clear c5); (try clear c5b0); (try clear c5b1); (try clear c6); (try clear c6b0); (try clear c6b1); (try clear p6); (try clear c7); (try clear c8); (try clear c9); (try clear c11); (try clear c13); (try clear c13b0); (try clear c14); (try clear c14b0); (try clear p15); (try clear q15); (try clear hx15); (try clear hf15); (try clear c16); (try clear p16); (try clear q16); (try clear hx16); (try clear p17); (try clear q17); (try clear hx17); (try clear p18); (try clear q18); (try clear hx18); (try clear c19); (try clear c19b0); (try clear c19b1); (try clear p20); (try clear q20); (try clear hx20); (try clear qi20); (try clear hf20); (try clear c21); (try clear c21b0); (try clear c21b1); (try clear c22); (try clear c22b0); (try clear c22b1); (try clear c23); (try clear c23b0); (try clear c23b1); (try clear p24); (try clear q24); (try clear hx24); (try clear qi24); (try clear hf24); (try clear c33); (try clear c33b0); (try clear c34); (try clear c36); (try clear c36b0); (try clear c37); (try clear c37b0); (try clear p38); (try clear q38); (try clear hx38); (try clear hf38); (try clear c39); (try clear c39b0); (try clear c41); (try clear c41b0); (try clear c47); (try clear c48); (try clear c51); (try clear c52); (try clear c53); (try clear c55); (try clear c58); (try clear c61); (try clear c61b0); (try clear c62); (try clear p64); (try clear c70); (try clear c70b0); (try clear c70b1); (try clear c71); (try clear c72); (try clear c73); (try clear c75); (try clear c76); (try clear c77); (try clear c80); (try clear c81); (try clear c84); (try clear c84b0); (try clear c84b1); (try clear c85); (try clear c86); (try clear c87); (try clear c89); (try clear c90); (try clear c91); (try clear hcz10_0); (try clear hcz35_0); (try clear hcz35_1); (try clear hcz35_2); (try clear hcz49_0); (try clear hcz49_1); (try clear hcz54_0); (try clear hcz54_1); (try clear hcz54_2); (try clear hcz56_0); (try clear hcz57_0); (try clear hcz57_1); (try clear hcz74_0); (try clear hcz74_1); (try clear hcz78_0); (try clear hcz78_1); (try clear hcz88_0); (try clear hcz88_1); (try clear hcz92_0); (try clear hcz92_1); (try clear hfz10_0); (try clear hfz35_0); (try clear hfz35_1); (try clear hfz35_2); (try clear hfz49_0); (try clear hfz49_1); (try clear hfz54_0); (try clear hfz54_1); (try clear hfz54_2); (try clear hfz56_0); (try clear hfz57_0); (try clear hfz57_1); (try clear hfz74_0); (try clear hfz74_1); (try clear hfz78_0); (try clear hfz78_1); (try clear hfz88_0); (try clear hfz88_1); (try clear hfz92_0); (try clear hfz92_1); (try clear hx15_0); (try clear hx164_0); (try clear hx164_1); (try clear hx164_2); (try clear hx176_0); (try clear hx176_1); (try clear hx180_0); (try clear hx182_0); (try clear hx20_0); (try clear hx24_0); (try clear hx38_0); (try clear p1); (try clear p15); (try clear p16); (try clear p164); (try clear p17); (try clear p176); (try clear p18); (try clear p180); (try clear p182); (try clear p2); (try clear p20); (try clear p24); (try clear p3); (try clear p38); (try clear p6); (try clear p64); (try clear q1); (try clear q15); (try clear q16); (try clear q164); (try clear q17); (try clear q176); (try clear q18); (try clear q180); (try clear q182); (try clear q2); (try clear q20); (try clear q24); (try clear q3); (try clear q38)
                           obtain ⟨kq, x103_82, rfl, HA, HJ82, HO_7, HO_9, HO_15, BK162, BK163, BK177, BK178, HB⟩ := hcut
                           cases kq with
                           | zero => exact absurd HA.out (by simp [spec_l04Heights.j5])
                           | succ kj82 =>
                            have H := HA.out
                            clear HA
                            simp only [spec_l04Heights.j5] at H
                            have HC93 := am H
                            clear H
                            go_upto_if 103 with (fail)
                            go_cut [15] (fun v15 wc => ∃ (kq : Nat) (x15_92 : List Int), Aside0 (spec_l04Heights.j6 kq a1 ((rd_T100 l0_0 a1).f2) x7_2 y175 (wrap64 ((wrap64 ((rd x7_2 t174) - t179)) + t181)) x15_92 l0_0 a1 t174 5 = some (r1, r2, r3, r4)) ∧ Aside0 (kq ≤ kj82) ∧ Aside0 (Kd.R (Kd.int .i64) 2 wc w.heap.size (fun k_ => some k_ ≠ (v15 : Value).ownBlock) (.slice (some ⟨go20, 0, none⟩) x7_2.length co25) x7_2) ∧ Aside0 (Kd.R Kd.bool 4 wc w.heap.size (fun _ => True) (.slice (some ⟨go24, 0, none⟩) y175.length co24) y175) ∧ Aside0 (Kd.R (Kd.int .i64) 2 wc w.heap.size (fun k_ => some k_ ≠ ((.slice (some ⟨go20, 0, none⟩) x7_2.length co25) : Value).ownBlock) v15 x15_92) ∧ Aside0 (wc.heap[gb162]? = some (.cells #[(.slice (some ad164) l0_0.length c0_0)] 30 (0, 0))) ∧ Aside0 (wc.heap[gb163]? = some (.cells #[.int .i64 x164000_2, .int .i64 x164001_2, .int .i64 x164002_2] 84 (0, 0))) ∧ Aside0 (wc.heap[gb177]? = some (.cells #[.int .i64 ((rd_T102 ((rd_T100 l0_0 a1).f2) t174).f0), .int .i64 ((rd_T102 ((rd_T100 l0_0 a1).f2) t174).f1)] 102 (0, 0))) ∧ Aside0 (wc.heap[gb178]? = some (.cells #[.int .i64 a1, .int .i64 t174, .int .i64 5] 84 (0, 0))) ∧ Aside0 (Below w.heap.size w wc))
                            case first =>
                             have H := HC93.out
                             clear HC93
                             by_cases c94 : x103_82 = true
                             ·subst c94
                              have H1 : (if x15_78.length < 17592186044416 then (spec_l04Heights.j6 kj82 a1 ((rd_T100 l0_0 a1).f2) x7_2 y175 (wrap64 ((wrap64 ((rd x7_2 t174) - t179)) + t181)) (x15_78 ++ [((rd_T102 ((rd_T100 l0_0 a1).f2) t174).f1)]) l0_0 a1 t174 5) else (none)) = some (r1, r2, r3, r4) := by rw [if_pos rfl] at H; exact H
                              clear H
                              have H := H1
                              clear H1
                              by_cases c95 : x15_78.length < 17592186044416
                              ·rw [if_pos c95] at H
                               have LMc95 := am c95
                               clear c95
                               obtain ⟨y189, hy189⟩ : ∃ y_ : List Int, y_ = (x15_78 ++ [((rd_T102 ((rd_T100 l0_0 a1).f2) t174).f1)]) := ⟨_, rfl⟩
                               replace H : (spec_l04Heights.j6 kj82 a1 ((rd_T100 l0_0 a1).f2) x7_2 y175 (wrap64 ((wrap64 ((rd x7_2 t174) - t179)) + t181)) y189 l0_0 a1 t174 5) = some (r1, r2, r3, r4) := by first | (rw [hy189]; with_reducible exact H) | (have H2_ := (Option.bind_some _ _).symm.trans H; rw [hy189]; with_reducible exact H2_) | (have H2_ := (Option.bind_some _ _).symm.trans H; with_reducible exact H2_) | with_reducible exact H | (rw [hy189]; exact H) | exact H
                               have Ny189 := am hy189
                               clear hy189
                               have H' := am H
                               clear H
                               have hnb96 := NB177_162.out
                               have hnc96 := NB162_177.out
                               have hnb97 := NB177_163.out
                               have hnc97 := NB163_177.out
                               have hnb98 := NB177_178.out
                               have hnc98 := NB178_177.out
                               have hcz99_0 : wc.cell? ⟨gb177, 0, none⟩ = some (.int .i64 ((rd_T102 ((rd_T100 l0_0 a1).f2) t174).f0)) := bc BK177 0
                               have hcz99_1 : wc.cell? ⟨gb177, 1, none⟩ = some (.int .i64 ((rd_T102 ((rd_T100 l0_0 a1).f2) t174).f1)) := bc BK177 1
                               have hfz99_0 := bf BK177 0
                               have hfz99_1 := bf BK177 1
                               go_wp2_with (first | ((with_reducible refine gate_builtin (b := .append) (xs := #[.tmp 104, .tmp 107]) rfl ?_); at_builtin; refine Kd.R_append (Kd.int .i64) (w0 := w) w.heap.size rfl (.tmp 104) (.tmp 107) 26 2 (.int .i64 0) 8 rfl Try.underlying26 info2 rfl (by decide) (by omega) u15 x15_78 ((rd_T102 ((rd_T100 l0_0 a1).f2) t174).f1) [.int .i64 ((rd_T102 ((rd_T100 l0_0 a1).f2) t174).f1)] (fun k_ => some k_ ≠ (.slice (some ⟨go20, 0, none⟩) x7_2.length co25 : Value).ownBlock) (fun _ => False) rfl rfl ?aP (fun _ hk => hk.elim) ?aF ?aO ?aB ?aS ?aL ?_; (case aP => exact rfl); (case aB => exact (bw HB)); (case aF => exact (fun k_ hk => Kd.fresh' (Kd.R_lt (kR HO_7)) k_ hk)); (case aO => exact (kR HO_15)); (case aS => exact (below_size (bw HB))); (case aL => have := LMc95.out; omega); intro v190 w100 ho hb hg hat; rw [← Ny189.out] at ho; replace HO_7 := am (Kd.R_after (ok := (fun _ => True)) (by (with_reducible repeat (first | apply Kd.R_alloc | apply Kd.R_drewN | apply Kd.R_drew)); exact Kd.R_mono HO_7.out (fun _ hk => ⟨trivial, hk⟩)) hg hat); replace HO_9 := am (Kd.R_over' (kR HO_9) (Kd.R_typed (kR HO_15)) (by decide) hg); replace BK162 := am (blk_grown (g := gb162) (o := .cells #[.slice (some ad164) l0_0.length c0_0] 30 (0, 0)) (bp BK162) hg (Kd.R_ne HO_15.out BK162.out (by decide))); replace BK163 := am (blk_grown (g := gb163) (o := .cells #[.int .i64 x164000_2, .int .i64 x164001_2, .int .i64 x164002_2] 84 (0, 0)) (bp BK163) hg (Kd.R_ne HO_15.out BK163.out (by decide))); replace BK177 := am (blk_grown (g := gb177) (o := .cells #[.int .i64 ((rd_T102 ((rd_T100 l0_0 a1).f2) t174).f0), .int .i64 ((rd_T102 ((rd_T100 l0_0 a1).f2) t174).f1)] 102 (0, 0)) (bp BK177) hg (Kd.R_ne HO_15.out BK177.out (by decide))); replace BK178 := am (blk_grown (g := gb178) (o := .cells #[.int .i64 a1, .int .i64 t174, .int .i64 5] 84 (0, 0)) (bp BK178) hg (Kd.R_ne HO_15.out BK178.out (by decide))); replace HB := am (hb); have HO191 := am (ho); clear HO_15; clear ho hb hg hat))
                               go_meet
                               case rel => exact ⟨_, (y189), H', ⟨by have := HK1.out; have := HK2.out; have := HJ42.out; have := HJ66.out; have := HJ78.out; have := HJ82.out; first | omega | exact Nat.le_refl _⟩, ⟨by (try simp only [hl7_2]); (try simp only [hl9_2]); (try simp only [hl9_42]); (with_reducible repeat (first | apply Kd.R_alloc | apply Kd.R_drewN | apply Kd.R_drew)); exact Kd.R_mono HO_7.out (fun _ hk => hk.2)⟩, ⟨by (try simp only [hl7_2]); (try simp only [hl9_2]); (try simp only [hl9_42]); exact kR HO_9⟩, ⟨by (try simp only [hl7_2]); (try simp only [hl9_2]); (try simp only [hl9_42]); exact kR HO191⟩, ⟨by (try simp only [hl7_2]); (try simp only [hl9_2]); (try simp only [hl9_42]); exact bp BK162⟩, ⟨by (try simp only [hl7_2]); (try simp only [hl9_2]); (try simp only [hl9_42]); exact bp BK163⟩, ⟨by (try simp only [hl7_2]); (try simp only [hl9_2]); (try simp only [hl9_42]); exact bp BK177⟩, ⟨by (try simp only [hl7_2]); (try simp only [hl9_2]); (try simp only [hl9_42]); exact bp BK178⟩, ⟨bw HB⟩⟩
                              ·rw [if_neg c95] at H
                               exact absurd H (by simp)
                             ·replace c94 := Bool.eq_false_iff.mpr c94
                              subst c94
                              have H1 : (spec_l04Heights.j6 kj82 a1 ((rd_T100 l0_0 a1).f2) x7_2 y175 (wrap64 ((wrap64 ((rd x7_2 t174) - t179)) + t181)) x15_78 l0_0 a1 t174 5) = some (r1, r2, r3, r4) := by rw [if_neg (show ¬ (false = true) by decide)] at H; exact H
                              clear H
                              have H := H1
                              clear H1
                              have H' := am H
                              clear H
                              go_wp2
                              go_meet
                              case rel => exact ⟨_, (x15_78), H', ⟨by have := HK1.out; have := HK2.out; have := HJ42.out; have := HJ66.out; have := HJ78.out; have := HJ82.out; first | omega | exact Nat.le_refl _⟩, ⟨by (try simp only [hl7_2]); (try simp only [hl9_2]); (try simp only [hl9_42]); exact kR HO_7⟩, ⟨by (try simp only [hl7_2]); (try simp only [hl9_2]); (try simp only [hl9_42]); exact kR HO_9⟩, ⟨by (try simp only [hl7_2]); (try simp only [hl9_2]); (try simp only [hl9_42]); exact kR HO_15⟩, ⟨by (try simp only [hl7_2]); (try simp only [hl9_2]); (try simp only [hl9_42]); exact bp BK162⟩, ⟨by (try simp only [hl7_2]); (try simp only [hl9_2]); (try simp only [hl9_42]); exact bp BK163⟩, ⟨by (try simp only [hl7_2]); (try simp only [hl9_2]); (try simp only [hl9_42]); exact bp BK177⟩, ⟨by (try simp only [hl7_2]); (try simp only [hl9_2]); (try simp only [hl9_42]); exact bp BK178⟩, ⟨bw HB⟩⟩
                            case rest =>
                             clear HC93
                             (try clear c1); (try clear p1); (try clear q1); (try clear hx1); (try clear c2); (try clear p2); (try clear q2); (try clear hx2); (try clear qi2); (try clear hf2); (try clear c3); (try clear c3b0); (try clear p3); (try clear q3); (try clear hx3); (try clear hf3); (try clear c4); (try clear c4b0); (try clear c5); (try clear c5b0); (try clear c5b1); (try clear c6); (try clear c6b0); (try clear c6b1); (try clear p6); (try clear c7); (try clear c8); (try clear c9); (try clear c11); (try clear c13); (try clear c13b0); (try clear c14); (try clear c14b0); (try clear p15); (try clear q15); (try clear hx15); (try clear hf15); (try clear c16); (try clear p16); (try clear q16); (try clear hx16); (try clear p17); (try clear q17); (try clear hx17); (try clear p18); (try clear q18); (try clear hx18); (try clear c19); (try clear c19b0); (try clear c19b1); (try clear p20); (try clear q20); (try clear hx20); (try clear qi20); (try clear hf20); (try clear c21); (try clear c21b0); (try clear c21b1); (try clear c22); (try clear c22b0); (try clear c22b1); (try clear c23); (try clear c23b0); (try clear c23b1); (try clear p24); (try clear q24); (try clear hx24); (try clear qi24); (try clear hf24); (try clear c33); (try clear c33b0); (try clear c34); (try clear c36); (try clear c36b0); (try clear c37); (try clear c37b0); (try clear p38); (try clear q38); (try clear hx38); (try clear hf38); (try clear c39); (try clear c39b0); (try clear c41); (try clear c41b0); (try clear c47); (try clear c48); (try clear c51); (try clear c52); (try clear c53); (try clear c55); (try clear c58); (try clear c61); (try clear c61b0); (try clear c62); (try clear p64); (try clear c70); (try clear c70b0); (try clear c70b1); (try clear c71); (try clear c72); (try clear c73); (try clear c75); (try clear c76); (try clear c77); (try clear c80); (try clear c81); (try clear c84); (try clear c84b0); (try clear c84b1); (try clear c85); (try clear c86); (try clear c87); (try clear c89); (try clear c90); (try clear c91); (try clear c94); (try clear c95); (try clear c96); (try clear c97); (try clear c98); (try clear hcz10_0); (try clear hcz35_0); (try clear hcz35_1); (try clear hcz35_2); (try clear hcz49_0); (try clear hcz49_1); (try clear hcz54_0); (try clear hcz54_1); (try clear hcz54_2); (try clear hcz56_0); (try clear hcz57_0); (try clear hcz57_1); (try clear hcz74_0); (try clear hcz74_1); (try clear hcz78_0); (try clear hcz78_1); (try clear hcz88_0); (try clear hcz88_1); (try clear hcz92_0); (try clear hcz92_1); (try clear hcz99_0); (try clear hcz99_1); (try clear hfz10_0); (try clear hfz35_0); (try clear hfz35_1); (try clear hfz35_2); (try clear hfz49_0); (try clear hfz49_1); (try clear hfz54_0); (try clear hfz54_1); (try clear hfz54_2); (try clear hfz56_0); (try clear hfz57_0); (try clear hfz57_1); (try clear hfz74_0); (try clear hfz74_1); (try clear hfz78_0); (try clear hfz78_1); (try clear hfz88_0); (try clear hfz88_1); (try clear hfz92_0); (try clear hfz92_1); (try clear hfz99_0); (try clear hfz99_1); (try clear hx15_0); (try clear hx164_0); (try clear hx164_1); (try clear hx164_2); (try clear hx176_0); (try clear hx176_1); (try clear hx180_0); (try clear hx182_0); (try clear hx20_0); (try clear hx24_0); (try clear hx38_0); (try clear p1); (try clear p15); (try clear p16); (try clear p164); (try clear p17); (try clear p176); (try clear p18); (try clear p180); (try clear p182); (try clear p2); (try clear p20); (try clear p24); (try clear p3); (try clear p38); (try clear p6); (try clear p64); (try clear q1); (try clear q15); (try clear q16); (try clear q164); (try clear q17); (try clear q176); (try clear q18); (try clear q180); (try clear q182); (try clear q2); (try clear q20); (try clear q24); (try clear q3); (try clear q38)
                             obtain ⟨kq, x15_92, HA, HJ92, HO_7, HO_9, HO_15, BK162, BK163, BK177, BK178, HB⟩ := hcut
                             cases kq with
                             | zero => exact absurd HA.out (by simp [spec_l04Heights.j6])
                             | succ kj92 =>
                              have H := HA.out
                              clear HA
                              simp only [spec_l04Heights.j6] at H
                              have H' := am H
                              clear H
                              go_wp2
                              go_loopg [16] kj92 (fun kq v16 w' => ∃ (x7_8 : List Int) (x9_8 : List Bool) (x16_8 : Int) (x164000_8 : Int) (x164001_8 : Int) (x164002_8 : Int) (x179002_8 : Int), v16 = .int .i64 x16_8 ∧ Aside0 (spec_l04Heights.l2 kq a1 ((rd_T100 l0_0 a1).f2) x7_8 x9_8 (wrap64 ((wrap64 ((rd x7_2 t174) - t179)) + t181)) x15_92 x16_8 l0_0 a1 t174 x179002_8 = some (r1, r2, r3, r4)) ∧ Aside0 (kq ≤ kj92) ∧ Aside0 (Kd.R (Kd.int .i64) 2 w' w.heap.size (fun k_ => some k_ ≠ (u15 : Value).ownBlock) (.slice (some ⟨go20, 0, none⟩) x7_2.length co25) x7_8) ∧ Aside0 (Kd.R Kd.bool 4 w' w.heap.size (fun _ => True) (.slice (some ⟨go24, 0, none⟩) y175.length co24) x9_8) ∧ Aside0 (Kd.R (Kd.int .i64) 2 w' w.heap.size (fun k_ => some k_ ≠ ((.slice (some ⟨go20, 0, none⟩) x7_2.length co25) : Value).ownBlock) u15 x15_92) ∧ Aside0 (w'.heap[gb162]? = some (.cells #[(.slice (some ad164) l0_0.length c0_0)] 30 (0, 0))) ∧ Aside0 (w'.heap[gb163]? = some (.cells #[.int .i64 x164000_8, .int .i64 x164001_8, .int .i64 x164002_8] 84 (0, 0))) ∧ Aside0 (w'.heap[gb177]? = some (.cells #[.int .i64 ((rd_T102 ((rd_T100 l0_0 a1).f2) t174).f0), .int .i64 ((rd_T102 ((rd_T100 l0_0 a1).f2) t174).f1)] 102 (0, 0))) ∧ Aside0 (w'.heap[gb178]? = some (.cells #[.int .i64 a1, .int .i64 t174, .int .i64 x179002_8] 84 (0, 0))) ∧ Aside0 (Below w.heap.size w w'))
                              case atStart => exact ⟨(x7_2), (y175), (0), (x164000_2), (x164001_2), (x164002_2), (5), dr, H', ⟨Nat.le_refl _⟩, ⟨by (try simp only [hl7_2]); (try simp only [hl9_2]); (try simp only [hl9_42]); exact kR HO_7⟩, ⟨by (try simp only [hl7_2]); (try simp only [hl9_2]); (try simp only [hl9_42]); exact kR HO_9⟩, ⟨by (try simp only [hl7_2]); (try simp only [hl9_2]); (try simp only [hl9_42]); exact kR HO_15⟩, ⟨by (try simp only [hl7_2]); (try simp only [hl9_2]); (try simp only [hl9_42]); exact bp BK162⟩, ⟨by (try simp only [hl7_2]); (try simp only [hl9_2]); (try simp only [hl9_42]); exact bp BK163⟩, ⟨by (try simp only [hl7_2]); (try simp only [hl9_2]); (try simp only [hl9_42]); exact bp BK177⟩, ⟨by (try simp only [hl7_2]); (try simp only [hl9_2]); (try simp only [hl9_42]); exact bp BK178⟩, ⟨bw HB⟩⟩
                              case round =>
                               clear H'
                               (try clear c1); (try clear p1); (try clear q1); (try clear hx1); (try clear c2); (try clear p2); (try clear q2); (try clear hx2); (try clear qi2); (try clear hf2); (try clear c3); (try clear c3b0); (try clear p3); (try clear q3); (try clear hx3); (try clear hf3); (try clear c4); (try clear c4b0); (try clear c5); (try clear c5b0); (try clear c5b1); (try clear c6); (try clear c6b0); (try clear c6b1); (try clear p6); (try clear c7); (try clear c8); (try clear c9); (try clear c11); (try clear c13); (try clear c13b0); (try clear c14); (try clear c14b0); (try clear p15); (try clear q15); (try clear hx15); (try clear hf15); (try clear c16); (try clear p16); (try clear q16); (try clear hx16); (try clear p17); (try clear q17); (try clear hx17); (try clear p18); (try clear q18); (try clear hx18); (try clear c19); (try clear c19b0); (try clear c19b1); (try clear p20); (try clear q20); (try clear hx20); (try clear qi20); (try clear hf20); (try clear c21); (try clear c21b0); (try clear c21b1); (try clear c22); (try clear c22b0); (try clear c22b1); (try clear c23); (try clear c23b0); (try clear c23b1); (try clear p24); (try clear q24); (try clear hx24); (try clear qi24); (try clear hf24); (try clear c33); (try clear c33b0); (try clear c34); (try clear c36); (try clear c36b0); (try clear c37); (try clear c37b0); (try clear p38); (try clear q38); (try clear hx38); (try clear hf38); (try clear c39); (try clear c39b0); (try clear c41); (try clear c41b0); (try clear c47); (try clear c48); (try clear c51); (try clear c52); (try clear c53); (try clear c55); (try clear c58); (try clear c61); (try clear c61b0); (try clear c62); (try clear p64); (try clear c70); (try clear c70b0); (try clear c70b1); (try clear c71); (try clear c72); (try clear c73); (try clear c75); (try clear c76); (try clear c77); (try clear c80); (try clear c81); (try clear c84); (try clear c84b0); (try clear c84b1); (try clear c85); (try clear c86); (try clear c87); (try clear c89); (try clear c90); (try clear c91); (try clear c94); (try clear c95); (try clear c96); (try clear c97); (try clear c98); (try clear hcz10_0); (try clear hcz35_0); (try clear hcz35_1); (try clear hcz35_2); (try clear hcz49_0); (try clear hcz49_1); (try clear hcz54_0); (try clear hcz54_1); (try clear hcz54_2); (try clear hcz56_0); (try clear hcz57_0); (try clear hcz57_1); (try clear hcz74_0); (try clear hcz74_1); (try clear hcz78_0); (try clear hcz78_1); (try clear hcz88_0); (try clear hcz88_1); (try clear hcz92_0); (try clear hcz92_1); (try clear hcz99_0); (try clear hcz99_1); (try clear hfz10_0); (try clear hfz35_0); (try clear hfz35_1); (try clear hfz35_2); (try clear hfz49_0); (try clear hfz49_1); (try clear hfz54_0); (try clear hfz54_1); (try clear hfz54_2); (try clear hfz56_0); (try clear hfz57_0); (try clear hfz57_1); (try clear hfz74_0); (try clear hfz74_1); (try clear hfz78_0); (try clear hfz78_1); (try clear hfz88_0); (try clear hfz88_1); (try clear hfz92_0); (try clear hfz92_1); (try clear hfz99_0); (try clear hfz99_1); (try clear hx15_0); (try clear hx164_0); (try clear hx164_1); (try clear hx164_2); (try clear hx176_0); (try clear hx176_1); (try clear hx180_0); (try clear hx182_0); (try clear hx20_0); (try clear hx24_0); (try clear hx38_0); (try clear p1); (try clear p15); (try clear p16); (try clear p164); (try clear p17); (try clear p176); (try clear p18); (try clear p180); (try clear p182); (try clear p2); (try clear p20); (try clear p24); (try clear p3); (try clear p38); (try clear p6); (try clear p64); (try clear q1); (try clear q15); (try clear q16); (try clear q164); (try clear q17); (try clear q176); (try clear q18); (try clear q180); (try clear q182); (try clear q2); (try clear q20); (try clear q24); (try clear q3); (try clear q38)
                               obtain ⟨x7_8, x9_8, x16_8, x164000_8, x164001_8, x164002_8, x179002_8, rfl, HA, HK8, HO_7, HO_9, HO_15, BK162, BK163, BK177, BK178, HB⟩ := hrel
                               have hl7_8 := (Kd.R_reads' HO_7.out).1
                               rw [hl7_8] at HO_7
                               (try simp only [hl7_8])
                               (try simp only [hl7_8] at BK162)
                               (try simp only [hl7_8] at BK163)
                               (try simp only [hl7_8] at BK177)
                               (try simp only [hl7_8] at BK178)
                               (try simp only [hl7_8] at HO_9)
                               (try simp only [hl7_8] at HO_15)
                               have hl9_8 := (Kd.R_reads' HO_9.out).1
                               rw [hl9_8] at HO_9
                               (try simp only [hl9_8])
                               (try simp only [hl9_8] at BK162)
                               (try simp only [hl9_8] at BK163)
                               (try simp only [hl9_8] at BK177)
                               (try simp only [hl9_8] at BK178)
                               (try simp only [hl9_8] at HO_7)
                               (try simp only [hl9_8] at HO_15)
                               cases gk with
                               | zero => exact absurd HA.out (by simp [spec_l04Heights.l2])
                               | succ k8 =>
                                have H := HA.out
                                clear HA
                                simp only [spec_l04Heights.l2] at H
                                by_cases c101 : x16_8 < (x15_92.length : Int)
                                ·rw [if_pos c101] at H
                                 have c101b0 := decide_eq_true c101
                                 (try (have c101b0hl7_2 := c101b0; rw [hl7_2] at c101b0hl7_2))
                                 (try (have c101b0hl9_2 := c101b0; rw [hl9_2] at c101b0hl9_2))
                                 (try (have c101b0hl9_42 := c101b0; rw [hl9_42] at c101b0hl9_42))
                                 (try (have c101b0hl7_8 := c101b0; rw [hl7_8] at c101b0hl7_8))
                                 (try (have c101b0hl9_8 := c101b0; rw [hl9_8] at c101b0hl9_8))
                                 clear c101
                                 by_cases c102 : 0 ≤ x16_8
                                 ·rw [if_pos c102] at H
                                  have c102b0 := decide_eq_true c102
                                  clear c102
                                  by_cases c103 : (rd x15_92 x16_8) ≥ (((rd_T100 l0_0 a1).f2).length : Int)
                                  ·rw [if_pos c103] at H
                                   have c103b0 : decide ((((rd_T100 l0_0 a1).f2).length : Int) ≤ (rd x15_92 x16_8)) = true := decide_eq_true c103
                                   (try (have c103b0hl7_2 := c103b0; rw [hl7_2] at c103b0hl7_2))
                                   (try (have c103b0hl9_2 := c103b0; rw [hl9_2] at c103b0hl9_2))
                                   (try (have c103b0hl9_42 := c103b0; rw [hl9_42] at c103b0hl9_42))
                                   (try (have c103b0hl7_8 := c103b0; rw [hl7_8] at c103b0hl7_8))
                                   (try (have c103b0hl9_8 := c103b0; rw [hl9_8] at c103b0hl9_8))
                                   clear c103
                                   simp only [Option.some.injEq, Prod.mk.injEq] at H
                                   obtain ⟨rfl, rfl, rfl, rfl⟩ := H
                                   obtain ⟨Ao104, co104, eo104⟩ := Kd.R_slice HO_15.out
                                   subst eo104
                                   have p192 : 0 ≤ (x16_8 : Int) := of_decide_eq_true as1
                                   have q192 : x16_8 < (x15_92.length : Int) := of_decide_eq_true as1
                                   obtain ⟨ad192, e192, hx192_0⟩ := Kd.at_int (Kd.R_reads' HO_15.out).2.2 x16_8 p192 q192
                                   cases e192
                                   replace p192 := eq_true p192
                                   replace q192 := eq_true q192
                                   have hnb105 := NB178_162.out
                                   have hnc105 := NB162_178.out
                                   have hnb106 := NB178_163.out
                                   have hnc106 := NB163_178.out
                                   have hnb107 := NB178_177.out
                                   have hnc107 := NB177_178.out
                                   have hcz108_0 : wr.cell? ⟨gb178, 0, none⟩ = some (.int .i64 a1) := bc BK178 0
                                   have hcz108_1 : wr.cell? ⟨gb178, 1, none⟩ = some (.int .i64 t174) := bc BK178 1
                                   have hcz108_2 : wr.cell? ⟨gb178, 2, none⟩ = some (.int .i64 x179002_8) := bc BK178 2
                                   have hfz108_0 := bf BK178 0
                                   have hfz108_1 := bf BK178 1
                                   have hfz108_2 := bf BK178 2
                                   try go_wp2
                                   have n0_ : Aside0 (Kd.R (Kd.int .i64) 2 (wr.setCell ⟨gb178, 2, none⟩ (.int .i64 6)) w.heap.size (fun k_ => some k_ ≠ (.slice (some ad192) x15_92.length co104 : Value).ownBlock) (.slice (some ⟨go20, 0, none⟩) x7_8.length co25) x7_8) := ⟨by (with_reducible repeat (first | apply Kd.R_alloc | apply Kd.R_drewN | apply Kd.R_drew)); exact Kd.R_mono (Kd.R_far (p := ⟨gb178, 2, none⟩) (Kd.R_types HO_7.out BK178.out (by decide)) (fun _ hk => hk.2) (.int .i64 6)) (fun _ hk => hk.1)⟩
                                   have n1_ : Aside0 (Kd.R Kd.bool 4 (wr.setCell ⟨gb178, 2, none⟩ (.int .i64 6)) w.heap.size (fun _ => True) (.slice (some ⟨go24, 0, none⟩) x9_8.length co24) x9_8) := ⟨by (with_reducible repeat (first | apply Kd.R_alloc | apply Kd.R_drewN | apply Kd.R_drew)); exact Kd.R_mono (Kd.R_far (p := ⟨gb178, 2, none⟩) (Kd.R_types HO_9.out BK178.out (by decide)) (fun _ hk => hk.2) (.int .i64 6)) (fun _ hk => trivial)⟩
                                   have n2_ : Aside0 (Kd.R (Kd.int .i64) 2 (wr.setCell ⟨gb178, 2, none⟩ (.int .i64 6)) w.heap.size (fun k_ => some k_ ≠ (.slice (some ⟨go20, 0, none⟩) x7_8.length co25 : Value).ownBlock) (.slice (some ad192) x15_92.length co104) x15_92) := ⟨by (with_reducible repeat (first | apply Kd.R_alloc | apply Kd.R_drewN | apply Kd.R_drew)); exact Kd.R_mono (Kd.R_far (p := ⟨gb178, 2, none⟩) (Kd.R_types HO_15.out BK178.out (by decide)) (fun _ hk => hk.2) (.int .i64 6)) (fun _ hk => hk.1)⟩
                                   have n3_ : Aside0 ((wr.setCell ⟨gb178, 2, none⟩ (.int .i64 6)).heap[gb162]? = some (.cells #[.slice (some ad164) l0_0.length c0_0] 30 (0, 0))) := ⟨by (with_reducible repeat (first | apply dN | apply dW | apply dA)); refine blk_far ?_ NB162_178.out _; exact bp BK162⟩
                                   have n4_ : Aside0 ((wr.setCell ⟨gb178, 2, none⟩ (.int .i64 6)).heap[gb163]? = some (.cells #[.int .i64 x164000_8, .int .i64 x164001_8, .int .i64 x164002_8] 84 (0, 0))) := ⟨by (with_reducible repeat (first | apply dN | apply dW | apply dA)); refine blk_far ?_ NB163_178.out _; exact bp BK163⟩
                                   have n5_ : Aside0 ((wr.setCell ⟨gb178, 2, none⟩ (.int .i64 6)).heap[gb177]? = some (.cells #[.int .i64 ((rd_T102 ((rd_T100 l0_0 a1).f2) t174).f0), .int .i64 ((rd_T102 ((rd_T100 l0_0 a1).f2) t174).f1)] 102 (0, 0))) := ⟨by (with_reducible repeat (first | apply dN | apply dW | apply dA)); refine blk_far ?_ NB177_178.out _; exact bp BK177⟩
                                   have n6_ : Aside0 ((wr.setCell ⟨gb178, 2, none⟩ (.int .i64 6)).heap[gb178]? = some (.cells #[.int .i64 a1, .int .i64 t174, .int .i64 6] 84 (0, 0))) := ⟨by (with_reducible repeat (first | apply dN | apply dW | apply dA)); refine blk_put (cs := #[.int .i64 a1, .int .i64 t174, .int .i64 x179002_8]) ?_ 2 _ rfl; exact bp BK178⟩
                                   have n7_ : Aside0 (Below w.heap.size w (wr.setCell ⟨gb178, 2, none⟩ (.int .i64 6))) := ⟨bw HB⟩
                                   (try clear HO_7)
                                   (try clear HO_9)
                                   (try clear HO_15)
                                   (try clear BK162)
                                   (try clear BK163)
                                   (try clear BK177)
                                   (try clear BK178)
                                   (try clear HB)
                                   generalize (wr.setCell ⟨gb178, 2, none⟩ (.int .i64 6)) = w109 at n0_ n1_ n2_ n3_ n4_ n5_ n6_ n7_ ⊢
                                   have HO_7 := n0_
                                   have HO_9 := n1_
                                   have HO_15 := n2_
                                   have BK162 := n3_
                                   have BK163 := n4_
                                   have BK177 := n5_
                                   have BK178 := n6_
                                   have HB := n7_
                                   clear n0_ n1_ n2_ n3_ n4_ n5_ n6_ n7_
                                   have n0_ := am (Kd.R_drew HO_7.out)
                                   have n1_ := am (Kd.R_drew HO_9.out)
                                   have n2_ := am (Kd.R_drew HO_15.out)
                                   have n3_ := am (blk_drew BK162.out)
                                   have n4_ := am (blk_drew BK163.out)
                                   have n5_ := am (blk_drew BK177.out)
                                   have n6_ := am (blk_drew BK178.out)
                                   have n7_ := am (below_drew1 HB.out)
                                   clear HO_7
                                   clear HO_9
                                   clear HO_15
                                   clear BK162
                                   clear BK163
                                   clear BK177
                                   clear BK178
                                   clear HB
                                   have HO_7 := n0_
                                   have HO_9 := n1_
                                   have HO_15 := n2_
                                   have BK162 := n3_
                                   have BK163 := n4_
                                   have BK177 := n5_
                                   have BK178 := n6_
                                   have HB := n7_
                                   clear n0_ n1_ n2_ n3_ n4_ n5_ n6_ n7_
                                   refine start_ (n := 4) (S := fun w' => w'.cell? ⟨gb178, 0, none⟩ = some (.int .i64 a1) ∧ w'.cell? ⟨gb178, 1, none⟩ = some (.int .i64 t174) ∧ w'.cell? ⟨gb178, 2, none⟩ = some (.int .i64 6)) (ds := []) #[false, false, false, false] (by kernel_rfl) rfl rfl ⟨bc BK178 0, bc BK178 1, bc BK178 2⟩ (fun hHeld => ?_)
                                   generalize w109.drew = w110 at HO_7 HO_9 HO_15 BK162 BK163 BK177 BK178 HB hHeld ⊢
                                   refine pure_ (i := 0) (N := some 123) (v := ?_) (a' := ?_) #[true, false, false, false] rfl rfl (by kernel_rfl) (fun _ _ _ h => h) (Or.inl ⟨by rfl, ?_⟩) ?_ ?_
                                   rotate_left
                                   ·intro w'
                                    go_simp
                                    with_reducible rfl
                                   rotate_left
                                   ·simp only [Act.put, sa, sz, ss, i64_w, i32_w]
                                    rfl
                                   refine pure_ (i := 2) (N := some 4) (v := ?_) (a' := ?_) #[true, false, true, false] rfl rfl (by kernel_rfl) (fun _ _ _ h => h) (Or.inl ⟨by rfl, ?_⟩) ?_ ?_
                                   rotate_left
                                   ·intro w'
                                    go_simp
                                    with_reducible rfl
                                   rotate_left
                                   ·simp only [Act.put, sa, sz, ss, i64_w, i32_w]
                                    rfl
                                   refine take_ (i := 1) (N := some 124) (v := ?_) (a' := ?_) #[true, true, true, false] rfl rfl (by kernel_rfl) (fun _ _ _ h => h) (Or.inl ⟨by rfl, ?_⟩) hHeld ?_ ?_
                                   rotate_left
                                   ·rintro w' ⟨s0, s1, s2⟩
                                    go_simp
                                    with_reducible rfl
                                   rotate_left
                                   ·simp only [Act.put, sa, sz, ss, i64_w, i32_w]
                                    rfl
                                   refine one_ (i := 3) (N := none) #[true, true, true, true] rfl rfl (by kernel_rfl) (by decide) (fun K hK => ?_)
                                   have hs111 : w110.cell? ⟨gb163, 0, none⟩ = some (.int .i64 x164000_8) := bc BK163 0
                                   have hfs111 := bf BK163 0
                                   have hns111_0 := NB162_163.out
                                   have hns111_2 := NB177_163.out
                                   have hns111_3 := NB178_163.out
                                   have hms111_0 := NB163_162.out
                                   have hms111_2 := NB163_177.out
                                   have hms111_3 := NB163_178.out
                                   have hs112 : w110.cell? ⟨gb163, 1, none⟩ = some (.int .i64 x164001_8) := bc BK163 1
                                   have hfs112 := bf BK163 1
                                   have hns112_0 := NB162_163.out
                                   have hns112_2 := NB177_163.out
                                   have hns112_3 := NB178_163.out
                                   have hms112_0 := NB163_162.out
                                   have hms112_2 := NB163_177.out
                                   have hms112_3 := NB163_178.out
                                   have hs113 : w110.cell? ⟨gb163, 2, none⟩ = some (.int .i64 x164002_8) := bc BK163 2
                                   have hfs113 := bf BK163 2
                                   have hns113_0 := NB162_163.out
                                   have hns113_2 := NB177_163.out
                                   have hns113_3 := NB178_163.out
                                   have hms113_0 := NB163_162.out
                                   have hms113_2 := NB163_177.out
                                   have hms113_3 := NB163_178.out
                                   refine skip_ (w1 := ?_) (by rfl) rfl ?_ ?_
                                   rotate_left
                                   ·go_simp
                                    rfl
                                   refine hK.out _ _ ⟨((cell_far (p := ⟨gb163, _, none⟩) NB178_163.out _).trans (((cell_far (p := ⟨gb163, _, none⟩) NB178_163.out _).trans (((cell_far (p := ⟨gb163, _, none⟩) NB178_163.out _).trans (hHeld.1)))))), ((cell_far (p := ⟨gb163, _, none⟩) NB178_163.out _).trans (((cell_far (p := ⟨gb163, _, none⟩) NB178_163.out _).trans (((cell_far (p := ⟨gb163, _, none⟩) NB178_163.out _).trans (hHeld.2.1)))))), ((cell_far (p := ⟨gb163, _, none⟩) NB178_163.out _).trans (((cell_far (p := ⟨gb163, _, none⟩) NB178_163.out _).trans (((cell_far (p := ⟨gb163, _, none⟩) NB178_163.out _).trans (hHeld.2.2))))))⟩ (fun hHeld => ?_)
                                   clear hK K
                                   refine done_ (by kernel_rfl) ?_
                                   try go_wp2
                                   refine bodyPost_ret (results_tc rfl _ _ gb163 84 #[.int .i64 a1, .int .i64 t174, .int .i64 6] (0, 0) _ rfl (by (with_reducible repeat (first | apply dN | apply dW | apply dA)); refine blk_put (cs := #[.int .i64 a1, .int .i64 t174, .int .i64 x164002_8]) ?_ 2 _ rfl; (with_reducible repeat (first | apply dN | apply dW | apply dA)); refine blk_put (cs := #[.int .i64 a1, .int .i64 x164001_8, .int .i64 x164002_8]) ?_ 1 _ rfl; (with_reducible repeat (first | apply dN | apply dW | apply dA)); refine blk_put (cs := #[.int .i64 x164000_8, .int .i64 x164001_8, .int .i64 x164002_8]) ?_ 0 _ rfl; exact bp BK163) Try.underlying84 rfl (by kernel_rfl)) rfl ?_
                                   exact ⟨_, er, by (with_reducible repeat (first | apply Kd.R_alloc | apply Kd.R_drewN | apply Kd.R_drew)); exact Kd.R_mono (Kd.R_far (p := ⟨gb163, 2, none⟩) (Kd.R_far (p := ⟨gb163, 1, none⟩) (Kd.R_far (p := ⟨gb163, 0, none⟩) (Kd.R_types HO_7.out BK163.out (by decide)) (fun _ hk => hk.2) (.int .i64 a1)) (fun _ hk => hk.2) (.int .i64 t174)) (fun _ hk => hk.2) (.int .i64 6)) (fun _ hk => trivial), bw HB⟩
                                  ·rw [if_neg c103] at H
                                   have c103b0 : decide ((((rd_T100 l0_0 a1).f2).length : Int) ≤ (rd x15_92 x16_8)) = false := decide_eq_false c103
                                   (try (have c103b0hl7_2 := c103b0; rw [hl7_2] at c103b0hl7_2))
                                   (try (have c103b0hl9_2 := c103b0; rw [hl9_2] at c103b0hl9_2))
                                   (try (have c103b0hl9_42 := c103b0; rw [hl9_42] at c103b0hl9_42))
                                   (try (have c103b0hl7_8 := c103b0; rw [hl7_8] at c103b0hl7_8))
                                   (try (have c103b0hl9_8 := c103b0; rw [hl9_8] at c103b0hl9_8))
                                   clear c103
                                   have HC114 := am H
                                   clear H
                                   obtain ⟨Ao115, co115, eo115⟩ := Kd.R_slice HO_15.out
                                   subst eo115
                                   have p192 : 0 ≤ (x16_8 : Int) := of_decide_eq_true as1
                                   have q192 : x16_8 < (x15_92.length : Int) := of_decide_eq_true as1
                                   obtain ⟨ad192, e192, hx192_0⟩ := Kd.at_int (Kd.R_reads' HO_15.out).2.2 x16_8 p192 q192
                                   cases e192
                                   replace p192 := eq_true p192
                                   replace q192 := eq_true q192
                                   go_upto_region 31 with (fail)
                                   go_cut [143] (fun v143 wc => ∃ (kq : Nat) (x143_113 : Bool), v143 = .bool x143_113 ∧ Aside0 (spec_l04Heights.j8 kq a1 ((rd_T100 l0_0 a1).f2) x7_8 x9_8 (wrap64 ((wrap64 ((rd x7_2 t174) - t179)) + t181)) x15_92 x16_8 x143_113 l0_0 a1 t174 x179002_8 = some (r1, r2, r3, r4)) ∧ Aside0 (kq ≤ k8) ∧ Aside0 (Kd.R (Kd.int .i64) 2 wc w.heap.size (fun k_ => some k_ ≠ ((.slice (some ad192) x15_92.length co115) : Value).ownBlock) (.slice (some ⟨go20, 0, none⟩) x7_8.length co25) x7_8) ∧ Aside0 (Kd.R Kd.bool 4 wc w.heap.size (fun _ => True) (.slice (some ⟨go24, 0, none⟩) x9_8.length co24) x9_8) ∧ Aside0 (Kd.R (Kd.int .i64) 2 wc w.heap.size (fun k_ => some k_ ≠ ((.slice (some ⟨go20, 0, none⟩) x7_8.length co25) : Value).ownBlock) (.slice (some ad192) x15_92.length co115) x15_92) ∧ Aside0 (wc.heap[gb162]? = some (.cells #[(.slice (some ad164) l0_0.length c0_0)] 30 (0, 0))) ∧ Aside0 (wc.heap[gb163]? = some (.cells #[.int .i64 x164000_8, .int .i64 x164001_8, .int .i64 x164002_8] 84 (0, 0))) ∧ Aside0 (wc.heap[gb177]? = some (.cells #[.int .i64 ((rd_T102 ((rd_T100 l0_0 a1).f2) t174).f0), .int .i64 ((rd_T102 ((rd_T100 l0_0 a1).f2) t174).f1)] 102 (0, 0))) ∧ Aside0 (wc.heap[gb178]? = some (.cells #[.int .i64 a1, .int .i64 t174, .int .i64 x179002_8] 84 (0, 0))) ∧ Aside0 (Below w.heap.size w wc))
                                   case first =>
                                    have H := HC114.out
                                    clear HC114
                                    by_cases c116 : 0 ≤ (rd x15_92 x16_8)
                                    ·rw [if_pos c116] at H
                                     have c116b0 := decide_eq_true c116
                                     clear c116
                                     (first | rw [c116b0] | (simp only [i64_w, i32_w]; rw [c116b0]) | skip)
                                     by_cases c117 : (rd x15_92 x16_8) < (x7_8.length : Int)
                                     ·rw [if_pos c117] at H
                                      have c117b0 := decide_eq_true c117
                                      (try (have c117b0hl7_2 := c117b0; rw [hl7_2] at c117b0hl7_2))
                                      (try (have c117b0hl9_2 := c117b0; rw [hl9_2] at c117b0hl9_2))
                                      (try (have c117b0hl9_42 := c117b0; rw [hl9_42] at c117b0hl9_42))
                                      (try (have c117b0hl7_8 := c117b0; rw [hl7_8] at c117b0hl7_8))
                                      (try (have c117b0hl9_8 := c117b0; rw [hl9_8] at c117b0hl9_8))
                                      clear c117
                                      by_cases c118 : (rd x7_8 (rd x15_92 x16_8)) ≥ 0
                                      ·rw [if_pos c118] at H
                                       have c118b0 : decide (0 ≤ (rd x7_8 (rd x15_92 x16_8))) = true := decide_eq_true c118
                                       clear c118
                                       have H' := am H
                                       clear H
                                       have p193 : 0 ≤ (x16_8 : Int) := of_decide_eq_true as1
                                       have q193 : x16_8 < (x15_92.length : Int) := of_decide_eq_true as1
                                       obtain ⟨ad193, e193, hx193_0⟩ := Kd.at_int (Kd.R_reads' HO_15.out).2.2 x16_8 p193 q193
                                       obtain rfl : ad192 = ad193 := (by injection e193)
                                       replace p193 := eq_true p193
                                       replace q193 := eq_true q193
                                       have p194 : 0 ≤ ((rd x15_92 x16_8) : Int) := of_decide_eq_true as1
                                       have q194 : (rd x15_92 x16_8) < (x7_8.length : Int) := of_decide_eq_true as1
                                       obtain ⟨ad194, e194, hx194_0⟩ := Kd.at_int (Kd.R_reads' HO_7.out).2.2 (rd x15_92 x16_8) p194 q194
                                       obtain rfl : (⟨go20, 0, none⟩ : Addr) = ad194 := (by injection e194)
                                       (first | simp only [add_plain] at hx194_0 | simp only [add_at] at hx194_0 | simp only [Addr.add, Nat.zero_add] at hx194_0 | skip)
                                       replace p194 := eq_true p194
                                       replace q194 := eq_true q194
                                       have p195 : 0 ≤ (x16_8 : Int) := of_decide_eq_true as1
                                       have q195 : x16_8 < (x15_92.length : Int) := of_decide_eq_true as1
                                       obtain ⟨ad195, e195, hx195_0⟩ := Kd.at_int (Kd.R_reads' HO_15.out).2.2 x16_8 p195 q195
                                       obtain rfl : ad192 = ad195 := (by injection e195)
                                       replace p195 := eq_true p195
                                       replace q195 := eq_true q195
                                       have p196 : 0 ≤ ((rd x15_92 x16_8) : Int) := of_decide_eq_true as1
                                       have q196 : (rd x15_92 x16_8) < (x7_8.length : Int) := of_decide_eq_true as1
                                       obtain ⟨ad196, e196, hx196_0⟩ := Kd.at_int (Kd.R_reads' HO_7.out).2.2 (rd x15_92 x16_8) p196 q196
                                       obtain rfl : (⟨go20, 0, none⟩ : Addr) = ad196 := (by injection e196)
                                       (first | simp only [add_plain] at hx196_0 | simp only [add_at] at hx196_0 | simp only [Addr.add, Nat.zero_add] at hx196_0 | skip)
                                       replace p196 := eq_true p196
                                       replace q196 := eq_true q196
                                       go_wp2
                                       go_meet
                                       case rel => exact ⟨_, (((rd x7_8 (rd x15_92 x16_8)) != (wrap64 ((wrap64 ((rd x7_2 t174) - t179)) + t181)))), dr, H', ⟨by have := HK1.out; have := HK2.out; have := HJ42.out; have := HJ66.out; have := HJ78.out; have := HJ82.out; have := HJ92.out; have := HK8.out; first | omega | exact Nat.le_refl _⟩, ⟨by (try simp only [hl7_2]); (try simp only [hl9_2]); (try simp only [hl9_42]); (try simp only [hl7_8]); (try simp only [hl9_8]); exact kR HO_7⟩, ⟨by (try simp only [hl7_2]); (try simp only [hl9_2]); (try simp only [hl9_42]); (try simp only [hl7_8]); (try simp only [hl9_8]); exact kR HO_9⟩, ⟨by (try simp only [hl7_2]); (try simp only [hl9_2]); (try simp only [hl9_42]); (try simp only [hl7_8]); (try simp only [hl9_8]); exact kR HO_15⟩, ⟨by (try simp only [hl7_2]); (try simp only [hl9_2]); (try simp only [hl9_42]); (try simp only [hl7_8]); (try simp only [hl9_8]); exact bp BK162⟩, ⟨by (try simp only [hl7_2]); (try simp only [hl9_2]); (try simp only [hl9_42]); (try simp only [hl7_8]); (try simp only [hl9_8]); exact bp BK163⟩, ⟨by (try simp only [hl7_2]); (try simp only [hl9_2]); (try simp only [hl9_42]); (try simp only [hl7_8]); (try simp only [hl9_8]); exact bp BK177⟩, ⟨by (try simp only [hl7_2]); (try simp only [hl9_2]); (try simp only [hl9_42]); (try simp only [hl7_8]); (try simp only [hl9_8]); exact bp BK178⟩, ⟨bw HB⟩⟩
                                      ·rw [if_neg c118] at H
                                       have c118b0 : decide (0 ≤ (rd x7_8 (rd x15_92 x16_8))) = false := decide_eq_false c118
                                       clear c118
                                       have H' := am H
                                       clear H
                                       have p193 : 0 ≤ (x16_8 : Int) := of_decide_eq_true as1
                                       have q193 : x16_8 < (x15_92.length : Int) := of_decide_eq_true as1
                                       obtain ⟨ad193, e193, hx193_0⟩ := Kd.at_int (Kd.R_reads' HO_15.out).2.2 x16_8 p193 q193
                                       obtain rfl : ad192 = ad193 := (by injection e193)
                                       replace p193 := eq_true p193
                                       replace q193 := eq_true q193
                                       have p194 : 0 ≤ ((rd x15_92 x16_8) : Int) := of_decide_eq_true as1
                                       have q194 : (rd x15_92 x16_8) < (x7_8.length : Int) := of_decide_eq_true as1
                                       obtain ⟨ad194, e194, hx194_0⟩ := Kd.at_int (Kd.R_reads' HO_7.out).2.2 (rd x15_92 x16_8) p194 q194
                                       obtain rfl : (⟨go20, 0, none⟩ : Addr) = ad194 := (by injection e194)
                                       (first | simp only [add_plain] at hx194_0 | simp only [add_at] at hx194_0 | simp only [Addr.add, Nat.zero_add] at hx194_0 | skip)
                                       replace p194 := eq_true p194
                                       replace q194 := eq_true q194
                                       go_wp2
                                       go_meet
                                       case rel => exact ⟨_, (false), dr, H', ⟨by have := HK1.out; have := HK2.out; have := HJ42.out; have := HJ66.out; have := HJ78.out; have := HJ82.out; have := HJ92.out; have := HK8.out; first | omega | exact Nat.le_refl _⟩, ⟨by (try simp only [hl7_2]); (try simp only [hl9_2]); (try simp only [hl9_42]); (try simp only [hl7_8]); (try simp only [hl9_8]); exact kR HO_7⟩, ⟨by (try simp only [hl7_2]); (try simp only [hl9_2]); (try simp only [hl9_42]); (try simp only [hl7_8]); (try simp only [hl9_8]); exact kR HO_9⟩, ⟨by (try simp only [hl7_2]); (try simp only [hl9_2]); (try simp only [hl9_42]); (try simp only [hl7_8]); (try simp only [hl9_8]); exact kR HO_15⟩, ⟨by (try simp only [hl7_2]); (try simp only [hl9_2]); (try simp only [hl9_42]); (try simp only [hl7_8]); (try simp only [hl9_8]); exact bp BK162⟩, ⟨by (try simp only [hl7_2]); (try simp only [hl9_2]); (try simp only [hl9_42]); (try simp only [hl7_8]); (try simp only [hl9_8]); exact bp BK163⟩, ⟨by (try simp only [hl7_2]); (try simp only [hl9_2]); (try simp only [hl9_42]); (try simp only [hl7_8]); (try simp only [hl9_8]); exact bp BK177⟩, ⟨by (try simp only [hl7_2]); (try simp only [hl9_2]); (try simp only [hl9_42]); (try simp only [hl7_8]); (try simp only [hl9_8]); exact bp BK178⟩, ⟨bw HB⟩⟩
                                     ·rw [if_neg c117] at H
                                      exact absurd H (by simp)
                                    ·rw [if_neg c116] at H
                                     exact absurd H (by simp)
                                   case rest =>
                                    clear HC114
                                    (try clear c1); (try clear p1); (try clear q1); (try clear hx1); (try clear c2); (try clear p2); (try clear q2); (try clear hx2); (try clear qi2); (try clear hf2); (try clear c3); (try clear c3b0); (try clear p3); (try clear q3); (try clear hx3); (try clear hf3); (try clear c4); (try clear c4b0); (try clear c5); (try clear c5b0); (try clear c5b1); (try clear c6); (try clear c6b0); (try clear c6b1); (try clear p6); (try clear c7); (try clear c8); (try clear c9); (try clear c10); (try clear c11); (try clear c13); (try clear c13b0); (try clear c14); (try clear c14b0); (try clear p15); (try clear q15); (try clear hx15); (try clear hf15); (try clear c16); (try clear p16); (try clear q16); (try clear hx16); (try clear p17); (try clear q17); (try clear hx17); (try clear p18); (try clear q18); (try clear hx18); (try clear c19); (try clear c19b0); (try clear c19b1); (try clear p19); (try clear q19); (try clear hx19); (try clear p20); (try clear q20); (try clear hx20); (try clear qi20); (try clear hf20); (try clear c21); (try clear c21b0); (try clear c21b1); (try clear c22); (try clear c22b0); (try clear c22b1); (try clear c23); (try clear c23b0); (try clear c23b1); (try clear p24); (try clear q24); (try clear hx24); (try clear qi24); (try clear hf24); (try clear c33); (try clear c33b0); (try clear c34); (try clear c36); (try clear c36b0); (try clear c37); (try clear c37b0); (try clear p38); (try clear q38); (try clear hx38); (try clear hf38); (try clear c39); (try clear c39b0); (try clear c41); (try clear c41b0); (try clear c47); (try clear c48); (try clear c51); (try clear c52); (try clear c53); (try clear c55); (try clear c58); (try clear c61); (try clear c61b0); (try clear c62); (try clear p64); (try clear c70); (try clear c70b0); (try clear c70b1); (try clear c71); (try clear c72); (try clear c73); (try clear c75); (try clear c76); (try clear c77); (try clear c80); (try clear c81); (try clear c84); (try clear c84b0); (try clear c84b1); (try clear c85); (try clear c86); (try clear c87); (try clear c89); (try clear c90); (try clear c91); (try clear c94); (try clear c95); (try clear c96); (try clear c97); (try clear c98); (try clear c101); (try clear c101b0); (try clear c102); (try clear c102b0); (try clear c103); (try clear c103b0); (try clear c105); (try clear c106); (try clear c107); (try clear c116); (try clear c116b0); (try clear c117); (try clear c117b0); (try clear c118); (try clear c118b0); (try clear hcz108_0); (try clear hcz108_1); (try clear hcz108_2); (try clear hcz10_0); (try clear hcz35_0); (try clear hcz35_1); (try clear hcz35_2); (try clear hcz49_0); (try clear hcz49_1); (try clear hcz54_0); (try clear hcz54_1); (try clear hcz54_2); (try clear hcz56_0); (try clear hcz57_0); (try clear hcz57_1); (try clear hcz74_0); (try clear hcz74_1); (try clear hcz78_0); (try clear hcz78_1); (try clear hcz88_0); (try clear hcz88_1); (try clear hcz92_0); (try clear hcz92_1); (try clear hcz99_0); (try clear hcz99_1); (try clear hfz108_0); (try clear hfz108_1); (try clear hfz108_2); (try clear hfz10_0); (try clear hfz35_0); (try clear hfz35_1); (try clear hfz35_2); (try clear hfz49_0); (try clear hfz49_1); (try clear hfz54_0); (try clear hfz54_1); (try clear hfz54_2); (try clear hfz56_0); (try clear hfz57_0); (try clear hfz57_1); (try clear hfz74_0); (try clear hfz74_1); (try clear hfz78_0); (try clear hfz78_1); (try clear hfz88_0); (try clear hfz88_1); (try clear hfz92_0); (try clear hfz92_1); (try clear hfz99_0); (try clear hfz99_1); (try clear hx15_0); (try clear hx164_0); (try clear hx164_1); (try clear hx164_2); (try clear hx176_0); (try clear hx176_1); (try clear hx180_0); (try clear hx182_0); (try clear hx192_0); (try clear hx193_0); (try clear hx194_0); (try clear hx195_0); (try clear hx196_0); (try clear hx20_0); (try clear hx24_0); (try clear hx38_0); (try clear p1); (try clear p15); (try clear p16); (try clear p164); (try clear p17); (try clear p176); (try clear p18); (try clear p180); (try clear p182); (try clear p192); (try clear p193); (try clear p194); (try clear p195); (try clear p196); (try clear p2); (try clear p20); (try clear p24); (try clear p3); (try clear p38); (try clear p6); (try clear p64); (try clear q1); (try clear q15); (try clear q16); (try clear q164); (try clear q17); (try clear q176); (try clear q18); (try clear q180); (try clear q182); (try clear q192); (try clear q193); (try clear q194); (try clear q195); (try clear q196); (try clear q2); (try clear q20); (try clear q24); (try clear q3); (try clear q38)
                                    obtain ⟨kq, x143_113, rfl, HA, HJ113, HO_7, HO_9, HO_15, BK162, BK163, BK177, BK178, HB⟩ := hcut
                                    cases kq with
                                    | zero => exact absurd HA.out (by simp [spec_l04Heights.j8])
                                    | succ kj113 =>
                                     have H := HA.out
                                     clear HA
                                     simp only [spec_l04Heights.j8] at H
                                     by_cases c119 : x143_113 = true
                                     ·subst c119
                                      have H1 : (some (x7_8, a1, t174, x179002_8)) = some (r1, r2, r3, r4) := by rw [if_pos rfl] at H; exact H
                                      clear H
                                      have H := H1
                                      clear H1
                                      simp only [Option.some.injEq, Prod.mk.injEq] at H
                                      obtain ⟨rfl, rfl, rfl, rfl⟩ := H
                                      try go_wp2
                                      have n0_ := am (Kd.R_drew HO_7.out)
                                      have n1_ := am (Kd.R_drew HO_9.out)
                                      have n2_ := am (Kd.R_drew HO_15.out)
                                      have n3_ := am (blk_drew BK162.out)
                                      have n4_ := am (blk_drew BK163.out)
                                      have n5_ := am (blk_drew BK177.out)
                                      have n6_ := am (blk_drew BK178.out)
                                      have n7_ := am (below_drew1 HB.out)
                                      clear HO_7
                                      clear HO_9
                                      clear HO_15
                                      clear BK162
                                      clear BK163
                                      clear BK177
                                      clear BK178
                                      clear HB
                                      have HO_7 := n0_
                                      have HO_9 := n1_
                                      have HO_15 := n2_
                                      have BK162 := n3_
                                      have BK163 := n4_
                                      have BK177 := n5_
                                      have BK178 := n6_
                                      have HB := n7_
                                      clear n0_ n1_ n2_ n3_ n4_ n5_ n6_ n7_
                                      refine start_ (n := 4) (S := fun w' => w'.cell? ⟨gb178, 0, none⟩ = some (.int .i64 a1) ∧ w'.cell? ⟨gb178, 1, none⟩ = some (.int .i64 t174) ∧ w'.cell? ⟨gb178, 2, none⟩ = some (.int .i64 x179002_8)) (ds := []) #[false, false, false, false] (by kernel_rfl) rfl rfl ⟨bc BK178 0, bc BK178 1, bc BK178 2⟩ (fun hHeld => ?_)
                                      generalize wc.drew = w120 at HO_7 HO_9 HO_15 BK162 BK163 BK177 BK178 HB hHeld ⊢
                                      refine pure_ (i := 0) (N := some 144) (v := ?_) (a' := ?_) #[true, false, false, false] rfl rfl (by kernel_rfl) (fun _ _ _ h => h) (Or.inl ⟨by rfl, ?_⟩) ?_ ?_
                                      rotate_left
                                      ·intro w'
                                       go_simp
                                       with_reducible rfl
                                      rotate_left
                                      ·simp only [Act.put, sa, sz, ss, i64_w, i32_w]
                                       rfl
                                      refine pure_ (i := 2) (N := some 4) (v := ?_) (a' := ?_) #[true, false, true, false] rfl rfl (by kernel_rfl) (fun _ _ _ h => h) (Or.inl ⟨by rfl, ?_⟩) ?_ ?_
                                      rotate_left
                                      ·intro w'
                                       go_simp
                                       with_reducible rfl
                                      rotate_left
                                      ·simp only [Act.put, sa, sz, ss, i64_w, i32_w]
                                       rfl
                                      refine take_ (i := 1) (N := some 145) (v := ?_) (a' := ?_) #[true, true, true, false] rfl rfl (by kernel_rfl) (fun _ _ _ h => h) (Or.inl ⟨by rfl, ?_⟩) hHeld ?_ ?_
                                      rotate_left
                                      ·rintro w' ⟨s0, s1, s2⟩
                                       go_simp
                                       with_reducible rfl
                                      rotate_left
                                      ·simp only [Act.put, sa, sz, ss, i64_w, i32_w]
                                       rfl
                                      refine one_ (i := 3) (N := none) #[true, true, true, true] rfl rfl (by kernel_rfl) (by decide) (fun K hK => ?_)
                                      have hs121 : w120.cell? ⟨gb163, 0, none⟩ = some (.int .i64 x164000_8) := bc BK163 0
                                      have hfs121 := bf BK163 0
                                      have hns121_0 := NB162_163.out
                                      have hns121_2 := NB177_163.out
                                      have hns121_3 := NB178_163.out
                                      have hms121_0 := NB163_162.out
                                      have hms121_2 := NB163_177.out
                                      have hms121_3 := NB163_178.out
                                      have hs122 : w120.cell? ⟨gb163, 1, none⟩ = some (.int .i64 x164001_8) := bc BK163 1
                                      have hfs122 := bf BK163 1
                                      have hns122_0 := NB162_163.out
                                      have hns122_2 := NB177_163.out
                                      have hns122_3 := NB178_163.out
                                      have hms122_0 := NB163_162.out
                                      have hms122_2 := NB163_177.out
                                      have hms122_3 := NB163_178.out
                                      have hs123 : w120.cell? ⟨gb163, 2, none⟩ = some (.int .i64 x164002_8) := bc BK163 2
                                      have hfs123 := bf BK163 2
                                      have hns123_0 := NB162_163.out
                                      have hns123_2 := NB177_163.out
                                      have hns123_3 := NB178_163.out
                                      have hms123_0 := NB163_162.out
                                      have hms123_2 := NB163_177.out
                                      have hms123_3 := NB163_178.out
                                      refine skip_ (w1 := ?_) (by rfl) rfl ?_ ?_
                                      rotate_left
                                      ·go_simp
                                       rfl
                                      refine hK.out _ _ ⟨((cell_far (p := ⟨gb163, _, none⟩) NB178_163.out _).trans (((cell_far (p := ⟨gb163, _, none⟩) NB178_163.out _).trans (((cell_far (p := ⟨gb163, _, none⟩) NB178_163.out _).trans (hHeld.1)))))), ((cell_far (p := ⟨gb163, _, none⟩) NB178_163.out _).trans (((cell_far (p := ⟨gb163, _, none⟩) NB178_163.out _).trans (((cell_far (p := ⟨gb163, _, none⟩) NB178_163.out _).trans (hHeld.2.1)))))), ((cell_far (p := ⟨gb163, _, none⟩) NB178_163.out _).trans (((cell_far (p := ⟨gb163, _, none⟩) NB178_163.out _).trans (((cell_far (p := ⟨gb163, _, none⟩) NB178_163.out _).trans (hHeld.2.2))))))⟩ (fun hHeld => ?_)
                                      clear hK K
                                      refine done_ (by kernel_rfl) ?_
                                      try go_wp2
                                      refine bodyPost_ret (results_tc rfl _ _ gb163 84 #[.int .i64 a1, .int .i64 t174, .int .i64 x179002_8] (0, 0) _ rfl (by (with_reducible repeat (first | apply dN | apply dW | apply dA)); refine blk_put (cs := #[.int .i64 a1, .int .i64 t174, .int .i64 x164002_8]) ?_ 2 _ rfl; (with_reducible repeat (first | apply dN | apply dW | apply dA)); refine blk_put (cs := #[.int .i64 a1, .int .i64 x164001_8, .int .i64 x164002_8]) ?_ 1 _ rfl; (with_reducible repeat (first | apply dN | apply dW | apply dA)); refine blk_put (cs := #[.int .i64 x164000_8, .int .i64 x164001_8, .int .i64 x164002_8]) ?_ 0 _ rfl; exact bp BK163) Try.underlying84 rfl (by kernel_rfl)) rfl ?_
                                      exact ⟨_, er, by (with_reducible repeat (first | apply Kd.R_alloc | apply Kd.R_drewN | apply Kd.R_drew)); exact Kd.R_mono (Kd.R_far (p := ⟨gb163, 2, none⟩) (Kd.R_far (p := ⟨gb163, 1, none⟩) (Kd.R_far (p := ⟨gb163, 0, none⟩) (Kd.R_types HO_7.out BK163.out (by decide)) (fun _ hk => hk.2) (.int .i64 a1)) (fun _ hk => hk.2) (.int .i64 t174)) (fun _ hk => hk.2) (.int .i64 x179002_8)) (fun _ hk => trivial), bw HB⟩
                                     ·replace c119 := Bool.eq_false_iff.mpr c119
                                      subst c119
                                      have H1 : (if 0 ≤ x16_8 then (if x16_8 < (x15_92.length : Int) then (if 0 ≤ (rd x15_92 x16_8) then (if (rd x15_92 x16_8) < (x7_8.length : Int) then (if (rd x7_8 (rd x15_92 x16_8)) < 0 then (if (rd x15_92 x16_8) < (x9_8.length : Int) then (spec_l04Heights.l2 kj113 a1 ((rd_T100 l0_0 a1).f2) (x7_8.set ((rd x15_92 x16_8) : Int).toNat (wrap64 ((wrap64 ((rd x7_2 t174) - t179)) + t181))) (x9_8.set ((rd x15_92 x16_8) : Int).toNat true) (wrap64 ((wrap64 ((rd x7_2 t174) - t179)) + t181)) x15_92 (wrap64 (x16_8 + 1)) l0_0 a1 t174 x179002_8) else (none)) else (spec_l04Heights.l2 kj113 a1 ((rd_T100 l0_0 a1).f2) x7_8 x9_8 (wrap64 ((wrap64 ((rd x7_2 t174) - t179)) + t181)) x15_92 (wrap64 (x16_8 + 1)) l0_0 a1 t174 x179002_8)) else (none)) else (none)) else (none)) else (none)) = some (r1, r2, r3, r4) := by rw [if_neg (show ¬ (false = true) by decide)] at H; exact H
                                      clear H
                                      have H := H1
                                      clear H1
                                      by_cases c124 : 0 ≤ x16_8
                                      ·rw [if_pos c124] at H
                                       have c124b0 := decide_eq_true c124
                                       clear c124
                                       by_cases c125 : x16_8 < (x15_92.length : Int)
                                       ·rw [if_pos c125] at H
                                        have c125b0 := decide_eq_true c125
                                        (try (have c125b0hl7_2 := c125b0; rw [hl7_2] at c125b0hl7_2))
                                        (try (have c125b0hl9_2 := c125b0; rw [hl9_2] at c125b0hl9_2))
                                        (try (have c125b0hl9_42 := c125b0; rw [hl9_42] at c125b0hl9_42))
                                        (try (have c125b0hl7_8 := c125b0; rw [hl7_8] at c125b0hl7_8))
                                        (try (have c125b0hl9_8 := c125b0; rw [hl9_8] at c125b0hl9_8))
                                        clear c125
                                        by_cases c126 : 0 ≤ (rd x15_92 x16_8)
                                        ·rw [if_pos c126] at H
                                         have c126b0 := decide_eq_true c126
                                         clear c126
                                         by_cases c127 : (rd x15_92 x16_8) < (x7_8.length : Int)
                                         ·rw [if_pos c127] at H
                                          have c127b0 := decide_eq_true c127
                                          (try (have c127b0hl7_2 := c127b0; rw [hl7_2] at c127b0hl7_2))
                                          (try (have c127b0hl9_2 := c127b0; rw [hl9_2] at c127b0hl9_2))
                                          (try (have c127b0hl9_42 := c127b0; rw [hl9_42] at c127b0hl9_42))
                                          (try (have c127b0hl7_8 := c127b0; rw [hl7_8] at c127b0hl7_8))
                                          (try (have c127b0hl9_8 := c127b0; rw [hl9_8] at c127b0hl9_8))
                                          clear c127
                                          by_cases c128 : (rd x7_8 (rd x15_92 x16_8)) < 0
                                          ·rw [if_pos c128] at H
                                           have c128b0 := decide_eq_true c128
                                           clear c128
                                           obtain ⟨y200, hy200⟩ : ∃ y_ : List Int, y_ = (x7_8.set ((rd x15_92 x16_8) : Int).toNat (wrap64 ((wrap64 ((rd x7_2 t174) - t179)) + t181))) := ⟨_, rfl⟩
                                           replace H : (if (rd x15_92 x16_8) < (x9_8.length : Int) then (spec_l04Heights.l2 kj113 a1 ((rd_T100 l0_0 a1).f2) y200 (x9_8.set ((rd x15_92 x16_8) : Int).toNat true) (wrap64 ((wrap64 ((rd x7_2 t174) - t179)) + t181)) x15_92 (wrap64 (x16_8 + 1)) l0_0 a1 t174 x179002_8) else (none)) = some (r1, r2, r3, r4) := by first | (rw [hy200]; with_reducible exact H) | (have H2_ := (Option.bind_some _ _).symm.trans H; rw [hy200]; with_reducible exact H2_) | (have H2_ := (Option.bind_some _ _).symm.trans H; with_reducible exact H2_) | with_reducible exact H | (rw [hy200]; exact H) | exact H
                                           have Ny200 := am hy200
                                           clear hy200
                                           by_cases c130 : (rd x15_92 x16_8) < (x9_8.length : Int)
                                           ·rw [if_pos c130] at H
                                            have c130b0 := decide_eq_true c130
                                            (try (have c130b0hl7_2 := c130b0; rw [hl7_2] at c130b0hl7_2))
                                            (try (have c130b0hl9_2 := c130b0; rw [hl9_2] at c130b0hl9_2))
                                            (try (have c130b0hl9_42 := c130b0; rw [hl9_42] at c130b0hl9_42))
                                            (try (have c130b0hl7_8 := c130b0; rw [hl7_8] at c130b0hl7_8))
                                            (try (have c130b0hl9_8 := c130b0; rw [hl9_8] at c130b0hl9_8))
                                            clear c130
                                            obtain ⟨y202, hy202⟩ : ∃ y_ : List Bool, y_ = (x9_8.set ((rd x15_92 x16_8) : Int).toNat true) := ⟨_, rfl⟩
                                            replace H : (spec_l04Heights.l2 kj113 a1 ((rd_T100 l0_0 a1).f2) y200 y202 (wrap64 ((wrap64 ((rd x7_2 t174) - t179)) + t181)) x15_92 (wrap64 (x16_8 + 1)) l0_0 a1 t174 x179002_8) = some (r1, r2, r3, r4) := by first | (rw [hy202]; with_reducible exact H) | (have H2_ := (Option.bind_some _ _).symm.trans H; rw [hy202]; with_reducible exact H2_) | (have H2_ := (Option.bind_some _ _).symm.trans H; with_reducible exact H2_) | with_reducible exact H | (rw [hy202]; exact H) | exact H
                                            have Ny202 := am hy202
                                            clear hy202
                                            have H' := am H
                                            clear H
                                            have p197 : 0 ≤ (x16_8 : Int) := of_decide_eq_true as1
                                            have q197 : x16_8 < (x15_92.length : Int) := of_decide_eq_true as1
                                            obtain ⟨ad197, e197, hx197_0⟩ := Kd.at_int (Kd.R_reads' HO_15.out).2.2 x16_8 p197 q197
                                            obtain rfl : ad192 = ad197 := (by injection e197)
                                            replace p197 := eq_true p197
                                            replace q197 := eq_true q197
                                            have p198 : 0 ≤ ((rd x15_92 x16_8) : Int) := of_decide_eq_true as1
                                            have q198 : (rd x15_92 x16_8) < (x7_8.length : Int) := of_decide_eq_true as1
                                            obtain ⟨ad198, e198, hx198_0⟩ := Kd.at_int (Kd.R_reads' HO_7.out).2.2 (rd x15_92 x16_8) p198 q198
                                            obtain rfl : (⟨go20, 0, none⟩ : Addr) = ad198 := (by injection e198)
                                            (first | simp only [add_plain] at hx198_0 | simp only [add_at] at hx198_0 | simp only [Addr.add, Nat.zero_add] at hx198_0 | skip)
                                            replace p198 := eq_true p198
                                            replace q198 := eq_true q198
                                            have p199 : 0 ≤ (x16_8 : Int) := of_decide_eq_true as1
                                            have q199 : x16_8 < (x15_92.length : Int) := of_decide_eq_true as1
                                            obtain ⟨ad199, e199, hx199_0⟩ := Kd.at_int (Kd.R_reads' HO_15.out).2.2 x16_8 p199 q199
                                            obtain rfl : ad192 = ad199 := (by injection e199)
                                            replace p199 := eq_true p199
                                            replace q199 := eq_true q199
                                            have p129 : 0 ≤ ((rd x15_92 x16_8) : Int) := of_decide_eq_true as1
                                            have q129 : ((rd x15_92 x16_8) : Int) < ((x7_8.length : Int) : Int) := of_decide_eq_true as1
                                            obtain ⟨hx129_0, hf129_0⟩ := Kd.R_celln 0 HO_7.out ((rd x15_92 x16_8) : Int) p129 q129
                                            replace p129 := eq_true p129
                                            replace q129 := eq_true q129
                                            have HP132 := Kd.R_putg HO_7.out ((rd x15_92 x16_8) : Int) (wrap64 ((wrap64 ((rd x7_2 t174) - t179)) + t181))
                                            go_wp2_with (first | ((with_reducible refine gate_store (t := 2) (p := 160) rfl ?_); refine store_event (t := 2) (p := 160) (v := ?vo_w133) (w1 := (wc.setCell ⟨go20, ((rd x15_92 x16_8) : Int).toNat, none⟩ (.int .i64 (wrap64 ((wrap64 ((rd x7_2 t174) - t179)) + t181))))) ?hg ?ho ?hn ?hr ?_; (case ho => rfl); (case hg => rfl); (case hn => rfl); (case hr => exact gs); intro w133 hw; have hg : wc.grownBy w133 (some go20) := (by rw [hw]; exact HP132.2); have hp_ : Kd.R (Kd.int .i64) 2 w133 w.heap.size (fun k_ => some k_ ≠ (.slice (some ad192) x15_92.length co115 : Value).ownBlock) (.slice (some ⟨go20, 0, none⟩) x7_8.length co25) y200 := (by rw [hw, Ny200.out]; exact HP132.1); clear HP132; replace HO_9 := am (Kd.R_over' (v := (.slice (some ⟨go20, 0, none⟩) x7_8.length co25)) (kR HO_9) (Kd.R_typed HO_7.out) (by decide) hg); replace HO_15 := am (Kd.R_after (v := (.slice (some ⟨go20, 0, none⟩) x7_8.length co25)) (v1 := (.slice (some ⟨go20, 0, none⟩) x7_8.length co25)) (ok := (fun _ => True)) (by (with_reducible repeat (first | apply Kd.R_alloc | apply Kd.R_drewN | apply Kd.R_drew)); exact Kd.R_mono HO_15.out (fun _ hk => ⟨trivial, hk⟩)) hg (.inl rfl)); replace BK162 := am (blk_grown (g := gb162) (o := .cells #[.slice (some ad164) l0_0.length c0_0] 30 (0, 0)) (bp BK162) hg (Kd.R_ne HO_7.out BK162.out (by decide))); replace BK163 := am (blk_grown (g := gb163) (o := .cells #[.int .i64 x164000_8, .int .i64 x164001_8, .int .i64 x164002_8] 84 (0, 0)) (bp BK163) hg (Kd.R_ne HO_7.out BK163.out (by decide))); replace BK177 := am (blk_grown (g := gb177) (o := .cells #[.int .i64 ((rd_T102 ((rd_T100 l0_0 a1).f2) t174).f0), .int .i64 ((rd_T102 ((rd_T100 l0_0 a1).f2) t174).f1)] 102 (0, 0)) (bp BK177) hg (Kd.R_ne HO_7.out BK177.out (by decide))); replace BK178 := am (blk_grown (g := gb178) (o := .cells #[.int .i64 a1, .int .i64 t174, .int .i64 x179002_8] 84 (0, 0)) (bp BK178) hg (Kd.R_ne HO_7.out BK178.out (by decide))); replace HO_7 := am (hp_); replace HB := am ((by rw [hw]; exact below_set (HB.out) GB20.out : Below w.heap.size w w133)); clear hg hw hp_; have p201 : 0 ≤ (x16_8 : Int) := of_decide_eq_true as1; have q201 : x16_8 < (x15_92.length : Int) := of_decide_eq_true as1; obtain ⟨ad201, e201, hx201_0⟩ := Kd.at_int (Kd.R_reads' HO_15.out).2.2 x16_8 p201 q201; obtain rfl : ad192 = ad201 := (by injection e201); replace p201 := eq_true p201; replace q201 := eq_true q201; have p131 : 0 ≤ ((rd x15_92 x16_8) : Int) := of_decide_eq_true as1; have q131 : ((rd x15_92 x16_8) : Int) < ((x9_8.length : Int) : Int) := of_decide_eq_true as1; obtain ⟨hx131_0, hf131_0⟩ := Kd.R_celln false HO_9.out ((rd x15_92 x16_8) : Int) p131 q131; replace p131 := eq_true p131; replace q131 := eq_true q131; obtain ⟨hy134_, hz134_⟩ := Kd.R_celln false HO_9.out ((rd x15_92 x16_8) : Int) (of_decide_eq_true as1) (of_decide_eq_true as1); have HP134 := Kd.R_putg HO_9.out ((rd x15_92 x16_8) : Int) true) | ((with_reducible refine gate_store (t := 4) (p := 166) rfl ?_); refine store_event (t := 4) (p := 166) (v := ?vo_w135) (w1 := (w133.setCell ⟨go24, ((rd x15_92 x16_8) : Int).toNat, none⟩ (.bool true))) ?hg ?ho ?hn ?hr ?_; (case ho => rfl); (case hg => rfl); (case hn => rfl); (case hr => exact gs); intro w135 hw; have hg : w133.grownBy w135 (some go24) := (by rw [hw]; exact HP134.2); have hp_ : Kd.R Kd.bool 4 w135 w.heap.size (fun _ => True) (.slice (some ⟨go24, 0, none⟩) x9_8.length co24) y202 := (by rw [hw, Ny202.out]; exact HP134.1); clear HP134; replace HO_7 := am (Kd.R_over' (v := (.slice (some ⟨go24, 0, none⟩) x9_8.length co24)) (kR HO_7) (Kd.R_typed HO_9.out) (by decide) hg); replace HO_15 := am (Kd.R_over' (v := (.slice (some ⟨go24, 0, none⟩) x9_8.length co24)) (kR HO_15) (Kd.R_typed HO_9.out) (by decide) hg); replace BK162 := am (blk_grown (g := gb162) (o := .cells #[.slice (some ad164) l0_0.length c0_0] 30 (0, 0)) (bp BK162) hg (Kd.R_ne HO_9.out BK162.out (by decide))); replace BK163 := am (blk_grown (g := gb163) (o := .cells #[.int .i64 x164000_8, .int .i64 x164001_8, .int .i64 x164002_8] 84 (0, 0)) (bp BK163) hg (Kd.R_ne HO_9.out BK163.out (by decide))); replace BK177 := am (blk_grown (g := gb177) (o := .cells #[.int .i64 ((rd_T102 ((rd_T100 l0_0 a1).f2) t174).f0), .int .i64 ((rd_T102 ((rd_T100 l0_0 a1).f2) t174).f1)] 102 (0, 0)) (bp BK177) hg (Kd.R_ne HO_9.out BK177.out (by decide))); replace BK178 := am (blk_grown (g := gb178) (o := .cells #[.int .i64 a1, .int .i64 t174, .int .i64 x179002_8] 84 (0, 0)) (bp BK178) hg (Kd.R_ne HO_9.out BK178.out (by decide))); replace HO_9 := am (hp_); replace HB := am ((by rw [hw]; exact below_set (HB.out) GB24.out : Below w.heap.size w w135)); clear hg hw hp_))
                                            (try simp only [← hl7_8, ← hl9_8])
                                            go_roundg kj113
                                            case measure => have := HK1.out; have := HK2.out; have := HJ42.out; have := HJ66.out; have := HJ78.out; have := HJ82.out; have := HJ92.out; have := HK8.out; have := HJ113.out; omega
                                            case rel => exact ⟨(y200), (y202), (wrap64 (x16_8 + 1)), (x164000_8), (x164001_8), (x164002_8), (x179002_8), dr, H', ⟨by have := HK1.out; have := HK2.out; have := HJ42.out; have := HJ66.out; have := HJ78.out; have := HJ82.out; have := HJ92.out; have := HK8.out; have := HJ113.out; omega⟩, ⟨by (try simp only [hl7_2]); (try simp only [hl9_2]); (try simp only [hl9_42]); (try simp only [hl7_8]); (try simp only [hl9_8]); exact kR HO_7⟩, ⟨by (try simp only [hl7_2]); (try simp only [hl9_2]); (try simp only [hl9_42]); (try simp only [hl7_8]); (try simp only [hl9_8]); exact kR HO_9⟩, ⟨by (try simp only [hl7_2]); (try simp only [hl9_2]); (try simp only [hl9_42]); (try simp only [hl7_8]); (try simp only [hl9_8]); (with_reducible repeat (first | apply Kd.R_alloc | apply Kd.R_drewN | apply Kd.R_drew)); exact Kd.R_mono HO_15.out (fun _ hk => hk.2)⟩, ⟨by (try simp only [hl7_2]); (try simp only [hl9_2]); (try simp only [hl9_42]); (try simp only [hl7_8]); (try simp only [hl9_8]); exact bp BK162⟩, ⟨by (try simp only [hl7_2]); (try simp only [hl9_2]); (try simp only [hl9_42]); (try simp only [hl7_8]); (try simp only [hl9_8]); exact bp BK163⟩, ⟨by (try simp only [hl7_2]); (try simp only [hl9_2]); (try simp only [hl9_42]); (try simp only [hl7_8]); (try simp only [hl9_8]); exact bp BK177⟩, ⟨by (try simp only [hl7_2]); (try simp only [hl9_2]); (try simp only [hl9_42]); (try simp only [hl7_8]); (try simp only [hl9_8]); exact bp BK178⟩, ⟨bw HB⟩⟩
                                           ·rw [if_neg c130] at H
                                            exact absurd H (by simp)
                                          ·rw [if_neg c128] at H
                                           have c128b0 := decide_eq_false c128
                                           clear c128
                                           have H' := am H
                                           clear H
                                           have p197 : 0 ≤ (x16_8 : Int) := of_decide_eq_true as1
                                           have q197 : x16_8 < (x15_92.length : Int) := of_decide_eq_true as1
                                           obtain ⟨ad197, e197, hx197_0⟩ := Kd.at_int (Kd.R_reads' HO_15.out).2.2 x16_8 p197 q197
                                           obtain rfl : ad192 = ad197 := (by injection e197)
                                           replace p197 := eq_true p197
                                           replace q197 := eq_true q197
                                           have p198 : 0 ≤ ((rd x15_92 x16_8) : Int) := of_decide_eq_true as1
                                           have q198 : (rd x15_92 x16_8) < (x7_8.length : Int) := of_decide_eq_true as1
                                           obtain ⟨ad198, e198, hx198_0⟩ := Kd.at_int (Kd.R_reads' HO_7.out).2.2 (rd x15_92 x16_8) p198 q198
                                           obtain rfl : (⟨go20, 0, none⟩ : Addr) = ad198 := (by injection e198)
                                           (first | simp only [add_plain] at hx198_0 | simp only [add_at] at hx198_0 | simp only [Addr.add, Nat.zero_add] at hx198_0 | skip)
                                           replace p198 := eq_true p198
                                           replace q198 := eq_true q198
                                           go_wp2
                                           (try simp only [← hl7_8, ← hl9_8])
                                           go_roundg kj113
                                           case measure => have := HK1.out; have := HK2.out; have := HJ42.out; have := HJ66.out; have := HJ78.out; have := HJ82.out; have := HJ92.out; have := HK8.out; have := HJ113.out; omega
                                           case rel => exact ⟨(x7_8), (x9_8), (wrap64 (x16_8 + 1)), (x164000_8), (x164001_8), (x164002_8), (x179002_8), dr, H', ⟨by have := HK1.out; have := HK2.out; have := HJ42.out; have := HJ66.out; have := HJ78.out; have := HJ82.out; have := HJ92.out; have := HK8.out; have := HJ113.out; omega⟩, ⟨by (try simp only [hl7_2]); (try simp only [hl9_2]); (try simp only [hl9_42]); (try simp only [hl7_8]); (try simp only [hl9_8]); exact kR HO_7⟩, ⟨by (try simp only [hl7_2]); (try simp only [hl9_2]); (try simp only [hl9_42]); (try simp only [hl7_8]); (try simp only [hl9_8]); exact kR HO_9⟩, ⟨by (try simp only [hl7_2]); (try simp only [hl9_2]); (try simp only [hl9_42]); (try simp only [hl7_8]); (try simp only [hl9_8]); exact kR HO_15⟩, ⟨by (try simp only [hl7_2]); (try simp only [hl9_2]); (try simp only [hl9_42]); (try simp only [hl7_8]); (try simp only [hl9_8]); exact bp BK162⟩, ⟨by (try simp only [hl7_2]); (try simp only [hl9_2]); (try simp only [hl9_42]); (try simp only [hl7_8]); (try simp only [hl9_8]); exact bp BK163⟩, ⟨by (try simp only [hl7_2]); (try simp only [hl9_2]); (try simp only [hl9_42]); (try simp only [hl7_8]); (try simp only [hl9_8]); exact bp BK177⟩, ⟨by (try simp only [hl7_2]); (try simp only [hl9_2]); (try simp only [hl9_42]); (try simp only [hl7_8]); (try simp only [hl9_8]); exact bp BK178⟩, ⟨bw HB⟩⟩
                                         ·rw [if_neg c127] at H
                                          exact absurd H (by simp)
                                        ·rw [if_neg c126] at H
                                         exact absurd H (by simp)
                                       ·rw [if_neg c125] at H
                                        exact absurd H (by simp)
                                      ·rw [if_neg c124] at H
                                       exact absurd H (by simp)
                                 ·rw [if_neg c102] at H
                                  exact absurd H (by simp)
                                ·rw [if_neg c101] at H
                                 have c101b0 := decide_eq_false c101
                                 (try (have c101b0hl7_2 := c101b0; rw [hl7_2] at c101b0hl7_2))
                                 (try (have c101b0hl9_2 := c101b0; rw [hl9_2] at c101b0hl9_2))
                                 (try (have c101b0hl9_42 := c101b0; rw [hl9_42] at c101b0hl9_42))
                                 (try (have c101b0hl7_8 := c101b0; rw [hl7_8] at c101b0hl7_8))
                                 (try (have c101b0hl9_8 := c101b0; rw [hl9_8] at c101b0hl9_8))
                                 clear c101
                                 have H' := am H
                                 clear H
                                 obtain ⟨Ao136, co136, eo136⟩ := Kd.R_slice HO_15.out
                                 subst eo136
                                 go_wp2
                                 (try simp only [← hl7_2, ← hl9_2, ← hl9_42, ← hl7_8, ← hl9_8])
                                 go_roundg k8
                                 case measure => have := HK1.out; have := HK2.out; have := HJ42.out; have := HJ66.out; have := HJ78.out; have := HJ82.out; have := HJ92.out; have := HK8.out; omega
                                 case rel => exact ⟨(x7_8), (x9_8), (x164000_8), (x164001_8), (x164002_8), H', ⟨by have := HK1.out; have := HK2.out; have := HJ42.out; have := HJ66.out; have := HJ78.out; have := HJ82.out; have := HJ92.out; have := HK8.out; omega⟩, ⟨by (try simp only [hl7_2]); (try simp only [hl9_2]); (try simp only [hl9_42]); (try simp only [hl7_8]); (try simp only [hl9_8]); (with_reducible repeat (first | apply Kd.R_alloc | apply Kd.R_drewN | apply Kd.R_drew)); exact Kd.R_mono HO_7.out (fun _ hk => trivial)⟩, ⟨by (try simp only [hl7_2]); (try simp only [hl9_2]); (try simp only [hl9_42]); (try simp only [hl7_8]); (try simp only [hl9_8]); exact kR HO_9⟩, ⟨by (try simp only [hl7_2]); (try simp only [hl9_2]); (try simp only [hl9_42]); (try simp only [hl7_8]); (try simp only [hl9_8]); exact bp BK162⟩, ⟨by (try simp only [hl7_2]); (try simp only [hl9_2]); (try simp only [hl9_42]); (try simp only [hl7_8]); (try simp only [hl9_8]); exact bp BK163⟩, ⟨bw HB⟩⟩
                  ·rw [if_neg c41] at H
                   exact absurd H (by simp)
                 ·rw [if_neg c39] at H
                  exact absurd H (by simp)
                ·rw [if_neg c37] at H
                 exact absurd H (by simp)
               ·rw [if_neg c36] at H
                exact absurd H (by simp)
           ·rw [if_neg c23] at H
            exact absurd H (by simp)
          ·rw [if_neg c22] at H
           exact absurd H (by simp)
         ·rw [if_neg c21] at H
          exact absurd H (by simp)
        ·rw [if_neg c19] at H
         exact absurd H (by simp)
    ·rw [if_neg c6] at H
     exact absurd H (by simp)
   ·rw [if_neg c5] at H
    exact absurd H (by simp)
  ·rw [if_neg c4] at H
   exact absurd H (by simp)
 ·rw [if_neg c3] at H
  exact absurd H (by simp)

end Go.Proofs.Ytbmjmaahcaoajaa.QFnExactFileBytes
