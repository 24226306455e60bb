import Derived.Test.YtbmjmaahcaoajaaCFnExactHeadersx0
import Derived.Test.YtbmjmaahcaoajaaCFnExactHeadersx3
import Derived.Test.YtbmjmaahcaoajaaCFnExactHeadersx4
namespace Go.Proofs.Ytbmjmaahcaoajaa.QFnExactHeaders
open Go.RowKit Go.Proofs.YtbmjmaahcaoajaaW
open PrintWords PrintLast PrintMore PrintShort PrintIsh
attribute [local go_sem] max2_int min2_int max_two min_two max_three min_three max_four min_four   -- for this text's walks alone
set_option linter.unusedVariables false
set_option maxHeartbeats 8000000
set_option maxRecDepth 100000
set_option linter.unusedSimpArgs false

mutual
def spec_l04Heights.l0 : Nat → Int → List (S102) → List Int → Int → List (S100) → Option (List Int × Int × Int × Int)
 | 0, _, _, _, _, _ => none
 | k + 1, x1, x6, x7, x8, x167000 => if x8 < (x7.length : Int) then (if 0 ≤ x8 then (spec_l04Heights.l0 k x1 x6 (x7.set (x8 : Int).toNat (-1)) (wrap64 (x8 + 1)) x167000) else (none)) else (if 0 < (x7.length : Int) then (if 0 ≤ (x6.length : Int) then (if ((x6.length : Int) : Int).toNat ≤ 281474976710656 then ((some (List.replicate ((x6.length : Int) : Int).toNat false : List Bool)).bind fun y174 => (if 0 < (y174.length : Int) then (spec_l04Heights.l1 k x1 x6 (x7.set (0 : Int).toNat 0) (y174.set (0 : Int).toNat true) x167000) else (none))) else (none)) else (none)) else (none))
def spec_l04Heights.l1 : Nat → Int → List (S102) → List Int → List Bool → List (S100) → Option (List Int × Int × Int × Int)
 | 0, _, _, _, _, _ => none
 | k + 1, x1, x6, x7, x9, x167000 => (spec_l04Least.f k x9).bind fun t178 => (if t178 < 0 then (some (x7, 0, 0, 0)) else (if 0 ≤ t178 then (if t178 < (x9.length : Int) then ((some (x9.set (t178 : Int).toNat false : List Bool)).bind fun y179 => (if t178 < (x6.length : Int) then ((spec_Takes.f k x167000 ((rd_T102 x6 t178).f0) ((rd_T102 x6 t178).f1)).bind fun t183 => (if t178 < (x7.length : Int) then ((spec_Puts.f k ((rd_T102 x6 t178).f0) ((rd_T102 x6 t178).f1)).bind fun t185 => (if t183 > (rd x7 t178) then (spec_l04Heights.j2 k x1 x6 x7 y179 t178 (wrap64 ((wrap64 ((rd x7 t178) - t183)) + t185)) true x167000 ((rd_T102 x6 t178).f0) ((rd_T102 x6 t178).f1) x1 t178 5) else (spec_l04Heights.j2 k x1 x6 x7 y179 t178 (wrap64 ((wrap64 ((rd x7 t178) - t183)) + t185)) (decide ((wrap64 ((wrap64 ((rd x7 t178) - t183)) + t185)) > 8)) x167000 ((rd_T102 x6 t178).f0) ((rd_T102 x6 t178).f1) x1 t178 5))) else (none))) else (none))) else (none)) else (none)))
def spec_l04Heights.j2 : Nat → Int → List (S102) → List Int → List Bool → Int → Int → Bool → List (S100) → Int → Int → Int → Int → Int → Option (List Int × Int × Int × Int)
 | 0, _, _, _, _, _, _, _, _, _, _, _, _, _ => none
 | k + 1, x1, x6, x7, x9, x10, x14, x79, x167000, x182000, x182001, x183000, x183001, x183002 => if x79 = true then (some (x7, x183000, x183001, x183002)) else ((some (([] : List Int) : List Int)).bind fun y187 => (if x182000 = 30 then (spec_l04Heights.j3 k x1 x6 x7 x9 x10 x14 y187 false x167000 x182000 x182001 x183000 x183001 x183002) else (spec_l04Heights.j3 k x1 x6 x7 x9 x10 x14 y187 (x182000 != 33) x167000 x182000 x182001 x183000 x183001 x183002)))
def spec_l04Heights.j3 : Nat → Int → List (S102) → List Int → List Bool → Int → Int → List Int → Bool → List (S100) → Int → Int → Int → Int → Int → Option (List Int × Int × Int × Int)
 | 0, _, _, _, _, _, _, _, _, _, _, _, _, _, _ => none
 | k + 1, x1, x6, x7, x9, x10, x14, x15, x90, x167000, x182000, x182001, x183000, x183001, x183002 => if x90 = true then (if x15.length < 17592186044416 then (spec_l04Heights.j4 k x1 x6 x7 x9 x14 (x15 ++ [wrap64 (x10 + 1)]) x167000 x182000 x182001 x183000 x183001 x183002) else (none)) else (spec_l04Heights.j4 k x1 x6 x7 x9 x14 x15 x167000 x182000 x182001 x183000 x183001 x183002)
def spec_l04Heights.j4 : Nat → Int → List (S102) → List Int → List Bool → Int → List Int → List (S100) → Int → Int → Int → Int → Int → Option (List Int × Int × Int × Int)
 | 0, _, _, _, _, _, _, _, _, _, _, _, _ => none
 | k + 1, x1, x6, x7, x9, x14, x15, x167000, x182000, x182001, x183000, x183001, x183002 => if x182000 = 30 then (spec_l04Heights.j5 k x1 x6 x7 x9 x14 x15 true x167000 x182000 x182001 x183000 x183001 x183002) else (spec_l04Heights.j5 k x1 x6 x7 x9 x14 x15 (x182000 == 31) x167000 x182000 x182001 x183000 x183001 x183002)
def spec_l04Heights.j5 : Nat → Int → List (S102) → List Int → List Bool → Int → List Int → Bool → List (S100) → Int → Int → Int → Int → Int → Option (List Int × Int × Int × Int)
 | 0, _, _, _, _, _, _, _, _, _, _, _, _, _ => none
 | k + 1, x1, x6, x7, x9, x14, x15, x103, x167000, x182000, x182001, x183000, x183001, x183002 => if x103 = true then (if x15.length < 17592186044416 then (spec_l04Heights.j6 k x1 x6 x7 x9 x14 (x15 ++ [x182001]) x167000 x183000 x183001 x183002) else (none)) else (spec_l04Heights.j6 k x1 x6 x7 x9 x14 x15 x167000 x183000 x183001 x183002)
def spec_l04Heights.j6 : Nat → Int → List (S102) → List Int → List Bool → Int → List Int → List (S100) → Int → Int → Int → Option (List Int × Int × Int × Int)
 | 0, _, _, _, _, _, _, _, _, _, _ => none
 | k + 1, x1, x6, x7, x9, x14, x15, x167000, x183000, x183001, x183002 => spec_l04Heights.l2 k x1 x6 x7 x9 x14 x15 0 x167000 x183000 x183001 x183002
def spec_l04Heights.l2 : Nat → Int → List (S102) → List Int → List Bool → Int → List Int → Int → List (S100) → Int → Int → Int → Option (List Int × Int × Int × Int)
 | 0, _, _, _, _, _, _, _, _, _, _, _ => none
 | k + 1, x1, x6, x7, x9, x14, x15, x16, x167000, x183000, x183001, x183002 => if x16 < (x15.length : Int) then (if 0 ≤ x16 then (if (rd x15 x16) ≥ (x6.length : Int) then (some (x7, x183000, x183001, 6)) else (if 0 ≤ (rd x15 x16) then (if (rd x15 x16) < (x7.length : Int) then (if (rd x7 (rd x15 x16)) ≥ 0 then (spec_l04Heights.j8 k x1 x6 x7 x9 x14 x15 x16 ((rd x7 (rd x15 x16)) != x14) x167000 x183000 x183001 x183002) else (spec_l04Heights.j8 k x1 x6 x7 x9 x14 x15 x16 false x167000 x183000 x183001 x183002)) else (none)) else (none))) else (none)) else (spec_l04Heights.l1 k x1 x6 x7 x9 x167000)
def spec_l04Heights.j8 : Nat → Int → List (S102) → List Int → List Bool → Int → List Int → Int → Bool → List (S100) → Int → Int → Int → Option (List Int × Int × Int × Int)
 | 0, _, _, _, _, _, _, _, _, _, _, _, _ => none
 | k + 1, x1, x6, x7, x9, x14, x15, x16, x143, x167000, x183000, x183001, x183002 => if x143 = true then (some (x7, x183000, x183001, x183002)) else (if 0 ≤ x16 then (if x16 < (x15.length : Int) then (if 0 ≤ (rd x15 x16) then (if (rd x15 x16) < (x7.length : Int) then (if (rd x7 (rd x15 x16)) < 0 then (if (rd x15 x16) < (x9.length : Int) then (spec_l04Heights.l2 k x1 x6 (x7.set ((rd x15 x16) : Int).toNat x14) (x9.set ((rd x15 x16) : Int).toNat true) x14 x15 (wrap64 (x16 + 1)) x167000 x183000 x183001 x183002) else (none)) else (spec_l04Heights.l2 k x1 x6 x7 x9 x14 x15 (wrap64 (x16 + 1)) x167000 x183000 x183001 x183002)) else (none)) else (none)) else (none)) else (none))
end
def spec_l04Heights.f (k : Nat) (l0_0 : List (S100)) (a1 : Int) : Option (List Int × Int × Int × Int) := if 0 ≤ a1 then (if a1 < (l0_0.length : Int) then (if 0 ≤ (((rd_T100 l0_0 a1).f2).length : Int) then (if ((((rd_T100 l0_0 a1).f2).length : Int) : Int).toNat ≤ 35184372088832 then (spec_l04Heights.l0 k a1 ((rd_T100 l0_0 a1).f2) (List.replicate ((((rd_T100 l0_0 a1).f2).length : Int) : Int).toNat 0) 0 l0_0) else (none)) else (none)) else (none)) else (none)
theorem spec_l04Heights.mono_l : ∀ k, (∀ y0 y1 y2 y3 y4, LeO (spec_l04Heights.l0 k y0 y1 y2 y3 y4) (spec_l04Heights.l0 (k + 1) y0 y1 y2 y3 y4)) ∧ (∀ y0 y1 y2 y3 y4, LeO (spec_l04Heights.l1 k y0 y1 y2 y3 y4) (spec_l04Heights.l1 (k + 1) y0 y1 y2 y3 y4)) ∧ (∀ y0 y1 y2 y3 y4 y5 y6 y7 y8 y9 y10 y11 y12, LeO (spec_l04Heights.j2 k y0 y1 y2 y3 y4 y5 y6 y7 y8 y9 y10 y11 y12) (spec_l04Heights.j2 (k + 1) y0 y1 y2 y3 y4 y5 y6 y7 y8 y9 y10 y11 y12)) ∧ (∀ y0 y1 y2 y3 y4 y5 y6 y7 y8 y9 y10 y11 y12 y13, LeO (spec_l04Heights.j3 k y0 y1 y2 y3 y4 y5 y6 y7 y8 y9 y10 y11 y12 y13) (spec_l04Heights.j3 (k + 1) y0 y1 y2 y3 y4 y5 y6 y7 y8 y9 y10 y11 y12 y13)) ∧ (∀ y0 y1 y2 y3 y4 y5 y6 y7 y8 y9 y10 y11, LeO (spec_l04Heights.j4 k y0 y1 y2 y3 y4 y5 y6 y7 y8 y9 y10 y11) (spec_l04Heights.j4 (k + 1) y0 y1 y2 y3 y4 y5 y6 y7 y8 y9 y10 y11)) ∧ (∀ y0 y1 y2 y3 y4 y5 y6 y7 y8 y9 y10 y11 y12, LeO (spec_l04Heights.j5 k y0 y1 y2 y3 y4 y5 y6 y7 y8 y9 y10 y11 y12) (spec_l04Heights.j5 (k + 1) y0 y1 y2 y3 y4 y5 y6 y7 y8 y9 y10 y11 y12)) ∧ (∀ y0 y1 y2 y3 y4 y5 y6 y7 y8 y9, LeO (spec_l04Heights.j6 k y0 y1 y2 y3 y4 y5 y6 y7 y8 y9) (spec_l04Heights.j6 (k + 1) y0 y1 y2 y3 y4 y5 y6 y7 y8 y9)) ∧ (∀ y0 y1 y2 y3 y4 y5 y6 y7 y8 y9 y10, LeO (spec_l04Heights.l2 k y0 y1 y2 y3 y4 y5 y6 y7 y8 y9 y10) (spec_l04Heights.l2 (k + 1) y0 y1 y2 y3 y4 y5 y6 y7 y8 y9 y10)) ∧ (∀ y0 y1 y2 y3 y4 y5 y6 y7 y8 y9 y10 y11, LeO (spec_l04Heights.j8 k y0 y1 y2 y3 y4 y5 y6 y7 y8 y9 y10 y11) (spec_l04Heights.j8 (k + 1) y0 y1 y2 y3 y4 y5 y6 y7 y8 y9 y10 y11))
 | 0 => ⟨fun _ _ _ _ _ r h => by simp [spec_l04Heights.l0] at h, fun _ _ _ _ _ r h => by simp [spec_l04Heights.l1] at h, fun _ _ _ _ _ _ _ _ _ _ _ _ _ r h => by simp [spec_l04Heights.j2] at h, fun _ _ _ _ _ _ _ _ _ _ _ _ _ _ r h => by simp [spec_l04Heights.j3] at h, fun _ _ _ _ _ _ _ _ _ _ _ _ r h => by simp [spec_l04Heights.j4] at h, fun _ _ _ _ _ _ _ _ _ _ _ _ _ r h => by simp [spec_l04Heights.j5] at h, fun _ _ _ _ _ _ _ _ _ _ r h => by simp [spec_l04Heights.j6] at h, fun _ _ _ _ _ _ _ _ _ _ _ r h => by simp [spec_l04Heights.l2] at h, fun _ _ _ _ _ _ _ _ _ _ _ _ r h => by simp [spec_l04Heights.j8] at h⟩
 | k + 1 => by
  obtain ⟨ih0, ih1, ih2, ih3, ih4, ih5, ih6, ih7, ih8⟩ := spec_l04Heights.mono_l k
  refine ⟨?_, ?_, ?_, ?_, ?_, ?_, ?_, ?_, ?_⟩
  ·intro y0 y1 y2 y3 y4
   unfold spec_l04Heights.l0
   repeat' first
   | (with_reducible exact ih0 _ _ _ _ _)
   | (with_reducible exact ih1 _ _ _ _ _)
   | (with_reducible exact ih2 _ _ _ _ _ _ _ _ _ _ _ _ _)
   | (with_reducible exact ih3 _ _ _ _ _ _ _ _ _ _ _ _ _ _)
   | (with_reducible exact ih4 _ _ _ _ _ _ _ _ _ _ _ _)
   | (with_reducible exact ih5 _ _ _ _ _ _ _ _ _ _ _ _ _)
   | (with_reducible exact ih6 _ _ _ _ _ _ _ _ _ _)
   | (with_reducible exact ih7 _ _ _ _ _ _ _ _ _ _ _)
   | (with_reducible exact ih8 _ _ _ _ _ _ _ _ _ _ _ _)
   | (with_reducible exact spec_Puts.mono _ _ _)
   | (with_reducible exact spec_Takes.mono _ _ _ _)
   | (with_reducible exact spec_l04Least.mono _ _)
   | (with_reducible exact LeO.refl _)
   | (with_reducible exact LeO.none _)
   | (with_reducible refine LeO.ite ?_ ?_)
   | (with_reducible refine LeO.bind ?_ (fun _ => ?_))
  ·intro y0 y1 y2 y3 y4
   unfold spec_l04Heights.l1
   repeat' first
   | (with_reducible exact ih0 _ _ _ _ _)
   | (with_reducible exact ih1 _ _ _ _ _)
   | (with_reducible exact ih2 _ _ _ _ _ _ _ _ _ _ _ _ _)
   | (with_reducible exact ih3 _ _ _ _ _ _ _ _ _ _ _ _ _ _)
   | (with_reducible exact ih4 _ _ _ _ _ _ _ _ _ _ _ _)
   | (with_reducible exact ih5 _ _ _ _ _ _ _ _ _ _ _ _ _)
   | (with_reducible exact ih6 _ _ _ _ _ _ _ _ _ _)
   | (with_reducible exact ih7 _ _ _ _ _ _ _ _ _ _ _)
   | (with_reducible exact ih8 _ _ _ _ _ _ _ _ _ _ _ _)
   | (with_reducible exact spec_Puts.mono _ _ _)
   | (with_reducible exact spec_Takes.mono _ _ _ _)
   | (with_reducible exact spec_l04Least.mono _ _)
   | (with_reducible exact LeO.refl _)
   | (with_reducible exact LeO.none _)
   | (with_reducible refine LeO.ite ?_ ?_)
   | (with_reducible refine LeO.bind ?_ (fun _ => ?_))
  ·intro y0 y1 y2 y3 y4 y5 y6 y7 y8 y9 y10 y11 y12
   unfold spec_l04Heights.j2
   repeat' first
   | (with_reducible exact ih0 _ _ _ _ _)
   | (with_reducible exact ih1 _ _ _ _ _)
   | (with_reducible exact ih2 _ _ _ _ _ _ _ _ _ _ _ _ _)
   | (with_reducible exact ih3 _ _ _ _ _ _ _ _ _ _ _ _ _ _)
   | (with_reducible exact ih4 _ _ _ _ _ _ _ _ _ _ _ _)
   | (with_reducible exact ih5 _ _ _ _ _ _ _ _ _ _ _ _ _)
   | (with_reducible exact ih6 _ _ _ _ _ _ _ _ _ _)
   | (with_reducible exact ih7 _ _ _ _ _ _ _ _ _ _ _)
   | (with_reducible exact ih8 _ _ _ _ _ _ _ _ _ _ _ _)
   | (with_reducible exact spec_Puts.mono _ _ _)
   | (with_reducible exact spec_Takes.mono _ _ _ _)
   | (with_reducible exact spec_l04Least.mono _ _)
   | (with_reducible exact LeO.refl _)
   | (with_reducible exact LeO.none _)
   | (with_reducible refine LeO.ite ?_ ?_)
   | (with_reducible refine LeO.bind ?_ (fun _ => ?_))
  ·intro y0 y1 y2 y3 y4 y5 y6 y7 y8 y9 y10 y11 y12 y13
   unfold spec_l04Heights.j3
   repeat' first
   | (with_reducible exact ih0 _ _ _ _ _)
   | (with_reducible exact ih1 _ _ _ _ _)
   | (with_reducible exact ih2 _ _ _ _ _ _ _ _ _ _ _ _ _)
   | (with_reducible exact ih3 _ _ _ _ _ _ _ _ _ _ _ _ _ _)
   | (with_reducible exact ih4 _ _ _ _ _ _ _ _ _ _ _ _)
   | (with_reducible exact ih5 _ _ _ _ _ _ _ _ _ _ _ _ _)
   | (with_reducible exact ih6 _ _ _ _ _ _ _ _ _ _)
   | (with_reducible exact ih7 _ _ _ _ _ _ _ _ _ _ _)
   | (with_reducible exact ih8 _ _ _ _ _ _ _ _ _ _ _ _)
   | (with_reducible exact spec_Puts.mono _ _ _)
   | (with_reducible exact spec_Takes.mono _ _ _ _)
   | (with_reducible exact spec_l04Least.mono _ _)
   | (with_reducible exact LeO.refl _)
   | (with_reducible exact LeO.none _)
   | (with_reducible refine LeO.ite ?_ ?_)
   | (with_reducible refine LeO.bind ?_ (fun _ => ?_))
  ·intro y0 y1 y2 y3 y4 y5 y6 y7 y8 y9 y10 y11
   unfold spec_l04Heights.j4
   repeat' first
   | (with_reducible exact ih0 _ _ _ _ _)
   | (with_reducible exact ih1 _ _ _ _ _)
   | (with_reducible exact ih2 _ _ _ _ _ _ _ _ _ _ _ _ _)
   | (with_reducible exact ih3 _ _ _ _ _ _ _ _ _ _ _ _ _ _)
   | (with_reducible exact ih4 _ _ _ _ _ _ _ _ _ _ _ _)
   | (with_reducible exact ih5 _ _ _ _ _ _ _ _ _ _ _ _ _)
   | (with_reducible exact ih6 _ _ _ _ _ _ _ _ _ _)
   | (with_reducible exact ih7 _ _ _ _ _ _ _ _ _ _ _)
   | (with_reducible exact ih8 _ _ _ _ _ _ _ _ _ _ _ _)
   | (with_reducible exact spec_Puts.mono _ _ _)
   | (with_reducible exact spec_Takes.mono _ _ _ _)
   | (with_reducible exact spec_l04Least.mono _ _)
   | (with_reducible exact LeO.refl _)
   | (with_reducible exact LeO.none _)
   | (with_reducible refine LeO.ite ?_ ?_)
   | (with_reducible refine LeO.bind ?_ (fun _ => ?_))
  ·intro y0 y1 y2 y3 y4 y5 y6 y7 y8 y9 y10 y11 y12
   unfold spec_l04Heights.j5
   repeat' first
   | (with_reducible exact ih0 _ _ _ _ _)
   | (with_reducible exact ih1 _ _ _ _ _)
   | (with_reducible exact ih2 _ _ _ _ _ _ _ _ _ _ _ _ _)
   | (with_reducible exact ih3 _ _ _ _ _ _ _ _ _ _ _ _ _ _)
   | (with_reducible exact ih4 _ _ _ _ _ _ _ _ _ _ _ _)
   | (with_reducible exact ih5 _ _ _ _ _ _ _ _ _ _ _ _ _)
   | (with_reducible exact ih6 _ _ _ _ _ _ _ _ _ _)
   | (with_reducible exact ih7 _ _ _ _ _ _ _ _ _ _ _)
   | (with_reducible exact ih8 _ _ _ _ _ _ _ _ _ _ _ _)
   | (with_reducible exact spec_Puts.mono _ _ _)
   | (with_reducible exact spec_Takes.mono _ _ _ _)
   | (with_reducible exact spec_l04Least.mono _ _)
   | (with_reducible exact LeO.refl _)
   | (with_reducible exact LeO.none _)
   | (with_reducible refine LeO.ite ?_ ?_)
   | (with_reducible refine LeO.bind ?_ (fun _ => ?_))
  ·intro y0 y1 y2 y3 y4 y5 y6 y7 y8 y9
   unfold spec_l04Heights.j6
   repeat' first
   | (with_reducible exact ih0 _ _ _ _ _)
   | (with_reducible exact ih1 _ _ _ _ _)
   | (with_reducible exact ih2 _ _ _ _ _ _ _ _ _ _ _ _ _)
   | (with_reducible exact ih3 _ _ _ _ _ _ _ _ _ _ _ _ _ _)
   | (with_reducible exact ih4 _ _ _ _ _ _ _ _ _ _ _ _)
   | (with_reducible exact ih5 _ _ _ _ _ _ _ _ _ _ _ _ _)
   | (with_reducible exact ih6 _ _ _ _ _ _ _ _ _ _)
   | (with_reducible exact ih7 _ _ _ _ _ _ _ _ _ _ _)
   | (with_reducible exact ih8 _ _ _ _ _ _ _ _ _ _ _ _)
   | (with_reducible exact spec_Puts.mono _ _ _)
   | (with_reducible exact spec_Takes.mono _ _ _ _)
   | (with_reducible exact spec_l04Least.mono _ _)
   | (with_reducible exact LeO.refl _)
   | (with_reducible exact LeO.none _)
   | (with_reducible refine LeO.ite ?_ ?_)
   | (with_reducible refine LeO.bind ?_ (fun _ => ?_))
  ·intro y0 y1 y2 y3 y4 y5 y6 y7 y8 y9 y10
   unfold spec_l04Heights.l2
   repeat' first
   | (with_reducible exact ih0 _ _ _ _ _)
   | (with_reducible exact ih1 _ _ _ _ _)
   | (with_reducible exact ih2 _ _ _ _ _ _ _ _ _ _ _ _ _)
   | (with_reducible exact ih3 _ _ _ _ _ _ _ _ _ _ _ _ _ _)
   | (with_reducible exact ih4 _ _ _ _ _ _ _ _ _ _ _ _)
   | (with_reducible exact ih5 _ _ _ _ _ _ _ _ _ _ _ _ _)
   | (with_reducible exact ih6 _ _ _ _ _ _ _ _ _ _)
   | (with_reducible exact ih7 _ _ _ _ _ _ _ _ _ _ _)
   | (with_reducible exact ih8 _ _ _ _ _ _ _ _ _ _ _ _)
   | (with_reducible exact spec_Puts.mono _ _ _)
   | (with_reducible exact spec_Takes.mono _ _ _ _)
   | (with_reducible exact spec_l04Least.mono _ _)
   | (with_reducible exact LeO.refl _)
   | (with_reducible exact LeO.none _)
   | (with_reducible refine LeO.ite ?_ ?_)
   | (with_reducible refine LeO.bind ?_ (fun _ => ?_))
  ·intro y0 y1 y2 y3 y4 y5 y6 y7 y8 y9 y10 y11
   unfold spec_l04Heights.j8
   repeat' first
   | (with_reducible exact ih0 _ _ _ _ _)
   | (with_reducible exact ih1 _ _ _ _ _)
   | (with_reducible exact ih2 _ _ _ _ _ _ _ _ _ _ _ _ _)
   | (with_reducible exact ih3 _ _ _ _ _ _ _ _ _ _ _ _ _ _)
   | (with_reducible exact ih4 _ _ _ _ _ _ _ _ _ _ _ _)
   | (with_reducible exact ih5 _ _ _ _ _ _ _ _ _ _ _ _ _)
   | (with_reducible exact ih6 _ _ _ _ _ _ _ _ _ _)
   | (with_reducible exact ih7 _ _ _ _ _ _ _ _ _ _ _)
   | (with_reducible exact ih8 _ _ _ _ _ _ _ _ _ _ _ _)
   | (with_reducible exact spec_Puts.mono _ _ _)
   | (with_reducible exact spec_Takes.mono _ _ _ _)
   | (with_reducible exact spec_l04Least.mono _ _)
   | (with_reducible exact LeO.refl _)
   | (with_reducible exact LeO.none _)
   | (with_reducible refine LeO.ite ?_ ?_)
   | (with_reducible refine LeO.bind ?_ (fun _ => ?_))
theorem spec_l04Heights.mono : ∀ a0 a1 k, LeO (spec_l04Heights.f k a0 a1) (spec_l04Heights.f (k + 1) a0 a1) := by
 intro a0 a1 k
 obtain ⟨ih0, ih1, ih2, ih3, ih4, ih5, ih6, ih7, ih8⟩ := spec_l04Heights.mono_l k
 unfold spec_l04Heights.f
 repeat' first
   | (with_reducible exact ih0 _ _ _ _ _)
   | (with_reducible exact ih1 _ _ _ _ _)
   | (with_reducible exact ih2 _ _ _ _ _ _ _ _ _ _ _ _ _)
   | (with_reducible exact ih3 _ _ _ _ _ _ _ _ _ _ _ _ _ _)
   | (with_reducible exact ih4 _ _ _ _ _ _ _ _ _ _ _ _)
   | (with_reducible exact ih5 _ _ _ _ _ _ _ _ _ _ _ _ _)
   | (with_reducible exact ih6 _ _ _ _ _ _ _ _ _ _)
   | (with_reducible exact ih7 _ _ _ _ _ _ _ _ _ _ _)
   | (with_reducible exact ih8 _ _ _ _ _ _ _ _ _ _ _ _)
   | (with_reducible exact spec_Puts.mono _ _ _)
   | (with_reducible exact spec_Takes.mono _ _ _ _)
   | (with_reducible exact spec_l04Least.mono _ _)
   | (with_reducible exact LeO.refl _)
   | (with_reducible exact LeO.none _)
   | (with_reducible refine LeO.ite ?_ ?_)
   | (with_reducible refine LeO.bind ?_ (fun _ => ?_))
def spec_l04Heights.T17 : Bool × List (List Nat × List Nat) := (true, [([], []), ([], []), ([0, 1], [0, 1]), ([2], [2]), ([], []), ([3, 4], [3, 4]), ([], []), ([6], [6]), ([5, 7], [5, 7]), ([8, 7, 0, 1, 2, 3, 4, 5, 6, 7, 8], [8])])
def spec_l04Heights.B17 : List Nat := [0, 0, 3, 7, 0, 31, 0, 64, 255, 511]
theorem spec_l04Heights.tab17 : rtab .any (opsOf Try.f58 17) = spec_l04Heights.T17 := by kernel_rfl
theorem spec_l04Heights.bits17 : waitsOk spec_l04Heights.T17.2 spec_l04Heights.B17 = true := by kernel_rfl
theorem spec_l04Heights.calls (k : Nat) (A0_0 : Option Addr) (c0_0 : Nat) (l0_0 : List (S100)) (a1 : Int) (r1 : List Int) (r2 : Int) (r3 : Int) (r4 : Int) (w : World) (hr0_0 : Kd.C k100 w A0_0 l0_0.length l0_0) (hc0_0 : l0_0.length ≤ c0_0) (h : spec_l04Heights.f k l0_0 a1 = some (r1, r2, r3, r4)) :
  Calls Try.prog 58 #[.agg #[.slice A0_0 l0_0.length c0_0], .int .i64 a1] w fun e w' => ∃ v0_ : Value, e = .returned (.tuple #[v0_, .agg #[.int .i64 r2, .int .i64 r3, .int .i64 r4]]) ∧ Kd.R (Kd.int .i64) 2 w' w.heap.size (fun _ => True) v0_ r1 ∧ Below w.heap.size w w' := by
 have hu30 := Try.underlying30
 have hu84 := Try.underlying84
 have hu102 := Try.underlying102
 have HR0_0 := am hr0_0
 have HC0_0 := am hc0_0
 clear hr0_0 hc0_0
 have HB := am (Below.refl w.heap.size w)
 have H : (if 0 ≤ a1 then (if a1 < (l0_0.length : Int) then (if 0 ≤ (((rd_T100 l0_0 a1).f2).length : Int) then (if ((((rd_T100 l0_0 a1).f2).length : Int) : Int).toNat ≤ 35184372088832 then (spec_l04Heights.l0 k a1 ((rd_T100 l0_0 a1).f2) (List.replicate ((((rd_T100 l0_0 a1).f2).length : Int) : Int).toNat 0) 0 l0_0) else (none)) else (none)) else (none)) else (none)) = some (r1, r2, r3, r4) := h
 clear h
 by_cases c3 : 0 ≤ a1
 ·rw [if_pos c3] at H
  have c3b0 := decide_eq_true c3
  clear c3
  by_cases c4 : a1 < (l0_0.length : Int)
  ·rw [if_pos c4] at H
   have c4b0 := decide_eq_true c4
   clear c4
   by_cases c5 : 0 ≤ (((rd_T100 l0_0 a1).f2).length : Int)
   ·rw [if_pos c5] at H
    have c5b0 := eq_true c5
    have c5b1 := decide_eq_true c5
    clear c5
    by_cases c6 : ((((rd_T100 l0_0 a1).f2).length : Int) : Int).toNat ≤ 35184372088832
    ·rw [if_pos c6] at H
     have c6b0 := eq_true c6
     have c6b1 := decide_eq_true c6
     clear c6
     obtain ⟨y169, hy169⟩ : ∃ y_ : List Int, y_ = (List.replicate ((((rd_T100 l0_0 a1).f2).length : Int) : Int).toNat 0) := ⟨_, rfl⟩
     replace H : (spec_l04Heights.l0 k a1 ((rd_T100 l0_0 a1).f2) y169 0 l0_0) = some (r1, r2, r3, r4) := by first | (rw [hy169]; with_reducible exact H) | (have H2_ := (Option.bind_some _ _).symm.trans H; rw [hy169]; with_reducible exact H2_) | (have H2_ := (Option.bind_some _ _).symm.trans H; with_reducible exact H2_) | with_reducible exact H | (rw [hy169]; exact H) | exact H
     have Ny169 := am hy169
     clear hy169
     have H' := am H
     clear H
     go_enter Try.func58, Try.ntmps58
     go_wp2_with (first | ((with_reducible refine gate_dst (N := 2) rfl ?_); refine box_event ?hg (N := 2) ?hd (cs := #[.slice A0_0 l0_0.length c0_0]) (t := 30) ?hr ?_; (case hd => rfl); (case hg => rfl); (case hr => exact gs); intro gb166 hg w7 hbox hb; have BK166 := am (hbox); have GW166 := am ((by rw [hg]; exact (below_size (bw HB)) : w.heap.size ≤ gb166)); have GE166 := am ((by rw [hg]; exact (below_size (bw HB)) : w.heap.size ≤ gb166)); replace HB := am (below_step (bw HB) hb); clear hb hbox hg) | ((with_reducible refine gate_dst (N := 5) rfl ?_); refine box_event ?hg (N := 5) ?hd (cs := #[.int .i64 0, .int .i64 0, .int .i64 0]) (t := 84) ?hr ?_; (case hd => rfl); (case hg => rfl); (case hr => exact gs); intro gb167 hg w8 hbox hb; have BK167 := am (hbox); have GW167 := am ((by rw [hg]; exact (below_size (bw HB)) : w.heap.size ≤ gb167)); have GE167 := am ((by rw [hg]; exact (below_size (bw HB)) : w.heap.size ≤ gb167)); replace HB := am (below_step (bw HB) hb); have NB166_167 := am ((by rw [hg]; exact Nat.ne_of_lt (blk_lt (g := gb166) (o := .cells #[.slice A0_0 l0_0.length c0_0] 30 (0, 0)) (bp BK166)) : gb166 ≠ gb167)); have NB167_166 := am ((by rw [hg]; exact Nat.ne_of_gt (blk_lt (g := gb166) (o := .cells #[.slice A0_0 l0_0.length c0_0] 30 (0, 0)) (bp BK166)) : gb167 ≠ gb166)); replace BK166 := am (blk_below (g := gb166) (o := .cells #[.slice A0_0 l0_0.length c0_0] 30 (0, 0)) (bp BK166) hb); clear hb hbox hg; have hnb9 := NB166_167.out; have hnc9 := NB167_166.out; have hcz10_0 : w8.cell? ⟨gb166, 0, none⟩ = some (.slice A0_0 l0_0.length c0_0) := bc BK166 0; have hfz10_0 := bf BK166 0; have p168 : 0 ≤ (a1 : Int) := of_decide_eq_true as1; have q168 : a1 < (l0_0.length : Int) := of_decide_eq_true as1; obtain ⟨ad168, A168_2, c168_2, e168, hx168_0, hx168_1, hx168_2, hl168_2, hi168_2⟩ := at_T100 HR0_0.out a1 p168 q168; cases e168; replace hx168_0 := (HB.out.cell (World.block_lt_of_cell? w _ hx168_0)).trans hx168_0; replace hx168_1 := (HB.out.cell (World.block_lt_of_cell? w _ hx168_1)).trans hx168_1; replace hx168_2 := (HB.out.cell (World.block_lt_of_cell? w _ hx168_2)).trans hx168_2; have HR168_2 := am hi168_2; have HC168_2 := am hl168_2; clear hi168_2 hl168_2; replace p168 := eq_true p168; replace q168 := eq_true q168) | ((with_reducible refine gate_dst (N := 25) rfl ?_); refine Kd.R_make (Kd.int .i64) _ 2 rfl (N := 25) rfl 26 _ _ rfl (((rd_T100 l0_0 a1).f2).length : Int) rfl rfl Try.underlying26 (.int .i64 0) 8 info2 rfl (by decide) (by omega) 0 (ok := fun _ => True) (okp := fun _ => True) rfl (fun _ hk => hk) trivial (of_decide_eq_true as1) (Nat.le_trans (Nat.mul_le_mul_right _ (of_decide_eq_true as1 : (((rd_T100 l0_0 a1).f2).length : Int).toNat ≤ 35184372088832)) (by omega)) (Below.refl _ _) (Nat.le_refl _) ?_; intro v170 w11 ho12 hb hg_ hnew_; clear hg_ hnew_; (first | rw [← Ny169.out] at ho12 | (simp only [Int.reduceToNat] at ho12; rw [← Ny169.out] at ho12)); have HO171 := am (Kd.R_lower ho12 (below_size (bw HB))); replace BK166 := am (blk_below (g := gb166) (o := .cells #[.slice (some ad168) l0_0.length c0_0] 30 (0, 0)) (bp BK166) hb); replace BK167 := am (blk_below (g := gb167) (o := .cells #[.int .i64 0, .int .i64 0, .int .i64 0] 84 (0, 0)) (bp BK167) hb); replace HB := am (below_step (bw HB) hb); clear hb ho12))
     go_loopg [8] k (fun kq v8 w' => ∃ (x7_1 : List Int) (x8_1 : Int), v8 = .int .i64 x8_1 ∧ Aside0 (spec_l04Heights.l0 kq a1 ((rd_T100 l0_0 a1).f2) x7_1 x8_1 l0_0 = some (r1, r2, r3, r4)) ∧ Aside0 (kq ≤ k) ∧ Aside0 (Kd.R (Kd.int .i64) 2 w' w.heap.size (fun _ => True) v170 x7_1) ∧ Aside0 (w'.heap[gb166]? = some (.cells #[(.slice (some ad168) l0_0.length c0_0)] 30 (0, 0))) ∧ Aside0 (w'.heap[gb167]? = some (.cells #[.int .i64 0, .int .i64 0, .int .i64 0] 84 (0, 0))) ∧ Aside0 (Below w.heap.size w w'))
     case atStart => exact ⟨(y169), (0), dr, H', ⟨Nat.le_refl _⟩, ⟨kR HO171⟩, ⟨bp BK166⟩, ⟨bp BK167⟩, ⟨bw HB⟩⟩
     case round =>
      clear H'
      (try clear c1); (try clear p1); (try clear q1); (try clear hx1); (try clear p2); (try clear c3); (try clear c3b0); (try clear c4); (try clear c4b0); (try clear c5); (try clear c5b0); (try clear c5b1); (try clear c6); (try clear c6b0); (try clear c6b1); (try clear c9); (try clear hcz10_0); (try clear hfz10_0); (try clear hx168_0); (try clear hx168_1); (try clear hx168_2); (try clear p168); (try clear q168)
      obtain ⟨x7_1, x8_1, rfl, HA, HK1, HO_7, BK166, BK167, HB⟩ := hrel
      cases gk with
      | zero => exact absurd HA.out (by simp [spec_l04Heights.l0])
      | succ k1 =>
       have H := HA.out
       clear HA
       simp only [spec_l04Heights.l0] at H
       by_cases c13 : x8_1 < (x7_1.length : Int)
       ·rw [if_pos c13] at H
        have c13b0 := decide_eq_true c13
        clear c13
        by_cases c14 : 0 ≤ x8_1
        ·rw [if_pos c14] at H
         have c14b0 := decide_eq_true c14
         clear c14
         obtain ⟨y172, hy172⟩ : ∃ y_ : List Int, y_ = (x7_1.set (x8_1 : Int).toNat (-1)) := ⟨_, rfl⟩
         replace H : (spec_l04Heights.l0 k1 a1 ((rd_T100 l0_0 a1).f2) y172 (wrap64 (x8_1 + 1)) l0_0) = some (r1, r2, r3, r4) := by first | (rw [hy172]; with_reducible exact H) | (have H2_ := (Option.bind_some _ _).symm.trans H; rw [hy172]; with_reducible exact H2_) | (have H2_ := (Option.bind_some _ _).symm.trans H; with_reducible exact H2_) | with_reducible exact H | (rw [hy172]; exact H) | exact H
         have Ny172 := am hy172
         clear hy172
         have H' := am H
         clear H
         obtain ⟨Ao16, co16, eo16⟩ := Kd.R_slice HO_7.out
         subst eo16
         have p15 : 0 ≤ (x8_1 : Int) := of_decide_eq_true as1
         have q15 : (x8_1 : Int) < ((x7_1.length : Int) : Int) := of_decide_eq_true as1
         obtain ⟨go15, co15, eo15, gb15, gl15, cl15, HG15⟩ := Kd.R_form HO_7.out (by omega)
         (first | cases eo15 | (injection eo15 with ea_ en_ ec_; (first | subst ea_ | (injection ea_ with ea_; subst ea_)); subst ec_; clear en_))
         have GB15 := am gb15
         have GG15 := am HG15
         clear gb15 gl15 HG15
         obtain ⟨hx15_0, hf15_0⟩ := Kd.R_celln 0 HO_7.out (x8_1 : Int) p15 q15
         replace p15 := eq_true p15
         replace q15 := eq_true q15
         have HP17 := Kd.R_putg HO_7.out (x8_1 : Int) (-1)
         go_wp2_with (first | ((with_reducible refine gate_store (t := 2) (p := 34) rfl ?_); refine store_event (t := 2) (p := 34) (v := ?vo_w18) (w1 := (wr.setCell ⟨go15, (x8_1 : Int).toNat, none⟩ (.int .i64 (-1)))) ?hg ?ho ?hn ?hr ?_; (case ho => rfl); (case hg => rfl); (case hn => rfl); (case hr => exact gs); intro w18 hw; have hg : wr.grownBy w18 (some go15) := (by rw [hw]; exact HP17.2); have hp_ : Kd.R (Kd.int .i64) 2 w18 w.heap.size (fun _ => True) (.slice (some ⟨go15, 0, none⟩) x7_1.length co16) y172 := (by rw [hw, Ny172.out]; exact HP17.1); clear HP17; replace BK166 := am (blk_grown (g := gb166) (o := .cells #[.slice (some ad168) l0_0.length c0_0] 30 (0, 0)) (bp BK166) hg (Kd.R_ne HO_7.out BK166.out (by decide))); replace BK167 := am (blk_grown (g := gb167) (o := .cells #[.int .i64 0, .int .i64 0, .int .i64 0] 84 (0, 0)) (bp BK167) hg (Kd.R_ne HO_7.out BK167.out (by decide))); replace HO_7 := am (hp_); replace HB := am ((by rw [hw]; exact below_set (HB.out) GB15.out : Below w.heap.size w w18)); clear hg hw hp_))
         go_roundg k1
         case measure => have := HK1.out; omega
         case rel => exact ⟨(y172), (wrap64 (x8_1 + 1)), dr, H', ⟨by have := HK1.out; omega⟩, ⟨kR HO_7⟩, ⟨bp BK166⟩, ⟨bp BK167⟩, ⟨bw HB⟩⟩
        ·rw [if_neg c14] at H
         exact absurd H (by simp)
       ·rw [if_neg c13] at H
        have c13b0 := decide_eq_false c13
        clear c13
        by_cases c19 : 0 < (x7_1.length : Int)
        ·rw [if_pos c19] at H
         have c19b0 := decide_eq_true c19
         have c19b1 : decide (0 < x7_1.length) = true := decide_eq_true (by omega)
         clear c19
         obtain ⟨y173, hy173⟩ : ∃ y_ : List Int, y_ = (x7_1.set (0 : Int).toNat 0) := ⟨_, rfl⟩
         replace H : (if 0 ≤ (((rd_T100 l0_0 a1).f2).length : Int) then (if ((((rd_T100 l0_0 a1).f2).length : Int) : Int).toNat ≤ 281474976710656 then ((some (List.replicate ((((rd_T100 l0_0 a1).f2).length : Int) : Int).toNat false : List Bool)).bind fun y174 => (if 0 < (y174.length : Int) then (spec_l04Heights.l1 k1 a1 ((rd_T100 l0_0 a1).f2) y173 (y174.set (0 : Int).toNat true) l0_0) else (none))) else (none)) else (none)) = some (r1, r2, r3, r4) := by first | (rw [hy173]; with_reducible exact H) | (have H2_ := (Option.bind_some _ _).symm.trans H; rw [hy173]; with_reducible exact H2_) | (have H2_ := (Option.bind_some _ _).symm.trans H; with_reducible exact H2_) | with_reducible exact H | (rw [hy173]; exact H) | exact H
         have Ny173 := am hy173
         clear hy173
         by_cases c21 : 0 ≤ (((rd_T100 l0_0 a1).f2).length : Int)
         ·rw [if_pos c21] at H
          have c21b0 := eq_true c21
          have c21b1 := decide_eq_true c21
          clear c21
          by_cases c22 : ((((rd_T100 l0_0 a1).f2).length : Int) : Int).toNat ≤ 281474976710656
          ·rw [if_pos c22] at H
           have c22b0 := eq_true c22
           have c22b1 := decide_eq_true c22
           clear c22
           obtain ⟨y174, hy174⟩ : ∃ y_ : List Bool, y_ = (List.replicate ((((rd_T100 l0_0 a1).f2).length : Int) : Int).toNat false) := ⟨_, rfl⟩
           replace H : (if 0 < (y174.length : Int) then (spec_l04Heights.l1 k1 a1 ((rd_T100 l0_0 a1).f2) y173 (y174.set (0 : Int).toNat true) l0_0) else (none)) = some (r1, r2, r3, r4) := by first | (rw [hy174]; with_reducible exact H) | (have H2_ := (Option.bind_some _ _).symm.trans H; rw [hy174]; with_reducible exact H2_) | (have H2_ := (Option.bind_some _ _).symm.trans H; with_reducible exact H2_) | with_reducible exact H | (rw [hy174]; exact H) | exact H
           have Ny174 := am hy174
           clear hy174
           by_cases c23 : 0 < (y174.length : Int)
           ·rw [if_pos c23] at H
            have c23b0 := decide_eq_true c23
            have c23b1 : decide (0 < y174.length) = true := decide_eq_true (by omega)
            clear c23
            obtain ⟨y177, hy177⟩ : ∃ y_ : List Bool, y_ = (y174.set (0 : Int).toNat true) := ⟨_, rfl⟩
            replace H : (spec_l04Heights.l1 k1 a1 ((rd_T100 l0_0 a1).f2) y173 y177 l0_0) = some (r1, r2, r3, r4) := by first | (rw [hy177]; with_reducible exact H) | (have H2_ := (Option.bind_some _ _).symm.trans H; rw [hy177]; with_reducible exact H2_) | (have H2_ := (Option.bind_some _ _).symm.trans H; with_reducible exact H2_) | with_reducible exact H | (rw [hy177]; exact H) | exact H
            have Ny177 := am hy177
            clear hy177
            have H' := am H
            clear H
            obtain ⟨Ao25, co25, eo25⟩ := Kd.R_slice HO_7.out
            subst eo25
            have p20 : 0 ≤ (0 : Int) := (by omega)
            have q20 : (0 : Int) < ((x7_1.length : Int) : Int) := of_decide_eq_true as1
            have qi20 : (0 < x7_1.length) = True := eq_true (by omega)
            obtain ⟨go20, co20, eo20, gb20, gl20, cl20, HG20⟩ := Kd.R_form HO_7.out (by omega)
            (first | cases eo20 | (injection eo20 with ea_ en_ ec_; (first | subst ea_ | (injection ea_ with ea_; subst ea_)); subst ec_; clear en_))
            have GB20 := am gb20
            have GG20 := am HG20
            clear gb20 gl20 HG20
            obtain ⟨hx20_0, hf20_0⟩ := Kd.R_celln 0 HO_7.out (0 : Int) p20 q20
            (try rw [show ((0 : Int)).toNat = 0 from rfl] at hx20_0)
            (try simp only [Nat.reduceMul, Nat.zero_mul, Nat.zero_add, Nat.reduceAdd] at hx20_0)
            (try rw [show ((0 : Int)).toNat = 0 from rfl] at hf20_0)
            (try simp only [Nat.reduceMul, Nat.zero_mul, Nat.zero_add, Nat.reduceAdd] at hf20_0)
            replace p20 := eq_true p20
            replace q20 := eq_true q20
            have HP26 := Kd.R_putg HO_7.out (0 : Int) 0
            go_wp2_with (first | ((with_reducible refine gate_store (t := 2) (p := 36) rfl ?_); refine store_event (t := 2) (p := 36) (v := ?vo_w27) (w1 := (wr.setCell ⟨go20, (0 : Int).toNat, none⟩ (.int .i64 0))) ?hg ?ho ?hn ?hr ?_; (case ho => rfl); (case hg => rfl); (case hn => rfl); (case hr => exact gs); intro w27 hw; have hg : wr.grownBy w27 (some go20) := (by rw [hw]; exact HP26.2); have hp_ : Kd.R (Kd.int .i64) 2 w27 w.heap.size (fun _ => True) (.slice (some ⟨go20, 0, none⟩) x7_1.length co25) y173 := (by rw [hw, Ny173.out]; exact HP26.1); clear HP26; replace BK166 := am (blk_grown (g := gb166) (o := .cells #[.slice (some ad168) l0_0.length c0_0] 30 (0, 0)) (bp BK166) hg (Kd.R_ne HO_7.out BK166.out (by decide))); replace BK167 := am (blk_grown (g := gb167) (o := .cells #[.int .i64 0, .int .i64 0, .int .i64 0] 84 (0, 0)) (bp BK167) hg (Kd.R_ne HO_7.out BK167.out (by decide))); replace HO_7 := am (hp_); replace HB := am ((by rw [hw]; exact below_set (HB.out) GB20.out : Below w.heap.size w w27)); clear hg hw hp_) | ((with_reducible refine gate_dst (N := 39) rfl ?_); refine Kd.R_make Kd.bool _ 4 rfl (N := 39) rfl 166 _ _ rfl (((rd_T100 l0_0 a1).f2).length : Int) rfl rfl Try.underlying166 (.bool false) 1 info4 rfl (by decide) (by omega) false (ok := fun _ => True) (okp := fun _ => True) rfl (fun _ hk => hk) trivial (of_decide_eq_true as1) (Nat.le_trans (Nat.mul_le_mul_right _ (of_decide_eq_true as1 : (((rd_T100 l0_0 a1).f2).length : Int).toNat ≤ 281474976710656)) (by omega)) (Below.refl _ _) (Nat.le_refl _) ?_; intro v175 w28 ho29 hb hg_ hnew_; clear hg_ hnew_; (first | rw [← Ny174.out] at ho29 | (simp only [Int.reduceToNat] at ho29; rw [← Ny174.out] at ho29)); replace HO_7 := am (Kd.R_below (kR HO_7) hb); have HO176 := am (Kd.R_lower ho29 (below_size (bw HB))); replace BK166 := am (blk_below (g := gb166) (o := .cells #[.slice (some ad168) l0_0.length c0_0] 30 (0, 0)) (bp BK166) hb); replace BK167 := am (blk_below (g := gb167) (o := .cells #[.int .i64 0, .int .i64 0, .int .i64 0] 84 (0, 0)) (bp BK167) hb); replace HB := am (below_step (bw HB) hb); clear hb ho29; have p24 : 0 ≤ (0 : Int) := (by omega); have q24 : (0 : Int) < ((y174.length : Int) : Int) := of_decide_eq_true as1; have qi24 : (0 < y174.length) = True := eq_true (by omega); obtain ⟨go24, co24, eo24, gb24, gl24, cl24, HG24⟩ := Kd.R_form HO176.out (by omega); (first | cases eo24 | (injection eo24 with ea_ en_ ec_; (first | subst ea_ | (injection ea_ with ea_; subst ea_)); subst ec_; clear en_)); have GB24 := am gb24; have GG24 := am HG24; clear gb24 gl24 HG24; obtain ⟨hx24_0, hf24_0⟩ := Kd.R_celln false HO176.out (0 : Int) p24 q24; (try rw [show ((0 : Int)).toNat = 0 from rfl] at hx24_0); (try simp only [Nat.reduceMul, Nat.zero_mul, Nat.zero_add, Nat.reduceAdd] at hx24_0); (try rw [show ((0 : Int)).toNat = 0 from rfl] at hf24_0); (try simp only [Nat.reduceMul, Nat.zero_mul, Nat.zero_add, Nat.reduceAdd] at hf24_0); replace p24 := eq_true p24; replace q24 := eq_true q24; obtain ⟨hy30_, hz30_⟩ := Kd.R_celln false HO176.out (0 : Int) (by omega) (of_decide_eq_true as1); (try simp only [Int.reduceToNat, Int.toNat_zero, Int.toNat_ofNat, Nat.reduceMul, Nat.zero_mul, Nat.zero_add] at hy30_ hz30_); (try rw [show ((0 : Int)).toNat = 0 from rfl] at hy30_); (try rw [show ((0 : Int)).toNat = 0 from rfl] at hz30_); have HP30 := Kd.R_putg HO176.out (0 : Int) true) | ((with_reducible refine gate_store (t := 4) (p := 41) rfl ?_); refine store_event (t := 4) (p := 41) (v := ?vo_w31) (w1 := (w28.setCell ⟨go24, (0 : Int).toNat, none⟩ (.bool true))) ?hg ?ho ?hn ?hr ?_; (case ho => rfl); (case hg => rfl); (case hn => rfl); (case hr => exact gs); intro w31 hw; have hg : w28.grownBy w31 (some go24) := (by rw [hw]; exact HP30.2); have hp_ : Kd.R Kd.bool 4 w31 w.heap.size (fun _ => True) (.slice (some ⟨go24, 0, none⟩) y174.length co24) y177 := (by rw [hw, Ny177.out]; exact HP30.1); clear HP30; replace HO_7 := am (Kd.R_over' (v := (.slice (some ⟨go24, 0, none⟩) y174.length co24)) (kR HO_7) (Kd.R_typed HO176.out) (by decide) hg); replace BK166 := am (blk_grown (g := gb166) (o := .cells #[.slice (some ad168) l0_0.length c0_0] 30 (0, 0)) (bp BK166) hg (Kd.R_ne HO176.out BK166.out (by decide))); replace BK167 := am (blk_grown (g := gb167) (o := .cells #[.int .i64 0, .int .i64 0, .int .i64 0] 84 (0, 0)) (bp BK167) hg (Kd.R_ne HO176.out BK167.out (by decide))); replace HO176 := am (hp_); replace HB := am ((by rw [hw]; exact below_set (HB.out) GB24.out : Below w.heap.size w w31)); clear hg hw hp_))
            go_loopg [] k1 (fun kq w' => ∃ (x7_2 : List Int) (x9_2 : List Bool) (x168000_2 : Int) (x168001_2 : Int) (x168002_2 : Int), Aside0 (spec_l04Heights.l1 kq a1 ((rd_T100 l0_0 a1).f2) x7_2 x9_2 l0_0 = some (r1, r2, r3, r4)) ∧ Aside0 (kq ≤ k1) ∧ Aside0 (Kd.R (Kd.int .i64) 2 w' w.heap.size (fun _ => True) (.slice (some ⟨go20, 0, none⟩) x7_1.length co25) x7_2) ∧ Aside0 (Kd.R Kd.bool 4 w' w.heap.size (fun _ => True) (.slice (some ⟨go24, 0, none⟩) y174.length co24) x9_2) ∧ Aside0 (w'.heap[gb166]? = some (.cells #[(.slice (some ad168) l0_0.length c0_0)] 30 (0, 0))) ∧ Aside0 (w'.heap[gb167]? = some (.cells #[.int .i64 x168000_2, .int .i64 x168001_2, .int .i64 x168002_2] 84 (0, 0))) ∧ Aside0 (Below w.heap.size w w'))
            case atStart => exact ⟨(y173), (y177), (0), (0), (0), H', ⟨Nat.le_refl _⟩, ⟨kR HO_7⟩, ⟨kR HO176⟩, ⟨bp BK166⟩, ⟨bp BK167⟩, ⟨bw HB⟩⟩
            case round =>
             clear H'
             (try clear c1); (try clear p1); (try clear q1); (try clear hx1); (try clear c2); (try clear p2); (try clear q2); (try clear hx2); (try clear qi2); (try clear hf2); (try clear c3); (try clear c3b0); (try clear c4); (try clear c4b0); (try clear c5); (try clear c5b0); (try clear c5b1); (try clear c6); (try clear c6b0); (try clear c6b1); (try clear p6); (try clear c9); (try clear c13); (try clear c13b0); (try clear c14); (try clear c14b0); (try clear p15); (try clear q15); (try clear hx15); (try clear hf15); (try clear c16); (try clear p16); (try clear q16); (try clear hx16); (try clear c19); (try clear c19b0); (try clear c19b1); (try clear p20); (try clear q20); (try clear hx20); (try clear qi20); (try clear hf20); (try clear c21); (try clear c21b0); (try clear c21b1); (try clear c22); (try clear c22b0); (try clear c22b1); (try clear c23); (try clear c23b0); (try clear c23b1); (try clear p24); (try clear q24); (try clear hx24); (try clear qi24); (try clear hf24); (try clear hcz10_0); (try clear hfz10_0); (try clear hx15_0); (try clear hx168_0); (try clear hx168_1); (try clear hx168_2); (try clear hx20_0); (try clear hx24_0); (try clear p1); (try clear p15); (try clear p168); (try clear p2); (try clear p20); (try clear p24); (try clear q1); (try clear q15); (try clear q168); (try clear q20); (try clear q24)
             obtain ⟨x7_2, x9_2, x168000_2, x168001_2, x168002_2, HA, HK2, HO_7, HO_9, BK166, BK167, HB⟩ := hrel
             have hl7_2 := (Kd.R_reads' HO_7.out).1
             rw [hl7_2] at HO_7
             (try simp only [hl7_2])
             (try simp only [hl7_2] at BK166)
             (try simp only [hl7_2] at BK167)
             (try simp only [hl7_2] at HO_9)
             have hl9_2 := (Kd.R_reads' HO_9.out).1
             rw [hl9_2] at HO_9
             (try simp only [hl9_2])
             (try simp only [hl9_2] at BK166)
             (try simp only [hl9_2] at BK167)
             (try simp only [hl9_2] at HO_7)
             cases gk with
             | zero => exact absurd HA.out (by simp [spec_l04Heights.l1])
             | succ k2 =>
              have H := HA.out
              clear HA
              simp only [spec_l04Heights.l1] at H
              replace H := Option.bind_eq_some_iff.mp H
              obtain ⟨t178, A320, H⟩ := H
              replace H : (if t178 < 0 then (some (x7_2, 0, 0, 0)) else (if 0 ≤ t178 then (if t178 < (x9_2.length : Int) then ((some (x9_2.set (t178 : Int).toNat false : List Bool)).bind fun y179 => (if t178 < (((rd_T100 l0_0 a1).f2).length : Int) then ((spec_Takes.f k2 l0_0 ((rd_T102 ((rd_T100 l0_0 a1).f2) t178).f0) ((rd_T102 ((rd_T100 l0_0 a1).f2) t178).f1)).bind fun t183 => (if t178 < (x7_2.length : Int) then ((spec_Puts.f k2 ((rd_T102 ((rd_T100 l0_0 a1).f2) t178).f0) ((rd_T102 ((rd_T100 l0_0 a1).f2) t178).f1)).bind fun t185 => (if t183 > (rd x7_2 t178) then (spec_l04Heights.j2 k2 a1 ((rd_T100 l0_0 a1).f2) x7_2 y179 t178 (wrap64 ((wrap64 ((rd x7_2 t178) - t183)) + t185)) true l0_0 ((rd_T102 ((rd_T100 l0_0 a1).f2) t178).f0) ((rd_T102 ((rd_T100 l0_0 a1).f2) t178).f1) a1 t178 5) else (spec_l04Heights.j2 k2 a1 ((rd_T100 l0_0 a1).f2) x7_2 y179 t178 (wrap64 ((wrap64 ((rd x7_2 t178) - t183)) + t185)) (decide ((wrap64 ((wrap64 ((rd x7_2 t178) - t183)) + t185)) > 8)) l0_0 ((rd_T102 ((rd_T100 l0_0 a1).f2) t178).f0) ((rd_T102 ((rd_T100 l0_0 a1).f2) t178).f1) a1 t178 5))) else (none))) else (none))) else (none)) else (none))) = some (r1, r2, r3, r4) := H
              have A32 := am A320
              clear A320
              by_cases c33 : t178 < 0
              ·rw [if_pos c33] at H
               have c33b0 := decide_eq_true c33
               clear c33
               simp only [Option.some.injEq, Prod.mk.injEq] at H
               obtain ⟨rfl, rfl, rfl, rfl⟩ := H
               go_wp2_with (first | ((with_reducible refine gate_callee (f := 117) rfl ?_); refine goesL_ (some 43) rfl rfl Try.func117 (by kernel_rfl) rfl #[.slice (some ⟨go24, 0, none⟩) x9_2.length co24] rfl gl ?_; (with_reducible refine (spec_l04Least.calls k2 _ _ x9_2 t178 _ ?side1 ?side2 A32.out).mono ?_); (case side1 => exact cc (Kd.R_reads' HO_9.out).2.2); (case side2 => exact (Kd.R_reads' HO_9.out).2.1); rintro e w' ⟨rfl, ⟨nd, rfl⟩⟩; refine ⟨_, rfl, ?_⟩; (try (rw [drewN_self wr]; generalize hq_ : World.drewN wr _ = wr; have n0_ : Aside0 (Kd.R (Kd.int .i64) 2 wr w.heap.size (fun _ => True) (.slice (some ⟨go20, 0, none⟩) x7_2.length co25) x7_2) := ⟨by rw [← hq_]; exact (kR HO_7)⟩; have n1_ : Aside0 (Kd.R Kd.bool 4 wr w.heap.size (fun _ => True) (.slice (some ⟨go24, 0, none⟩) x9_2.length co24) x9_2) := ⟨by rw [← hq_]; exact (kR HO_9)⟩; have n2_ : Aside0 (wr.heap[gb166]? = some (.cells #[.slice (some ad168) l0_0.length c0_0] 30 (0, 0))) := ⟨by rw [← hq_]; exact (bp BK166)⟩; have n3_ : Aside0 (wr.heap[gb167]? = some (.cells #[.int .i64 x168000_2, .int .i64 x168001_2, .int .i64 x168002_2] 84 (0, 0))) := ⟨by rw [← hq_]; exact (bp BK167)⟩; have n4_ : Aside0 (Below w.heap.size w wr) := ⟨by rw [← hq_]; exact (bw HB)⟩; clear HO_7 HO_9 BK166 BK167 HB hq_; have HO_7 := n0_; have HO_9 := n1_; have BK166 := n2_; have BK167 := n3_; have HB := n4_; clear n0_ n1_ n2_ n3_ n4_)); have hnb34 := NB167_166.out; have hnc34 := NB166_167.out; have hcz35_0 : wr.cell? ⟨gb167, 0, none⟩ = some (.int .i64 x168000_2) := bc BK167 0; have hcz35_1 : wr.cell? ⟨gb167, 1, none⟩ = some (.int .i64 x168001_2) := bc BK167 1; have hcz35_2 : wr.cell? ⟨gb167, 2, none⟩ = some (.int .i64 x168002_2) := bc BK167 2; have hfz35_0 := bf BK167 0; have hfz35_1 := bf BK167 1; have hfz35_2 := bf BK167 2))
               refine bodyPost_ret (results_tc rfl _ _ gb167 84 #[.int .i64 0, .int .i64 0, .int .i64 0] (0, 0) _ rfl (by (with_reducible repeat (first | apply dN | apply dW | apply dA)); refine blk_put (cs := #[.int .i64 0, .int .i64 0, .int .i64 x168002_2]) ?_ 2 _ rfl; (with_reducible repeat (first | apply dN | apply dW | apply dA)); refine blk_put (cs := #[.int .i64 0, .int .i64 x168001_2, .int .i64 x168002_2]) ?_ 1 _ rfl; (with_reducible repeat (first | apply dN | apply dW | apply dA)); refine blk_put (cs := #[.int .i64 x168000_2, .int .i64 x168001_2, .int .i64 x168002_2]) ?_ 0 _ rfl; exact bp BK167) Try.underlying84 rfl (by kernel_rfl)) rfl ?_
               exact ⟨_, er, by (with_reducible repeat (first | apply Kd.R_alloc | apply Kd.R_drewN | apply Kd.R_drew)); exact Kd.R_mono (Kd.R_far (p := ⟨gb167, 2, none⟩) (Kd.R_far (p := ⟨gb167, 1, none⟩) (Kd.R_far (p := ⟨gb167, 0, none⟩) (Kd.R_types HO_7.out BK167.out (by decide)) (fun _ hk => hk.2) (.int .i64 0)) (fun _ hk => hk.2) (.int .i64 0)) (fun _ hk => hk.2) (.int .i64 0)) (fun _ hk => trivial), bw HB⟩
              ·rw [if_neg c33] at H
               have c33b0 := decide_eq_false c33
               clear c33
               by_cases c36 : 0 ≤ t178
               ·rw [if_pos c36] at H
                have c36b0 := decide_eq_true c36
                clear c36
                by_cases c37 : t178 < (x9_2.length : Int)
                ·rw [if_pos c37] at H
                 have c37b0 := decide_eq_true c37
                 (try (have c37b0hl7_2 := c37b0; rw [hl7_2] at c37b0hl7_2))
                 (try (have c37b0hl9_2 := c37b0; rw [hl9_2] at c37b0hl9_2))
                 clear c37
                 obtain ⟨y179, hy179⟩ : ∃ y_ : List Bool, y_ = (x9_2.set (t178 : Int).toNat false) := ⟨_, rfl⟩
                 replace H : (if t178 < (((rd_T100 l0_0 a1).f2).length : Int) then ((spec_Takes.f k2 l0_0 ((rd_T102 ((rd_T100 l0_0 a1).f2) t178).f0) ((rd_T102 ((rd_T100 l0_0 a1).f2) t178).f1)).bind fun t183 => (if t178 < (x7_2.length : Int) then ((spec_Puts.f k2 ((rd_T102 ((rd_T100 l0_0 a1).f2) t178).f0) ((rd_T102 ((rd_T100 l0_0 a1).f2) t178).f1)).bind fun t185 => (if t183 > (rd x7_2 t178) then (spec_l04Heights.j2 k2 a1 ((rd_T100 l0_0 a1).f2) x7_2 y179 t178 (wrap64 ((wrap64 ((rd x7_2 t178) - t183)) + t185)) true l0_0 ((rd_T102 ((rd_T100 l0_0 a1).f2) t178).f0) ((rd_T102 ((rd_T100 l0_0 a1).f2) t178).f1) a1 t178 5) else (spec_l04Heights.j2 k2 a1 ((rd_T100 l0_0 a1).f2) x7_2 y179 t178 (wrap64 ((wrap64 ((rd x7_2 t178) - t183)) + t185)) (decide ((wrap64 ((wrap64 ((rd x7_2 t178) - t183)) + t185)) > 8)) l0_0 ((rd_T102 ((rd_T100 l0_0 a1).f2) t178).f0) ((rd_T102 ((rd_T100 l0_0 a1).f2) t178).f1) a1 t178 5))) else (none))) else (none)) = some (r1, r2, r3, r4) := by first | (rw [hy179]; with_reducible exact H) | (have H2_ := (Option.bind_some _ _).symm.trans H; rw [hy179]; with_reducible exact H2_) | (have H2_ := (Option.bind_some _ _).symm.trans H; with_reducible exact H2_) | with_reducible exact H | (rw [hy179]; exact H) | exact H
                 have Ny179 := am hy179
                 clear hy179
                 by_cases c39 : t178 < (((rd_T100 l0_0 a1).f2).length : Int)
                 ·rw [if_pos c39] at H
                  have c39b0 := decide_eq_true c39
                  (try (have c39b0hl7_2 := c39b0; rw [hl7_2] at c39b0hl7_2))
                  (try (have c39b0hl9_2 := c39b0; rw [hl9_2] at c39b0hl9_2))
                  clear c39
                  replace H := Option.bind_eq_some_iff.mp H
                  obtain ⟨t183, A400, H⟩ := H
                  replace H : (if t178 < (x7_2.length : Int) then ((spec_Puts.f k2 ((rd_T102 ((rd_T100 l0_0 a1).f2) t178).f0) ((rd_T102 ((rd_T100 l0_0 a1).f2) t178).f1)).bind fun t185 => (if t183 > (rd x7_2 t178) then (spec_l04Heights.j2 k2 a1 ((rd_T100 l0_0 a1).f2) x7_2 y179 t178 (wrap64 ((wrap64 ((rd x7_2 t178) - t183)) + t185)) true l0_0 ((rd_T102 ((rd_T100 l0_0 a1).f2) t178).f0) ((rd_T102 ((rd_T100 l0_0 a1).f2) t178).f1) a1 t178 5) else (spec_l04Heights.j2 k2 a1 ((rd_T100 l0_0 a1).f2) x7_2 y179 t178 (wrap64 ((wrap64 ((rd x7_2 t178) - t183)) + t185)) (decide ((wrap64 ((wrap64 ((rd x7_2 t178) - t183)) + t185)) > 8)) l0_0 ((rd_T102 ((rd_T100 l0_0 a1).f2) t178).f0) ((rd_T102 ((rd_T100 l0_0 a1).f2) t178).f1) a1 t178 5))) else (none)) = some (r1, r2, r3, r4) := H
                  have A40 := am A400
                  clear A400
                  by_cases c41 : t178 < (x7_2.length : Int)
                  ·rw [if_pos c41] at H
                   have c41b0 := decide_eq_true c41
                   (try (have c41b0hl7_2 := c41b0; rw [hl7_2] at c41b0hl7_2))
                   (try (have c41b0hl9_2 := c41b0; rw [hl9_2] at c41b0hl9_2))
                   clear c41
                   replace H := Option.bind_eq_some_iff.mp H
                   obtain ⟨t185, A420, H⟩ := H
                   replace H : (if t183 > (rd x7_2 t178) then (spec_l04Heights.j2 k2 a1 ((rd_T100 l0_0 a1).f2) x7_2 y179 t178 (wrap64 ((wrap64 ((rd x7_2 t178) - t183)) + t185)) true l0_0 ((rd_T102 ((rd_T100 l0_0 a1).f2) t178).f0) ((rd_T102 ((rd_T100 l0_0 a1).f2) t178).f1) a1 t178 5) else (spec_l04Heights.j2 k2 a1 ((rd_T100 l0_0 a1).f2) x7_2 y179 t178 (wrap64 ((wrap64 ((rd x7_2 t178) - t183)) + t185)) (decide ((wrap64 ((wrap64 ((rd x7_2 t178) - t183)) + t185)) > 8)) l0_0 ((rd_T102 ((rd_T100 l0_0 a1).f2) t178).f0) ((rd_T102 ((rd_T100 l0_0 a1).f2) t178).f1) a1 t178 5)) = some (r1, r2, r3, r4) := H
                   have A42 := am A420
                   clear A420
                   have HC43 := am H
                   clear H
                   try go_wp2_with (first | ((with_reducible refine gate_callee (f := 117) rfl ?_); refine goesL_ (some 43) rfl rfl Try.func117 (by kernel_rfl) rfl #[.slice (some ⟨go24, 0, none⟩) x9_2.length co24] rfl gl ?_; (with_reducible refine (spec_l04Least.calls k2 _ _ x9_2 t178 _ ?side1 ?side2 A32.out).mono ?_); (case side1 => exact cc (Kd.R_reads' HO_9.out).2.2); (case side2 => exact (Kd.R_reads' HO_9.out).2.1); rintro e w' ⟨rfl, ⟨nd, rfl⟩⟩; refine ⟨_, rfl, ?_⟩; (try (rw [drewN_self wr]; generalize hq_ : World.drewN wr _ = wr; have n0_ : Aside0 (Kd.R (Kd.int .i64) 2 wr w.heap.size (fun _ => True) (.slice (some ⟨go20, 0, none⟩) x7_2.length co25) x7_2) := ⟨by rw [← hq_]; exact (kR HO_7)⟩; have n1_ : Aside0 (Kd.R Kd.bool 4 wr w.heap.size (fun _ => True) (.slice (some ⟨go24, 0, none⟩) x9_2.length co24) x9_2) := ⟨by rw [← hq_]; exact (kR HO_9)⟩; have n2_ : Aside0 (wr.heap[gb166]? = some (.cells #[.slice (some ad168) l0_0.length c0_0] 30 (0, 0))) := ⟨by rw [← hq_]; exact (bp BK166)⟩; have n3_ : Aside0 (wr.heap[gb167]? = some (.cells #[.int .i64 x168000_2, .int .i64 x168001_2, .int .i64 x168002_2] 84 (0, 0))) := ⟨by rw [← hq_]; exact (bp BK167)⟩; have n4_ : Aside0 (Below w.heap.size w wr) := ⟨by rw [← hq_]; exact (bw HB)⟩; clear HO_7 HO_9 BK166 BK167 HB hq_; have HO_7 := n0_; have HO_9 := n1_; have BK166 := n2_; have BK167 := n3_; have HB := n4_; clear n0_ n1_ n2_ n3_ n4_)); have p38 : 0 ≤ (t178 : Int) := of_decide_eq_true as1; have q38 : (t178 : Int) < ((x9_2.length : Int) : Int) := of_decide_eq_true as1; obtain ⟨hx38_0, hf38_0⟩ := Kd.R_celln false HO_9.out (t178 : Int) p38 q38; replace p38 := eq_true p38; replace q38 := eq_true q38; obtain ⟨hy44_, hz44_⟩ := Kd.R_celln false HO_9.out (t178 : Int) (of_decide_eq_true as1) (of_decide_eq_true as1); have HP44 := Kd.R_putg HO_9.out (t178 : Int) false) | ((with_reducible refine gate_store (t := 4) (p := 50) rfl ?_); refine store_event (t := 4) (p := 50) (v := ?vo_w45) (w1 := (wr.setCell ⟨go24, (t178 : Int).toNat, none⟩ (.bool false))) ?hg ?ho ?hn ?hr ?_; (case ho => rfl); (case hg => rfl); (case hn => rfl); (case hr => exact gs); intro w45 hw; have hg : wr.grownBy w45 (some go24) := (by rw [hw]; exact HP44.2); have hp_ : Kd.R Kd.bool 4 w45 w.heap.size (fun _ => True) (.slice (some ⟨go24, 0, none⟩) x9_2.length co24) y179 := (by rw [hw, Ny179.out]; exact HP44.1); clear HP44; replace HO_7 := am (Kd.R_over' (v := (.slice (some ⟨go24, 0, none⟩) x9_2.length co24)) (kR HO_7) (Kd.R_typed HO_9.out) (by decide) hg); replace BK166 := am (blk_grown (g := gb166) (o := .cells #[.slice (some ad168) l0_0.length c0_0] 30 (0, 0)) (bp BK166) hg (Kd.R_ne HO_9.out BK166.out (by decide))); replace BK167 := am (blk_grown (g := gb167) (o := .cells #[.int .i64 x168000_2, .int .i64 x168001_2, .int .i64 x168002_2] 84 (0, 0)) (bp BK167) hg (Kd.R_ne HO_9.out BK167.out (by decide))); replace HO_9 := am (hp_); replace HB := am ((by rw [hw]; exact below_set (HB.out) GB24.out : Below w.heap.size w w45)); clear hg hw hp_; have p180 : 0 ≤ (t178 : Int) := of_decide_eq_true as1; have q180 : t178 < (((rd_T100 l0_0 a1).f2).length : Int) := of_decide_eq_true as1; obtain ⟨ad180, e180, hx180_0, hx180_1⟩ := at_T102 HR168_2.out t178 p180 q180; cases e180; replace hx180_0 := (HB.out.cell (World.block_lt_of_cell? w _ hx180_0)).trans hx180_0; replace hx180_1 := (HB.out.cell (World.block_lt_of_cell? w _ hx180_1)).trans hx180_1; replace p180 := eq_true p180; replace q180 := eq_true q180) | ((with_reducible refine gate_dst (N := 11) rfl ?_); refine box_event ?hg (N := 11) ?hd (cs := #[.int .i64 0, .int .i64 0]) (t := 102) ?hr ?_; (case hd => rfl); (case hg => rfl); (case hr => exact gs); intro gb181 hg w46 hbox hb; replace HO_7 := am (Kd.R_below (kR HO_7) hb); replace HO_9 := am (Kd.R_below (kR HO_9) hb); have BK181 := am (hbox); have GW181 := am ((by rw [hg]; exact (below_size (bw HB)) : w.heap.size ≤ gb181)); have GE181 := am ((by rw [hg]; exact (below_size (bw HB)) : w.heap.size ≤ gb181)); replace HB := am (below_step (bw HB) hb); have NB166_181 := am ((by rw [hg]; exact Nat.ne_of_lt (blk_lt (g := gb166) (o := .cells #[.slice (some ad168) l0_0.length c0_0] 30 (0, 0)) (bp BK166)) : gb166 ≠ gb181)); have NB181_166 := am ((by rw [hg]; exact Nat.ne_of_gt (blk_lt (g := gb166) (o := .cells #[.slice (some ad168) l0_0.length c0_0] 30 (0, 0)) (bp BK166)) : gb181 ≠ gb166)); replace BK166 := am (blk_below (g := gb166) (o := .cells #[.slice (some ad168) l0_0.length c0_0] 30 (0, 0)) (bp BK166) hb); have NB167_181 := am ((by rw [hg]; exact Nat.ne_of_lt (blk_lt (g := gb167) (o := .cells #[.int .i64 x168000_2, .int .i64 x168001_2, .int .i64 x168002_2] 84 (0, 0)) (bp BK167)) : gb167 ≠ gb181)); have NB181_167 := am ((by rw [hg]; exact Nat.ne_of_gt (blk_lt (g := gb167) (o := .cells #[.int .i64 x168000_2, .int .i64 x168001_2, .int .i64 x168002_2] 84 (0, 0)) (bp BK167)) : gb181 ≠ gb167)); replace BK167 := am (blk_below (g := gb167) (o := .cells #[.int .i64 x168000_2, .int .i64 x168001_2, .int .i64 x168002_2] 84 (0, 0)) (bp BK167) hb); clear hb hbox hg; have hnb47 := NB181_166.out; have hnc47 := NB166_181.out; have hnb48 := NB181_167.out; have hnc48 := NB167_181.out; have hcz49_0 : w46.cell? ⟨gb181, 0, none⟩ = some (.int .i64 0) := bc BK181 0; have hcz49_1 : w46.cell? ⟨gb181, 1, none⟩ = some (.int .i64 0) := bc BK181 1; have hfz49_0 := bf BK181 0; have hfz49_1 := bf BK181 1) | ((with_reducible refine gate_dst (N := 12) rfl ?_); refine box_event ?hg (N := 12) ?hd (cs := #[.int .i64 0, .int .i64 0, .int .i64 0]) (t := 84) ?hr ?_; (case hd => rfl); (case hg => rfl); (case hr => exact gs); intro gb182 hg w50 hbox hb; replace HO_7 := am (Kd.R_below (by (with_reducible repeat (first | apply Kd.R_alloc | apply Kd.R_drewN | apply Kd.R_drew)); exact (Kd.R_mono (Kd.R_far (p := ⟨gb181, 1, none⟩) (Kd.R_far (p := ⟨gb181, 0, none⟩) (Kd.R_types HO_7.out BK181.out (by decide)) (fun _ hk => hk.2) (.int .i64 ((rd_T102 ((rd_T100 l0_0 a1).f2) t178).f0))) (fun _ hk => hk.2) (.int .i64 ((rd_T102 ((rd_T100 l0_0 a1).f2) t178).f1))) (fun _ h_ => h_.1))) hb); replace HO_9 := am (Kd.R_below (by (with_reducible repeat (first | apply Kd.R_alloc | apply Kd.R_drewN | apply Kd.R_drew)); exact (Kd.R_mono (Kd.R_far (p := ⟨gb181, 1, none⟩) (Kd.R_far (p := ⟨gb181, 0, none⟩) (Kd.R_types HO_9.out BK181.out (by decide)) (fun _ hk => hk.2) (.int .i64 ((rd_T102 ((rd_T100 l0_0 a1).f2) t178).f0))) (fun _ hk => hk.2) (.int .i64 ((rd_T102 ((rd_T100 l0_0 a1).f2) t178).f1))) (fun _ h_ => h_.1))) hb); have BK182 := am (hbox); have GW182 := am ((by rw [hg]; exact (below_size (bw HB)) : w.heap.size ≤ gb182)); have GE182 := am ((by rw [hg]; exact (below_size (bw HB)) : w.heap.size ≤ gb182)); replace HB := am (below_step (bw HB) hb); have NB166_182 := am ((by rw [hg]; exact Nat.ne_of_lt (blk_lt (g := gb166) (o := .cells #[.slice (some ad168) l0_0.length c0_0] 30 (0, 0)) (by (with_reducible repeat (first | apply dN | apply dW | apply dA)); refine blk_far ?_ NB166_181.out _; (with_reducible repeat (first | apply dN | apply dW | apply dA)); refine blk_far ?_ NB166_181.out _; exact bp BK166)) : gb166 ≠ gb182)); have NB182_166 := am ((by rw [hg]; exact Nat.ne_of_gt (blk_lt (g := gb166) (o := .cells #[.slice (some ad168) l0_0.length c0_0] 30 (0, 0)) (by (with_reducible repeat (first | apply dN | apply dW | apply dA)); refine blk_far ?_ NB166_181.out _; (with_reducible repeat (first | apply dN | apply dW | apply dA)); refine blk_far ?_ NB166_181.out _; exact bp BK166)) : gb182 ≠ gb166)); replace BK166 := am (blk_below (g := gb166) (o := .cells #[.slice (some ad168) l0_0.length c0_0] 30 (0, 0)) (by (with_reducible repeat (first | apply dN | apply dW | apply dA)); refine blk_far ?_ NB166_181.out _; (with_reducible repeat (first | apply dN | apply dW | apply dA)); refine blk_far ?_ NB166_181.out _; exact bp BK166) hb); have NB167_182 := am ((by rw [hg]; exact Nat.ne_of_lt (blk_lt (g := gb167) (o := .cells #[.int .i64 x168000_2, .int .i64 x168001_2, .int .i64 x168002_2] 84 (0, 0)) (by (with_reducible repeat (first | apply dN | apply dW | apply dA)); refine blk_far ?_ NB167_181.out _; (with_reducible repeat (first | apply dN | apply dW | apply dA)); refine blk_far ?_ NB167_181.out _; exact bp BK167)) : gb167 ≠ gb182)); have NB182_167 := am ((by rw [hg]; exact Nat.ne_of_gt (blk_lt (g := gb167) (o := .cells #[.int .i64 x168000_2, .int .i64 x168001_2, .int .i64 x168002_2] 84 (0, 0)) (by (with_reducible repeat (first | apply dN | apply dW | apply dA)); refine blk_far ?_ NB167_181.out _; (with_reducible repeat (first | apply dN | apply dW | apply dA)); refine blk_far ?_ NB167_181.out _; exact bp BK167)) : gb182 ≠ gb167)); replace BK167 := am (blk_below (g := gb167) (o := .cells #[.int .i64 x168000_2, .int .i64 x168001_2, .int .i64 x168002_2] 84 (0, 0)) (by (with_reducible repeat (first | apply dN | apply dW | apply dA)); refine blk_far ?_ NB167_181.out _; (with_reducible repeat (first | apply dN | apply dW | apply dA)); refine blk_far ?_ NB167_181.out _; exact bp BK167) hb); have NB181_182 := am ((by rw [hg]; exact Nat.ne_of_lt (blk_lt (g := gb181) (o := .cells #[.int .i64 ((rd_T102 ((rd_T100 l0_0 a1).f2) t178).f0), .int .i64 ((rd_T102 ((rd_T100 l0_0 a1).f2) t178).f1)] 102 (0, 0)) (by (with_reducible repeat (first | apply dN | apply dW | apply dA)); refine blk_put (cs := #[.int .i64 ((rd_T102 ((rd_T100 l0_0 a1).f2) t178).f0), .int .i64 0]) ?_ 1 _ rfl; (with_reducible repeat (first | apply dN | apply dW | apply dA)); refine blk_put (cs := #[.int .i64 0, .int .i64 0]) ?_ 0 _ rfl; exact bp BK181)) : gb181 ≠ gb182)); have NB182_181 := am ((by rw [hg]; exact Nat.ne_of_gt (blk_lt (g := gb181) (o := .cells #[.int .i64 ((rd_T102 ((rd_T100 l0_0 a1).f2) t178).f0), .int .i64 ((rd_T102 ((rd_T100 l0_0 a1).f2) t178).f1)] 102 (0, 0)) (by (with_reducible repeat (first | apply dN | apply dW | apply dA)); refine blk_put (cs := #[.int .i64 ((rd_T102 ((rd_T100 l0_0 a1).f2) t178).f0), .int .i64 0]) ?_ 1 _ rfl; (with_reducible repeat (first | apply dN | apply dW | apply dA)); refine blk_put (cs := #[.int .i64 0, .int .i64 0]) ?_ 0 _ rfl; exact bp BK181)) : gb182 ≠ gb181)); replace BK181 := am (blk_below (g := gb181) (o := .cells #[.int .i64 ((rd_T102 ((rd_T100 l0_0 a1).f2) t178).f0), .int .i64 ((rd_T102 ((rd_T100 l0_0 a1).f2) t178).f1)] 102 (0, 0)) (by (with_reducible repeat (first | apply dN | apply dW | apply dA)); refine blk_put (cs := #[.int .i64 ((rd_T102 ((rd_T100 l0_0 a1).f2) t178).f0), .int .i64 0]) ?_ 1 _ rfl; (with_reducible repeat (first | apply dN | apply dW | apply dA)); refine blk_put (cs := #[.int .i64 0, .int .i64 0]) ?_ 0 _ rfl; exact bp BK181) hb); clear hb hbox hg; have hnb51 := NB182_166.out; have hnc51 := NB166_182.out; have hnb52 := NB182_167.out; have hnc52 := NB167_182.out; have hnb53 := NB182_181.out; have hnc53 := NB181_182.out; have hcz54_0 : w50.cell? ⟨gb182, 0, none⟩ = some (.int .i64 0) := bc BK182 0; have hcz54_1 : w50.cell? ⟨gb182, 1, none⟩ = some (.int .i64 0) := bc BK182 1; have hcz54_2 : w50.cell? ⟨gb182, 2, none⟩ = some (.int .i64 0) := bc BK182 2; have hfz54_0 := bf BK182 0; have hfz54_1 := bf BK182 1; have hfz54_2 := bf BK182 2; have hnb55 := NB166_167.out; have hnc55 := NB167_166.out; have hcz56_0 : w50.cell? ⟨gb166, 0, none⟩ = some (.slice (some ad168) l0_0.length c0_0) := bc BK166 0; have hfz56_0 := bf BK166 0; have hcz57_0 : w50.cell? ⟨gb181, 0, none⟩ = some (.int .i64 ((rd_T102 ((rd_T100 l0_0 a1).f2) t178).f0)) := bc BK181 0; have hcz57_1 : w50.cell? ⟨gb181, 1, none⟩ = some (.int .i64 ((rd_T102 ((rd_T100 l0_0 a1).f2) t178).f1)) := bc BK181 1; have hfz57_0 := bf BK181 0; have hfz57_1 := bf BK181 1) | ((with_reducible refine gate_callee (f := 118) rfl ?_); refine goesL_ (some 60) rfl rfl Try.func118 (by kernel_rfl) rfl #[.agg #[.slice (some ad168) l0_0.length c0_0], .agg #[.int .i64 ((rd_T102 ((rd_T100 l0_0 a1).f2) t178).f0), .int .i64 ((rd_T102 ((rd_T100 l0_0 a1).f2) t178).f1)]] rfl gl ?_; (with_reducible refine (spec_Takes.calls k2 _ _ l0_0 ((rd_T102 ((rd_T100 l0_0 a1).f2) t178).f0) ((rd_T102 ((rd_T100 l0_0 a1).f2) t178).f1) t183 _ ?side1 ?side2 A40.out).mono ?_); (case side1 => exact Kd.C_below HR0_0.out (bw HB)); (case side2 => exact HC0_0.out); rintro e w58 ⟨rfl, hb⟩; refine ⟨_, rfl, ?_⟩; replace HO_7 := am (Kd.R_below (by (with_reducible repeat (first | apply Kd.R_alloc | apply Kd.R_drewN | apply Kd.R_drew)); exact (Kd.R_mono (Kd.R_far (p := ⟨gb182, 2, none⟩) (Kd.R_far (p := ⟨gb182, 1, none⟩) (Kd.R_far (p := ⟨gb182, 0, none⟩) (Kd.R_types HO_7.out BK182.out (by decide)) (fun _ hk => hk.2) (.int .i64 a1)) (fun _ hk => hk.2) (.int .i64 t178)) (fun _ hk => hk.2) (.int .i64 5)) (fun _ h_ => h_.1))) hb); replace HO_9 := am (Kd.R_below (by (with_reducible repeat (first | apply Kd.R_alloc | apply Kd.R_drewN | apply Kd.R_drew)); exact (Kd.R_mono (Kd.R_far (p := ⟨gb182, 2, none⟩) (Kd.R_far (p := ⟨gb182, 1, none⟩) (Kd.R_far (p := ⟨gb182, 0, none⟩) (Kd.R_types HO_9.out BK182.out (by decide)) (fun _ hk => hk.2) (.int .i64 a1)) (fun _ hk => hk.2) (.int .i64 t178)) (fun _ hk => hk.2) (.int .i64 5)) (fun _ h_ => h_.1))) hb); replace BK166 := am (blk_below (g := gb166) (o := .cells #[.slice (some ad168) l0_0.length c0_0] 30 (0, 0)) (by (with_reducible repeat (first | apply dN | apply dW | apply dA)); refine blk_far ?_ NB166_182.out _; (with_reducible repeat (first | apply dN | apply dW | apply dA)); refine blk_far ?_ NB166_182.out _; (with_reducible repeat (first | apply dN | apply dW | apply dA)); refine blk_far ?_ NB166_182.out _; exact bp BK166) hb); replace BK167 := am (blk_below (g := gb167) (o := .cells #[.int .i64 x168000_2, .int .i64 x168001_2, .int .i64 x168002_2] 84 (0, 0)) (by (with_reducible repeat (first | apply dN | apply dW | apply dA)); refine blk_far ?_ NB167_182.out _; (with_reducible repeat (first | apply dN | apply dW | apply dA)); refine blk_far ?_ NB167_182.out _; (with_reducible repeat (first | apply dN | apply dW | apply dA)); refine blk_far ?_ NB167_182.out _; exact bp BK167) hb); replace BK181 := am (blk_below (g := gb181) (o := .cells #[.int .i64 ((rd_T102 ((rd_T100 l0_0 a1).f2) t178).f0), .int .i64 ((rd_T102 ((rd_T100 l0_0 a1).f2) t178).f1)] 102 (0, 0)) (by (with_reducible repeat (first | apply dN | apply dW | apply dA)); refine blk_far ?_ NB181_182.out _; (with_reducible repeat (first | apply dN | apply dW | apply dA)); refine blk_far ?_ NB181_182.out _; (with_reducible repeat (first | apply dN | apply dW | apply dA)); refine blk_far ?_ NB181_182.out _; exact bp BK181) hb); replace BK182 := am (blk_below (g := gb182) (o := .cells #[.int .i64 a1, .int .i64 t178, .int .i64 5] 84 (0, 0)) (by (with_reducible repeat (first | apply dN | apply dW | apply dA)); refine blk_put (cs := #[.int .i64 a1, .int .i64 t178, .int .i64 0]) ?_ 2 _ rfl; (with_reducible repeat (first | apply dN | apply dW | apply dA)); refine blk_put (cs := #[.int .i64 a1, .int .i64 0, .int .i64 0]) ?_ 1 _ rfl; (with_reducible repeat (first | apply dN | apply dW | apply dA)); refine blk_put (cs := #[.int .i64 0, .int .i64 0, .int .i64 0]) ?_ 0 _ rfl; exact bp BK182) hb); replace HB := am (below_step (bw HB) hb); (try clear hb); (try clear hb2); (try clear hk); (try clear hi)))
                   have n0_ := am (Kd.R_drew HO_7.out)
                   have n1_ := am (Kd.R_drew HO_9.out)
                   have n2_ := am (blk_drew BK166.out)
                   have n3_ := am (blk_drew BK167.out)
                   have n4_ := am (blk_drew BK181.out)
                   have n5_ := am (blk_drew BK182.out)
                   have n6_ := am (below_drew1 HB.out)
                   clear HO_7
                   clear HO_9
                   clear BK166
                   clear BK167
                   clear BK181
                   clear BK182
                   clear HB
                   have HO_7 := n0_
                   have HO_9 := n1_
                   have BK166 := n2_
                   have BK167 := n3_
                   have BK181 := n4_
                   have BK182 := n5_
                   have HB := n6_
                   clear n0_ n1_ n2_ n3_ n4_ n5_ n6_
                   have p184 : 0 ≤ (t178 : Int) := of_decide_eq_true as1
                   have q184 : t178 < (x7_2.length : Int) := of_decide_eq_true as1
                   obtain ⟨ad184, e184, hx184_0⟩ := Kd.at_int (Kd.R_reads' HO_7.out).2.2 t178 p184 q184
                   obtain rfl : (⟨go20, 0, none⟩ : Addr) = ad184 := (by injection e184)
                   (first | simp only [add_plain] at hx184_0 | simp only [add_at] at hx184_0 | simp only [Addr.add, Nat.zero_add] at hx184_0 | skip)
                   replace p184 := eq_true p184
                   replace q184 := eq_true q184
                   refine start_ (n := 10) (S := fun w' => w'.cell? ⟨gb181, 0, none⟩ = some (.int .i64 ((rd_T102 ((rd_T100 l0_0 a1).f2) t178).f0)) ∧ w'.cell? ⟨gb181, 1, none⟩ = some (.int .i64 ((rd_T102 ((rd_T100 l0_0 a1).f2) t178).f1)) ∧ w'.cell? ⟨go20, (t178).toNat, none⟩ = some (.int .i64 (rd x7_2 t178))) (ds := []) #[false, false, false, false, false, false, false, false, false, false] (by kernel_rfl) rfl rfl ⟨bc BK181 0, bc BK181 1, hx184_0⟩ (fun hHeld => ?_); refine with_tabW spec_l04Heights.tab17 spec_l04Heights.bits17 (fun HT_ HW_ => ?_)
                   generalize w58.drew = w59 at HO_7 HO_9 BK166 BK167 BK181 BK182 HB hx184_0 hHeld ⊢
                   refine pure_ (i := 0) (N := some 61) (v := ?_) (a' := ?_) #[true, false, false, false, false, false, false, false, false, false] rfl rfl (any_of HT_.out (by kernel_rfl)) (fun _ _ _ h => h) (Or.inl ⟨by rfl, ?_⟩) ?_ ?_
                   rotate_left
                   ·intro w'
                    go_simp
                    with_reducible rfl
                   rotate_left
                   ·simp only [Act.put, sa, sz, ss, i64_w, i32_w]
                    rfl
                   refine pure_ (i := 1) (N := some 62) (v := ?_) (a' := ?_) #[true, true, false, false, false, false, false, false, false, false] rfl rfl (any_of HT_.out (by kernel_rfl)) (fun _ _ _ h => h) (Or.inl ⟨by rfl, ?_⟩) ?_ ?_
                   rotate_left
                   ·intro w'
                    go_simp
                    with_reducible rfl
                   rotate_left
                   ·simp only [Act.put, sa, sz, ss, i64_w, i32_w]
                    rfl
                   refine pure_ (i := 2) (N := some 63) (v := ?_) (a' := ?_) #[true, true, true, false, false, false, false, false, false, false] rfl rfl (any_of HT_.out (by kernel_rfl)) (fun _ _ _ h => h) (Or.inl ⟨by rfl, ?_⟩) ?_ ?_
                   rotate_left
                   ·intro w'
                    go_simp
                    with_reducible rfl
                   rotate_left
                   ·simp only [Act.put, sa, sz, ss, i64_w, i32_w]
                    rfl
                   refine pure_ (i := 4) (N := some 65) (v := ?_) (a' := ?_) #[true, true, true, false, true, false, false, false, false, false] rfl rfl (any_of HT_.out (by kernel_rfl)) (fun _ _ _ h => h) (Or.inl ⟨by rfl, ?_⟩) ?_ ?_
                   rotate_left
                   ·intro w'
                    go_simp
                    with_reducible rfl
                   rotate_left
                   ·simp only [Act.put, sa, sz, ss, i64_w, i32_w]
                    rfl
                   refine take_ (i := 3) (N := some 64) (v := ?_) (a' := ?_) #[true, true, true, true, true, false, false, false, false, false] rfl rfl (take_ofW HT_.out HW_.out (by kernel_rfl)) (fun _ _ _ h => h) (Or.inl ⟨by rfl, ?_⟩) hHeld ?_ ?_
                   rotate_left
                   ·rintro w' ⟨s0, s1, s2⟩
                    go_simp
                    with_reducible rfl
                   rotate_left
                   ·simp only [Act.put, sa, sz, ss, i64_w, i32_w]
                    rfl
                   refine pure_ (i := 5) (N := some 66) (v := ?_) (a' := ?_) #[true, true, true, true, true, true, false, false, false, false] rfl rfl (any_of HT_.out (by kernel_rfl)) (fun _ _ _ h => h) (Or.inl ⟨by rfl, ?_⟩) ?_ ?_
                   rotate_left
                   ·intro w'
                    go_simp
                    with_reducible rfl
                   rotate_left
                   ·simp only [Act.put, sa, sz, ss, i64_w, i32_w]
                    rfl
                   refine take_ (i := 6) (N := some 67) (v := ?_) (a' := ?_) #[true, true, true, true, true, true, true, false, false, false] rfl rfl (take_ofW HT_.out HW_.out (by kernel_rfl)) (fun _ _ _ h => h) (Or.inl ⟨by rfl, ?_⟩) hHeld ?_ ?_
                   rotate_left
                   ·rintro w' ⟨s0, s1, s2⟩
                    go_simp
                    with_reducible rfl
                   rotate_left
                   ·simp only [Act.put, sa, sz, ss, i64_w, i32_w]
                    rfl
                   refine one_ (i := 7) (N := some 68) #[true, true, true, true, true, true, true, true, false, false] rfl rfl (one_of HT_.out (by kernel_rfl)) (by decide) (fun K hK => ?_)
                   refine goes_ Try.func119 (by kernel_rfl) rfl #[.agg #[.int .i64 ((rd_T102 ((rd_T100 l0_0 a1).f2) t178).f0), .int .i64 ((rd_T102 ((rd_T100 l0_0 a1).f2) t178).f1)]] (by rfl) rfl rfl gl ?_
                   with_reducible refine (spec_Puts.calls k2 ((rd_T102 ((rd_T100 l0_0 a1).f2) t178).f0) ((rd_T102 ((rd_T100 l0_0 a1).f2) t178).f1) t185 _ A42.out).mono ?_
                   rintro e w60 ⟨rfl, hb⟩
                   have HS2_ := (hb.cell (World.block_lt_of_cell? _ _ (hHeld.2.2))).trans (hHeld.2.2)
                   refine ⟨_, rfl, ?_⟩
                   have n0_ := am (Kd.R_below (kR HO_7) hb)
                   have n1_ := am (Kd.R_below (kR HO_9) hb)
                   have n2_ := am (blk_below (g := gb166) (o := .cells #[.slice (some ad168) l0_0.length c0_0] 30 (0, 0)) (bp BK166) hb)
                   have n3_ := am (blk_below (g := gb167) (o := .cells #[.int .i64 x168000_2, .int .i64 x168001_2, .int .i64 x168002_2] 84 (0, 0)) (bp BK167) hb)
                   have n4_ := am (blk_below (g := gb181) (o := .cells #[.int .i64 ((rd_T102 ((rd_T100 l0_0 a1).f2) t178).f0), .int .i64 ((rd_T102 ((rd_T100 l0_0 a1).f2) t178).f1)] 102 (0, 0)) (bp BK181) hb)
                   have n5_ := am (blk_below (g := gb182) (o := .cells #[.int .i64 a1, .int .i64 t178, .int .i64 5] 84 (0, 0)) (bp BK182) hb)
                   have n6_ := am (below_step (bw HB) hb)
                   clear HO_7
                   clear HO_9
                   clear BK166
                   clear BK167
                   clear BK181
                   clear BK182
                   clear HB
                   have HO_7 := n0_
                   have HO_9 := n1_
                   have BK166 := n2_
                   have BK167 := n3_
                   have BK181 := n4_
                   have BK182 := n5_
                   have HB := n6_
                   clear n0_ n1_ n2_ n3_ n4_ n5_ n6_
                   (try clear hb)
                   (try clear hb2)
                   (try clear hk)
                   (try clear hi)
                   refine hK.out _ _ ⟨bc BK181 0, bc BK181 1, HS2_⟩ (fun hHeld => ?_)
                   clear hK K
                   refine norm_ (a' := ?_) ?_ ?_
                   rotate_left
                   ·show Act.put _ (some 68) _ = _
                    simp only [Act.put, sa, sz, ss, i64_w, i32_w]
                    rfl
                   refine pure_ (i := 8) (N := some 69) (v := ?_) (a' := ?_) #[true, true, true, true, true, true, true, true, true, false] rfl rfl (any_of HT_.out (by kernel_rfl)) (fun _ _ _ h => h) (Or.inl ⟨by rfl, ?_⟩) ?_ ?_
                   rotate_left
                   ·intro w'
                    go_simp
                    with_reducible rfl
                   rotate_left
                   ·simp only [Act.put, sa, sz, ss, i64_w, i32_w]
                    rfl
                   refine pure_ (i := 9) (N := some 14) (v := ?_) (a' := ?_) #[true, true, true, true, true, true, true, true, true, true] rfl rfl (any_of HT_.out (by kernel_rfl)) (fun _ _ _ h => h) (Or.inl ⟨by rfl, ?_⟩) ?_ ?_
                   rotate_left
                   ·intro w'
                    go_simp
                    with_reducible rfl
                   rotate_left
                   ·simp only [Act.put, sa, sz, ss, i64_w, i32_w]
                    rfl
                   refine done_ (done_of HT_.out (by kernel_rfl)) ?_
                   go_upto_region 18 with (fail)
                   go_cut [79] (fun v79 wc => ∃ (kq : Nat) (x79_42 : Bool), v79 = .bool x79_42 ∧ Aside0 (spec_l04Heights.j2 kq a1 ((rd_T100 l0_0 a1).f2) x7_2 y179 t178 (wrap64 ((wrap64 ((rd x7_2 t178) - t183)) + t185)) x79_42 l0_0 ((rd_T102 ((rd_T100 l0_0 a1).f2) t178).f0) ((rd_T102 ((rd_T100 l0_0 a1).f2) t178).f1) a1 t178 5 = some (r1, r2, r3, r4)) ∧ Aside0 (kq ≤ k2) ∧ Aside0 (Kd.R (Kd.int .i64) 2 wc w.heap.size (fun _ => True) (.slice (some ⟨go20, 0, none⟩) x7_2.length co25) x7_2) ∧ Aside0 (Kd.R Kd.bool 4 wc w.heap.size (fun _ => True) (.slice (some ⟨go24, 0, none⟩) x9_2.length co24) y179) ∧ Aside0 (wc.heap[gb166]? = some (.cells #[(.slice (some ad168) l0_0.length c0_0)] 30 (0, 0))) ∧ Aside0 (wc.heap[gb167]? = some (.cells #[.int .i64 x168000_2, .int .i64 x168001_2, .int .i64 x168002_2] 84 (0, 0))) ∧ Aside0 (wc.heap[gb181]? = some (.cells #[.int .i64 ((rd_T102 ((rd_T100 l0_0 a1).f2) t178).f0), .int .i64 ((rd_T102 ((rd_T100 l0_0 a1).f2) t178).f1)] 102 (0, 0))) ∧ Aside0 (wc.heap[gb182]? = some (.cells #[.int .i64 a1, .int .i64 t178, .int .i64 5] 84 (0, 0))) ∧ Aside0 (Below w.heap.size w wc))
                   case first =>
                    have H := HC43.out
                    clear HC43
                    by_cases c61 : t183 > (rd x7_2 t178)
                    ·rw [if_pos c61] at H
                     have c61b0 : decide ((rd x7_2 t178) < t183) = true := decide_eq_true c61
                     clear c61
                     (first | rw [c61b0] | (simp only [i64_w, i32_w]; rw [c61b0]) | skip)
                     have H' := am H
                     clear H
                     have p186 : 0 ≤ (t178 : Int) := of_decide_eq_true as1
                     have q186 : t178 < (x7_2.length : Int) := of_decide_eq_true as1
                     obtain ⟨ad186, e186, hx186_0⟩ := Kd.at_int (Kd.R_reads' HO_7.out).2.2 t178 p186 q186
                     obtain rfl : (⟨go20, 0, none⟩ : Addr) = ad186 := (by injection e186)
                     (first | simp only [add_plain] at hx186_0 | simp only [add_at] at hx186_0 | simp only [Addr.add, Nat.zero_add] at hx186_0 | skip)
                     replace p186 := eq_true p186
                     replace q186 := eq_true q186
                     go_wp2
                     go_meet
                     case rel => exact ⟨_, (true), dr, H', ⟨by have := HK1.out; have := HK2.out; first | omega | exact Nat.le_refl _⟩, ⟨by (try simp only [hl7_2]); (try simp only [hl9_2]); exact kR HO_7⟩, ⟨by (try simp only [hl7_2]); (try simp only [hl9_2]); exact kR HO_9⟩, ⟨by (try simp only [hl7_2]); (try simp only [hl9_2]); exact bp BK166⟩, ⟨by (try simp only [hl7_2]); (try simp only [hl9_2]); exact bp BK167⟩, ⟨by (try simp only [hl7_2]); (try simp only [hl9_2]); exact bp BK181⟩, ⟨by (try simp only [hl7_2]); (try simp only [hl9_2]); exact bp BK182⟩, ⟨bw HB⟩⟩
                    ·rw [if_neg c61] at H
                     have c61b0 : decide ((rd x7_2 t178) < t183) = false := decide_eq_false c61
                     clear c61
                     (first | rw [c61b0] | (simp only [i64_w, i32_w]; rw [c61b0]) | skip)
                     have H' := am H
                     clear H
                     have p186 : 0 ≤ (t178 : Int) := of_decide_eq_true as1
                     have q186 : t178 < (x7_2.length : Int) := of_decide_eq_true as1
                     obtain ⟨ad186, e186, hx186_0⟩ := Kd.at_int (Kd.R_reads' HO_7.out).2.2 t178 p186 q186
                     obtain rfl : (⟨go20, 0, none⟩ : Addr) = ad186 := (by injection e186)
                     (first | simp only [add_plain] at hx186_0 | simp only [add_at] at hx186_0 | simp only [Addr.add, Nat.zero_add] at hx186_0 | skip)
                     replace p186 := eq_true p186
                     replace q186 := eq_true q186
                     go_wp2
                     go_meet
                     case rel => exact ⟨_, (decide ((wrap64 ((wrap64 ((rd x7_2 t178) - t183)) + t185)) > 8)), dr, H', ⟨by have := HK1.out; have := HK2.out; first | omega | exact Nat.le_refl _⟩, ⟨by (try simp only [hl7_2]); (try simp only [hl9_2]); exact kR HO_7⟩, ⟨by (try simp only [hl7_2]); (try simp only [hl9_2]); exact kR HO_9⟩, ⟨by (try simp only [hl7_2]); (try simp only [hl9_2]); exact bp BK166⟩, ⟨by (try simp only [hl7_2]); (try simp only [hl9_2]); exact bp BK167⟩, ⟨by (try simp only [hl7_2]); (try simp only [hl9_2]); exact bp BK181⟩, ⟨by (try simp only [hl7_2]); (try simp only [hl9_2]); exact bp BK182⟩, ⟨bw HB⟩⟩
                   case rest =>
                    clear HC43
                    (try clear c1); (try clear p1); (try clear q1); (try clear hx1); (try clear c2); (try clear p2); (try clear q2); (try clear hx2); (try clear qi2); (try clear hf2); (try clear c3); (try clear c3b0); (try clear p3); (try clear q3); (try clear hx3); (try clear hf3); (try clear c4); (try clear c4b0); (try clear c5); (try clear c5b0); (try clear c5b1); (try clear c6); (try clear c6b0); (try clear c6b1); (try clear p6); (try clear c9); (try clear c11); (try clear c13); (try clear c13b0); (try clear c14); (try clear c14b0); (try clear p15); (try clear q15); (try clear hx15); (try clear hf15); (try clear c16); (try clear p16); (try clear q16); (try clear hx16); (try clear p18); (try clear q18); (try clear hx18); (try clear c19); (try clear c19b0); (try clear c19b1); (try clear p20); (try clear q20); (try clear hx20); (try clear qi20); (try clear hf20); (try clear c21); (try clear c21b0); (try clear c21b1); (try clear c22); (try clear c22b0); (try clear c22b1); (try clear c23); (try clear c23b0); (try clear c23b1); (try clear p24); (try clear q24); (try clear hx24); (try clear qi24); (try clear hf24); (try clear c33); (try clear c33b0); (try clear c34); (try clear c36); (try clear c36b0); (try clear c37); (try clear c37b0); (try clear p38); (try clear q38); (try clear hx38); (try clear hf38); (try clear c39); (try clear c39b0); (try clear c41); (try clear c41b0); (try clear c47); (try clear c48); (try clear c51); (try clear c52); (try clear c53); (try clear c55); (try clear c58); (try clear c61); (try clear c61b0); (try clear hcz10_0); (try clear hcz35_0); (try clear hcz35_1); (try clear hcz35_2); (try clear hcz49_0); (try clear hcz49_1); (try clear hcz54_0); (try clear hcz54_1); (try clear hcz54_2); (try clear hcz56_0); (try clear hcz57_0); (try clear hcz57_1); (try clear hfz10_0); (try clear hfz35_0); (try clear hfz35_1); (try clear hfz35_2); (try clear hfz49_0); (try clear hfz49_1); (try clear hfz54_0); (try clear hfz54_1); (try clear hfz54_2); (try clear hfz56_0); (try clear hfz57_0); (try clear hfz57_1); (try clear hx15_0); (try clear hx168_0); (try clear hx168_1); (try clear hx168_2); (try clear hx180_0); (try clear hx180_1); (try clear hx184_0); (try clear hx186_0); (try clear hx20_0); (try clear hx24_0); (try clear hx38_0); (try clear p1); (try clear p15); (try clear p16); (try clear p168); (try clear p180); (try clear p184); (try clear p186); (try clear p2); (try clear p20); (try clear p24); (try clear p38); (try clear p6); (try clear q1); (try clear q15); (try clear q16); (try clear q168); (try clear q180); (try clear q184); (try clear q186); (try clear q2); (try clear q20); (try clear q24); (try clear q38)
                    obtain ⟨kq, x79_42, rfl, HA, HJ42, HO_7, HO_9, BK166, BK167, BK181, BK182, HB⟩ := hcut
                    have hl9_42 := (Kd.R_reads' HO_9.out).1
                    rw [hl9_42] at HO_9
                    (try simp only [hl9_42])
                    (try simp only [hl9_42] at BK166)
                    (try simp only [hl9_42] at BK167)
                    (try simp only [hl9_42] at BK181)
                    (try simp only [hl9_42] at BK182)
                    (try simp only [hl9_42] at HO_7)
                    cases kq with
                    | zero => exact absurd HA.out (by simp [spec_l04Heights.j2])
                    | succ kj42 =>
                     have H := HA.out
                     clear HA
                     simp only [spec_l04Heights.j2] at H
                     by_cases c62 : x79_42 = true
                     ·subst c62
                      have H1 : (some (x7_2, a1, t178, 5)) = some (r1, r2, r3, r4) := by rw [if_pos rfl] at H; exact H
                      clear H
                      have H := H1
                      clear H1
                      simp only [Option.some.injEq, Prod.mk.injEq] at H
                      obtain ⟨rfl, rfl, rfl, rfl⟩ := H
                      try go_wp2
                      have n0_ := am (Kd.R_drew HO_7.out)
                      have n1_ := am (Kd.R_drew HO_9.out)
                      have n2_ := am (blk_drew BK166.out)
                      have n3_ := am (blk_drew BK167.out)
                      have n4_ := am (blk_drew BK181.out)
                      have n5_ := am (blk_drew BK182.out)
                      have n6_ := am (below_drew1 HB.out)
                      clear HO_7
                      clear HO_9
                      clear BK166
                      clear BK167
                      clear BK181
                      clear BK182
                      clear HB
                      have HO_7 := n0_
                      have HO_9 := n1_
                      have BK166 := n2_
                      have BK167 := n3_
                      have BK181 := n4_
                      have BK182 := n5_
                      have HB := n6_
                      clear n0_ n1_ n2_ n3_ n4_ n5_ n6_
                      refine start_ (n := 4) (S := fun w' => w'.cell? ⟨gb182, 0, none⟩ = some (.int .i64 a1) ∧ w'.cell? ⟨gb182, 1, none⟩ = some (.int .i64 t178) ∧ w'.cell? ⟨gb182, 2, none⟩ = some (.int .i64 5)) (ds := []) #[false, false, false, false] (by kernel_rfl) rfl rfl ⟨bc BK182 0, bc BK182 1, bc BK182 2⟩ (fun hHeld => ?_)
                      generalize wc.drew = w63 at HO_7 HO_9 BK166 BK167 BK181 BK182 HB hHeld ⊢
                      refine pure_ (i := 0) (N := some 80) (v := ?_) (a' := ?_) #[true, false, false, false] rfl rfl (by kernel_rfl) (fun _ _ _ h => h) (Or.inl ⟨by rfl, ?_⟩) ?_ ?_
                      rotate_left
                      ·intro w'
                       go_simp
                       with_reducible rfl
                      rotate_left
                      ·simp only [Act.put, sa, sz, ss, i64_w, i32_w]
                       rfl
                      refine pure_ (i := 2) (N := some 4) (v := ?_) (a' := ?_) #[true, false, true, false] rfl rfl (by kernel_rfl) (fun _ _ _ h => h) (Or.inl ⟨by rfl, ?_⟩) ?_ ?_
                      rotate_left
                      ·intro w'
                       go_simp
                       with_reducible rfl
                      rotate_left
                      ·simp only [Act.put, sa, sz, ss, i64_w, i32_w]
                       rfl
                      refine take_ (i := 1) (N := some 81) (v := ?_) (a' := ?_) #[true, true, true, false] rfl rfl (by kernel_rfl) (fun _ _ _ h => h) (Or.inl ⟨by rfl, ?_⟩) hHeld ?_ ?_
                      rotate_left
                      ·rintro w' ⟨s0, s1, s2⟩
                       go_simp
                       with_reducible rfl
                      rotate_left
                      ·simp only [Act.put, sa, sz, ss, i64_w, i32_w]
                       rfl
                      refine one_ (i := 3) (N := none) #[true, true, true, true] rfl rfl (by kernel_rfl) (by decide) (fun K hK => ?_)
                      have hs64 : w63.cell? ⟨gb167, 0, none⟩ = some (.int .i64 x168000_2) := bc BK167 0
                      have hfs64 := bf BK167 0
                      have hns64_0 := NB166_167.out
                      have hns64_2 := NB181_167.out
                      have hns64_3 := NB182_167.out
                      have hms64_0 := NB167_166.out
                      have hms64_2 := NB167_181.out
                      have hms64_3 := NB167_182.out
                      have hs65 : w63.cell? ⟨gb167, 1, none⟩ = some (.int .i64 x168001_2) := bc BK167 1
                      have hfs65 := bf BK167 1
                      have hns65_0 := NB166_167.out
                      have hns65_2 := NB181_167.out
                      have hns65_3 := NB182_167.out
                      have hms65_0 := NB167_166.out
                      have hms65_2 := NB167_181.out
                      have hms65_3 := NB167_182.out
                      have hs66 : w63.cell? ⟨gb167, 2, none⟩ = some (.int .i64 x168002_2) := bc BK167 2
                      have hfs66 := bf BK167 2
                      have hns66_0 := NB166_167.out
                      have hns66_2 := NB181_167.out
                      have hns66_3 := NB182_167.out
                      have hms66_0 := NB167_166.out
                      have hms66_2 := NB167_181.out
                      have hms66_3 := NB167_182.out
                      refine skip_ (w1 := ?_) (by rfl) rfl ?_ ?_
                      rotate_left
                      ·go_simp
                       rfl
                      refine hK.out _ _ ⟨((cell_far (p := ⟨gb167, _, none⟩) NB182_167.out _).trans (((cell_far (p := ⟨gb167, _, none⟩) NB182_167.out _).trans (((cell_far (p := ⟨gb167, _, none⟩) NB182_167.out _).trans (hHeld.1)))))), ((cell_far (p := ⟨gb167, _, none⟩) NB182_167.out _).trans (((cell_far (p := ⟨gb167, _, none⟩) NB182_167.out _).trans (((cell_far (p := ⟨gb167, _, none⟩) NB182_167.out _).trans (hHeld.2.1)))))), ((cell_far (p := ⟨gb167, _, none⟩) NB182_167.out _).trans (((cell_far (p := ⟨gb167, _, none⟩) NB182_167.out _).trans (((cell_far (p := ⟨gb167, _, none⟩) NB182_167.out _).trans (hHeld.2.2))))))⟩ (fun hHeld => ?_)
                      clear hK K
                      refine done_ (by kernel_rfl) ?_
                      try go_wp2
                      refine bodyPost_ret (results_tc rfl _ _ gb167 84 #[.int .i64 a1, .int .i64 t178, .int .i64 5] (0, 0) _ rfl (by (with_reducible repeat (first | apply dN | apply dW | apply dA)); refine blk_put (cs := #[.int .i64 a1, .int .i64 t178, .int .i64 x168002_2]) ?_ 2 _ rfl; (with_reducible repeat (first | apply dN | apply dW | apply dA)); refine blk_put (cs := #[.int .i64 a1, .int .i64 x168001_2, .int .i64 x168002_2]) ?_ 1 _ rfl; (with_reducible repeat (first | apply dN | apply dW | apply dA)); refine blk_put (cs := #[.int .i64 x168000_2, .int .i64 x168001_2, .int .i64 x168002_2]) ?_ 0 _ rfl; exact bp BK167) Try.underlying84 rfl (by kernel_rfl)) rfl ?_
                      exact ⟨_, er, by (with_reducible repeat (first | apply Kd.R_alloc | apply Kd.R_drewN | apply Kd.R_drew)); exact Kd.R_mono (Kd.R_far (p := ⟨gb167, 2, none⟩) (Kd.R_far (p := ⟨gb167, 1, none⟩) (Kd.R_far (p := ⟨gb167, 0, none⟩) (Kd.R_types HO_7.out BK167.out (by decide)) (fun _ hk => hk.2) (.int .i64 a1)) (fun _ hk => hk.2) (.int .i64 t178)) (fun _ hk => hk.2) (.int .i64 5)) (fun _ hk => trivial), bw HB⟩
                     ·replace c62 := Bool.eq_false_iff.mpr c62
                      subst c62
                      have H1 : ((some (([] : List Int) : List Int)).bind fun y187 => (if ((rd_T102 ((rd_T100 l0_0 a1).f2) t178).f0) = 30 then (spec_l04Heights.j3 kj42 a1 ((rd_T100 l0_0 a1).f2) x7_2 y179 t178 (wrap64 ((wrap64 ((rd x7_2 t178) - t183)) + t185)) y187 false l0_0 ((rd_T102 ((rd_T100 l0_0 a1).f2) t178).f0) ((rd_T102 ((rd_T100 l0_0 a1).f2) t178).f1) a1 t178 5) else (spec_l04Heights.j3 kj42 a1 ((rd_T100 l0_0 a1).f2) x7_2 y179 t178 (wrap64 ((wrap64 ((rd x7_2 t178) - t183)) + t185)) y187 (((rd_T102 ((rd_T100 l0_0 a1).f2) t178).f0) != 33) l0_0 ((rd_T102 ((rd_T100 l0_0 a1).f2) t178).f0) ((rd_T102 ((rd_T100 l0_0 a1).f2) t178).f1) a1 t178 5))) = some (r1, r2, r3, r4) := by rw [if_neg (show ¬ (false = true) by decide)] at H; exact H
                      clear H
                      have H := H1
                      clear H1
                      obtain ⟨y187, hy187⟩ : ∃ y_ : List Int, y_ = (([] : List Int)) := ⟨_, rfl⟩
                      replace H : (if ((rd_T102 ((rd_T100 l0_0 a1).f2) t178).f0) = 30 then (spec_l04Heights.j3 kj42 a1 ((rd_T100 l0_0 a1).f2) x7_2 y179 t178 (wrap64 ((wrap64 ((rd x7_2 t178) - t183)) + t185)) y187 false l0_0 ((rd_T102 ((rd_T100 l0_0 a1).f2) t178).f0) ((rd_T102 ((rd_T100 l0_0 a1).f2) t178).f1) a1 t178 5) else (spec_l04Heights.j3 kj42 a1 ((rd_T100 l0_0 a1).f2) x7_2 y179 t178 (wrap64 ((wrap64 ((rd x7_2 t178) - t183)) + t185)) y187 (((rd_T102 ((rd_T100 l0_0 a1).f2) t178).f0) != 33) l0_0 ((rd_T102 ((rd_T100 l0_0 a1).f2) t178).f0) ((rd_T102 ((rd_T100 l0_0 a1).f2) t178).f1) a1 t178 5)) = some (r1, r2, r3, r4) := by first | (rw [hy187]; with_reducible exact H) | (have H2_ := (Option.bind_some _ _).symm.trans H; rw [hy187]; with_reducible exact H2_) | (have H2_ := (Option.bind_some _ _).symm.trans H; with_reducible exact H2_) | with_reducible exact H | (rw [hy187]; exact H) | exact H
                      have Ny187 := am hy187
                      clear hy187
                      have HC67 := am H
                      clear H
                      go_upto_region 21 with (first | ((with_reducible refine gate_dst (N := 82) rfl ?_); refine Kd.R_lit (Kd.int .i64) _ 2 ?hg (N := 82) ?hd (xs := ([] : List Int)) (inner := []) (ok := fun _ => True) (okp := fun _ => True) ?hr ?hp (fun _ hk => hk) trivial (Below.refl _ _) (Nat.le_refl _) (by simp) ?_; (case hd => rfl); (case hg => rfl); (case hr => exact gs); (case hp => exact (Reps.none _ _)); intro v188 w68 ho69 hb hg_ hnew_; clear hg_ hnew_; (first | rw [← Ny187.out] at ho69 | (simp only [Int.reduceToNat] at ho69; rw [← Ny187.out] at ho69)); replace HO_9 := am (Kd.R_below (kR HO_9) hb); have HO189 := am (Kd.R_lower (Kd.R_new' ho69 (Kd.R_lt (kR HO_7))) (below_size (bw HB))); replace HO_7 := am (Kd.R_elder' (kR HO_7) (Kd.R_base ho69) hb); replace BK166 := am (blk_below (g := gb166) (o := .cells #[.slice (some ad168) l0_0.length c0_0] 30 (0, 0)) (bp BK166) hb); replace BK167 := am (blk_below (g := gb167) (o := .cells #[.int .i64 x168000_2, .int .i64 x168001_2, .int .i64 x168002_2] 84 (0, 0)) (bp BK167) hb); replace BK181 := am (blk_below (g := gb181) (o := .cells #[.int .i64 ((rd_T102 ((rd_T100 l0_0 a1).f2) t178).f0), .int .i64 ((rd_T102 ((rd_T100 l0_0 a1).f2) t178).f1)] 102 (0, 0)) (bp BK181) hb); replace BK182 := am (blk_below (g := gb182) (o := .cells #[.int .i64 a1, .int .i64 t178, .int .i64 5] 84 (0, 0)) (bp BK182) hb); replace HB := am (below_step (bw HB) hb); clear hb ho69))
                      (try simp only [Act.put, sa, sz, ss])
                      go_cut [90] (fun v90 wc => ∃ (kq : Nat) (x90_66 : Bool), v90 = .bool x90_66 ∧ Aside0 (spec_l04Heights.j3 kq a1 ((rd_T100 l0_0 a1).f2) x7_2 y179 t178 (wrap64 ((wrap64 ((rd x7_2 t178) - t183)) + t185)) y187 x90_66 l0_0 ((rd_T102 ((rd_T100 l0_0 a1).f2) t178).f0) ((rd_T102 ((rd_T100 l0_0 a1).f2) t178).f1) a1 t178 5 = some (r1, r2, r3, r4)) ∧ Aside0 (kq ≤ kj42) ∧ Aside0 (Kd.R (Kd.int .i64) 2 wc w.heap.size (fun k_ => some k_ ≠ (v188 : Value).ownBlock) (.slice (some ⟨go20, 0, none⟩) x7_2.length co25) x7_2) ∧ Aside0 (Kd.R Kd.bool 4 wc w.heap.size (fun _ => True) (.slice (some ⟨go24, 0, none⟩) y179.length co24) y179) ∧ Aside0 (Kd.R (Kd.int .i64) 2 wc w.heap.size (fun k_ => some k_ ≠ ((.slice (some ⟨go20, 0, none⟩) x7_2.length co25) : Value).ownBlock) v188 y187) ∧ Aside0 (wc.heap[gb166]? = some (.cells #[(.slice (some ad168) l0_0.length c0_0)] 30 (0, 0))) ∧ Aside0 (wc.heap[gb167]? = some (.cells #[.int .i64 x168000_2, .int .i64 x168001_2, .int .i64 x168002_2] 84 (0, 0))) ∧ Aside0 (wc.heap[gb181]? = some (.cells #[.int .i64 ((rd_T102 ((rd_T100 l0_0 a1).f2) t178).f0), .int .i64 ((rd_T102 ((rd_T100 l0_0 a1).f2) t178).f1)] 102 (0, 0))) ∧ Aside0 (wc.heap[gb182]? = some (.cells #[.int .i64 a1, .int .i64 t178, .int .i64 5] 84 (0, 0))) ∧ Aside0 (Below w.heap.size w wc))
                      case first =>
                       have H := HC67.out
                       clear HC67
                       by_cases c70 : ((rd_T102 ((rd_T100 l0_0 a1).f2) t178).f0) = 30
                       ·rw [if_pos c70] at H
                        have c70b0 : (((rd_T102 ((rd_T100 l0_0 a1).f2) t178).f0) == 30) = true := beq_iff_eq.mpr c70
                        have c70b1 : (((rd_T102 ((rd_T100 l0_0 a1).f2) t178).f0) != 30) = false := bne_eq_false_iff_eq.mpr c70
                        clear c70
                        (first | rw [c70b0] | (simp only [i64_w, i32_w]; rw [c70b0]) | skip)
                        have H' := am H
                        clear H
                        have hnb71 := NB181_166.out
                        have hnc71 := NB166_181.out
                        have hnb72 := NB181_167.out
                        have hnc72 := NB167_181.out
                        have hnb73 := NB181_182.out
                        have hnc73 := NB182_181.out
                        have hcz74_0 : w68.cell? ⟨gb181, 0, none⟩ = some (.int .i64 ((rd_T102 ((rd_T100 l0_0 a1).f2) t178).f0)) := bc BK181 0
                        have hcz74_1 : w68.cell? ⟨gb181, 1, none⟩ = some (.int .i64 ((rd_T102 ((rd_T100 l0_0 a1).f2) t178).f1)) := bc BK181 1
                        have hfz74_0 := bf BK181 0
                        have hfz74_1 := bf BK181 1
                        go_wp2
                        go_meet
                        case rel => exact ⟨_, (false), dr, H', ⟨by have := HK1.out; have := HK2.out; have := HJ42.out; first | omega | exact Nat.le_refl _⟩, ⟨by (try simp only [hl7_2]); (try simp only [hl9_2]); (try simp only [hl9_42]); (with_reducible repeat (first | apply Kd.R_alloc | apply Kd.R_drewN | apply Kd.R_drew)); exact Kd.R_mono HO_7.out (fun _ hk => hk.2)⟩, ⟨by (try simp only [hl7_2]); (try simp only [hl9_2]); (try simp only [hl9_42]); exact kR HO_9⟩, ⟨by (try simp only [hl7_2]); (try simp only [hl9_2]); (try simp only [hl9_42]); (with_reducible repeat (first | apply Kd.R_alloc | apply Kd.R_drewN | apply Kd.R_drew)); exact Kd.R_mono HO189.out (fun _ hk => hk.2)⟩, ⟨by (try simp only [hl7_2]); (try simp only [hl9_2]); (try simp only [hl9_42]); exact bp BK166⟩, ⟨by (try simp only [hl7_2]); (try simp only [hl9_2]); (try simp only [hl9_42]); exact bp BK167⟩, ⟨by (try simp only [hl7_2]); (try simp only [hl9_2]); (try simp only [hl9_42]); exact bp BK181⟩, ⟨by (try simp only [hl7_2]); (try simp only [hl9_2]); (try simp only [hl9_42]); exact bp BK182⟩, ⟨bw HB⟩⟩
                       ·rw [if_neg c70] at H
                        have c70b0 : (((rd_T102 ((rd_T100 l0_0 a1).f2) t178).f0) == 30) = false := beq_eq_false_iff_ne.mpr c70
                        have c70b1 : (((rd_T102 ((rd_T100 l0_0 a1).f2) t178).f0) != 30) = true := bne_iff_ne.mpr c70
                        (first | rw [c70b0] | (simp only [i64_w, i32_w]; rw [c70b0]) | skip)
                        have H' := am H
                        clear H
                        have hnb75 := NB181_166.out
                        have hnc75 := NB166_181.out
                        have hnb76 := NB181_167.out
                        have hnc76 := NB167_181.out
                        have hnb77 := NB181_182.out
                        have hnc77 := NB182_181.out
                        have hcz78_0 : w68.cell? ⟨gb181, 0, none⟩ = some (.int .i64 ((rd_T102 ((rd_T100 l0_0 a1).f2) t178).f0)) := bc BK181 0
                        have hcz78_1 : w68.cell? ⟨gb181, 1, none⟩ = some (.int .i64 ((rd_T102 ((rd_T100 l0_0 a1).f2) t178).f1)) := bc BK181 1
                        have hfz78_0 := bf BK181 0
                        have hfz78_1 := bf BK181 1
                        go_wp2
                        go_meet
                        case rel => exact ⟨_, ((((rd_T102 ((rd_T100 l0_0 a1).f2) t178).f0) != 33)), dr, H', ⟨by have := HK1.out; have := HK2.out; have := HJ42.out; first | omega | exact Nat.le_refl _⟩, ⟨by (try simp only [hl7_2]); (try simp only [hl9_2]); (try simp only [hl9_42]); (with_reducible repeat (first | apply Kd.R_alloc | apply Kd.R_drewN | apply Kd.R_drew)); exact Kd.R_mono HO_7.out (fun _ hk => hk.2)⟩, ⟨by (try simp only [hl7_2]); (try simp only [hl9_2]); (try simp only [hl9_42]); exact kR HO_9⟩, ⟨by (try simp only [hl7_2]); (try simp only [hl9_2]); (try simp only [hl9_42]); (with_reducible repeat (first | apply Kd.R_alloc | apply Kd.R_drewN | apply Kd.R_drew)); exact Kd.R_mono HO189.out (fun _ hk => hk.2)⟩, ⟨by (try simp only [hl7_2]); (try simp only [hl9_2]); (try simp only [hl9_42]); exact bp BK166⟩, ⟨by (try simp only [hl7_2]); (try simp only [hl9_2]); (try simp only [hl9_42]); exact bp BK167⟩, ⟨by (try simp only [hl7_2]); (try simp only [hl9_2]); (try simp only [hl9_42]); exact bp BK181⟩, ⟨by (try simp only [hl7_2]); (try simp only [hl9_2]); (try simp only [hl9_42]); exact bp BK182⟩, ⟨bw HB⟩⟩
                      case rest =>
                       clear HC67
                       (try clear c1); (try clear p1); (try clear q1); (try clear hx1); (try clear c2); (try clear p2); (try clear q2); (try clear hx2); (try clear qi2); (try clear hf2); (try clear c3); (try clear c3b0); (try clear p3); (try clear q3); (try clear hx3); (try clear hf3); (try clear c4); (try clear c4b0); (try clear c5); (try clear c5b0); (try clear c5b1); (try clear c6); (try clear c6b0); (try clear c6b1); (try clear p6); (try clear c7); (try clear c9); (try clear c11); (try clear c13); (try clear c13b0); (try clear c14); (try clear c14b0); (try clear p15); (try clear q15); (try clear hx15); (try clear hf15); (try clear c16); (try clear p16); (try clear q16); (try clear hx16); (try clear p18); (try clear q18); (try clear hx18); (try clear c19); (try clear c19b0); (try clear c19b1); (try clear p20); (try clear q20); (try clear hx20); (try clear qi20); (try clear hf20); (try clear c21); (try clear c21b0); (try clear c21b1); (try clear c22); (try clear c22b0); (try clear c22b1); (try clear c23); (try clear c23b0); (try clear c23b1); (try clear p24); (try clear q24); (try clear hx24); (try clear qi24); (try clear hf24); (try clear c33); (try clear c33b0); (try clear c34); (try clear c36); (try clear c36b0); (try clear c37); (try clear c37b0); (try clear p38); (try clear q38); (try clear hx38); (try clear hf38); (try clear c39); (try clear c39b0); (try clear c41); (try clear c41b0); (try clear c47); (try clear c48); (try clear c51); (try clear c52); (try clear c53); (try clear c55); (try clear c58); (try clear c61); (try clear c61b0); (try clear c62); (try clear p64); (try clear c70); (try clear c70b0); (try clear c70b1); (try clear c71); (try clear c72); (try clear c73); (try clear c75); (try clear c76); (try clear c77); (try clear hcz10_0); (try clear hcz35_0); (try clear hcz35_1); (try clear hcz35_2); (try clear hcz49_0); (try clear hcz49_1); (try clear hcz54_0); (try clear hcz54_1); (try clear hcz54_2); (try clear hcz56_0); (try clear hcz57_0); (try clear hcz57_1); (try clear hcz74_0); (try clear hcz74_1); (try clear hcz78_0); (try clear hcz78_1); (try clear hfz10_0); (try clear hfz35_0); (try clear hfz35_1); (try clear hfz35_2); (try clear hfz49_0); (try clear hfz49_1); (try clear hfz54_0); (try clear hfz54_1); (try clear hfz54_2); (try clear hfz56_0); (try clear hfz57_0); (try clear hfz57_1); (try clear hfz74_0); (try clear hfz74_1); (try clear hfz78_0); (try clear hfz78_1); (try clear hx15_0); (try clear hx168_0); (try clear hx168_1); (try clear hx168_2); (try clear hx180_0); (try clear hx180_1); (try clear hx184_0); (try clear hx186_0); (try clear hx20_0); (try clear hx24_0); (try clear hx38_0); (try clear p1); (try clear p15); (try clear p16); (try clear p168); (try clear p18); (try clear p180); (try clear p184); (try clear p186); (try clear p2); (try clear p20); (try clear p24); (try clear p3); (try clear p38); (try clear p6); (try clear q1); (try clear q15); (try clear q16); (try clear q168); (try clear q18); (try clear q180); (try clear q184); (try clear q186); (try clear q2); (try clear q20); (try clear q24); (try clear q3); (try clear q38)
                       obtain ⟨kq, x90_66, rfl, HA, HJ66, HO_7, HO_9, HO_15, BK166, BK167, BK181, BK182, HB⟩ := hcut
                       cases kq with
                       | zero => exact absurd HA.out (by simp [spec_l04Heights.j3])
                       | succ kj66 =>
                        have H := HA.out
                        clear HA
                        simp only [spec_l04Heights.j3] at H
                        have HC79 := am H
                        clear H
                        go_upto_if 90 with (fail)
                        go_cut [15] (fun v15 wc => ∃ (kq : Nat) (x15_78 : List Int), Aside0 (spec_l04Heights.j4 kq a1 ((rd_T100 l0_0 a1).f2) x7_2 y179 (wrap64 ((wrap64 ((rd x7_2 t178) - t183)) + t185)) x15_78 l0_0 ((rd_T102 ((rd_T100 l0_0 a1).f2) t178).f0) ((rd_T102 ((rd_T100 l0_0 a1).f2) t178).f1) a1 t178 5 = some (r1, r2, r3, r4)) ∧ Aside0 (kq ≤ kj66) ∧ Aside0 (Kd.R (Kd.int .i64) 2 wc w.heap.size (fun k_ => some k_ ≠ (v15 : Value).ownBlock) (.slice (some ⟨go20, 0, none⟩) x7_2.length co25) x7_2) ∧ Aside0 (Kd.R Kd.bool 4 wc w.heap.size (fun _ => True) (.slice (some ⟨go24, 0, none⟩) y179.length co24) y179) ∧ Aside0 (Kd.R (Kd.int .i64) 2 wc w.heap.size (fun k_ => some k_ ≠ ((.slice (some ⟨go20, 0, none⟩) x7_2.length co25) : Value).ownBlock) v15 x15_78) ∧ Aside0 (wc.heap[gb166]? = some (.cells #[(.slice (some ad168) l0_0.length c0_0)] 30 (0, 0))) ∧ Aside0 (wc.heap[gb167]? = some (.cells #[.int .i64 x168000_2, .int .i64 x168001_2, .int .i64 x168002_2] 84 (0, 0))) ∧ Aside0 (wc.heap[gb181]? = some (.cells #[.int .i64 ((rd_T102 ((rd_T100 l0_0 a1).f2) t178).f0), .int .i64 ((rd_T102 ((rd_T100 l0_0 a1).f2) t178).f1)] 102 (0, 0))) ∧ Aside0 (wc.heap[gb182]? = some (.cells #[.int .i64 a1, .int .i64 t178, .int .i64 5] 84 (0, 0))) ∧ Aside0 (Below w.heap.size w wc))
                        case first =>
                         have H := HC79.out
                         clear HC79
                         by_cases c80 : x90_66 = true
                         ·subst c80
                          have H1 : (if y187.length < 17592186044416 then (spec_l04Heights.j4 kj66 a1 ((rd_T100 l0_0 a1).f2) x7_2 y179 (wrap64 ((wrap64 ((rd x7_2 t178) - t183)) + t185)) (y187 ++ [wrap64 (t178 + 1)]) l0_0 ((rd_T102 ((rd_T100 l0_0 a1).f2) t178).f0) ((rd_T102 ((rd_T100 l0_0 a1).f2) t178).f1) a1 t178 5) else (none)) = some (r1, r2, r3, r4) := by rw [if_pos rfl] at H; exact H
                          clear H
                          have H := H1
                          clear H1
                          by_cases c81 : y187.length < 17592186044416
                          ·rw [if_pos c81] at H
                           have LMc81 := am c81
                           clear c81
                           obtain ⟨y190, hy190⟩ : ∃ y_ : List Int, y_ = (y187 ++ [wrap64 (t178 + 1)]) := ⟨_, rfl⟩
                           replace H : (spec_l04Heights.j4 kj66 a1 ((rd_T100 l0_0 a1).f2) x7_2 y179 (wrap64 ((wrap64 ((rd x7_2 t178) - t183)) + t185)) y190 l0_0 ((rd_T102 ((rd_T100 l0_0 a1).f2) t178).f0) ((rd_T102 ((rd_T100 l0_0 a1).f2) t178).f1) a1 t178 5) = some (r1, r2, r3, r4) := by first | (rw [hy190]; with_reducible exact H) | (have H2_ := (Option.bind_some _ _).symm.trans H; rw [hy190]; with_reducible exact H2_) | (have H2_ := (Option.bind_some _ _).symm.trans H; with_reducible exact H2_) | with_reducible exact H | (rw [hy190]; exact H) | exact H
                           have Ny190 := am hy190
                           clear hy190
                           have H' := am H
                           clear H
                           go_wp2_with (first | ((with_reducible refine gate_builtin (b := .append) (xs := #[.tmp 91, .tmp 94]) rfl ?_); at_builtin; refine Kd.R_append (Kd.int .i64) (w0 := w) w.heap.size rfl (.tmp 91) (.tmp 94) 26 2 (.int .i64 0) 8 rfl Try.underlying26 info2 rfl (by decide) (by omega) v188 y187 (wrap64 (t178 + 1)) [.int .i64 (wrap64 (t178 + 1))] (fun k_ => some k_ ≠ (.slice (some ⟨go20, 0, none⟩) x7_2.length co25 : Value).ownBlock) (fun _ => False) rfl rfl ?aP (fun _ hk => hk.elim) ?aF ?aO ?aB ?aS ?aL ?_; (case aP => exact rfl); (case aB => exact (bw HB)); (case aF => exact (fun k_ hk => Kd.fresh' (Kd.R_lt (kR HO_7)) k_ hk)); (case aO => exact (kR HO_15)); (case aS => exact (below_size (bw HB))); (case aL => have := LMc81.out; omega); intro v191 w82 ho hb hg hat; rw [← Ny190.out] at ho; replace HO_7 := am (Kd.R_after (ok := (fun _ => True)) (by (with_reducible repeat (first | apply Kd.R_alloc | apply Kd.R_drewN | apply Kd.R_drew)); exact Kd.R_mono HO_7.out (fun _ hk => ⟨trivial, hk⟩)) hg hat); replace HO_9 := am (Kd.R_over' (kR HO_9) (Kd.R_typed (kR HO_15)) (by decide) hg); replace BK166 := am (blk_grown (g := gb166) (o := .cells #[.slice (some ad168) l0_0.length c0_0] 30 (0, 0)) (bp BK166) hg (Kd.R_ne HO_15.out BK166.out (by decide))); replace BK167 := am (blk_grown (g := gb167) (o := .cells #[.int .i64 x168000_2, .int .i64 x168001_2, .int .i64 x168002_2] 84 (0, 0)) (bp BK167) hg (Kd.R_ne HO_15.out BK167.out (by decide))); replace BK181 := am (blk_grown (g := gb181) (o := .cells #[.int .i64 ((rd_T102 ((rd_T100 l0_0 a1).f2) t178).f0), .int .i64 ((rd_T102 ((rd_T100 l0_0 a1).f2) t178).f1)] 102 (0, 0)) (bp BK181) hg (Kd.R_ne HO_15.out BK181.out (by decide))); replace BK182 := am (blk_grown (g := gb182) (o := .cells #[.int .i64 a1, .int .i64 t178, .int .i64 5] 84 (0, 0)) (bp BK182) hg (Kd.R_ne HO_15.out BK182.out (by decide))); replace HB := am (hb); have HO192 := am (ho); clear HO_15; clear ho hb hg hat))
                           go_meet
                           case rel => exact ⟨_, (y190), H', ⟨by have := HK1.out; have := HK2.out; have := HJ42.out; have := HJ66.out; first | omega | exact Nat.le_refl _⟩, ⟨by (try simp only [hl7_2]); (try simp only [hl9_2]); (try simp only [hl9_42]); (with_reducible repeat (first | apply Kd.R_alloc | apply Kd.R_drewN | apply Kd.R_drew)); exact Kd.R_mono HO_7.out (fun _ hk => hk.2)⟩, ⟨by (try simp only [hl7_2]); (try simp only [hl9_2]); (try simp only [hl9_42]); exact kR HO_9⟩, ⟨by (try simp only [hl7_2]); (try simp only [hl9_2]); (try simp only [hl9_42]); exact kR HO192⟩, ⟨by (try simp only [hl7_2]); (try simp only [hl9_2]); (try simp only [hl9_42]); exact bp BK166⟩, ⟨by (try simp only [hl7_2]); (try simp only [hl9_2]); (try simp only [hl9_42]); exact bp BK167⟩, ⟨by (try simp only [hl7_2]); (try simp only [hl9_2]); (try simp only [hl9_42]); exact bp BK181⟩, ⟨by (try simp only [hl7_2]); (try simp only [hl9_2]); (try simp only [hl9_42]); exact bp BK182⟩, ⟨bw HB⟩⟩
                          ·rw [if_neg c81] at H
                           exact absurd H (by simp)
                         ·replace c80 := Bool.eq_false_iff.mpr c80
                          subst c80
                          have H1 : (spec_l04Heights.j4 kj66 a1 ((rd_T100 l0_0 a1).f2) x7_2 y179 (wrap64 ((wrap64 ((rd x7_2 t178) - t183)) + t185)) y187 l0_0 ((rd_T102 ((rd_T100 l0_0 a1).f2) t178).f0) ((rd_T102 ((rd_T100 l0_0 a1).f2) t178).f1) a1 t178 5) = some (r1, r2, r3, r4) := by rw [if_neg (show ¬ (false = true) by decide)] at H; exact H
                          clear H
                          have H := H1
                          clear H1
                          have H' := am H
                          clear H
                          go_wp2
                          go_meet
                          case rel => exact ⟨_, (y187), H', ⟨by have := HK1.out; have := HK2.out; have := HJ42.out; have := HJ66.out; first | omega | exact Nat.le_refl _⟩, ⟨by (try simp only [hl7_2]); (try simp only [hl9_2]); (try simp only [hl9_42]); exact kR HO_7⟩, ⟨by (try simp only [hl7_2]); (try simp only [hl9_2]); (try simp only [hl9_42]); exact kR HO_9⟩, ⟨by (try simp only [hl7_2]); (try simp only [hl9_2]); (try simp only [hl9_42]); exact kR HO_15⟩, ⟨by (try simp only [hl7_2]); (try simp only [hl9_2]); (try simp only [hl9_42]); exact bp BK166⟩, ⟨by (try simp only [hl7_2]); (try simp only [hl9_2]); (try simp only [hl9_42]); exact bp BK167⟩, ⟨by (try simp only [hl7_2]); (try simp only [hl9_2]); (try simp only [hl9_42]); exact bp BK181⟩, ⟨by (try simp only [hl7_2]); (try simp only [hl9_2]); (try simp only [hl9_42]); exact bp BK182⟩, ⟨bw HB⟩⟩
                        case rest =>
                         clear HC79
                         (try clear c1); (try clear p1); (try clear q1); (try clear hx1); (try clear c2); (try clear p2); (try clear q2); (try clear hx2); (try clear qi2); (try clear hf2); (try clear c3); (try clear c3b0); (try clear p3); (try clear q3); (try clear hx3); (try clear hf3); (try clear c4); (try clear c4b0); (try clear c5); (try clear c5b0); (try clear c5b1); (try clear c6); (try clear c6b0); (try clear c6b1); (try clear p6); (try clear c7); (try clear c8); (try clear c9); (try clear c11); (try clear c13); (try clear c13b0); (try clear c14); (try clear c14b0); (try clear p15); (try clear q15); (try clear hx15); (try clear hf15); (try clear c16); (try clear p16); (try clear q16); (try clear hx16); (try clear p18); (try clear q18); (try clear hx18); (try clear c19); (try clear c19b0); (try clear c19b1); (try clear p20); (try clear q20); (try clear hx20); (try clear qi20); (try clear hf20); (try clear c21); (try clear c21b0); (try clear c21b1); (try clear c22); (try clear c22b0); (try clear c22b1); (try clear c23); (try clear c23b0); (try clear c23b1); (try clear p24); (try clear q24); (try clear hx24); (try clear qi24); (try clear hf24); (try clear c33); (try clear c33b0); (try clear c34); (try clear c36); (try clear c36b0); (try clear c37); (try clear c37b0); (try clear p38); (try clear q38); (try clear hx38); (try clear hf38); (try clear c39); (try clear c39b0); (try clear c41); (try clear c41b0); (try clear c47); (try clear c48); (try clear c51); (try clear c52); (try clear c53); (try clear c55); (try clear c58); (try clear c61); (try clear c61b0); (try clear c62); (try clear p64); (try clear c70); (try clear c70b0); (try clear c70b1); (try clear c71); (try clear c72); (try clear c73); (try clear c75); (try clear c76); (try clear c77); (try clear c80); (try clear c81); (try clear hcz10_0); (try clear hcz35_0); (try clear hcz35_1); (try clear hcz35_2); (try clear hcz49_0); (try clear hcz49_1); (try clear hcz54_0); (try clear hcz54_1); (try clear hcz54_2); (try clear hcz56_0); (try clear hcz57_0); (try clear hcz57_1); (try clear hcz74_0); (try clear hcz74_1); (try clear hcz78_0); (try clear hcz78_1); (try clear hfz10_0); (try clear hfz35_0); (try clear hfz35_1); (try clear hfz35_2); (try clear hfz49_0); (try clear hfz49_1); (try clear hfz54_0); (try clear hfz54_1); (try clear hfz54_2); (try clear hfz56_0); (try clear hfz57_0); (try clear hfz57_1); (try clear hfz74_0); (try clear hfz74_1); (try clear hfz78_0); (try clear hfz78_1); (try clear hx15_0); (try clear hx168_0); (try clear hx168_1); (try clear hx168_2); (try clear hx180_0); (try clear hx180_1); (try clear hx184_0); (try clear hx186_0); (try clear hx20_0); (try clear hx24_0); (try clear hx38_0); (try clear p1); (try clear p15); (try clear p16); (try clear p168); (try clear p18); (try clear p180); (try clear p184); (try clear p186); (try clear p2); (try clear p20); (try clear p24); (try clear p3); (try clear p38); (try clear p6); (try clear p64); (try clear q1); (try clear q15); (try clear q16); (try clear q168); (try clear q18); (try clear q180); (try clear q184); (try clear q186); (try clear q2); (try clear q20); (try clear q24); (try clear q3); (try clear q38)
                         obtain ⟨kq, x15_78, HA, HJ78, HO_7, HO_9, HO_15, BK166, BK167, BK181, BK182, HB⟩ := hcut
                         cases kq with
                         | zero => exact absurd HA.out (by simp [spec_l04Heights.j4])
                         | succ kj78 =>
                          have H := HA.out
                          clear HA
                          simp only [spec_l04Heights.j4] at H
                          have HC83 := am H
                          clear H
                          go_upto_region 23 with (fail)
                          go_cut [103] (fun v103 wc => ∃ (kq : Nat) (x103_82 : Bool), v103 = .bool x103_82 ∧ Aside0 (spec_l04Heights.j5 kq a1 ((rd_T100 l0_0 a1).f2) x7_2 y179 (wrap64 ((wrap64 ((rd x7_2 t178) - t183)) + t185)) x15_78 x103_82 l0_0 ((rd_T102 ((rd_T100 l0_0 a1).f2) t178).f0) ((rd_T102 ((rd_T100 l0_0 a1).f2) t178).f1) a1 t178 5 = some (r1, r2, r3, r4)) ∧ Aside0 (kq ≤ kj78) ∧ Aside0 (Kd.R (Kd.int .i64) 2 wc w.heap.size (fun k_ => some k_ ≠ (u15 : Value).ownBlock) (.slice (some ⟨go20, 0, none⟩) x7_2.length co25) x7_2) ∧ Aside0 (Kd.R Kd.bool 4 wc w.heap.size (fun _ => True) (.slice (some ⟨go24, 0, none⟩) y179.length co24) y179) ∧ Aside0 (Kd.R (Kd.int .i64) 2 wc w.heap.size (fun k_ => some k_ ≠ ((.slice (some ⟨go20, 0, none⟩) x7_2.length co25) : Value).ownBlock) u15 x15_78) ∧ Aside0 (wc.heap[gb166]? = some (.cells #[(.slice (some ad168) l0_0.length c0_0)] 30 (0, 0))) ∧ Aside0 (wc.heap[gb167]? = some (.cells #[.int .i64 x168000_2, .int .i64 x168001_2, .int .i64 x168002_2] 84 (0, 0))) ∧ Aside0 (wc.heap[gb181]? = some (.cells #[.int .i64 ((rd_T102 ((rd_T100 l0_0 a1).f2) t178).f0), .int .i64 ((rd_T102 ((rd_T100 l0_0 a1).f2) t178).f1)] 102 (0, 0))) ∧ Aside0 (wc.heap[gb182]? = some (.cells #[.int .i64 a1, .int .i64 t178, .int .i64 5] 84 (0, 0))) ∧ Aside0 (Below w.heap.size w wc))
                          case first =>
                           have H := HC83.out
                           clear HC83
                           by_cases c84 : ((rd_T102 ((rd_T100 l0_0 a1).f2) t178).f0) = 30
                           ·rw [if_pos c84] at H
                            have c84b0 : (((rd_T102 ((rd_T100 l0_0 a1).f2) t178).f0) == 30) = true := beq_iff_eq.mpr c84
                            have c84b1 : (((rd_T102 ((rd_T100 l0_0 a1).f2) t178).f0) != 30) = false := bne_eq_false_iff_eq.mpr c84
                            clear c84
                            (first | rw [c84b0] | (simp only [i64_w, i32_w]; rw [c84b0]) | skip)
                            have H' := am H
                            clear H
                            have hnb85 := NB181_166.out
                            have hnc85 := NB166_181.out
                            have hnb86 := NB181_167.out
                            have hnc86 := NB167_181.out
                            have hnb87 := NB181_182.out
                            have hnc87 := NB182_181.out
                            have hcz88_0 : wc.cell? ⟨gb181, 0, none⟩ = some (.int .i64 ((rd_T102 ((rd_T100 l0_0 a1).f2) t178).f0)) := bc BK181 0
                            have hcz88_1 : wc.cell? ⟨gb181, 1, none⟩ = some (.int .i64 ((rd_T102 ((rd_T100 l0_0 a1).f2) t178).f1)) := bc BK181 1
                            have hfz88_0 := bf BK181 0
                            have hfz88_1 := bf BK181 1
                            go_wp2
                            go_meet
                            case rel => exact ⟨_, (true), dr, H', ⟨by have := HK1.out; have := HK2.out; have := HJ42.out; have := HJ66.out; have := HJ78.out; first | omega | exact Nat.le_refl _⟩, ⟨by (try simp only [hl7_2]); (try simp only [hl9_2]); (try simp only [hl9_42]); exact kR HO_7⟩, ⟨by (try simp only [hl7_2]); (try simp only [hl9_2]); (try simp only [hl9_42]); exact kR HO_9⟩, ⟨by (try simp only [hl7_2]); (try simp only [hl9_2]); (try simp only [hl9_42]); exact kR HO_15⟩, ⟨by (try simp only [hl7_2]); (try simp only [hl9_2]); (try simp only [hl9_42]); exact bp BK166⟩, ⟨by (try simp only [hl7_2]); (try simp only [hl9_2]); (try simp only [hl9_42]); exact bp BK167⟩, ⟨by (try simp only [hl7_2]); (try simp only [hl9_2]); (try simp only [hl9_42]); exact bp BK181⟩, ⟨by (try simp only [hl7_2]); (try simp only [hl9_2]); (try simp only [hl9_42]); exact bp BK182⟩, ⟨bw HB⟩⟩
                           ·rw [if_neg c84] at H
                            have c84b0 : (((rd_T102 ((rd_T100 l0_0 a1).f2) t178).f0) == 30) = false := beq_eq_false_iff_ne.mpr c84
                            have c84b1 : (((rd_T102 ((rd_T100 l0_0 a1).f2) t178).f0) != 30) = true := bne_iff_ne.mpr c84
                            (first | rw [c84b0] | (simp only [i64_w, i32_w]; rw [c84b0]) | skip)
                            have H' := am H
                            clear H
                            have hnb89 := NB181_166.out
                            have hnc89 := NB166_181.out
                            have hnb90 := NB181_167.out
                            have hnc90 := NB167_181.out
                            have hnb91 := NB181_182.out
                            have hnc91 := NB182_181.out
                            have hcz92_0 : wc.cell? ⟨gb181, 0, none⟩ = some (.int .i64 ((rd_T102 ((rd_T100 l0_0 a1).f2) t178).f0)) := bc BK181 0
                            have hcz92_1 : wc.cell? ⟨gb181, 1, none⟩ = some (.int .i64 ((rd_T102 ((rd_T100 l0_0 a1).f2) t178).f1)) := bc BK181 1
                            have hfz92_0 := bf BK181 0
                            have hfz92_1 := bf BK181 1
                            go_wp2
                            go_meet
                            case rel => exact ⟨_, ((((rd_T102 ((rd_T100 l0_0 a1).f2) t178).f0) == 31)), dr, H', ⟨by have := HK1.out; have := HK2.out; have := HJ42.out; have := HJ66.out; have := HJ78.out; first | omega | exact Nat.le_refl _⟩, ⟨by (try simp only [hl7_2]); (try simp only [hl9_2]); (try simp only [hl9_42]); exact kR HO_7⟩, ⟨by (try simp only [hl7_2]); (try simp only [hl9_2]); (try simp only [hl9_42]); exact kR HO_9⟩, ⟨by (try simp only [hl7_2]); (try simp only [hl9_2]); (try simp only [hl9_42]); exact kR HO_15⟩, ⟨by (try simp only [hl7_2]); (try simp only [hl9_2]); (try simp only [hl9_42]); exact bp BK166⟩, ⟨by (try simp only [hl7_2]); (try simp only [hl9_2]); (try simp only [hl9_42]); exact bp BK167⟩, ⟨by (try simp only [hl7_2]); (try simp only [hl9_2]); (try simp only [hl9_42]); exact bp BK181⟩, ⟨by (try simp only [hl7_2]); (try simp only [hl9_2]); (try simp only [hl9_42]); exact bp BK182⟩, ⟨bw HB⟩⟩
                          case rest =>
                           clear HC83
                           (try clear c1); (try clear p1); (try clear q1); (try clear hx1); (try clear c2); (try clear p2); (try clear q2); (try clear hx2); (try clear qi2); (try clear hf2); (try clear c3); (try clear c3b0); (try clear p3); (try clear q3); (try clear hx3); (try clear hf3); (try clear c4); (try clear c4b0); (try clear c5); (try clear c5b0); (try clear c5b1); (try clear c6); (try clear c6b0); (try clear c6b1); (try clear p6); (try clear c7); (try clear c8); (try clear c9); (try clear c11); (try clear c13); (try clear c13b0); (try clear c14); (try clear c14b0); (try clear p15); (try clear q15); (try clear hx15); (try clear hf15); (try clear c16); (try clear p16); (try clear q16); (try clear hx16); (try clear p18); (try clear q18); (try clear hx18); (try clear c19); (try clear c19b0); (try clear c19b1); (try clear p20); (try clear q20); (try clear hx20); (try clear qi20); (try clear hf20); (try clear c21); (try clear c21b0); (try clear c21b1); (try clear c22); (try clear c22b0); (try clear c22b1); (try clear c23); (try clear c23b0); (try clear c23b1); (try clear p24); (try clear q24); (try clear hx24); (try clear qi24); (try clear hf24); (try clear c33); (try clear c33b0); (try clear c34); (try clear c36); (try clear c36b0); (try clear c37); (try clear c37b0); (try clear p38); (try clear q38); (try clear hx38); (try clear hf38); (try clear c39); (try clear c39b0); (try clear c41); (try clear c41b0); (try clear c47); (try clear c48); (try clear c51); (try clear c52); (try clear c53); (try clear c55); (try clear c58); (try clear c61); (try clear c61b0); (try clear c62); (try clear p64); (try clear c70); (try clear c70b0); (try clear c70b1); (try clear c71); (try clear c72); (try clear c73); (try clear c75); (try clear c76); (try clear c77); (try clear c80); (try clear c81); (try clear c84); (try clear c84b0); (try clear c84b1); (try clear c85); (try clear c86); (try clear c87); (try clear c89); (try clear c90); (try clear c91); (try clear hcz10_0); (try clear hcz35_0); (try clear hcz35_1); (try clear hcz35_2); (try clear hcz49_0); (try clear hcz49_1); (try clear hcz54_0); (try clear hcz54_1); (try clear hcz54_2); (try clear hcz56_0); (try clear hcz57_0); (try clear hcz57_1); (try clear hcz74_0); (try clear hcz74_1); (try clear hcz78_0); (try clear hcz78_1); (try clear hcz88_0); (try clear hcz88_1); (try clear hcz92_0); (try clear hcz92_1); (try clear hfz10_0); (try clear hfz35_0); (try clear hfz35_1); (try clear hfz35_2); (try clear hfz49_0); (try clear hfz49_1); (try clear hfz54_0); (try clear hfz54_1); (try clear hfz54_2); (try clear hfz56_0); (try clear hfz57_0); (try clear hfz57_1); (try clear hfz74_0); (try clear hfz74_1); (try clear hfz78_0); (try clear hfz78_1); (try clear hfz88_0); (try clear hfz88_1); (try clear hfz92_0); (try clear hfz92_1); (try clear hx15_0); (try clear hx168_0); (try clear hx168_1); (try clear hx168_2); (try clear hx180_0); (try clear hx180_1); (try clear hx184_0); (try clear hx186_0); (try clear hx20_0); (try clear hx24_0); (try clear hx38_0); (try clear p1); (try clear p15); (try clear p16); (try clear p168); (try clear p18); (try clear p180); (try clear p184); (try clear p186); (try clear p2); (try clear p20); (try clear p24); (try clear p3); (try clear p38); (try clear p6); (try clear p64); (try clear q1); (try clear q15); (try clear q16); (try clear q168); (try clear q18); (try clear q180); (try clear q184); (try clear q186); (try clear q2); (try clear q20); (try clear q24); (try clear q3); (try clear q38)
                           obtain ⟨kq, x103_82, rfl, HA, HJ82, HO_7, HO_9, HO_15, BK166, BK167, BK181, BK182, HB⟩ := hcut
                           cases kq with
                           | zero => exact absurd HA.out (by simp [spec_l04Heights.j5])
                           | succ kj82 =>
                            have H := HA.out
                            clear HA
                            simp only [spec_l04Heights.j5] at H
                            have HC93 := am H
                            clear H
                            go_upto_if 103 with (fail)
                            go_cut [15] (fun v15 wc => ∃ (kq : Nat) (x15_92 : List Int), Aside0 (spec_l04Heights.j6 kq a1 ((rd_T100 l0_0 a1).f2) x7_2 y179 (wrap64 ((wrap64 ((rd x7_2 t178) - t183)) + t185)) x15_92 l0_0 a1 t178 5 = some (r1, r2, r3, r4)) ∧ Aside0 (kq ≤ kj82) ∧ Aside0 (Kd.R (Kd.int .i64) 2 wc w.heap.size (fun k_ => some k_ ≠ (v15 : Value).ownBlock) (.slice (some ⟨go20, 0, none⟩) x7_2.length co25) x7_2) ∧ Aside0 (Kd.R Kd.bool 4 wc w.heap.size (fun _ => True) (.slice (some ⟨go24, 0, none⟩) y179.length co24) y179) ∧ Aside0 (Kd.R (Kd.int .i64) 2 wc w.heap.size (fun k_ => some k_ ≠ ((.slice (some ⟨go20, 0, none⟩) x7_2.length co25) : Value).ownBlock) v15 x15_92) ∧ Aside0 (wc.heap[gb166]? = some (.cells #[(.slice (some ad168) l0_0.length c0_0)] 30 (0, 0))) ∧ Aside0 (wc.heap[gb167]? = some (.cells #[.int .i64 x168000_2, .int .i64 x168001_2, .int .i64 x168002_2] 84 (0, 0))) ∧ Aside0 (wc.heap[gb181]? = some (.cells #[.int .i64 ((rd_T102 ((rd_T100 l0_0 a1).f2) t178).f0), .int .i64 ((rd_T102 ((rd_T100 l0_0 a1).f2) t178).f1)] 102 (0, 0))) ∧ Aside0 (wc.heap[gb182]? = some (.cells #[.int .i64 a1, .int .i64 t178, .int .i64 5] 84 (0, 0))) ∧ Aside0 (Below w.heap.size w wc))
                            case first =>
                             have H := HC93.out
                             clear HC93
                             by_cases c94 : x103_82 = true
                             ·subst c94
                              have H1 : (if x15_78.length < 17592186044416 then (spec_l04Heights.j6 kj82 a1 ((rd_T100 l0_0 a1).f2) x7_2 y179 (wrap64 ((wrap64 ((rd x7_2 t178) - t183)) + t185)) (x15_78 ++ [((rd_T102 ((rd_T100 l0_0 a1).f2) t178).f1)]) l0_0 a1 t178 5) else (none)) = some (r1, r2, r3, r4) := by rw [if_pos rfl] at H; exact H
                              clear H
                              have H := H1
                              clear H1
                              by_cases c95 : x15_78.length < 17592186044416
                              ·rw [if_pos c95] at H
                               have LMc95 := am c95
                               clear c95
                               obtain ⟨y193, hy193⟩ : ∃ y_ : List Int, y_ = (x15_78 ++ [((rd_T102 ((rd_T100 l0_0 a1).f2) t178).f1)]) := ⟨_, rfl⟩
                               replace H : (spec_l04Heights.j6 kj82 a1 ((rd_T100 l0_0 a1).f2) x7_2 y179 (wrap64 ((wrap64 ((rd x7_2 t178) - t183)) + t185)) y193 l0_0 a1 t178 5) = some (r1, r2, r3, r4) := by first | (rw [hy193]; with_reducible exact H) | (have H2_ := (Option.bind_some _ _).symm.trans H; rw [hy193]; with_reducible exact H2_) | (have H2_ := (Option.bind_some _ _).symm.trans H; with_reducible exact H2_) | with_reducible exact H | (rw [hy193]; exact H) | exact H
                               have Ny193 := am hy193
                               clear hy193
                               have H' := am H
                               clear H
                               have hnb96 := NB181_166.out
                               have hnc96 := NB166_181.out
                               have hnb97 := NB181_167.out
                               have hnc97 := NB167_181.out
                               have hnb98 := NB181_182.out
                               have hnc98 := NB182_181.out
                               have hcz99_0 : wc.cell? ⟨gb181, 0, none⟩ = some (.int .i64 ((rd_T102 ((rd_T100 l0_0 a1).f2) t178).f0)) := bc BK181 0
                               have hcz99_1 : wc.cell? ⟨gb181, 1, none⟩ = some (.int .i64 ((rd_T102 ((rd_T100 l0_0 a1).f2) t178).f1)) := bc BK181 1
                               have hfz99_0 := bf BK181 0
                               have hfz99_1 := bf BK181 1
                               go_wp2_with (first | ((with_reducible refine gate_builtin (b := .append) (xs := #[.tmp 104, .tmp 107]) rfl ?_); at_builtin; refine Kd.R_append (Kd.int .i64) (w0 := w) w.heap.size rfl (.tmp 104) (.tmp 107) 26 2 (.int .i64 0) 8 rfl Try.underlying26 info2 rfl (by decide) (by omega) u15 x15_78 ((rd_T102 ((rd_T100 l0_0 a1).f2) t178).f1) [.int .i64 ((rd_T102 ((rd_T100 l0_0 a1).f2) t178).f1)] (fun k_ => some k_ ≠ (.slice (some ⟨go20, 0, none⟩) x7_2.length co25 : Value).ownBlock) (fun _ => False) rfl rfl ?aP (fun _ hk => hk.elim) ?aF ?aO ?aB ?aS ?aL ?_; (case aP => exact rfl); (case aB => exact (bw HB)); (case aF => exact (fun k_ hk => Kd.fresh' (Kd.R_lt (kR HO_7)) k_ hk)); (case aO => exact (kR HO_15)); (case aS => exact (below_size (bw HB))); (case aL => have := LMc95.out; omega); intro v194 w100 ho hb hg hat; rw [← Ny193.out] at ho; replace HO_7 := am (Kd.R_after (ok := (fun _ => True)) (by (with_reducible repeat (first | apply Kd.R_alloc | apply Kd.R_drewN | apply Kd.R_drew)); exact Kd.R_mono HO_7.out (fun _ hk => ⟨trivial, hk⟩)) hg hat); replace HO_9 := am (Kd.R_over' (kR HO_9) (Kd.R_typed (kR HO_15)) (by decide) hg); replace BK166 := am (blk_grown (g := gb166) (o := .cells #[.slice (some ad168) l0_0.length c0_0] 30 (0, 0)) (bp BK166) hg (Kd.R_ne HO_15.out BK166.out (by decide))); replace BK167 := am (blk_grown (g := gb167) (o := .cells #[.int .i64 x168000_2, .int .i64 x168001_2, .int .i64 x168002_2] 84 (0, 0)) (bp BK167) hg (Kd.R_ne HO_15.out BK167.out (by decide))); replace BK181 := am (blk_grown (g := gb181) (o := .cells #[.int .i64 ((rd_T102 ((rd_T100 l0_0 a1).f2) t178).f0), .int .i64 ((rd_T102 ((rd_T100 l0_0 a1).f2) t178).f1)] 102 (0, 0)) (bp BK181) hg (Kd.R_ne HO_15.out BK181.out (by decide))); replace BK182 := am (blk_grown (g := gb182) (o := .cells #[.int .i64 a1, .int .i64 t178, .int .i64 5] 84 (0, 0)) (bp BK182) hg (Kd.R_ne HO_15.out BK182.out (by decide))); replace HB := am (hb); have HO195 := am (ho); clear HO_15; clear ho hb hg hat))
                               go_meet
                               case rel => exact ⟨_, (y193), H', ⟨by have := HK1.out; have := HK2.out; have := HJ42.out; have := HJ66.out; have := HJ78.out; have := HJ82.out; first | omega | exact Nat.le_refl _⟩, ⟨by (try simp only [hl7_2]); (try simp only [hl9_2]); (try simp only [hl9_42]); (with_reducible repeat (first | apply Kd.R_alloc | apply Kd.R_drewN | apply Kd.R_drew)); exact Kd.R_mono HO_7.out (fun _ hk => hk.2)⟩, ⟨by (try simp only [hl7_2]); (try simp only [hl9_2]); (try simp only [hl9_42]); exact kR HO_9⟩, ⟨by (try simp only [hl7_2]); (try simp only [hl9_2]); (try simp only [hl9_42]); exact kR HO195⟩, ⟨by (try simp only [hl7_2]); (try simp only [hl9_2]); (try simp only [hl9_42]); exact bp BK166⟩, ⟨by (try simp only [hl7_2]); (try simp only [hl9_2]); (try simp only [hl9_42]); exact bp BK167⟩, ⟨by (try simp only [hl7_2]); (try simp only [hl9_2]); (try simp only [hl9_42]); exact bp BK181⟩, ⟨by (try simp only [hl7_2]); (try simp only [hl9_2]); (try simp only [hl9_42]); exact bp BK182⟩, ⟨bw HB⟩⟩
                              ·rw [if_neg c95] at H
                               exact absurd H (by simp)
                             ·replace c94 := Bool.eq_false_iff.mpr c94
                              subst c94
                              have H1 : (spec_l04Heights.j6 kj82 a1 ((rd_T100 l0_0 a1).f2) x7_2 y179 (wrap64 ((wrap64 ((rd x7_2 t178) - t183)) + t185)) x15_78 l0_0 a1 t178 5) = some (r1, r2, r3, r4) := by rw [if_neg (show ¬ (false = true) by decide)] at H; exact H
                              clear H
                              have H := H1
                              clear H1
                              have H' := am H
                              clear H
                              go_wp2
                              go_meet
                              case rel => exact ⟨_, (x15_78), H', ⟨by have := HK1.out; have := HK2.out; have := HJ42.out; have := HJ66.out; have := HJ78.out; have := HJ82.out; first | omega | exact Nat.le_refl _⟩, ⟨by (try simp only [hl7_2]); (try simp only [hl9_2]); (try simp only [hl9_42]); exact kR HO_7⟩, ⟨by (try simp only [hl7_2]); (try simp only [hl9_2]); (try simp only [hl9_42]); exact kR HO_9⟩, ⟨by (try simp only [hl7_2]); (try simp only [hl9_2]); (try simp only [hl9_42]); exact kR HO_15⟩, ⟨by (try simp only [hl7_2]); (try simp only [hl9_2]); (try simp only [hl9_42]); exact bp BK166⟩, ⟨by (try simp only [hl7_2]); (try simp only [hl9_2]); (try simp only [hl9_42]); exact bp BK167⟩, ⟨by (try simp only [hl7_2]); (try simp only [hl9_2]); (try simp only [hl9_42]); exact bp BK181⟩, ⟨by (try simp only [hl7_2]); (try simp only [hl9_2]); (try simp only [hl9_42]); exact bp BK182⟩, ⟨bw HB⟩⟩
                            case rest =>
                             clear HC93
                             (try clear c1); (try clear p1); (try clear q1); (try clear hx1); (try clear c2); (try clear p2); (try clear q2); (try clear hx2); (try clear qi2); (try clear hf2); (try clear c3); (try clear c3b0); (try clear p3); (try clear q3); (try clear hx3); (try clear hf3); (try clear c4); (try clear c4b0); (try clear c5); (try clear c5b0); (try clear c5b1); (try clear c6); (try clear c6b0); (try clear c6b1); (try clear p6); (try clear c7); (try clear c8); (try clear c9); (try clear c11); (try clear c13); (try clear c13b0); (try clear c14); (try clear c14b0); (try clear p15); (try clear q15); (try clear hx15); (try clear hf15); (try clear c16); (try clear p16); (try clear q16); (try clear hx16); (try clear p18); (try clear q18); (try clear hx18); (try clear c19); (try clear c19b0); (try clear c19b1); (try clear p20); (try clear q20); (try clear hx20); (try clear qi20); (try clear hf20); (try clear c21); (try clear c21b0); (try clear c21b1); (try clear c22); (try clear c22b0); (try clear c22b1); (try clear c23); (try clear c23b0); (try clear c23b1); (try clear p24); (try clear q24); (try clear hx24); (try clear qi24); (try clear hf24); (try clear c33); (try clear c33b0); (try clear c34); (try clear c36); (try clear c36b0); (try clear c37); (try clear c37b0); (try clear p38); (try clear q38); (try clear hx38); (try clear hf38); (try clear c39); (try clear c39b0); (try clear c41); (try clear c41b0); (try clear c47); (try clear c48); (try clear c51); (try clear c52); (try clear c53); (try clear c55); (try clear c58); (try clear c61); (try clear c61b0); (try clear c62); (try clear p64); (try clear c70); (try clear c70b0); (try clear c70b1); (try clear c71); (try clear c72); (try clear c73); (try clear c75); (try clear c76); (try clear c77); (try clear c80); (try clear c81); (try clear c84); (try clear c84b0); (try clear c84b1); (try clear c85); (try clear c86); (try clear c87); (try clear c89); (try clear c90); (try clear c91); (try clear c94); (try clear c95); (try clear c96); (try clear c97); (try clear c98); (try clear hcz10_0); (try clear hcz35_0); (try clear hcz35_1); (try clear hcz35_2); (try clear hcz49_0); (try clear hcz49_1); (try clear hcz54_0); (try clear hcz54_1); (try clear hcz54_2); (try clear hcz56_0); (try clear hcz57_0); (try clear hcz57_1); (try clear hcz74_0); (try clear hcz74_1); (try clear hcz78_0); (try clear hcz78_1); (try clear hcz88_0); (try clear hcz88_1); (try clear hcz92_0); (try clear hcz92_1); (try clear hcz99_0); (try clear hcz99_1); (try clear hfz10_0); (try clear hfz35_0); (try clear hfz35_1); (try clear hfz35_2); (try clear hfz49_0); (try clear hfz49_1); (try clear hfz54_0); (try clear hfz54_1); (try clear hfz54_2); (try clear hfz56_0); (try clear hfz57_0); (try clear hfz57_1); (try clear hfz74_0); (try clear hfz74_1); (try clear hfz78_0); (try clear hfz78_1); (try clear hfz88_0); (try clear hfz88_1); (try clear hfz92_0); (try clear hfz92_1); (try clear hfz99_0); (try clear hfz99_1); (try clear hx15_0); (try clear hx168_0); (try clear hx168_1); (try clear hx168_2); (try clear hx180_0); (try clear hx180_1); (try clear hx184_0); (try clear hx186_0); (try clear hx20_0); (try clear hx24_0); (try clear hx38_0); (try clear p1); (try clear p15); (try clear p16); (try clear p168); (try clear p18); (try clear p180); (try clear p184); (try clear p186); (try clear p2); (try clear p20); (try clear p24); (try clear p3); (try clear p38); (try clear p6); (try clear p64); (try clear q1); (try clear q15); (try clear q16); (try clear q168); (try clear q18); (try clear q180); (try clear q184); (try clear q186); (try clear q2); (try clear q20); (try clear q24); (try clear q3); (try clear q38)
                             obtain ⟨kq, x15_92, HA, HJ92, HO_7, HO_9, HO_15, BK166, BK167, BK181, BK182, HB⟩ := hcut
                             cases kq with
                             | zero => exact absurd HA.out (by simp [spec_l04Heights.j6])
                             | succ kj92 =>
                              have H := HA.out
                              clear HA
                              simp only [spec_l04Heights.j6] at H
                              have H' := am H
                              clear H
                              go_wp2
                              go_loopg [16] kj92 (fun kq v16 w' => ∃ (x7_8 : List Int) (x9_8 : List Bool) (x16_8 : Int) (x168000_8 : Int) (x168001_8 : Int) (x168002_8 : Int) (x183002_8 : Int), v16 = .int .i64 x16_8 ∧ Aside0 (spec_l04Heights.l2 kq a1 ((rd_T100 l0_0 a1).f2) x7_8 x9_8 (wrap64 ((wrap64 ((rd x7_2 t178) - t183)) + t185)) x15_92 x16_8 l0_0 a1 t178 x183002_8 = some (r1, r2, r3, r4)) ∧ Aside0 (kq ≤ kj92) ∧ Aside0 (Kd.R (Kd.int .i64) 2 w' w.heap.size (fun k_ => some k_ ≠ (u15 : Value).ownBlock) (.slice (some ⟨go20, 0, none⟩) x7_2.length co25) x7_8) ∧ Aside0 (Kd.R Kd.bool 4 w' w.heap.size (fun _ => True) (.slice (some ⟨go24, 0, none⟩) y179.length co24) x9_8) ∧ Aside0 (Kd.R (Kd.int .i64) 2 w' w.heap.size (fun k_ => some k_ ≠ ((.slice (some ⟨go20, 0, none⟩) x7_2.length co25) : Value).ownBlock) u15 x15_92) ∧ Aside0 (w'.heap[gb166]? = some (.cells #[(.slice (some ad168) l0_0.length c0_0)] 30 (0, 0))) ∧ Aside0 (w'.heap[gb167]? = some (.cells #[.int .i64 x168000_8, .int .i64 x168001_8, .int .i64 x168002_8] 84 (0, 0))) ∧ Aside0 (w'.heap[gb181]? = some (.cells #[.int .i64 ((rd_T102 ((rd_T100 l0_0 a1).f2) t178).f0), .int .i64 ((rd_T102 ((rd_T100 l0_0 a1).f2) t178).f1)] 102 (0, 0))) ∧ Aside0 (w'.heap[gb182]? = some (.cells #[.int .i64 a1, .int .i64 t178, .int .i64 x183002_8] 84 (0, 0))) ∧ Aside0 (Below w.heap.size w w'))
                              case atStart => exact ⟨(x7_2), (y179), (0), (x168000_2), (x168001_2), (x168002_2), (5), dr, H', ⟨Nat.le_refl _⟩, ⟨by (try simp only [hl7_2]); (try simp only [hl9_2]); (try simp only [hl9_42]); exact kR HO_7⟩, ⟨by (try simp only [hl7_2]); (try simp only [hl9_2]); (try simp only [hl9_42]); exact kR HO_9⟩, ⟨by (try simp only [hl7_2]); (try simp only [hl9_2]); (try simp only [hl9_42]); exact kR HO_15⟩, ⟨by (try simp only [hl7_2]); (try simp only [hl9_2]); (try simp only [hl9_42]); exact bp BK166⟩, ⟨by (try simp only [hl7_2]); (try simp only [hl9_2]); (try simp only [hl9_42]); exact bp BK167⟩, ⟨by (try simp only [hl7_2]); (try simp only [hl9_2]); (try simp only [hl9_42]); exact bp BK181⟩, ⟨by (try simp only [hl7_2]); (try simp only [hl9_2]); (try simp only [hl9_42]); exact bp BK182⟩, ⟨bw HB⟩⟩
                              case round =>
                               clear H'
                               (try clear c1); (try clear p1); (try clear q1); (try clear hx1); (try clear c2); (try clear p2); (try clear q2); (try clear hx2); (try clear qi2); (try clear hf2); (try clear c3); (try clear c3b0); (try clear p3); (try clear q3); (try clear hx3); (try clear hf3); (try clear c4); (try clear c4b0); (try clear c5); (try clear c5b0); (try clear c5b1); (try clear c6); (try clear c6b0); (try clear c6b1); (try clear p6); (try clear c7); (try clear c8); (try clear c9); (try clear c11); (try clear c13); (try clear c13b0); (try clear c14); (try clear c14b0); (try clear p15); (try clear q15); (try clear hx15); (try clear hf15); (try clear c16); (try clear p16); (try clear q16); (try clear hx16); (try clear p18); (try clear q18); (try clear hx18); (try clear c19); (try clear c19b0); (try clear c19b1); (try clear p20); (try clear q20); (try clear hx20); (try clear qi20); (try clear hf20); (try clear c21); (try clear c21b0); (try clear c21b1); (try clear c22); (try clear c22b0); (try clear c22b1); (try clear c23); (try clear c23b0); (try clear c23b1); (try clear p24); (try clear q24); (try clear hx24); (try clear qi24); (try clear hf24); (try clear c33); (try clear c33b0); (try clear c34); (try clear c36); (try clear c36b0); (try clear c37); (try clear c37b0); (try clear p38); (try clear q38); (try clear hx38); (try clear hf38); (try clear c39); (try clear c39b0); (try clear c41); (try clear c41b0); (try clear c47); (try clear c48); (try clear c51); (try clear c52); (try clear c53); (try clear c55); (try clear c58); (try clear c61); (try clear c61b0); (try clear c62); (try clear p64); (try clear c70); (try clear c70b0); (try clear c70b1); (try clear c71); (try clear c72); (try clear c73); (try clear c75); (try clear c76); (try clear c77); (try clear c80); (try clear c81); (try clear c84); (try clear c84b0); (try clear c84b1); (try clear c85); (try clear c86); (try clear c87); (try clear c89); (try clear c90); (try clear c91); (try clear c94); (try clear c95); (try clear c96); (try clear c97); (try clear c98); (try clear hcz10_0); (try clear hcz35_0); (try clear hcz35_1); (try clear hcz35_2); (try clear hcz49_0); (try clear hcz49_1); (try clear hcz54_0); (try clear hcz54_1); (try clear hcz54_2); (try clear hcz56_0); (try clear hcz57_0); (try clear hcz57_1); (try clear hcz74_0); (try clear hcz74_1); (try clear hcz78_0); (try clear hcz78_1); (try clear hcz88_0); (try clear hcz88_1); (try clear hcz92_0); (try clear hcz92_1); (try clear hcz99_0); (try clear hcz99_1); (try clear hfz10_0); (try clear hfz35_0); (try clear hfz35_1); (try clear hfz35_2); (try clear hfz49_0); (try clear hfz49_1); (try clear hfz54_0); (try clear hfz54_1); (try clear hfz54_2); (try clear hfz56_0); (try clear hfz57_0); (try clear hfz57_1); (try clear hfz74_0); (try clear hfz74_1); (try clear hfz78_0); (try clear hfz78_1); (try clear hfz88_0); (try clear hfz88_1); (try clear hfz92_0); (try clear hfz92_1); (try clear hfz99_0); (try clear hfz99_1); (try clear hx15_0); (try clear hx168_0); (try clear hx168_1); (try clear hx168_2); (try clear hx180_0); (try clear hx180_1); (try clear hx184_0); (try clear hx186_0); (try clear hx20_0); (try clear hx24_0); (try clear hx38_0); (try clear p1); (try clear p15); (try clear p16); (try clear p168); (try clear p18); (try clear p180); (try clear p184); (try clear p186); (try clear p2); (try clear p20); (try clear p24); (try clear p3); (try clear p38); (try clear p6); (try clear p64); (try clear q1); (try clear q15); (try clear q16); (try clear q168); (try clear q18); (try clear q180); (try clear q184); (try clear q186); (try clear q2); (try clear q20); (try clear q24); (try clear q3); (try clear q38)
                               obtain ⟨x7_8, x9_8, x16_8, x168000_8, x168001_8, x168002_8, x183002_8, rfl, HA, HK8, HO_7, HO_9, HO_15, BK166, BK167, BK181, BK182, HB⟩ := hrel
                               have hl7_8 := (Kd.R_reads' HO_7.out).1
                               rw [hl7_8] at HO_7
                               (try simp only [hl7_8])
                               (try simp only [hl7_8] at BK166)
                               (try simp only [hl7_8] at BK167)
                               (try simp only [hl7_8] at BK181)
                               (try simp only [hl7_8] at BK182)
                               (try simp only [hl7_8] at HO_9)
                               (try simp only [hl7_8] at HO_15)
                               have hl9_8 := (Kd.R_reads' HO_9.out).1
                               rw [hl9_8] at HO_9
                               (try simp only [hl9_8])
                               (try simp only [hl9_8] at BK166)
                               (try simp only [hl9_8] at BK167)
                               (try simp only [hl9_8] at BK181)
                               (try simp only [hl9_8] at BK182)
                               (try simp only [hl9_8] at HO_7)
                               (try simp only [hl9_8] at HO_15)
                               cases gk with
                               | zero => exact absurd HA.out (by simp [spec_l04Heights.l2])
                               | succ k8 =>
                                have H := HA.out
                                clear HA
                                simp only [spec_l04Heights.l2] at H
                                by_cases c101 : x16_8 < (x15_92.length : Int)
                                ·rw [if_pos c101] at H
                                 have c101b0 := decide_eq_true c101
                                 (try (have c101b0hl7_2 := c101b0; rw [hl7_2] at c101b0hl7_2))
                                 (try (have c101b0hl9_2 := c101b0; rw [hl9_2] at c101b0hl9_2))
                                 (try (have c101b0hl9_42 := c101b0; rw [hl9_42] at c101b0hl9_42))
                                 (try (have c101b0hl7_8 := c101b0; rw [hl7_8] at c101b0hl7_8))
                                 (try (have c101b0hl9_8 := c101b0; rw [hl9_8] at c101b0hl9_8))
                                 clear c101
                                 by_cases c102 : 0 ≤ x16_8
                                 ·rw [if_pos c102] at H
                                  have c102b0 := decide_eq_true c102
                                  clear c102
                                  by_cases c103 : (rd x15_92 x16_8) ≥ (((rd_T100 l0_0 a1).f2).length : Int)
                                  ·rw [if_pos c103] at H
                                   have c103b0 : decide ((((rd_T100 l0_0 a1).f2).length : Int) ≤ (rd x15_92 x16_8)) = true := decide_eq_true c103
                                   (try (have c103b0hl7_2 := c103b0; rw [hl7_2] at c103b0hl7_2))
                                   (try (have c103b0hl9_2 := c103b0; rw [hl9_2] at c103b0hl9_2))
                                   (try (have c103b0hl9_42 := c103b0; rw [hl9_42] at c103b0hl9_42))
                                   (try (have c103b0hl7_8 := c103b0; rw [hl7_8] at c103b0hl7_8))
                                   (try (have c103b0hl9_8 := c103b0; rw [hl9_8] at c103b0hl9_8))
                                   clear c103
                                   simp only [Option.some.injEq, Prod.mk.injEq] at H
                                   obtain ⟨rfl, rfl, rfl, rfl⟩ := H
                                   obtain ⟨Ao104, co104, eo104⟩ := Kd.R_slice HO_15.out
                                   subst eo104
                                   have p196 : 0 ≤ (x16_8 : Int) := of_decide_eq_true as1
                                   have q196 : x16_8 < (x15_92.length : Int) := of_decide_eq_true as1
                                   obtain ⟨ad196, e196, hx196_0⟩ := Kd.at_int (Kd.R_reads' HO_15.out).2.2 x16_8 p196 q196
                                   cases e196
                                   replace p196 := eq_true p196
                                   replace q196 := eq_true q196
                                   have hnb105 := NB182_166.out
                                   have hnc105 := NB166_182.out
                                   have hnb106 := NB182_167.out
                                   have hnc106 := NB167_182.out
                                   have hnb107 := NB182_181.out
                                   have hnc107 := NB181_182.out
                                   have hcz108_0 : wr.cell? ⟨gb182, 0, none⟩ = some (.int .i64 a1) := bc BK182 0
                                   have hcz108_1 : wr.cell? ⟨gb182, 1, none⟩ = some (.int .i64 t178) := bc BK182 1
                                   have hcz108_2 : wr.cell? ⟨gb182, 2, none⟩ = some (.int .i64 x183002_8) := bc BK182 2
                                   have hfz108_0 := bf BK182 0
                                   have hfz108_1 := bf BK182 1
                                   have hfz108_2 := bf BK182 2
                                   try go_wp2
                                   have n0_ : Aside0 (Kd.R (Kd.int .i64) 2 (wr.setCell ⟨gb182, 2, none⟩ (.int .i64 6)) w.heap.size (fun k_ => some k_ ≠ (.slice (some ad196) x15_92.length co104 : Value).ownBlock) (.slice (some ⟨go20, 0, none⟩) x7_8.length co25) x7_8) := ⟨by (with_reducible repeat (first | apply Kd.R_alloc | apply Kd.R_drewN | apply Kd.R_drew)); exact Kd.R_mono (Kd.R_far (p := ⟨gb182, 2, none⟩) (Kd.R_types HO_7.out BK182.out (by decide)) (fun _ hk => hk.2) (.int .i64 6)) (fun _ hk => hk.1)⟩
                                   have n1_ : Aside0 (Kd.R Kd.bool 4 (wr.setCell ⟨gb182, 2, none⟩ (.int .i64 6)) w.heap.size (fun _ => True) (.slice (some ⟨go24, 0, none⟩) x9_8.length co24) x9_8) := ⟨by (with_reducible repeat (first | apply Kd.R_alloc | apply Kd.R_drewN | apply Kd.R_drew)); exact Kd.R_mono (Kd.R_far (p := ⟨gb182, 2, none⟩) (Kd.R_types HO_9.out BK182.out (by decide)) (fun _ hk => hk.2) (.int .i64 6)) (fun _ hk => trivial)⟩
                                   have n2_ : Aside0 (Kd.R (Kd.int .i64) 2 (wr.setCell ⟨gb182, 2, none⟩ (.int .i64 6)) w.heap.size (fun k_ => some k_ ≠ (.slice (some ⟨go20, 0, none⟩) x7_8.length co25 : Value).ownBlock) (.slice (some ad196) x15_92.length co104) x15_92) := ⟨by (with_reducible repeat (first | apply Kd.R_alloc | apply Kd.R_drewN | apply Kd.R_drew)); exact Kd.R_mono (Kd.R_far (p := ⟨gb182, 2, none⟩) (Kd.R_types HO_15.out BK182.out (by decide)) (fun _ hk => hk.2) (.int .i64 6)) (fun _ hk => hk.1)⟩
                                   have n3_ : Aside0 ((wr.setCell ⟨gb182, 2, none⟩ (.int .i64 6)).heap[gb166]? = some (.cells #[.slice (some ad168) l0_0.length c0_0] 30 (0, 0))) := ⟨by (with_reducible repeat (first | apply dN | apply dW | apply dA)); refine blk_far ?_ NB166_182.out _; exact bp BK166⟩
                                   have n4_ : Aside0 ((wr.setCell ⟨gb182, 2, none⟩ (.int .i64 6)).heap[gb167]? = some (.cells #[.int .i64 x168000_8, .int .i64 x168001_8, .int .i64 x168002_8] 84 (0, 0))) := ⟨by (with_reducible repeat (first | apply dN | apply dW | apply dA)); refine blk_far ?_ NB167_182.out _; exact bp BK167⟩
                                   have n5_ : Aside0 ((wr.setCell ⟨gb182, 2, none⟩ (.int .i64 6)).heap[gb181]? = some (.cells #[.int .i64 ((rd_T102 ((rd_T100 l0_0 a1).f2) t178).f0), .int .i64 ((rd_T102 ((rd_T100 l0_0 a1).f2) t178).f1)] 102 (0, 0))) := ⟨by (with_reducible repeat (first | apply dN | apply dW | apply dA)); refine blk_far ?_ NB181_182.out _; exact bp BK181⟩
                                   have n6_ : Aside0 ((wr.setCell ⟨gb182, 2, none⟩ (.int .i64 6)).heap[gb182]? = some (.cells #[.int .i64 a1, .int .i64 t178, .int .i64 6] 84 (0, 0))) := ⟨by (with_reducible repeat (first | apply dN | apply dW | apply dA)); refine blk_put (cs := #[.int .i64 a1, .int .i64 t178, .int .i64 x183002_8]) ?_ 2 _ rfl; exact bp BK182⟩
                                   have n7_ : Aside0 (Below w.heap.size w (wr.setCell ⟨gb182, 2, none⟩ (.int .i64 6))) := ⟨bw HB⟩
                                   (try clear HO_7)
                                   (try clear HO_9)
                                   (try clear HO_15)
                                   (try clear BK166)
                                   (try clear BK167)
                                   (try clear BK181)
                                   (try clear BK182)
                                   (try clear HB)
                                   generalize (wr.setCell ⟨gb182, 2, none⟩ (.int .i64 6)) = w109 at n0_ n1_ n2_ n3_ n4_ n5_ n6_ n7_ ⊢
                                   have HO_7 := n0_
                                   have HO_9 := n1_
                                   have HO_15 := n2_
                                   have BK166 := n3_
                                   have BK167 := n4_
                                   have BK181 := n5_
                                   have BK182 := n6_
                                   have HB := n7_
                                   clear n0_ n1_ n2_ n3_ n4_ n5_ n6_ n7_
                                   have n0_ := am (Kd.R_drew HO_7.out)
                                   have n1_ := am (Kd.R_drew HO_9.out)
                                   have n2_ := am (Kd.R_drew HO_15.out)
                                   have n3_ := am (blk_drew BK166.out)
                                   have n4_ := am (blk_drew BK167.out)
                                   have n5_ := am (blk_drew BK181.out)
                                   have n6_ := am (blk_drew BK182.out)
                                   have n7_ := am (below_drew1 HB.out)
                                   clear HO_7
                                   clear HO_9
                                   clear HO_15
                                   clear BK166
                                   clear BK167
                                   clear BK181
                                   clear BK182
                                   clear HB
                                   have HO_7 := n0_
                                   have HO_9 := n1_
                                   have HO_15 := n2_
                                   have BK166 := n3_
                                   have BK167 := n4_
                                   have BK181 := n5_
                                   have BK182 := n6_
                                   have HB := n7_
                                   clear n0_ n1_ n2_ n3_ n4_ n5_ n6_ n7_
                                   refine start_ (n := 4) (S := fun w' => w'.cell? ⟨gb182, 0, none⟩ = some (.int .i64 a1) ∧ w'.cell? ⟨gb182, 1, none⟩ = some (.int .i64 t178) ∧ w'.cell? ⟨gb182, 2, none⟩ = some (.int .i64 6)) (ds := []) #[false, false, false, false] (by kernel_rfl) rfl rfl ⟨bc BK182 0, bc BK182 1, bc BK182 2⟩ (fun hHeld => ?_)
                                   generalize w109.drew = w110 at HO_7 HO_9 HO_15 BK166 BK167 BK181 BK182 HB hHeld ⊢
                                   refine pure_ (i := 0) (N := some 123) (v := ?_) (a' := ?_) #[true, false, false, false] rfl rfl (by kernel_rfl) (fun _ _ _ h => h) (Or.inl ⟨by rfl, ?_⟩) ?_ ?_
                                   rotate_left
                                   ·intro w'
                                    go_simp
                                    with_reducible rfl
                                   rotate_left
                                   ·simp only [Act.put, sa, sz, ss, i64_w, i32_w]
                                    rfl
                                   refine pure_ (i := 2) (N := some 4) (v := ?_) (a' := ?_) #[true, false, true, false] rfl rfl (by kernel_rfl) (fun _ _ _ h => h) (Or.inl ⟨by rfl, ?_⟩) ?_ ?_
                                   rotate_left
                                   ·intro w'
                                    go_simp
                                    with_reducible rfl
                                   rotate_left
                                   ·simp only [Act.put, sa, sz, ss, i64_w, i32_w]
                                    rfl
                                   refine take_ (i := 1) (N := some 124) (v := ?_) (a' := ?_) #[true, true, true, false] rfl rfl (by kernel_rfl) (fun _ _ _ h => h) (Or.inl ⟨by rfl, ?_⟩) hHeld ?_ ?_
                                   rotate_left
                                   ·rintro w' ⟨s0, s1, s2⟩
                                    go_simp
                                    with_reducible rfl
                                   rotate_left
                                   ·simp only [Act.put, sa, sz, ss, i64_w, i32_w]
                                    rfl
                                   refine one_ (i := 3) (N := none) #[true, true, true, true] rfl rfl (by kernel_rfl) (by decide) (fun K hK => ?_)
                                   have hs111 : w110.cell? ⟨gb167, 0, none⟩ = some (.int .i64 x168000_8) := bc BK167 0
                                   have hfs111 := bf BK167 0
                                   have hns111_0 := NB166_167.out
                                   have hns111_2 := NB181_167.out
                                   have hns111_3 := NB182_167.out
                                   have hms111_0 := NB167_166.out
                                   have hms111_2 := NB167_181.out
                                   have hms111_3 := NB167_182.out
                                   have hs112 : w110.cell? ⟨gb167, 1, none⟩ = some (.int .i64 x168001_8) := bc BK167 1
                                   have hfs112 := bf BK167 1
                                   have hns112_0 := NB166_167.out
                                   have hns112_2 := NB181_167.out
                                   have hns112_3 := NB182_167.out
                                   have hms112_0 := NB167_166.out
                                   have hms112_2 := NB167_181.out
                                   have hms112_3 := NB167_182.out
                                   have hs113 : w110.cell? ⟨gb167, 2, none⟩ = some (.int .i64 x168002_8) := bc BK167 2
                                   have hfs113 := bf BK167 2
                                   have hns113_0 := NB166_167.out
                                   have hns113_2 := NB181_167.out
                                   have hns113_3 := NB182_167.out
                                   have hms113_0 := NB167_166.out
                                   have hms113_2 := NB167_181.out
                                   have hms113_3 := NB167_182.out
                                   refine skip_ (w1 := ?_) (by rfl) rfl ?_ ?_
                                   rotate_left
                                   ·go_simp
                                    rfl
                                   refine hK.out _ _ ⟨((cell_far (p := ⟨gb167, _, none⟩) NB182_167.out _).trans (((cell_far (p := ⟨gb167, _, none⟩) NB182_167.out _).trans (((cell_far (p := ⟨gb167, _, none⟩) NB182_167.out _).trans (hHeld.1)))))), ((cell_far (p := ⟨gb167, _, none⟩) NB182_167.out _).trans (((cell_far (p := ⟨gb167, _, none⟩) NB182_167.out _).trans (((cell_far (p := ⟨gb167, _, none⟩) NB182_167.out _).trans (hHeld.2.1)))))), ((cell_far (p := ⟨gb167, _, none⟩) NB182_167.out _).trans (((cell_far (p := ⟨gb167, _, none⟩) NB182_167.out _).trans (((cell_far (p := ⟨gb167, _, none⟩) NB182_167.out _).trans (hHeld.2.2))))))⟩ (fun hHeld => ?_)
                                   clear hK K
                                   refine done_ (by kernel_rfl) ?_
                                   try go_wp2
                                   refine bodyPost_ret (results_tc rfl _ _ gb167 84 #[.int .i64 a1, .int .i64 t178, .int .i64 6] (0, 0) _ rfl (by (with_reducible repeat (first | apply dN | apply dW | apply dA)); refine blk_put (cs := #[.int .i64 a1, .int .i64 t178, .int .i64 x168002_8]) ?_ 2 _ rfl; (with_reducible repeat (first | apply dN | apply dW | apply dA)); refine blk_put (cs := #[.int .i64 a1, .int .i64 x168001_8, .int .i64 x168002_8]) ?_ 1 _ rfl; (with_reducible repeat (first | apply dN | apply dW | apply dA)); refine blk_put (cs := #[.int .i64 x168000_8, .int .i64 x168001_8, .int .i64 x168002_8]) ?_ 0 _ rfl; exact bp BK167) Try.underlying84 rfl (by kernel_rfl)) rfl ?_
                                   exact ⟨_, er, by (with_reducible repeat (first | apply Kd.R_alloc | apply Kd.R_drewN | apply Kd.R_drew)); exact Kd.R_mono (Kd.R_far (p := ⟨gb167, 2, none⟩) (Kd.R_far (p := ⟨gb167, 1, none⟩) (Kd.R_far (p := ⟨gb167, 0, none⟩) (Kd.R_types HO_7.out BK167.out (by decide)) (fun _ hk => hk.2) (.int .i64 a1)) (fun _ hk => hk.2) (.int .i64 t178)) (fun _ hk => hk.2) (.int .i64 6)) (fun _ hk => trivial), bw HB⟩
                                  ·rw [if_neg c103] at H
                                   have c103b0 : decide ((((rd_T100 l0_0 a1).f2).length : Int) ≤ (rd x15_92 x16_8)) = false := decide_eq_false c103
                                   (try (have c103b0hl7_2 := c103b0; rw [hl7_2] at c103b0hl7_2))
                                   (try (have c103b0hl9_2 := c103b0; rw [hl9_2] at c103b0hl9_2))
                                   (try (have c103b0hl9_42 := c103b0; rw [hl9_42] at c103b0hl9_42))
                                   (try (have c103b0hl7_8 := c103b0; rw [hl7_8] at c103b0hl7_8))
                                   (try (have c103b0hl9_8 := c103b0; rw [hl9_8] at c103b0hl9_8))
                                   clear c103
                                   have HC114 := am H
                                   clear H
                                   obtain ⟨Ao115, co115, eo115⟩ := Kd.R_slice HO_15.out
                                   subst eo115
                                   have p196 : 0 ≤ (x16_8 : Int) := of_decide_eq_true as1
                                   have q196 : x16_8 < (x15_92.length : Int) := of_decide_eq_true as1
                                   obtain ⟨ad196, e196, hx196_0⟩ := Kd.at_int (Kd.R_reads' HO_15.out).2.2 x16_8 p196 q196
                                   cases e196
                                   replace p196 := eq_true p196
                                   replace q196 := eq_true q196
                                   go_upto_region 31 with (fail)
                                   go_cut [143] (fun v143 wc => ∃ (kq : Nat) (x143_113 : Bool), v143 = .bool x143_113 ∧ Aside0 (spec_l04Heights.j8 kq a1 ((rd_T100 l0_0 a1).f2) x7_8 x9_8 (wrap64 ((wrap64 ((rd x7_2 t178) - t183)) + t185)) x15_92 x16_8 x143_113 l0_0 a1 t178 x183002_8 = some (r1, r2, r3, r4)) ∧ Aside0 (kq ≤ k8) ∧ Aside0 (Kd.R (Kd.int .i64) 2 wc w.heap.size (fun k_ => some k_ ≠ ((.slice (some ad196) x15_92.length co115) : Value).ownBlock) (.slice (some ⟨go20, 0, none⟩) x7_8.length co25) x7_8) ∧ Aside0 (Kd.R Kd.bool 4 wc w.heap.size (fun _ => True) (.slice (some ⟨go24, 0, none⟩) x9_8.length co24) x9_8) ∧ Aside0 (Kd.R (Kd.int .i64) 2 wc w.heap.size (fun k_ => some k_ ≠ ((.slice (some ⟨go20, 0, none⟩) x7_8.length co25) : Value).ownBlock) (.slice (some ad196) x15_92.length co115) x15_92) ∧ Aside0 (wc.heap[gb166]? = some (.cells #[(.slice (some ad168) l0_0.length c0_0)] 30 (0, 0))) ∧ Aside0 (wc.heap[gb167]? = some (.cells #[.int .i64 x168000_8, .int .i64 x168001_8, .int .i64 x168002_8] 84 (0, 0))) ∧ Aside0 (wc.heap[gb181]? = some (.cells #[.int .i64 ((rd_T102 ((rd_T100 l0_0 a1).f2) t178).f0), .int .i64 ((rd_T102 ((rd_T100 l0_0 a1).f2) t178).f1)] 102 (0, 0))) ∧ Aside0 (wc.heap[gb182]? = some (.cells #[.int .i64 a1, .int .i64 t178, .int .i64 x183002_8] 84 (0, 0))) ∧ Aside0 (Below w.heap.size w wc))
                                   case first =>
                                    have H := HC114.out
                                    clear HC114
                                    by_cases c116 : 0 ≤ (rd x15_92 x16_8)
                                    ·rw [if_pos c116] at H
                                     have c116b0 := decide_eq_true c116
                                     clear c116
                                     (first | rw [c116b0] | (simp only [i64_w, i32_w]; rw [c116b0]) | skip)
                                     by_cases c117 : (rd x15_92 x16_8) < (x7_8.length : Int)
                                     ·rw [if_pos c117] at H
                                      have c117b0 := decide_eq_true c117
                                      (try (have c117b0hl7_2 := c117b0; rw [hl7_2] at c117b0hl7_2))
                                      (try (have c117b0hl9_2 := c117b0; rw [hl9_2] at c117b0hl9_2))
                                      (try (have c117b0hl9_42 := c117b0; rw [hl9_42] at c117b0hl9_42))
                                      (try (have c117b0hl7_8 := c117b0; rw [hl7_8] at c117b0hl7_8))
                                      (try (have c117b0hl9_8 := c117b0; rw [hl9_8] at c117b0hl9_8))
                                      clear c117
                                      by_cases c118 : (rd x7_8 (rd x15_92 x16_8)) ≥ 0
                                      ·rw [if_pos c118] at H
                                       have c118b0 : decide (0 ≤ (rd x7_8 (rd x15_92 x16_8))) = true := decide_eq_true c118
                                       clear c118
                                       have H' := am H
                                       clear H
                                       have p197 : 0 ≤ (x16_8 : Int) := of_decide_eq_true as1
                                       have q197 : x16_8 < (x15_92.length : Int) := of_decide_eq_true as1
                                       obtain ⟨ad197, e197, hx197_0⟩ := Kd.at_int (Kd.R_reads' HO_15.out).2.2 x16_8 p197 q197
                                       obtain rfl : ad196 = ad197 := (by injection e197)
                                       replace p197 := eq_true p197
                                       replace q197 := eq_true q197
                                       have p198 : 0 ≤ ((rd x15_92 x16_8) : Int) := of_decide_eq_true as1
                                       have q198 : (rd x15_92 x16_8) < (x7_8.length : Int) := of_decide_eq_true as1
                                       obtain ⟨ad198, e198, hx198_0⟩ := Kd.at_int (Kd.R_reads' HO_7.out).2.2 (rd x15_92 x16_8) p198 q198
                                       obtain rfl : (⟨go20, 0, none⟩ : Addr) = ad198 := (by injection e198)
                                       (first | simp only [add_plain] at hx198_0 | simp only [add_at] at hx198_0 | simp only [Addr.add, Nat.zero_add] at hx198_0 | skip)
                                       replace p198 := eq_true p198
                                       replace q198 := eq_true q198
                                       have p199 : 0 ≤ (x16_8 : Int) := of_decide_eq_true as1
                                       have q199 : x16_8 < (x15_92.length : Int) := of_decide_eq_true as1
                                       obtain ⟨ad199, e199, hx199_0⟩ := Kd.at_int (Kd.R_reads' HO_15.out).2.2 x16_8 p199 q199
                                       obtain rfl : ad196 = ad199 := (by injection e199)
                                       replace p199 := eq_true p199
                                       replace q199 := eq_true q199
                                       have p200 : 0 ≤ ((rd x15_92 x16_8) : Int) := of_decide_eq_true as1
                                       have q200 : (rd x15_92 x16_8) < (x7_8.length : Int) := of_decide_eq_true as1
                                       obtain ⟨ad200, e200, hx200_0⟩ := Kd.at_int (Kd.R_reads' HO_7.out).2.2 (rd x15_92 x16_8) p200 q200
                                       obtain rfl : (⟨go20, 0, none⟩ : Addr) = ad200 := (by injection e200)
                                       (first | simp only [add_plain] at hx200_0 | simp only [add_at] at hx200_0 | simp only [Addr.add, Nat.zero_add] at hx200_0 | skip)
                                       replace p200 := eq_true p200
                                       replace q200 := eq_true q200
                                       go_wp2
                                       go_meet
                                       case rel => exact ⟨_, (((rd x7_8 (rd x15_92 x16_8)) != (wrap64 ((wrap64 ((rd x7_2 t178) - t183)) + t185)))), dr, H', ⟨by have := HK1.out; have := HK2.out; have := HJ42.out; have := HJ66.out; have := HJ78.out; have := HJ82.out; have := HJ92.out; have := HK8.out; first | omega | exact Nat.le_refl _⟩, ⟨by (try simp only [hl7_2]); (try simp only [hl9_2]); (try simp only [hl9_42]); (try simp only [hl7_8]); (try simp only [hl9_8]); exact kR HO_7⟩, ⟨by (try simp only [hl7_2]); (try simp only [hl9_2]); (try simp only [hl9_42]); (try simp only [hl7_8]); (try simp only [hl9_8]); exact kR HO_9⟩, ⟨by (try simp only [hl7_2]); (try simp only [hl9_2]); (try simp only [hl9_42]); (try simp only [hl7_8]); (try simp only [hl9_8]); exact kR HO_15⟩, ⟨by (try simp only [hl7_2]); (try simp only [hl9_2]); (try simp only [hl9_42]); (try simp only [hl7_8]); (try simp only [hl9_8]); exact bp BK166⟩, ⟨by (try simp only [hl7_2]); (try simp only [hl9_2]); (try simp only [hl9_42]); (try simp only [hl7_8]); (try simp only [hl9_8]); exact bp BK167⟩, ⟨by (try simp only [hl7_2]); (try simp only [hl9_2]); (try simp only [hl9_42]); (try simp only [hl7_8]); (try simp only [hl9_8]); exact bp BK181⟩, ⟨by (try simp only [hl7_2]); (try simp only [hl9_2]); (try simp only [hl9_42]); (try simp only [hl7_8]); (try simp only [hl9_8]); exact bp BK182⟩, ⟨bw HB⟩⟩
                                      ·rw [if_neg c118] at H
                                       have c118b0 : decide (0 ≤ (rd x7_8 (rd x15_92 x16_8))) = false := decide_eq_false c118
                                       clear c118
                                       have H' := am H
                                       clear H
                                       have p197 : 0 ≤ (x16_8 : Int) := of_decide_eq_true as1
                                       have q197 : x16_8 < (x15_92.length : Int) := of_decide_eq_true as1
                                       obtain ⟨ad197, e197, hx197_0⟩ := Kd.at_int (Kd.R_reads' HO_15.out).2.2 x16_8 p197 q197
                                       obtain rfl : ad196 = ad197 := (by injection e197)
                                       replace p197 := eq_true p197
                                       replace q197 := eq_true q197
                                       have p198 : 0 ≤ ((rd x15_92 x16_8) : Int) := of_decide_eq_true as1
                                       have q198 : (rd x15_92 x16_8) < (x7_8.length : Int) := of_decide_eq_true as1
                                       obtain ⟨ad198, e198, hx198_0⟩ := Kd.at_int (Kd.R_reads' HO_7.out).2.2 (rd x15_92 x16_8) p198 q198
                                       obtain rfl : (⟨go20, 0, none⟩ : Addr) = ad198 := (by injection e198)
                                       (first | simp only [add_plain] at hx198_0 | simp only [add_at] at hx198_0 | simp only [Addr.add, Nat.zero_add] at hx198_0 | skip)
                                       replace p198 := eq_true p198
                                       replace q198 := eq_true q198
                                       go_wp2
                                       go_meet
                                       case rel => exact ⟨_, (false), dr, H', ⟨by have := HK1.out; have := HK2.out; have := HJ42.out; have := HJ66.out; have := HJ78.out; have := HJ82.out; have := HJ92.out; have := HK8.out; first | omega | exact Nat.le_refl _⟩, ⟨by (try simp only [hl7_2]); (try simp only [hl9_2]); (try simp only [hl9_42]); (try simp only [hl7_8]); (try simp only [hl9_8]); exact kR HO_7⟩, ⟨by (try simp only [hl7_2]); (try simp only [hl9_2]); (try simp only [hl9_42]); (try simp only [hl7_8]); (try simp only [hl9_8]); exact kR HO_9⟩, ⟨by (try simp only [hl7_2]); (try simp only [hl9_2]); (try simp only [hl9_42]); (try simp only [hl7_8]); (try simp only [hl9_8]); exact kR HO_15⟩, ⟨by (try simp only [hl7_2]); (try simp only [hl9_2]); (try simp only [hl9_42]); (try simp only [hl7_8]); (try simp only [hl9_8]); exact bp BK166⟩, ⟨by (try simp only [hl7_2]); (try simp only [hl9_2]); (try simp only [hl9_42]); (try simp only [hl7_8]); (try simp only [hl9_8]); exact bp BK167⟩, ⟨by (try simp only [hl7_2]); (try simp only [hl9_2]); (try simp only [hl9_42]); (try simp only [hl7_8]); (try simp only [hl9_8]); exact bp BK181⟩, ⟨by (try simp only [hl7_2]); (try simp only [hl9_2]); (try simp only [hl9_42]); (try simp only [hl7_8]); (try simp only [hl9_8]); exact bp BK182⟩, ⟨bw HB⟩⟩
                                     ·rw [if_neg c117] at H
                                      exact absurd H (by simp)
                                    ·rw [if_neg c116] at H
                                     exact absurd H (by simp)
                                   case rest =>
                                    clear HC114
                                    (try clear c1); (try clear p1); (try clear q1); (try clear hx1); (try clear c2); (try clear p2); (try clear q2); (try clear hx2); (try clear qi2); (try clear hf2); (try clear c3); (try clear c3b0); (try clear p3); (try clear q3); (try clear hx3); (try clear hf3); (try clear c4); (try clear c4b0); (try clear c5); (try clear c5b0); (try clear c5b1); (try clear c6); (try clear c6b0); (try clear c6b1); (try clear p6); (try clear c7); (try clear c8); (try clear c9); (try clear c10); (try clear c11); (try clear c13); (try clear c13b0); (try clear c14); (try clear c14b0); (try clear p15); (try clear q15); (try clear hx15); (try clear hf15); (try clear c16); (try clear p16); (try clear q16); (try clear hx16); (try clear p18); (try clear q18); (try clear hx18); (try clear c19); (try clear c19b0); (try clear c19b1); (try clear p19); (try clear q19); (try clear hx19); (try clear p20); (try clear q20); (try clear hx20); (try clear qi20); (try clear hf20); (try clear c21); (try clear c21b0); (try clear c21b1); (try clear c22); (try clear c22b0); (try clear c22b1); (try clear c23); (try clear c23b0); (try clear c23b1); (try clear p24); (try clear q24); (try clear hx24); (try clear qi24); (try clear hf24); (try clear c33); (try clear c33b0); (try clear c34); (try clear c36); (try clear c36b0); (try clear c37); (try clear c37b0); (try clear p38); (try clear q38); (try clear hx38); (try clear hf38); (try clear c39); (try clear c39b0); (try clear c41); (try clear c41b0); (try clear c47); (try clear c48); (try clear c51); (try clear c52); (try clear c53); (try clear c55); (try clear c58); (try clear c61); (try clear c61b0); (try clear c62); (try clear p64); (try clear c70); (try clear c70b0); (try clear c70b1); (try clear c71); (try clear c72); (try clear c73); (try clear c75); (try clear c76); (try clear c77); (try clear c80); (try clear c81); (try clear c84); (try clear c84b0); (try clear c84b1); (try clear c85); (try clear c86); (try clear c87); (try clear c89); (try clear c90); (try clear c91); (try clear c94); (try clear c95); (try clear c96); (try clear c97); (try clear c98); (try clear c101); (try clear c101b0); (try clear c102); (try clear c102b0); (try clear c103); (try clear c103b0); (try clear c105); (try clear c106); (try clear c107); (try clear c116); (try clear c116b0); (try clear c117); (try clear c117b0); (try clear c118); (try clear c118b0); (try clear hcz108_0); (try clear hcz108_1); (try clear hcz108_2); (try clear hcz10_0); (try clear hcz35_0); (try clear hcz35_1); (try clear hcz35_2); (try clear hcz49_0); (try clear hcz49_1); (try clear hcz54_0); (try clear hcz54_1); (try clear hcz54_2); (try clear hcz56_0); (try clear hcz57_0); (try clear hcz57_1); (try clear hcz74_0); (try clear hcz74_1); (try clear hcz78_0); (try clear hcz78_1); (try clear hcz88_0); (try clear hcz88_1); (try clear hcz92_0); (try clear hcz92_1); (try clear hcz99_0); (try clear hcz99_1); (try clear hfz108_0); (try clear hfz108_1); (try clear hfz108_2); (try clear hfz10_0); (try clear hfz35_0); (try clear hfz35_1); (try clear hfz35_2); (try clear hfz49_0); (try clear hfz49_1); (try clear hfz54_0); (try clear hfz54_1); (try clear hfz54_2); (try clear hfz56_0); (try clear hfz57_0); (try clear hfz57_1); (try clear hfz74_0); (try clear hfz74_1); (try clear hfz78_0); (try clear hfz78_1); (try clear hfz88_0); (try clear hfz88_1); (try clear hfz92_0); (try clear hfz92_1); (try clear hfz99_0); (try clear hfz99_1); (try clear hx15_0); (try clear hx168_0); (try clear hx168_1); (try clear hx168_2); (try clear hx180_0); (try clear hx180_1); (try clear hx184_0); (try clear hx186_0); (try clear hx196_0); (try clear hx197_0); (try clear hx198_0); (try clear hx199_0); (try clear hx200_0); (try clear hx20_0); (try clear hx24_0); (try clear hx38_0); (try clear p1); (try clear p15); (try clear p16); (try clear p168); (try clear p18); (try clear p180); (try clear p184); (try clear p186); (try clear p196); (try clear p197); (try clear p198); (try clear p199); (try clear p2); (try clear p20); (try clear p200); (try clear p24); (try clear p3); (try clear p38); (try clear p6); (try clear p64); (try clear q1); (try clear q15); (try clear q16); (try clear q168); (try clear q18); (try clear q180); (try clear q184); (try clear q186); (try clear q196); (try clear q197); (try clear q198); (try clear q199); (try clear q2); (try clear q20); (try clear q200); (try clear q24); (try clear q3); (try clear q38)
                                    obtain ⟨kq, x143_113, rfl, HA, HJ113, HO_7, HO_9, HO_15, BK166, BK167, BK181, BK182, HB⟩ := hcut
                                    cases kq with
                                    | zero => exact absurd HA.out (by simp [spec_l04Heights.j8])
                                    | succ kj113 =>
                                     have H := HA.out
                                     clear HA
                                     simp only [spec_l04Heights.j8] at H
                                     by_cases c119 : x143_113 = true
                                     ·subst c119
                                      have H1 : (some (x7_8, a1, t178, x183002_8)) = some (r1, r2, r3, r4) := by rw [if_pos rfl] at H; exact H
                                      clear H
                                      have H := H1
                                      clear H1
                                      simp only [Option.some.injEq, Prod.mk.injEq] at H
                                      obtain ⟨rfl, rfl, rfl, rfl⟩ := H
                                      try go_wp2
                                      have n0_ := am (Kd.R_drew HO_7.out)
                                      have n1_ := am (Kd.R_drew HO_9.out)
                                      have n2_ := am (Kd.R_drew HO_15.out)
                                      have n3_ := am (blk_drew BK166.out)
                                      have n4_ := am (blk_drew BK167.out)
                                      have n5_ := am (blk_drew BK181.out)
                                      have n6_ := am (blk_drew BK182.out)
                                      have n7_ := am (below_drew1 HB.out)
                                      clear HO_7
                                      clear HO_9
                                      clear HO_15
                                      clear BK166
                                      clear BK167
                                      clear BK181
                                      clear BK182
                                      clear HB
                                      have HO_7 := n0_
                                      have HO_9 := n1_
                                      have HO_15 := n2_
                                      have BK166 := n3_
                                      have BK167 := n4_
                                      have BK181 := n5_
                                      have BK182 := n6_
                                      have HB := n7_
                                      clear n0_ n1_ n2_ n3_ n4_ n5_ n6_ n7_
                                      refine start_ (n := 4) (S := fun w' => w'.cell? ⟨gb182, 0, none⟩ = some (.int .i64 a1) ∧ w'.cell? ⟨gb182, 1, none⟩ = some (.int .i64 t178) ∧ w'.cell? ⟨gb182, 2, none⟩ = some (.int .i64 x183002_8)) (ds := []) #[false, false, false, false] (by kernel_rfl) rfl rfl ⟨bc BK182 0, bc BK182 1, bc BK182 2⟩ (fun hHeld => ?_)
                                      generalize wc.drew = w120 at HO_7 HO_9 HO_15 BK166 BK167 BK181 BK182 HB hHeld ⊢
                                      refine pure_ (i := 0) (N := some 144) (v := ?_) (a' := ?_) #[true, false, false, false] rfl rfl (by kernel_rfl) (fun _ _ _ h => h) (Or.inl ⟨by rfl, ?_⟩) ?_ ?_
                                      rotate_left
                                      ·intro w'
                                       go_simp
                                       with_reducible rfl
                                      rotate_left
                                      ·simp only [Act.put, sa, sz, ss, i64_w, i32_w]
                                       rfl
                                      refine pure_ (i := 2) (N := some 4) (v := ?_) (a' := ?_) #[true, false, true, false] rfl rfl (by kernel_rfl) (fun _ _ _ h => h) (Or.inl ⟨by rfl, ?_⟩) ?_ ?_
                                      rotate_left
                                      ·intro w'
                                       go_simp
                                       with_reducible rfl
                                      rotate_left
                                      ·simp only [Act.put, sa, sz, ss, i64_w, i32_w]
                                       rfl
                                      refine take_ (i := 1) (N := some 145) (v := ?_) (a' := ?_) #[true, true, true, false] rfl rfl (by kernel_rfl) (fun _ _ _ h => h) (Or.inl ⟨by rfl, ?_⟩) hHeld ?_ ?_
                                      rotate_left
                                      ·rintro w' ⟨s0, s1, s2⟩
                                       go_simp
                                       with_reducible rfl
                                      rotate_left
                                      ·simp only [Act.put, sa, sz, ss, i64_w, i32_w]
                                       rfl
                                      refine one_ (i := 3) (N := none) #[true, true, true, true] rfl rfl (by kernel_rfl) (by decide) (fun K hK => ?_)
                                      have hs121 : w120.cell? ⟨gb167, 0, none⟩ = some (.int .i64 x168000_8) := bc BK167 0
                                      have hfs121 := bf BK167 0
                                      have hns121_0 := NB166_167.out
                                      have hns121_2 := NB181_167.out
                                      have hns121_3 := NB182_167.out
                                      have hms121_0 := NB167_166.out
                                      have hms121_2 := NB167_181.out
                                      have hms121_3 := NB167_182.out
                                      have hs122 : w120.cell? ⟨gb167, 1, none⟩ = some (.int .i64 x168001_8) := bc BK167 1
                                      have hfs122 := bf BK167 1
                                      have hns122_0 := NB166_167.out
                                      have hns122_2 := NB181_167.out
                                      have hns122_3 := NB182_167.out
                                      have hms122_0 := NB167_166.out
                                      have hms122_2 := NB167_181.out
                                      have hms122_3 := NB167_182.out
                                      have hs123 : w120.cell? ⟨gb167, 2, none⟩ = some (.int .i64 x168002_8) := bc BK167 2
                                      have hfs123 := bf BK167 2
                                      have hns123_0 := NB166_167.out
                                      have hns123_2 := NB181_167.out
                                      have hns123_3 := NB182_167.out
                                      have hms123_0 := NB167_166.out
                                      have hms123_2 := NB167_181.out
                                      have hms123_3 := NB167_182.out
                                      refine skip_ (w1 := ?_) (by rfl) rfl ?_ ?_
                                      rotate_left
                                      ·go_simp
                                       rfl
                                      refine hK.out _ _ ⟨((cell_far (p := ⟨gb167, _, none⟩) NB182_167.out _).trans (((cell_far (p := ⟨gb167, _, none⟩) NB182_167.out _).trans (((cell_far (p := ⟨gb167, _, none⟩) NB182_167.out _).trans (hHeld.1)))))), ((cell_far (p := ⟨gb167, _, none⟩) NB182_167.out _).trans (((cell_far (p := ⟨gb167, _, none⟩) NB182_167.out _).trans (((cell_far (p := ⟨gb167, _, none⟩) NB182_167.out _).trans (hHeld.2.1)))))), ((cell_far (p := ⟨gb167, _, none⟩) NB182_167.out _).trans (((cell_far (p := ⟨gb167, _, none⟩) NB182_167.out _).trans (((cell_far (p := ⟨gb167, _, none⟩) NB182_167.out _).trans (hHeld.2.2))))))⟩ (fun hHeld => ?_)
                                      clear hK K
                                      refine done_ (by kernel_rfl) ?_
                                      try go_wp2
                                      refine bodyPost_ret (results_tc rfl _ _ gb167 84 #[.int .i64 a1, .int .i64 t178, .int .i64 x183002_8] (0, 0) _ rfl (by (with_reducible repeat (first | apply dN | apply dW | apply dA)); refine blk_put (cs := #[.int .i64 a1, .int .i64 t178, .int .i64 x168002_8]) ?_ 2 _ rfl; (with_reducible repeat (first | apply dN | apply dW | apply dA)); refine blk_put (cs := #[.int .i64 a1, .int .i64 x168001_8, .int .i64 x168002_8]) ?_ 1 _ rfl; (with_reducible repeat (first | apply dN | apply dW | apply dA)); refine blk_put (cs := #[.int .i64 x168000_8, .int .i64 x168001_8, .int .i64 x168002_8]) ?_ 0 _ rfl; exact bp BK167) Try.underlying84 rfl (by kernel_rfl)) rfl ?_
                                      exact ⟨_, er, by (with_reducible repeat (first | apply Kd.R_alloc | apply Kd.R_drewN | apply Kd.R_drew)); exact Kd.R_mono (Kd.R_far (p := ⟨gb167, 2, none⟩) (Kd.R_far (p := ⟨gb167, 1, none⟩) (Kd.R_far (p := ⟨gb167, 0, none⟩) (Kd.R_types HO_7.out BK167.out (by decide)) (fun _ hk => hk.2) (.int .i64 a1)) (fun _ hk => hk.2) (.int .i64 t178)) (fun _ hk => hk.2) (.int .i64 x183002_8)) (fun _ hk => trivial), bw HB⟩
                                     ·replace c119 := Bool.eq_false_iff.mpr c119
                                      subst c119
                                      have H1 : (if 0 ≤ x16_8 then (if x16_8 < (x15_92.length : Int) then (if 0 ≤ (rd x15_92 x16_8) then (if (rd x15_92 x16_8) < (x7_8.length : Int) then (if (rd x7_8 (rd x15_92 x16_8)) < 0 then (if (rd x15_92 x16_8) < (x9_8.length : Int) then (spec_l04Heights.l2 kj113 a1 ((rd_T100 l0_0 a1).f2) (x7_8.set ((rd x15_92 x16_8) : Int).toNat (wrap64 ((wrap64 ((rd x7_2 t178) - t183)) + t185))) (x9_8.set ((rd x15_92 x16_8) : Int).toNat true) (wrap64 ((wrap64 ((rd x7_2 t178) - t183)) + t185)) x15_92 (wrap64 (x16_8 + 1)) l0_0 a1 t178 x183002_8) else (none)) else (spec_l04Heights.l2 kj113 a1 ((rd_T100 l0_0 a1).f2) x7_8 x9_8 (wrap64 ((wrap64 ((rd x7_2 t178) - t183)) + t185)) x15_92 (wrap64 (x16_8 + 1)) l0_0 a1 t178 x183002_8)) else (none)) else (none)) else (none)) else (none)) = some (r1, r2, r3, r4) := by rw [if_neg (show ¬ (false = true) by decide)] at H; exact H
                                      clear H
                                      have H := H1
                                      clear H1
                                      by_cases c124 : 0 ≤ x16_8
                                      ·rw [if_pos c124] at H
                                       have c124b0 := decide_eq_true c124
                                       clear c124
                                       by_cases c125 : x16_8 < (x15_92.length : Int)
                                       ·rw [if_pos c125] at H
                                        have c125b0 := decide_eq_true c125
                                        (try (have c125b0hl7_2 := c125b0; rw [hl7_2] at c125b0hl7_2))
                                        (try (have c125b0hl9_2 := c125b0; rw [hl9_2] at c125b0hl9_2))
                                        (try (have c125b0hl9_42 := c125b0; rw [hl9_42] at c125b0hl9_42))
                                        (try (have c125b0hl7_8 := c125b0; rw [hl7_8] at c125b0hl7_8))
                                        (try (have c125b0hl9_8 := c125b0; rw [hl9_8] at c125b0hl9_8))
                                        clear c125
                                        by_cases c126 : 0 ≤ (rd x15_92 x16_8)
                                        ·rw [if_pos c126] at H
                                         have c126b0 := decide_eq_true c126
                                         clear c126
                                         by_cases c127 : (rd x15_92 x16_8) < (x7_8.length : Int)
                                         ·rw [if_pos c127] at H
                                          have c127b0 := decide_eq_true c127
                                          (try (have c127b0hl7_2 := c127b0; rw [hl7_2] at c127b0hl7_2))
                                          (try (have c127b0hl9_2 := c127b0; rw [hl9_2] at c127b0hl9_2))
                                          (try (have c127b0hl9_42 := c127b0; rw [hl9_42] at c127b0hl9_42))
                                          (try (have c127b0hl7_8 := c127b0; rw [hl7_8] at c127b0hl7_8))
                                          (try (have c127b0hl9_8 := c127b0; rw [hl9_8] at c127b0hl9_8))
                                          clear c127
                                          by_cases c128 : (rd x7_8 (rd x15_92 x16_8)) < 0
                                          ·rw [if_pos c128] at H
                                           have c128b0 := decide_eq_true c128
                                           clear c128
                                           obtain ⟨y204, hy204⟩ : ∃ y_ : List Int, y_ = (x7_8.set ((rd x15_92 x16_8) : Int).toNat (wrap64 ((wrap64 ((rd x7_2 t178) - t183)) + t185))) := ⟨_, rfl⟩
                                           replace H : (if (rd x15_92 x16_8) < (x9_8.length : Int) then (spec_l04Heights.l2 kj113 a1 ((rd_T100 l0_0 a1).f2) y204 (x9_8.set ((rd x15_92 x16_8) : Int).toNat true) (wrap64 ((wrap64 ((rd x7_2 t178) - t183)) + t185)) x15_92 (wrap64 (x16_8 + 1)) l0_0 a1 t178 x183002_8) else (none)) = some (r1, r2, r3, r4) := by first | (rw [hy204]; with_reducible exact H) | (have H2_ := (Option.bind_some _ _).symm.trans H; rw [hy204]; with_reducible exact H2_) | (have H2_ := (Option.bind_some _ _).symm.trans H; with_reducible exact H2_) | with_reducible exact H | (rw [hy204]; exact H) | exact H
                                           have Ny204 := am hy204
                                           clear hy204
                                           by_cases c130 : (rd x15_92 x16_8) < (x9_8.length : Int)
                                           ·rw [if_pos c130] at H
                                            have c130b0 := decide_eq_true c130
                                            (try (have c130b0hl7_2 := c130b0; rw [hl7_2] at c130b0hl7_2))
                                            (try (have c130b0hl9_2 := c130b0; rw [hl9_2] at c130b0hl9_2))
                                            (try (have c130b0hl9_42 := c130b0; rw [hl9_42] at c130b0hl9_42))
                                            (try (have c130b0hl7_8 := c130b0; rw [hl7_8] at c130b0hl7_8))
                                            (try (have c130b0hl9_8 := c130b0; rw [hl9_8] at c130b0hl9_8))
                                            clear c130
                                            obtain ⟨y206, hy206⟩ : ∃ y_ : List Bool, y_ = (x9_8.set ((rd x15_92 x16_8) : Int).toNat true) := ⟨_, rfl⟩
                                            replace H : (spec_l04Heights.l2 kj113 a1 ((rd_T100 l0_0 a1).f2) y204 y206 (wrap64 ((wrap64 ((rd x7_2 t178) - t183)) + t185)) x15_92 (wrap64 (x16_8 + 1)) l0_0 a1 t178 x183002_8) = some (r1, r2, r3, r4) := by first | (rw [hy206]; with_reducible exact H) | (have H2_ := (Option.bind_some _ _).symm.trans H; rw [hy206]; with_reducible exact H2_) | (have H2_ := (Option.bind_some _ _).symm.trans H; with_reducible exact H2_) | with_reducible exact H | (rw [hy206]; exact H) | exact H
                                            have Ny206 := am hy206
                                            clear hy206
                                            have H' := am H
                                            clear H
                                            have p201 : 0 ≤ (x16_8 : Int) := of_decide_eq_true as1
                                            have q201 : x16_8 < (x15_92.length : Int) := of_decide_eq_true as1
                                            obtain ⟨ad201, e201, hx201_0⟩ := Kd.at_int (Kd.R_reads' HO_15.out).2.2 x16_8 p201 q201
                                            obtain rfl : ad196 = ad201 := (by injection e201)
                                            replace p201 := eq_true p201
                                            replace q201 := eq_true q201
                                            have p202 : 0 ≤ ((rd x15_92 x16_8) : Int) := of_decide_eq_true as1
                                            have q202 : (rd x15_92 x16_8) < (x7_8.length : Int) := of_decide_eq_true as1
                                            obtain ⟨ad202, e202, hx202_0⟩ := Kd.at_int (Kd.R_reads' HO_7.out).2.2 (rd x15_92 x16_8) p202 q202
                                            obtain rfl : (⟨go20, 0, none⟩ : Addr) = ad202 := (by injection e202)
                                            (first | simp only [add_plain] at hx202_0 | simp only [add_at] at hx202_0 | simp only [Addr.add, Nat.zero_add] at hx202_0 | skip)
                                            replace p202 := eq_true p202
                                            replace q202 := eq_true q202
                                            have p203 : 0 ≤ (x16_8 : Int) := of_decide_eq_true as1
                                            have q203 : x16_8 < (x15_92.length : Int) := of_decide_eq_true as1
                                            obtain ⟨ad203, e203, hx203_0⟩ := Kd.at_int (Kd.R_reads' HO_15.out).2.2 x16_8 p203 q203
                                            obtain rfl : ad196 = ad203 := (by injection e203)
                                            replace p203 := eq_true p203
                                            replace q203 := eq_true q203
                                            have p129 : 0 ≤ ((rd x15_92 x16_8) : Int) := of_decide_eq_true as1
                                            have q129 : ((rd x15_92 x16_8) : Int) < ((x7_8.length : Int) : Int) := of_decide_eq_true as1
                                            obtain ⟨hx129_0, hf129_0⟩ := Kd.R_celln 0 HO_7.out ((rd x15_92 x16_8) : Int) p129 q129
                                            replace p129 := eq_true p129
                                            replace q129 := eq_true q129
                                            have HP132 := Kd.R_putg HO_7.out ((rd x15_92 x16_8) : Int) (wrap64 ((wrap64 ((rd x7_2 t178) - t183)) + t185))
                                            go_wp2_with (first | ((with_reducible refine gate_store (t := 2) (p := 160) rfl ?_); refine store_event (t := 2) (p := 160) (v := ?vo_w133) (w1 := (wc.setCell ⟨go20, ((rd x15_92 x16_8) : Int).toNat, none⟩ (.int .i64 (wrap64 ((wrap64 ((rd x7_2 t178) - t183)) + t185))))) ?hg ?ho ?hn ?hr ?_; (case ho => rfl); (case hg => rfl); (case hn => rfl); (case hr => exact gs); intro w133 hw; have hg : wc.grownBy w133 (some go20) := (by rw [hw]; exact HP132.2); have hp_ : Kd.R (Kd.int .i64) 2 w133 w.heap.size (fun k_ => some k_ ≠ (.slice (some ad196) x15_92.length co115 : Value).ownBlock) (.slice (some ⟨go20, 0, none⟩) x7_8.length co25) y204 := (by rw [hw, Ny204.out]; exact HP132.1); clear HP132; replace HO_9 := am (Kd.R_over' (v := (.slice (some ⟨go20, 0, none⟩) x7_8.length co25)) (kR HO_9) (Kd.R_typed HO_7.out) (by decide) hg); replace HO_15 := am (Kd.R_after (v := (.slice (some ⟨go20, 0, none⟩) x7_8.length co25)) (v1 := (.slice (some ⟨go20, 0, none⟩) x7_8.length co25)) (ok := (fun _ => True)) (by (with_reducible repeat (first | apply Kd.R_alloc | apply Kd.R_drewN | apply Kd.R_drew)); exact Kd.R_mono HO_15.out (fun _ hk => ⟨trivial, hk⟩)) hg (.inl rfl)); replace BK166 := am (blk_grown (g := gb166) (o := .cells #[.slice (some ad168) l0_0.length c0_0] 30 (0, 0)) (bp BK166) hg (Kd.R_ne HO_7.out BK166.out (by decide))); replace BK167 := am (blk_grown (g := gb167) (o := .cells #[.int .i64 x168000_8, .int .i64 x168001_8, .int .i64 x168002_8] 84 (0, 0)) (bp BK167) hg (Kd.R_ne HO_7.out BK167.out (by decide))); replace BK181 := am (blk_grown (g := gb181) (o := .cells #[.int .i64 ((rd_T102 ((rd_T100 l0_0 a1).f2) t178).f0), .int .i64 ((rd_T102 ((rd_T100 l0_0 a1).f2) t178).f1)] 102 (0, 0)) (bp BK181) hg (Kd.R_ne HO_7.out BK181.out (by decide))); replace BK182 := am (blk_grown (g := gb182) (o := .cells #[.int .i64 a1, .int .i64 t178, .int .i64 x183002_8] 84 (0, 0)) (bp BK182) hg (Kd.R_ne HO_7.out BK182.out (by decide))); replace HO_7 := am (hp_); replace HB := am ((by rw [hw]; exact below_set (HB.out) GB20.out : Below w.heap.size w w133)); clear hg hw hp_; have p205 : 0 ≤ (x16_8 : Int) := of_decide_eq_true as1; have q205 : x16_8 < (x15_92.length : Int) := of_decide_eq_true as1; obtain ⟨ad205, e205, hx205_0⟩ := Kd.at_int (Kd.R_reads' HO_15.out).2.2 x16_8 p205 q205; obtain rfl : ad196 = ad205 := (by injection e205); replace p205 := eq_true p205; replace q205 := eq_true q205; have p131 : 0 ≤ ((rd x15_92 x16_8) : Int) := of_decide_eq_true as1; have q131 : ((rd x15_92 x16_8) : Int) < ((x9_8.length : Int) : Int) := of_decide_eq_true as1; obtain ⟨hx131_0, hf131_0⟩ := Kd.R_celln false HO_9.out ((rd x15_92 x16_8) : Int) p131 q131; replace p131 := eq_true p131; replace q131 := eq_true q131; obtain ⟨hy134_, hz134_⟩ := Kd.R_celln false HO_9.out ((rd x15_92 x16_8) : Int) (of_decide_eq_true as1) (of_decide_eq_true as1); have HP134 := Kd.R_putg HO_9.out ((rd x15_92 x16_8) : Int) true) | ((with_reducible refine gate_store (t := 4) (p := 166) rfl ?_); refine store_event (t := 4) (p := 166) (v := ?vo_w135) (w1 := (w133.setCell ⟨go24, ((rd x15_92 x16_8) : Int).toNat, none⟩ (.bool true))) ?hg ?ho ?hn ?hr ?_; (case ho => rfl); (case hg => rfl); (case hn => rfl); (case hr => exact gs); intro w135 hw; have hg : w133.grownBy w135 (some go24) := (by rw [hw]; exact HP134.2); have hp_ : Kd.R Kd.bool 4 w135 w.heap.size (fun _ => True) (.slice (some ⟨go24, 0, none⟩) x9_8.length co24) y206 := (by rw [hw, Ny206.out]; exact HP134.1); clear HP134; replace HO_7 := am (Kd.R_over' (v := (.slice (some ⟨go24, 0, none⟩) x9_8.length co24)) (kR HO_7) (Kd.R_typed HO_9.out) (by decide) hg); replace HO_15 := am (Kd.R_over' (v := (.slice (some ⟨go24, 0, none⟩) x9_8.length co24)) (kR HO_15) (Kd.R_typed HO_9.out) (by decide) hg); replace BK166 := am (blk_grown (g := gb166) (o := .cells #[.slice (some ad168) l0_0.length c0_0] 30 (0, 0)) (bp BK166) hg (Kd.R_ne HO_9.out BK166.out (by decide))); replace BK167 := am (blk_grown (g := gb167) (o := .cells #[.int .i64 x168000_8, .int .i64 x168001_8, .int .i64 x168002_8] 84 (0, 0)) (bp BK167) hg (Kd.R_ne HO_9.out BK167.out (by decide))); replace BK181 := am (blk_grown (g := gb181) (o := .cells #[.int .i64 ((rd_T102 ((rd_T100 l0_0 a1).f2) t178).f0), .int .i64 ((rd_T102 ((rd_T100 l0_0 a1).f2) t178).f1)] 102 (0, 0)) (bp BK181) hg (Kd.R_ne HO_9.out BK181.out (by decide))); replace BK182 := am (blk_grown (g := gb182) (o := .cells #[.int .i64 a1, .int .i64 t178, .int .i64 x183002_8] 84 (0, 0)) (bp BK182) hg (Kd.R_ne HO_9.out BK182.out (by decide))); replace HO_9 := am (hp_); replace HB := am ((by rw [hw]; exact below_set (HB.out) GB24.out : Below w.heap.size w w135)); clear hg hw hp_))
                                            (try simp only [← hl7_8, ← hl9_8])
                                            go_roundg kj113
                                            case measure => have := HK1.out; have := HK2.out; have := HJ42.out; have := HJ66.out; have := HJ78.out; have := HJ82.out; have := HJ92.out; have := HK8.out; have := HJ113.out; omega
                                            case rel => exact ⟨(y204), (y206), (wrap64 (x16_8 + 1)), (x168000_8), (x168001_8), (x168002_8), (x183002_8), dr, H', ⟨by have := HK1.out; have := HK2.out; have := HJ42.out; have := HJ66.out; have := HJ78.out; have := HJ82.out; have := HJ92.out; have := HK8.out; have := HJ113.out; omega⟩, ⟨by (try simp only [hl7_2]); (try simp only [hl9_2]); (try simp only [hl9_42]); (try simp only [hl7_8]); (try simp only [hl9_8]); exact kR HO_7⟩, ⟨by (try simp only [hl7_2]); (try simp only [hl9_2]); (try simp only [hl9_42]); (try simp only [hl7_8]); (try simp only [hl9_8]); exact kR HO_9⟩, ⟨by (try simp only [hl7_2]); (try simp only [hl9_2]); (try simp only [hl9_42]); (try simp only [hl7_8]); (try simp only [hl9_8]); (with_reducible repeat (first | apply Kd.R_alloc | apply Kd.R_drewN | apply Kd.R_drew)); exact Kd.R_mono HO_15.out (fun _ hk => hk.2)⟩, ⟨by (try simp only [hl7_2]); (try simp only [hl9_2]); (try simp only [hl9_42]); (try simp only [hl7_8]); (try simp only [hl9_8]); exact bp BK166⟩, ⟨by (try simp only [hl7_2]); (try simp only [hl9_2]); (try simp only [hl9_42]); (try simp only [hl7_8]); (try simp only [hl9_8]); exact bp BK167⟩, ⟨by (try simp only [hl7_2]); (try simp only [hl9_2]); (try simp only [hl9_42]); (try simp only [hl7_8]); (try simp only [hl9_8]); exact bp BK181⟩, ⟨by (try simp only [hl7_2]); (try simp only [hl9_2]); (try simp only [hl9_42]); (try simp only [hl7_8]); (try simp only [hl9_8]); exact bp BK182⟩, ⟨bw HB⟩⟩
                                           ·rw [if_neg c130] at H
                                            exact absurd H (by simp)
                                          ·rw [if_neg c128] at H
                                           have c128b0 := decide_eq_false c128
                                           clear c128
                                           have H' := am H
                                           clear H
                                           have p201 : 0 ≤ (x16_8 : Int) := of_decide_eq_true as1
                                           have q201 : x16_8 < (x15_92.length : Int) := of_decide_eq_true as1
                                           obtain ⟨ad201, e201, hx201_0⟩ := Kd.at_int (Kd.R_reads' HO_15.out).2.2 x16_8 p201 q201
                                           obtain rfl : ad196 = ad201 := (by injection e201)
                                           replace p201 := eq_true p201
                                           replace q201 := eq_true q201
                                           have p202 : 0 ≤ ((rd x15_92 x16_8) : Int) := of_decide_eq_true as1
                                           have q202 : (rd x15_92 x16_8) < (x7_8.length : Int) := of_decide_eq_true as1
                                           obtain ⟨ad202, e202, hx202_0⟩ := Kd.at_int (Kd.R_reads' HO_7.out).2.2 (rd x15_92 x16_8) p202 q202
                                           obtain rfl : (⟨go20, 0, none⟩ : Addr) = ad202 := (by injection e202)
                                           (first | simp only [add_plain] at hx202_0 | simp only [add_at] at hx202_0 | simp only [Addr.add, Nat.zero_add] at hx202_0 | skip)
                                           replace p202 := eq_true p202
                                           replace q202 := eq_true q202
                                           go_wp2
                                           (try simp only [← hl7_8, ← hl9_8])
                                           go_roundg kj113
                                           case measure => have := HK1.out; have := HK2.out; have := HJ42.out; have := HJ66.out; have := HJ78.out; have := HJ82.out; have := HJ92.out; have := HK8.out; have := HJ113.out; omega
                                           case rel => exact ⟨(x7_8), (x9_8), (wrap64 (x16_8 + 1)), (x168000_8), (x168001_8), (x168002_8), (x183002_8), dr, H', ⟨by have := HK1.out; have := HK2.out; have := HJ42.out; have := HJ66.out; have := HJ78.out; have := HJ82.out; have := HJ92.out; have := HK8.out; have := HJ113.out; omega⟩, ⟨by (try simp only [hl7_2]); (try simp only [hl9_2]); (try simp only [hl9_42]); (try simp only [hl7_8]); (try simp only [hl9_8]); exact kR HO_7⟩, ⟨by (try simp only [hl7_2]); (try simp only [hl9_2]); (try simp only [hl9_42]); (try simp only [hl7_8]); (try simp only [hl9_8]); exact kR HO_9⟩, ⟨by (try simp only [hl7_2]); (try simp only [hl9_2]); (try simp only [hl9_42]); (try simp only [hl7_8]); (try simp only [hl9_8]); exact kR HO_15⟩, ⟨by (try simp only [hl7_2]); (try simp only [hl9_2]); (try simp only [hl9_42]); (try simp only [hl7_8]); (try simp only [hl9_8]); exact bp BK166⟩, ⟨by (try simp only [hl7_2]); (try simp only [hl9_2]); (try simp only [hl9_42]); (try simp only [hl7_8]); (try simp only [hl9_8]); exact bp BK167⟩, ⟨by (try simp only [hl7_2]); (try simp only [hl9_2]); (try simp only [hl9_42]); (try simp only [hl7_8]); (try simp only [hl9_8]); exact bp BK181⟩, ⟨by (try simp only [hl7_2]); (try simp only [hl9_2]); (try simp only [hl9_42]); (try simp only [hl7_8]); (try simp only [hl9_8]); exact bp BK182⟩, ⟨bw HB⟩⟩
                                         ·rw [if_neg c127] at H
                                          exact absurd H (by simp)
                                        ·rw [if_neg c126] at H
                                         exact absurd H (by simp)
                                       ·rw [if_neg c125] at H
                                        exact absurd H (by simp)
                                      ·rw [if_neg c124] at H
                                       exact absurd H (by simp)
                                 ·rw [if_neg c102] at H
                                  exact absurd H (by simp)
                                ·rw [if_neg c101] at H
                                 have c101b0 := decide_eq_false c101
                                 (try (have c101b0hl7_2 := c101b0; rw [hl7_2] at c101b0hl7_2))
                                 (try (have c101b0hl9_2 := c101b0; rw [hl9_2] at c101b0hl9_2))
                                 (try (have c101b0hl9_42 := c101b0; rw [hl9_42] at c101b0hl9_42))
                                 (try (have c101b0hl7_8 := c101b0; rw [hl7_8] at c101b0hl7_8))
                                 (try (have c101b0hl9_8 := c101b0; rw [hl9_8] at c101b0hl9_8))
                                 clear c101
                                 have H' := am H
                                 clear H
                                 obtain ⟨Ao136, co136, eo136⟩ := Kd.R_slice HO_15.out
                                 subst eo136
                                 go_wp2
                                 (try simp only [← hl7_2, ← hl9_2, ← hl9_42, ← hl7_8, ← hl9_8])
                                 go_roundg k8
                                 case measure => have := HK1.out; have := HK2.out; have := HJ42.out; have := HJ66.out; have := HJ78.out; have := HJ82.out; have := HJ92.out; have := HK8.out; omega
                                 case rel => exact ⟨(x7_8), (x9_8), (x168000_8), (x168001_8), (x168002_8), H', ⟨by have := HK1.out; have := HK2.out; have := HJ42.out; have := HJ66.out; have := HJ78.out; have := HJ82.out; have := HJ92.out; have := HK8.out; omega⟩, ⟨by (try simp only [hl7_2]); (try simp only [hl9_2]); (try simp only [hl9_42]); (try simp only [hl7_8]); (try simp only [hl9_8]); (with_reducible repeat (first | apply Kd.R_alloc | apply Kd.R_drewN | apply Kd.R_drew)); exact Kd.R_mono HO_7.out (fun _ hk => trivial)⟩, ⟨by (try simp only [hl7_2]); (try simp only [hl9_2]); (try simp only [hl9_42]); (try simp only [hl7_8]); (try simp only [hl9_8]); exact kR HO_9⟩, ⟨by (try simp only [hl7_2]); (try simp only [hl9_2]); (try simp only [hl9_42]); (try simp only [hl7_8]); (try simp only [hl9_8]); exact bp BK166⟩, ⟨by (try simp only [hl7_2]); (try simp only [hl9_2]); (try simp only [hl9_42]); (try simp only [hl7_8]); (try simp only [hl9_8]); exact bp BK167⟩, ⟨bw HB⟩⟩
                  ·rw [if_neg c41] at H
                   exact absurd H (by simp)
                 ·rw [if_neg c39] at H
                  exact absurd H (by simp)
                ·rw [if_neg c37] at H
                 exact absurd H (by simp)
               ·rw [if_neg c36] at H
                exact absurd H (by simp)
           ·rw [if_neg c23] at H
            exact absurd H (by simp)
          ·rw [if_neg c22] at H
           exact absurd H (by simp)
         ·rw [if_neg c21] at H
          exact absurd H (by simp)
        ·rw [if_neg c19] at H
         exact absurd H (by simp)
    ·rw [if_neg c6] at H
     exact absurd H (by simp)
   ·rw [if_neg c5] at H
    exact absurd H (by simp)
  ·rw [if_neg c4] at H
   exact absurd H (by simp)
 ·rw [if_neg c3] at H
  exact absurd H (by simp)

end Go.Proofs.Ytbmjmaahcaoajaa.QFnExactHeaders
