import Derived.Test.YtbmjmaahcaoajaaCFnExactFileBytesx0
import Derived.Test.YtbmjmaahcaoajaaCFnExactFileBytesx9
import Derived.Test.YtbmjmaahcaoajaaCFnExactFileBytesx10
namespace Go.Proofs.Ytbmjmaahcaoajaa.QFnExactFileBytes
open Go.RowKit Go.Proofs.YtbmjmaahcaoajaaW
open PrintWords PrintLast PrintMore PrintShort
attribute [local go_sem] max2_int min2_int max_two min_two max_three min_three max_four min_four   -- for this text's walks alone
set_option linter.unusedVariables false
set_option maxHeartbeats 8000000
set_option maxRecDepth 100000
set_option linter.unusedSimpArgs false

mutual
def impl_heightsOf.l0 : Nat → List (S102) → List Int → List Bool → Int → Int → List (S100) → Option (List Int × Int × Int)
 | 0, _, _, _, _, _, _ => none
 | k + 1, x7, x8, x9, x30, x31, x322000 => if x31 < x30 then (if 0 ≤ x31 then (if x31 < (x8.length : Int) then (impl_heightsOf.l0 k x7 (x8.set (x31 : Int).toNat (-1)) x9 x30 (wrap64 (x31 + 1)) x322000) else (none)) else (none)) else (if 0 < (x8.length : Int) then (if 0 < (x9.length : Int) then (impl_heightsOf.l1 k x7 (x8.set (0 : Int).toNat 0) (x9.set (0 : Int).toNat true) 0 x322000) else (none)) else (none))
def impl_heightsOf.l1 : Nat → List (S102) → List Int → List Bool → Int → List (S100) → Option (List Int × Int × Int)
 | 0, _, _, _, _, _ => none
 | k + 1, x7, x8, x9, x11, x322000 => if x11 < (x7.length : Int) then (if 0 ≤ x11 then (if x11 < (x9.length : Int) then (if rdOf false x9 x11 = true then ((some (x9.set (x11 : Int).toNat false : List Bool)).bind fun y333 => (if x11 < (x8.length : Int) then ((impl_Takes.f k x322000 ((rd_T102 x7 x11).f0) ((rd_T102 x7 x11).f1)).bind fun t337 => (if (wrap64 ((rd x8 x11) - t337)) < 0 then (impl_heightsOf.j2 k x7 x8 y333 x11 (wrap64 ((rd x8 x11) - t337)) true x322000 ((rd_T102 x7 x11).f0) ((rd_T102 x7 x11).f1)) else ((impl_Puts.f k ((rd_T102 x7 x11).f0) ((rd_T102 x7 x11).f1)).bind fun t338 => (impl_heightsOf.j2 k x7 x8 y333 x11 (wrap64 ((rd x8 x11) - t337)) (decide ((wrap64 ((wrap64 ((rd x8 x11) - t337)) + t338)) > 8)) x322000 ((rd_T102 x7 x11).f0) ((rd_T102 x7 x11).f1))))) else (none))) else (impl_heightsOf.l1 k x7 x8 x9 (wrap64 (x11 + 1)) x322000)) else (none)) else (none)) else (some (x8, 0, 0))
def impl_heightsOf.j2 : Nat → List (S102) → List Int → List Bool → Int → Int → Bool → List (S100) → Int → Int → Option (List Int × Int × Int)
 | 0, _, _, _, _, _, _, _, _, _ => none
 | k + 1, x7, x8, x9, x11, x13, x76, x322000, x336000, x336001 => if x76 = true then (some (x8, x11, 5)) else ((impl_next.f x336000 x336001 x11).bind fun t339 => (impl_heightsOf.l2 k x7 x8 x9 x11 x13 x11 t339 (t339.length : Int) 0 x322000 x336000 x336001))
def impl_heightsOf.l2 : Nat → List (S102) → List Int → List Bool → Int → Int → Int → List Int → Int → Int → List (S100) → Int → Int → Option (List Int × Int × Int)
 | 0, _, _, _, _, _, _, _, _, _, _, _, _ => none
 | k + 1, x7, x8, x9, x11, x13, x14, x82, x83, x84, x322000, x336000, x336001 => if x84 < x83 then (if 0 ≤ x84 then (if x84 < (x82.length : Int) then (if (rd x82 x84) = (x7.length : Int) then (some (x8, x11, 6)) else (if 0 ≤ (rd x82 x84) then (if (rd x82 x84) < (x8.length : Int) then (if (rd x8 (rd x82 x84)) ≥ 0 then ((impl_Puts.f k x336000 x336001).bind fun t345 => (impl_heightsOf.j4 k x7 x8 x9 x11 x13 x14 (rd x82 x84) x82 x83 x84 ((rd x8 (rd x82 x84)) != (wrap64 (x13 + t345))) x322000 x336000 x336001)) else (impl_heightsOf.j4 k x7 x8 x9 x11 x13 x14 (rd x82 x84) x82 x83 x84 false x322000 x336000 x336001)) else (none)) else (none))) else (none)) else (none)) else (impl_heightsOf.l1 k x7 x8 x9 x14 x322000)
def impl_heightsOf.j4 : Nat → List (S102) → List Int → List Bool → Int → Int → Int → Int → List Int → Int → Int → Bool → List (S100) → Int → Int → Option (List Int × Int × Int)
 | 0, _, _, _, _, _, _, _, _, _, _, _, _, _, _ => none
 | k + 1, x7, x8, x9, x11, x13, x14, x16, x82, x83, x84, x109, x322000, x336000, x336001 => if x109 = true then (some (x8, x11, 5)) else (if 0 ≤ x16 then (if x16 < (x8.length : Int) then (if (rd x8 x16) < 0 then ((impl_Puts.f k x336000 x336001).bind fun t347 => (if x16 < (x9.length : Int) then (impl_heightsOf.l2 k x7 (x8.set (x16 : Int).toNat (wrap64 (x13 + t347))) (x9.set (x16 : Int).toNat true) x11 x13 (mn x14 x16) x82 x83 (wrap64 (x84 + 1)) x322000 x336000 x336001) else (none))) else (impl_heightsOf.l2 k x7 x8 x9 x11 x13 x14 x82 x83 (wrap64 (x84 + 1)) x322000 x336000 x336001)) else (none)) else (none))
end
def impl_heightsOf.f (k : Nat) (l0_0 : List (S100)) (a1 : Int) : Option (List Int × Int × Int) := if 0 ≤ a1 then (if a1 < (l0_0.length : Int) then (if 0 ≤ (((rd_T100 l0_0 a1).f2).length : Int) then (if ((((rd_T100 l0_0 a1).f2).length : Int) : Int).toNat ≤ 35184372088832 then ((some (List.replicate ((((rd_T100 l0_0 a1).f2).length : Int) : Int).toNat 0 : List Int)).bind fun y323 => (if ((((rd_T100 l0_0 a1).f2).length : Int) : Int).toNat ≤ 281474976710656 then (impl_heightsOf.l0 k ((rd_T100 l0_0 a1).f2) y323 (List.replicate ((((rd_T100 l0_0 a1).f2).length : Int) : Int).toNat false) (y323.length : Int) 0 l0_0) else (none))) else (none)) else (none)) else (none)) else (none)
theorem impl_heightsOf.mono_l : ∀ k, (∀ y0 y1 y2 y3 y4 y5, LeO (impl_heightsOf.l0 k y0 y1 y2 y3 y4 y5) (impl_heightsOf.l0 (k + 1) y0 y1 y2 y3 y4 y5)) ∧ (∀ y0 y1 y2 y3 y4, LeO (impl_heightsOf.l1 k y0 y1 y2 y3 y4) (impl_heightsOf.l1 (k + 1) y0 y1 y2 y3 y4)) ∧ (∀ y0 y1 y2 y3 y4 y5 y6 y7 y8, LeO (impl_heightsOf.j2 k y0 y1 y2 y3 y4 y5 y6 y7 y8) (impl_heightsOf.j2 (k + 1) y0 y1 y2 y3 y4 y5 y6 y7 y8)) ∧ (∀ y0 y1 y2 y3 y4 y5 y6 y7 y8 y9 y10 y11, LeO (impl_heightsOf.l2 k y0 y1 y2 y3 y4 y5 y6 y7 y8 y9 y10 y11) (impl_heightsOf.l2 (k + 1) y0 y1 y2 y3 y4 y5 y6 y7 y8 y9 y10 y11)) ∧ (∀ y0 y1 y2 y3 y4 y5 y6 y7 y8 y9 y10 y11 y12 y13, LeO (impl_heightsOf.j4 k y0 y1 y2 y3 y4 y5 y6 y7 y8 y9 y10 y11 y12 y13) (impl_heightsOf.j4 (k + 1) y0 y1 y2 y3 y4 y5 y6 y7 y8 y9 y10 y11 y12 y13))
 | 0 => ⟨fun _ _ _ _ _ _ r h => by simp [impl_heightsOf.l0] at h, fun _ _ _ _ _ r h => by simp [impl_heightsOf.l1] at h, fun _ _ _ _ _ _ _ _ _ r h => by simp [impl_heightsOf.j2] at h, fun _ _ _ _ _ _ _ _ _ _ _ _ r h => by simp [impl_heightsOf.l2] at h, fun _ _ _ _ _ _ _ _ _ _ _ _ _ _ r h => by simp [impl_heightsOf.j4] at h⟩
 | k + 1 => by
  obtain ⟨ih0, ih1, ih2, ih3, ih4⟩ := impl_heightsOf.mono_l k
  refine ⟨?_, ?_, ?_, ?_, ?_⟩
  ·intro y0 y1 y2 y3 y4 y5
   unfold impl_heightsOf.l0
   repeat' first
   | (with_reducible exact ih0 _ _ _ _ _ _)
   | (with_reducible exact ih1 _ _ _ _ _)
   | (with_reducible exact ih2 _ _ _ _ _ _ _ _ _)
   | (with_reducible exact ih3 _ _ _ _ _ _ _ _ _ _ _ _)
   | (with_reducible exact ih4 _ _ _ _ _ _ _ _ _ _ _ _ _ _)
   | (with_reducible exact impl_Puts.mono _ _ _)
   | (with_reducible exact impl_Takes.mono _ _ _ _)
   | (with_reducible exact LeO.refl _)
   | (with_reducible exact LeO.none _)
   | (with_reducible refine LeO.ite ?_ ?_)
   | (with_reducible refine LeO.bind ?_ (fun _ => ?_))
  ·intro y0 y1 y2 y3 y4
   unfold impl_heightsOf.l1
   repeat' first
   | (with_reducible exact ih0 _ _ _ _ _ _)
   | (with_reducible exact ih1 _ _ _ _ _)
   | (with_reducible exact ih2 _ _ _ _ _ _ _ _ _)
   | (with_reducible exact ih3 _ _ _ _ _ _ _ _ _ _ _ _)
   | (with_reducible exact ih4 _ _ _ _ _ _ _ _ _ _ _ _ _ _)
   | (with_reducible exact impl_Puts.mono _ _ _)
   | (with_reducible exact impl_Takes.mono _ _ _ _)
   | (with_reducible exact LeO.refl _)
   | (with_reducible exact LeO.none _)
   | (with_reducible refine LeO.ite ?_ ?_)
   | (with_reducible refine LeO.bind ?_ (fun _ => ?_))
  ·intro y0 y1 y2 y3 y4 y5 y6 y7 y8
   unfold impl_heightsOf.j2
   repeat' first
   | (with_reducible exact ih0 _ _ _ _ _ _)
   | (with_reducible exact ih1 _ _ _ _ _)
   | (with_reducible exact ih2 _ _ _ _ _ _ _ _ _)
   | (with_reducible exact ih3 _ _ _ _ _ _ _ _ _ _ _ _)
   | (with_reducible exact ih4 _ _ _ _ _ _ _ _ _ _ _ _ _ _)
   | (with_reducible exact impl_Puts.mono _ _ _)
   | (with_reducible exact impl_Takes.mono _ _ _ _)
   | (with_reducible exact LeO.refl _)
   | (with_reducible exact LeO.none _)
   | (with_reducible refine LeO.ite ?_ ?_)
   | (with_reducible refine LeO.bind ?_ (fun _ => ?_))
  ·intro y0 y1 y2 y3 y4 y5 y6 y7 y8 y9 y10 y11
   unfold impl_heightsOf.l2
   repeat' first
   | (with_reducible exact ih0 _ _ _ _ _ _)
   | (with_reducible exact ih1 _ _ _ _ _)
   | (with_reducible exact ih2 _ _ _ _ _ _ _ _ _)
   | (with_reducible exact ih3 _ _ _ _ _ _ _ _ _ _ _ _)
   | (with_reducible exact ih4 _ _ _ _ _ _ _ _ _ _ _ _ _ _)
   | (with_reducible exact impl_Puts.mono _ _ _)
   | (with_reducible exact impl_Takes.mono _ _ _ _)
   | (with_reducible exact LeO.refl _)
   | (with_reducible exact LeO.none _)
   | (with_reducible refine LeO.ite ?_ ?_)
   | (with_reducible refine LeO.bind ?_ (fun _ => ?_))
  ·intro y0 y1 y2 y3 y4 y5 y6 y7 y8 y9 y10 y11 y12 y13
   unfold impl_heightsOf.j4
   repeat' first
   | (with_reducible exact ih0 _ _ _ _ _ _)
   | (with_reducible exact ih1 _ _ _ _ _)
   | (with_reducible exact ih2 _ _ _ _ _ _ _ _ _)
   | (with_reducible exact ih3 _ _ _ _ _ _ _ _ _ _ _ _)
   | (with_reducible exact ih4 _ _ _ _ _ _ _ _ _ _ _ _ _ _)
   | (with_reducible exact impl_Puts.mono _ _ _)
   | (with_reducible exact impl_Takes.mono _ _ _ _)
   | (with_reducible exact LeO.refl _)
   | (with_reducible exact LeO.none _)
   | (with_reducible refine LeO.ite ?_ ?_)
   | (with_reducible refine LeO.bind ?_ (fun _ => ?_))
theorem impl_heightsOf.mono : ∀ a0 a1 k, LeO (impl_heightsOf.f k a0 a1) (impl_heightsOf.f (k + 1) a0 a1) := by
 intro a0 a1 k
 obtain ⟨ih0, ih1, ih2, ih3, ih4⟩ := impl_heightsOf.mono_l k
 unfold impl_heightsOf.f
 repeat' first
   | (with_reducible exact ih0 _ _ _ _ _ _)
   | (with_reducible exact ih1 _ _ _ _ _)
   | (with_reducible exact ih2 _ _ _ _ _ _ _ _ _)
   | (with_reducible exact ih3 _ _ _ _ _ _ _ _ _ _ _ _)
   | (with_reducible exact ih4 _ _ _ _ _ _ _ _ _ _ _ _ _ _)
   | (with_reducible exact impl_Puts.mono _ _ _)
   | (with_reducible exact impl_Takes.mono _ _ _ _)
   | (with_reducible exact LeO.refl _)
   | (with_reducible exact LeO.none _)
   | (with_reducible refine LeO.ite ?_ ?_)
   | (with_reducible refine LeO.bind ?_ (fun _ => ?_))
def impl_heightsOf.T17 : Bool × List (List Nat × List Nat) := (true, [([], []), ([], []), ([0, 1], [0, 1]), ([2], [2]), ([], []), ([], []), ([4, 5], [4, 5]), ([3, 6], [3, 6]), ([7, 6, 0, 1, 2, 3, 4, 5, 6, 7], [7])])
def impl_heightsOf.B17 : List Nat := [0, 0, 3, 7, 0, 0, 48, 127, 255]
theorem impl_heightsOf.tab17 : rtab .any (opsOf Try.f174 17) = impl_heightsOf.T17 := by kernel_rfl
theorem impl_heightsOf.bits17 : waitsOk impl_heightsOf.T17.2 impl_heightsOf.B17 = true := by kernel_rfl
def impl_heightsOf.T26 : Bool × List (List Nat × List Nat) := (true, [([], []), ([], []), ([0, 1], [0, 1]), ([2], [2]), ([3], [3]), ([4], [4]), ([5], [5]), ([5], [5]), ([6, 7, 5], [5, 6, 7]), ([8, 5], [5, 8]), ([5], [5]), ([5], [5]), ([11, 5, 5], [5, 11]), ([10, 12, 5], [5, 10, 12]), ([9, 13, 5], [5, 9, 13]), ([5, 14], [5, 14])])
def impl_heightsOf.B26 : List Nat := [0, 0, 3, 7, 15, 31, 63, 63, 255, 511, 63, 63, 2111, 7231, 16383, 32767]
theorem impl_heightsOf.tab26 : rtab .any (opsOf Try.f174 26) = impl_heightsOf.T26 := by kernel_rfl
theorem impl_heightsOf.bits26 : waitsOk impl_heightsOf.T26.2 impl_heightsOf.B26 = true := by kernel_rfl
theorem impl_heightsOf.calls (k : Nat) (A0_0 : Option Addr) (c0_0 : Nat) (l0_0 : List (S100)) (a1 : Int) (r1 : List Int) (r2 : Int) (r3 : Int) (w : World) (hr0_0 : Kd.C k100 w A0_0 l0_0.length l0_0) (hc0_0 : l0_0.length ≤ c0_0) (h : impl_heightsOf.f k l0_0 a1 = some (r1, r2, r3)) :
  Calls Try.prog 174 #[.agg #[.slice A0_0 l0_0.length c0_0], .int .i64 a1] w fun e w' => ∃ v0_ : Value, e = .returned (.tuple #[v0_, .int .i64 r2, .int .i64 r3]) ∧ Kd.R (Kd.int .i64) 2 w' w.heap.size (fun _ => True) v0_ r1 ∧ Below w.heap.size w w' := by
 have hu30 := Try.underlying30
 have hu102 := Try.underlying102
 have HR0_0 := am hr0_0
 have HC0_0 := am hc0_0
 clear hr0_0 hc0_0
 have HB := am (Below.refl w.heap.size w)
 have H : (if 0 ≤ a1 then (if a1 < (l0_0.length : Int) then (if 0 ≤ (((rd_T100 l0_0 a1).f2).length : Int) then (if ((((rd_T100 l0_0 a1).f2).length : Int) : Int).toNat ≤ 35184372088832 then ((some (List.replicate ((((rd_T100 l0_0 a1).f2).length : Int) : Int).toNat 0 : List Int)).bind fun y323 => (if ((((rd_T100 l0_0 a1).f2).length : Int) : Int).toNat ≤ 281474976710656 then (impl_heightsOf.l0 k ((rd_T100 l0_0 a1).f2) y323 (List.replicate ((((rd_T100 l0_0 a1).f2).length : Int) : Int).toNat false) (y323.length : Int) 0 l0_0) else (none))) else (none)) else (none)) else (none)) else (none)) = some (r1, r2, r3) := h
 clear h
 by_cases c3 : 0 ≤ a1
 ·rw [if_pos c3] at H
  have c3b0 := decide_eq_true c3
  clear c3
  by_cases c4 : a1 < (l0_0.length : Int)
  ·rw [if_pos c4] at H
   have c4b0 := decide_eq_true c4
   clear c4
   by_cases c5 : 0 ≤ (((rd_T100 l0_0 a1).f2).length : Int)
   ·rw [if_pos c5] at H
    have c5b0 := eq_true c5
    have c5b1 := decide_eq_true c5
    clear c5
    by_cases c6 : ((((rd_T100 l0_0 a1).f2).length : Int) : Int).toNat ≤ 35184372088832
    ·rw [if_pos c6] at H
     have c6b0 := eq_true c6
     have c6b1 := decide_eq_true c6
     clear c6
     obtain ⟨y323, hy323⟩ : ∃ y_ : List Int, y_ = (List.replicate ((((rd_T100 l0_0 a1).f2).length : Int) : Int).toNat 0) := ⟨_, rfl⟩
     replace H : (if ((((rd_T100 l0_0 a1).f2).length : Int) : Int).toNat ≤ 281474976710656 then (impl_heightsOf.l0 k ((rd_T100 l0_0 a1).f2) y323 (List.replicate ((((rd_T100 l0_0 a1).f2).length : Int) : Int).toNat false) (y323.length : Int) 0 l0_0) else (none)) = some (r1, r2, r3) := by first | (rw [hy323]; with_reducible exact H) | (have H2_ := (Option.bind_some _ _).symm.trans H; rw [hy323]; with_reducible exact H2_) | (have H2_ := (Option.bind_some _ _).symm.trans H; with_reducible exact H2_) | with_reducible exact H | (rw [hy323]; exact H) | exact H
     have Ny323 := am hy323
     clear hy323
     by_cases c7 : ((((rd_T100 l0_0 a1).f2).length : Int) : Int).toNat ≤ 281474976710656
     ·rw [if_pos c7] at H
      have c7b0 := eq_true c7
      have c7b1 := decide_eq_true c7
      clear c7
      obtain ⟨y326, hy326⟩ : ∃ y_ : List Bool, y_ = (List.replicate ((((rd_T100 l0_0 a1).f2).length : Int) : Int).toNat false) := ⟨_, rfl⟩
      replace H : (impl_heightsOf.l0 k ((rd_T100 l0_0 a1).f2) y323 y326 (y323.length : Int) 0 l0_0) = some (r1, r2, r3) := by first | (rw [hy326]; with_reducible exact H) | (have H2_ := (Option.bind_some _ _).symm.trans H; rw [hy326]; with_reducible exact H2_) | (have H2_ := (Option.bind_some _ _).symm.trans H; with_reducible exact H2_) | with_reducible exact H | (rw [hy326]; exact H) | exact H
      have Ny326 := am hy326
      clear hy326
      have H' := am H
      clear H
      go_enter Try.func174, Try.ntmps174
      go_wp2_with (first | ((with_reducible refine gate_dst (N := 2) rfl ?_); refine box_event ?hg (N := 2) ?hd (cs := #[.slice A0_0 l0_0.length c0_0]) (t := 30) ?hr ?_; (case hd => rfl); (case hg => rfl); (case hr => exact gs); intro gb321 hg w8 hbox hb; have BK321 := am (hbox); have GW321 := am ((by rw [hg]; exact (below_size (bw HB)) : w.heap.size ≤ gb321)); have GE321 := am ((by rw [hg]; exact (below_size (bw HB)) : w.heap.size ≤ gb321)); replace HB := am (below_step (bw HB) hb); clear hb hbox hg; have hcz9_0 : w8.cell? ⟨gb321, 0, none⟩ = some (.slice A0_0 l0_0.length c0_0) := bc BK321 0; have hfz9_0 := bf BK321 0; have p322 : 0 ≤ (a1 : Int) := of_decide_eq_true as1; have q322 : a1 < (l0_0.length : Int) := of_decide_eq_true as1; obtain ⟨ad322, A322_2, c322_2, e322, hx322_0, hx322_1, hx322_2, hl322_2, hi322_2⟩ := at_T100 HR0_0.out a1 p322 q322; cases e322; replace hx322_0 := (HB.out.cell (World.block_lt_of_cell? w _ hx322_0)).trans hx322_0; replace hx322_1 := (HB.out.cell (World.block_lt_of_cell? w _ hx322_1)).trans hx322_1; replace hx322_2 := (HB.out.cell (World.block_lt_of_cell? w _ hx322_2)).trans hx322_2; have HR322_2 := am hi322_2; have HC322_2 := am hl322_2; clear hi322_2 hl322_2; replace p322 := eq_true p322; replace q322 := eq_true q322) | ((with_reducible refine gate_dst (N := 25) rfl ?_); refine Kd.R_make (Kd.int .i64) _ 2 rfl (N := 25) rfl 26 _ _ rfl (((rd_T100 l0_0 a1).f2).length : Int) rfl rfl Try.underlying26 (.int .i64 0) 8 info2 rfl (by decide) (by omega) 0 (ok := fun _ => True) (okp := fun _ => True) rfl (fun _ hk => hk) trivial (of_decide_eq_true as1) (Nat.le_trans (Nat.mul_le_mul_right _ (of_decide_eq_true as1 : (((rd_T100 l0_0 a1).f2).length : Int).toNat ≤ 35184372088832)) (by omega)) (Below.refl _ _) (Nat.le_refl _) ?_; intro v324 w10 ho11 hb hg_ hnew_; clear hg_ hnew_; (first | rw [← Ny323.out] at ho11 | (simp only [Int.reduceToNat] at ho11; rw [← Ny323.out] at ho11)); have HO325 := am (Kd.R_lower ho11 (below_size (bw HB))); replace BK321 := am (blk_below (g := gb321) (o := .cells #[.slice (some ad322) l0_0.length c0_0] 30 (0, 0)) (bp BK321) hb); replace HB := am (below_step (bw HB) hb); clear hb ho11) | ((with_reducible refine gate_dst (N := 28) rfl ?_); refine Kd.R_make Kd.bool _ 4 rfl (N := 28) rfl 166 _ _ rfl (((rd_T100 l0_0 a1).f2).length : Int) rfl rfl Try.underlying166 (.bool false) 1 info4 rfl (by decide) (by omega) false (ok := fun _ => True) (okp := fun _ => True) rfl (fun _ hk => hk) trivial (of_decide_eq_true as1) (Nat.le_trans (Nat.mul_le_mul_right _ (of_decide_eq_true as1 : (((rd_T100 l0_0 a1).f2).length : Int).toNat ≤ 281474976710656)) (by omega)) (Below.refl _ _) (Nat.le_refl _) ?_; intro v327 w12 ho13 hb hg_ hnew_; clear hg_ hnew_; (first | rw [← Ny326.out] at ho13 | (simp only [Int.reduceToNat] at ho13; rw [← Ny326.out] at ho13)); replace HO325 := am (Kd.R_below (kR HO325) hb); have HO328 := am (Kd.R_lower ho13 (below_size (bw HB))); replace BK321 := am (blk_below (g := gb321) (o := .cells #[.slice (some ad322) l0_0.length c0_0] 30 (0, 0)) (bp BK321) hb); replace HB := am (below_step (bw HB) hb); clear hb ho13; obtain ⟨Ao14, co14, eo14⟩ := Kd.R_slice HO325.out; subst eo14))
      go_loopg [31] k (fun kq v31 w' => ∃ (x8_1 : List Int) (x31_1 : Int), v31 = .int .i64 x31_1 ∧ Aside0 (impl_heightsOf.l0 kq ((rd_T100 l0_0 a1).f2) x8_1 y326 (y323.length : Int) x31_1 l0_0 = some (r1, r2, r3)) ∧ Aside0 (kq ≤ k) ∧ Aside0 (Kd.R (Kd.int .i64) 2 w' w.heap.size (fun _ => True) (.slice Ao14 y323.length co14) x8_1) ∧ Aside0 (Kd.R Kd.bool 4 w' w.heap.size (fun _ => True) v327 y326) ∧ Aside0 (w'.heap[gb321]? = some (.cells #[(.slice (some ad322) l0_0.length c0_0)] 30 (0, 0))) ∧ Aside0 (Below w.heap.size w w'))
      case atStart => exact ⟨(y323), (0), dr, H', ⟨Nat.le_refl _⟩, ⟨kR HO325⟩, ⟨kR HO328⟩, ⟨bp BK321⟩, ⟨bw HB⟩⟩
      case round =>
       clear H'
       (try clear c1); (try clear p2); (try clear c3); (try clear c3b0); (try clear p3); (try clear q3); (try clear hx3); (try clear c4); (try clear c4b0); (try clear c5); (try clear c5b0); (try clear c5b1); (try clear c6); (try clear c6b0); (try clear c6b1); (try clear c7); (try clear c7b0); (try clear c7b1); (try clear hcz9_0); (try clear hfz9_0); (try clear hx322_0); (try clear hx322_1); (try clear hx322_2); (try clear p322); (try clear q322)
       obtain ⟨x8_1, x31_1, rfl, HA, HK1, HO_8, HO_9, BK321, HB⟩ := hrel
       have hl8_1 := (Kd.R_reads' HO_8.out).1
       rw [hl8_1] at HO_8
       (try simp only [hl8_1])
       (try simp only [hl8_1] at BK321)
       (try simp only [hl8_1] at HO_9)
       cases gk with
       | zero => exact absurd HA.out (by simp [impl_heightsOf.l0])
       | succ k1 =>
        have H := HA.out
        clear HA
        simp only [impl_heightsOf.l0] at H
        by_cases c15 : x31_1 < (y323.length : Int)
        ·rw [if_pos c15] at H
         have c15b0 := decide_eq_true c15
         (try (have c15b0hl8_1 := c15b0; rw [hl8_1] at c15b0hl8_1))
         clear c15
         by_cases c16 : 0 ≤ x31_1
         ·rw [if_pos c16] at H
          have c16b0 := decide_eq_true c16
          clear c16
          by_cases c17 : x31_1 < (x8_1.length : Int)
          ·rw [if_pos c17] at H
           have c17b0 := decide_eq_true c17
           (try (have c17b0hl8_1 := c17b0; rw [hl8_1] at c17b0hl8_1))
           clear c17
           obtain ⟨y329, hy329⟩ : ∃ y_ : List Int, y_ = (x8_1.set (x31_1 : Int).toNat (-1)) := ⟨_, rfl⟩
           replace H : (impl_heightsOf.l0 k1 ((rd_T100 l0_0 a1).f2) y329 y326 (y323.length : Int) (wrap64 (x31_1 + 1)) l0_0) = some (r1, r2, r3) := by first | (rw [hy329]; with_reducible exact H) | (have H2_ := (Option.bind_some _ _).symm.trans H; rw [hy329]; with_reducible exact H2_) | (have H2_ := (Option.bind_some _ _).symm.trans H; with_reducible exact H2_) | with_reducible exact H | (rw [hy329]; exact H) | exact H
           have Ny329 := am hy329
           clear hy329
           have H' := am H
           clear H
           have p18 : 0 ≤ (x31_1 : Int) := of_decide_eq_true as1
           have q18 : (x31_1 : Int) < ((x8_1.length : Int) : Int) := of_decide_eq_true as1
           obtain ⟨go18, co18, eo18, gb18, gl18, cl18, HG18⟩ := Kd.R_form HO_8.out (by omega)
           (first | cases eo18 | (injection eo18 with ea_ en_ ec_; (first | subst ea_ | (injection ea_ with ea_; subst ea_)); subst ec_; clear en_))
           have GB18 := am gb18
           have GG18 := am HG18
           clear gb18 gl18 HG18
           obtain ⟨hx18_0, hf18_0⟩ := Kd.R_celln 0 HO_8.out (x31_1 : Int) p18 q18
           replace p18 := eq_true p18
           replace q18 := eq_true q18
           have HP19 := Kd.R_putg HO_8.out (x31_1 : Int) (-1)
           go_wp2_with (first | ((with_reducible refine gate_store (t := 2) (p := 36) rfl ?_); refine store_event (t := 2) (p := 36) (v := ?vo_w20) (w1 := (wr.setCell ⟨go18, (x31_1 : Int).toNat, none⟩ (.int .i64 (-1)))) ?hg ?ho ?hn ?hr ?_; (case ho => rfl); (case hg => rfl); (case hn => rfl); (case hr => exact gs); intro w20 hw; have hg : wr.grownBy w20 (some go18) := (by rw [hw]; exact HP19.2); have hp_ : Kd.R (Kd.int .i64) 2 w20 w.heap.size (fun _ => True) (.slice (some ⟨go18, 0, none⟩) x8_1.length co14) y329 := (by rw [hw, Ny329.out]; exact HP19.1); clear HP19; replace HO_9 := am (Kd.R_over' (v := (.slice (some ⟨go18, 0, none⟩) x8_1.length co14)) (kR HO_9) (Kd.R_typed HO_8.out) (by decide) hg); replace BK321 := am (blk_grown (g := gb321) (o := .cells #[.slice (some ad322) l0_0.length c0_0] 30 (0, 0)) (bp BK321) hg (Kd.R_ne HO_8.out BK321.out (by decide))); replace HO_8 := am (hp_); replace HB := am ((by rw [hw]; exact below_set (HB.out) GB18.out : Below w.heap.size w w20)); clear hg hw hp_))
           (try simp only [← hl8_1])
           go_roundg k1
           case measure => have := HK1.out; omega
           case rel => exact ⟨(y329), (wrap64 (x31_1 + 1)), dr, H', ⟨by have := HK1.out; omega⟩, ⟨by (try simp only [hl8_1]); exact kR HO_8⟩, ⟨by (try simp only [hl8_1]); exact kR HO_9⟩, ⟨by (try simp only [hl8_1]); exact bp BK321⟩, ⟨bw HB⟩⟩
          ·rw [if_neg c17] at H
           exact absurd H (by simp)
         ·rw [if_neg c16] at H
          exact absurd H (by simp)
        ·rw [if_neg c15] at H
         have c15b0 := decide_eq_false c15
         (try (have c15b0hl8_1 := c15b0; rw [hl8_1] at c15b0hl8_1))
         clear c15
         by_cases c21 : 0 < (x8_1.length : Int)
         ·rw [if_pos c21] at H
          have c21b0 := decide_eq_true c21
          have c21b1 : decide (0 < x8_1.length) = true := decide_eq_true (by omega)
          (try (have c21b0hl8_1 := c21b0; rw [hl8_1] at c21b0hl8_1))
          (try (have c21b1hl8_1 := c21b1; rw [hl8_1] at c21b1hl8_1))
          clear c21
          obtain ⟨y330, hy330⟩ : ∃ y_ : List Int, y_ = (x8_1.set (0 : Int).toNat 0) := ⟨_, rfl⟩
          replace H : (if 0 < (y326.length : Int) then (impl_heightsOf.l1 k1 ((rd_T100 l0_0 a1).f2) y330 (y326.set (0 : Int).toNat true) 0 l0_0) else (none)) = some (r1, r2, r3) := by first | (rw [hy330]; with_reducible exact H) | (have H2_ := (Option.bind_some _ _).symm.trans H; rw [hy330]; with_reducible exact H2_) | (have H2_ := (Option.bind_some _ _).symm.trans H; with_reducible exact H2_) | with_reducible exact H | (rw [hy330]; exact H) | exact H
          have Ny330 := am hy330
          clear hy330
          by_cases c23 : 0 < (y326.length : Int)
          ·rw [if_pos c23] at H
           have c23b0 := decide_eq_true c23
           have c23b1 : decide (0 < y326.length) = true := decide_eq_true (by omega)
           (try (have c23b0hl8_1 := c23b0; rw [hl8_1] at c23b0hl8_1))
           (try (have c23b1hl8_1 := c23b1; rw [hl8_1] at c23b1hl8_1))
           clear c23
           obtain ⟨y331, hy331⟩ : ∃ y_ : List Bool, y_ = (y326.set (0 : Int).toNat true) := ⟨_, rfl⟩
           replace H : (impl_heightsOf.l1 k1 ((rd_T100 l0_0 a1).f2) y330 y331 0 l0_0) = some (r1, r2, r3) := by first | (rw [hy331]; with_reducible exact H) | (have H2_ := (Option.bind_some _ _).symm.trans H; rw [hy331]; with_reducible exact H2_) | (have H2_ := (Option.bind_some _ _).symm.trans H; with_reducible exact H2_) | with_reducible exact H | (rw [hy331]; exact H) | exact H
           have Ny331 := am hy331
           clear hy331
           have H' := am H
           clear H
           have p22 : 0 ≤ (0 : Int) := (by omega)
           have q22 : (0 : Int) < ((x8_1.length : Int) : Int) := of_decide_eq_true as1
           have qi22 : (0 < x8_1.length) = True := eq_true (by omega)
           obtain ⟨go22, co22, eo22, gb22, gl22, cl22, HG22⟩ := Kd.R_form HO_8.out (by omega)
           (first | cases eo22 | (injection eo22 with ea_ en_ ec_; (first | subst ea_ | (injection ea_ with ea_; subst ea_)); subst ec_; clear en_))
           have GB22 := am gb22
           have GG22 := am HG22
           clear gb22 gl22 HG22
           obtain ⟨hx22_0, hf22_0⟩ := Kd.R_celln 0 HO_8.out (0 : Int) p22 q22
           (try rw [show ((0 : Int)).toNat = 0 from rfl] at hx22_0)
           (try simp only [Nat.reduceMul, Nat.zero_mul, Nat.zero_add, Nat.reduceAdd] at hx22_0)
           (try rw [show ((0 : Int)).toNat = 0 from rfl] at hf22_0)
           (try simp only [Nat.reduceMul, Nat.zero_mul, Nat.zero_add, Nat.reduceAdd] at hf22_0)
           replace p22 := eq_true p22
           replace q22 := eq_true q22
           have HP25 := Kd.R_putg HO_8.out (0 : Int) 0
           go_wp2_with (first | ((with_reducible refine gate_store (t := 2) (p := 39) rfl ?_); refine store_event (t := 2) (p := 39) (v := ?vo_w26) (w1 := (wr.setCell ⟨go22, (0 : Int).toNat, none⟩ (.int .i64 0))) ?hg ?ho ?hn ?hr ?_; (case ho => rfl); (case hg => rfl); (case hn => rfl); (case hr => exact gs); intro w26 hw; have hg : wr.grownBy w26 (some go22) := (by rw [hw]; exact HP25.2); have hp_ : Kd.R (Kd.int .i64) 2 w26 w.heap.size (fun _ => True) (.slice (some ⟨go22, 0, none⟩) x8_1.length co14) y330 := (by rw [hw, Ny330.out]; exact HP25.1); clear HP25; replace HO_9 := am (Kd.R_over' (v := (.slice (some ⟨go22, 0, none⟩) x8_1.length co14)) (kR HO_9) (Kd.R_typed HO_8.out) (by decide) hg); replace BK321 := am (blk_grown (g := gb321) (o := .cells #[.slice (some ad322) l0_0.length c0_0] 30 (0, 0)) (bp BK321) hg (Kd.R_ne HO_8.out BK321.out (by decide))); replace HO_8 := am (hp_); replace HB := am ((by rw [hw]; exact below_set (HB.out) GB22.out : Below w.heap.size w w26)); clear hg hw hp_; have p24 : 0 ≤ (0 : Int) := (by omega); have q24 : (0 : Int) < ((y326.length : Int) : Int) := of_decide_eq_true as1; have qi24 : (0 < y326.length) = True := eq_true (by omega); obtain ⟨go24, co24, eo24, gb24, gl24, cl24, HG24⟩ := Kd.R_form HO_9.out (by omega); (first | cases eo24 | (injection eo24 with ea_ en_ ec_; (first | subst ea_ | (injection ea_ with ea_; subst ea_)); subst ec_; clear en_)); have GB24 := am gb24; have GG24 := am HG24; clear gb24 gl24 HG24; obtain ⟨hx24_0, hf24_0⟩ := Kd.R_celln false HO_9.out (0 : Int) p24 q24; (try rw [show ((0 : Int)).toNat = 0 from rfl] at hx24_0); (try simp only [Nat.reduceMul, Nat.zero_mul, Nat.zero_add, Nat.reduceAdd] at hx24_0); (try rw [show ((0 : Int)).toNat = 0 from rfl] at hf24_0); (try simp only [Nat.reduceMul, Nat.zero_mul, Nat.zero_add, Nat.reduceAdd] at hf24_0); replace p24 := eq_true p24; replace q24 := eq_true q24; obtain ⟨hy27_, hz27_⟩ := Kd.R_celln false HO_9.out (0 : Int) (by omega) (of_decide_eq_true as1); (try simp only [Int.reduceToNat, Int.toNat_zero, Int.toNat_ofNat, Nat.reduceMul, Nat.zero_mul, Nat.zero_add] at hy27_ hz27_); (try rw [show ((0 : Int)).toNat = 0 from rfl] at hy27_); (try rw [show ((0 : Int)).toNat = 0 from rfl] at hz27_); have HP27 := Kd.R_putg HO_9.out (0 : Int) true) | ((with_reducible refine gate_store (t := 4) (p := 41) rfl ?_); refine store_event (t := 4) (p := 41) (v := ?vo_w28) (w1 := (w26.setCell ⟨go24, (0 : Int).toNat, none⟩ (.bool true))) ?hg ?ho ?hn ?hr ?_; (case ho => rfl); (case hg => rfl); (case hn => rfl); (case hr => exact gs); intro w28 hw; have hg : w26.grownBy w28 (some go24) := (by rw [hw]; exact HP27.2); have hp_ : Kd.R Kd.bool 4 w28 w.heap.size (fun _ => True) (.slice (some ⟨go24, 0, none⟩) y326.length co24) y331 := (by rw [hw, Ny331.out]; exact HP27.1); clear HP27; replace HO_8 := am (Kd.R_over' (v := (.slice (some ⟨go24, 0, none⟩) y326.length co24)) (kR HO_8) (Kd.R_typed HO_9.out) (by decide) hg); replace BK321 := am (blk_grown (g := gb321) (o := .cells #[.slice (some ad322) l0_0.length c0_0] 30 (0, 0)) (bp BK321) hg (Kd.R_ne HO_9.out BK321.out (by decide))); replace HO_9 := am (hp_); replace HB := am ((by rw [hw]; exact below_set (HB.out) GB24.out : Below w.heap.size w w28)); clear hg hw hp_))
           go_loopg [11] k1 (fun kq v11 w' => ∃ (x8_2 : List Int) (x9_2 : List Bool) (x11_2 : Int), v11 = .int .i64 x11_2 ∧ Aside0 (impl_heightsOf.l1 kq ((rd_T100 l0_0 a1).f2) x8_2 x9_2 x11_2 l0_0 = some (r1, r2, r3)) ∧ Aside0 (kq ≤ k1) ∧ Aside0 (Kd.R (Kd.int .i64) 2 w' w.heap.size (fun _ => True) (.slice (some ⟨go22, 0, none⟩) x8_1.length co14) x8_2) ∧ Aside0 (Kd.R Kd.bool 4 w' w.heap.size (fun _ => True) (.slice (some ⟨go24, 0, none⟩) y326.length co24) x9_2) ∧ Aside0 (w'.heap[gb321]? = some (.cells #[(.slice (some ad322) l0_0.length c0_0)] 30 (0, 0))) ∧ Aside0 (Below w.heap.size w w'))
           case atStart => exact ⟨(y330), (y331), (0), dr, H', ⟨Nat.le_refl _⟩, ⟨by (try simp only [hl8_1]); exact kR HO_8⟩, ⟨by (try simp only [hl8_1]); exact kR HO_9⟩, ⟨by (try simp only [hl8_1]); exact bp BK321⟩, ⟨bw HB⟩⟩
           case round =>
            clear H'
            (try clear c1); (try clear p1); (try clear q1); (try clear hx1); (try clear c2); (try clear p2); (try clear q2); (try clear hx2); (try clear qi2); (try clear hf2); (try clear c3); (try clear c3b0); (try clear p3); (try clear q3); (try clear hx3); (try clear c4); (try clear c4b0); (try clear c5); (try clear c5b0); (try clear c5b1); (try clear c6); (try clear c6b0); (try clear c6b1); (try clear p6); (try clear c7); (try clear c7b0); (try clear c7b1); (try clear c15); (try clear c15b0); (try clear c16); (try clear c16b0); (try clear c17); (try clear c17b0); (try clear p18); (try clear q18); (try clear hx18); (try clear hf18); (try clear c21); (try clear c21b0); (try clear c21b1); (try clear p22); (try clear q22); (try clear hx22); (try clear qi22); (try clear hf22); (try clear c23); (try clear c23b0); (try clear c23b1); (try clear p24); (try clear q24); (try clear hx24); (try clear qi24); (try clear hf24); (try clear hcz9_0); (try clear hfz9_0); (try clear hx18_0); (try clear hx22_0); (try clear hx24_0); (try clear hx322_0); (try clear hx322_1); (try clear hx322_2); (try clear p18); (try clear p2); (try clear p22); (try clear p24); (try clear p3); (try clear p322); (try clear q18); (try clear q22); (try clear q24); (try clear q3); (try clear q322)
            obtain ⟨x8_2, x9_2, x11_2, rfl, HA, HK2, HO_8, HO_9, BK321, HB⟩ := hrel
            have hl8_2 := (Kd.R_reads' HO_8.out).1
            rw [hl8_2] at HO_8
            (try simp only [hl8_2])
            (try simp only [hl8_2] at BK321)
            (try simp only [hl8_2] at HO_9)
            have hl9_2 := (Kd.R_reads' HO_9.out).1
            rw [hl9_2] at HO_9
            (try simp only [hl9_2])
            (try simp only [hl9_2] at BK321)
            (try simp only [hl9_2] at HO_8)
            cases gk with
            | zero => exact absurd HA.out (by simp [impl_heightsOf.l1])
            | succ k2 =>
             have H := HA.out
             clear HA
             simp only [impl_heightsOf.l1] at H
             by_cases c29 : x11_2 < (((rd_T100 l0_0 a1).f2).length : Int)
             ·rw [if_pos c29] at H
              have c29b0 := decide_eq_true c29
              (try (have c29b0hl8_1 := c29b0; rw [hl8_1] at c29b0hl8_1))
              (try (have c29b0hl8_2 := c29b0; rw [hl8_2] at c29b0hl8_2))
              (try (have c29b0hl9_2 := c29b0; rw [hl9_2] at c29b0hl9_2))
              clear c29
              by_cases c30 : 0 ≤ x11_2
              ·rw [if_pos c30] at H
               have c30b0 := decide_eq_true c30
               clear c30
               by_cases c31 : x11_2 < (x9_2.length : Int)
               ·rw [if_pos c31] at H
                have c31b0 := decide_eq_true c31
                (try (have c31b0hl8_1 := c31b0; rw [hl8_1] at c31b0hl8_1))
                (try (have c31b0hl8_2 := c31b0; rw [hl8_2] at c31b0hl8_2))
                (try (have c31b0hl9_2 := c31b0; rw [hl9_2] at c31b0hl9_2))
                clear c31
                obtain ⟨bq32, hbq32⟩ : ∃ b_ : Bool, b_ = (rdOf false x9_2 x11_2) := ⟨_, rfl⟩
                replace H : (if bq32 = true then ((some (x9_2.set (x11_2 : Int).toNat false : List Bool)).bind fun y333 => (if x11_2 < (x8_2.length : Int) then ((impl_Takes.f k2 l0_0 ((rd_T102 ((rd_T100 l0_0 a1).f2) x11_2).f0) ((rd_T102 ((rd_T100 l0_0 a1).f2) x11_2).f1)).bind fun t337 => (if (wrap64 ((rd x8_2 x11_2) - t337)) < 0 then (impl_heightsOf.j2 k2 ((rd_T100 l0_0 a1).f2) x8_2 y333 x11_2 (wrap64 ((rd x8_2 x11_2) - t337)) true l0_0 ((rd_T102 ((rd_T100 l0_0 a1).f2) x11_2).f0) ((rd_T102 ((rd_T100 l0_0 a1).f2) x11_2).f1)) else ((impl_Puts.f k2 ((rd_T102 ((rd_T100 l0_0 a1).f2) x11_2).f0) ((rd_T102 ((rd_T100 l0_0 a1).f2) x11_2).f1)).bind fun t338 => (impl_heightsOf.j2 k2 ((rd_T100 l0_0 a1).f2) x8_2 y333 x11_2 (wrap64 ((rd x8_2 x11_2) - t337)) (decide ((wrap64 ((wrap64 ((rd x8_2 x11_2) - t337)) + t338)) > 8)) l0_0 ((rd_T102 ((rd_T100 l0_0 a1).f2) x11_2).f0) ((rd_T102 ((rd_T100 l0_0 a1).f2) x11_2).f1))))) else (none))) else (impl_heightsOf.l1 k2 ((rd_T100 l0_0 a1).f2) x8_2 x9_2 (wrap64 (x11_2 + 1)) l0_0)) = some (r1, r2, r3) := by rw [← hbq32] at H; exact H
                have Nbq32 := am hbq32
                clear hbq32
                by_cases c33 : bq32 = true
                ·subst c33
                 have H1 : ((some (x9_2.set (x11_2 : Int).toNat false : List Bool)).bind fun y333 => (if x11_2 < (x8_2.length : Int) then ((impl_Takes.f k2 l0_0 ((rd_T102 ((rd_T100 l0_0 a1).f2) x11_2).f0) ((rd_T102 ((rd_T100 l0_0 a1).f2) x11_2).f1)).bind fun t337 => (if (wrap64 ((rd x8_2 x11_2) - t337)) < 0 then (impl_heightsOf.j2 k2 ((rd_T100 l0_0 a1).f2) x8_2 y333 x11_2 (wrap64 ((rd x8_2 x11_2) - t337)) true l0_0 ((rd_T102 ((rd_T100 l0_0 a1).f2) x11_2).f0) ((rd_T102 ((rd_T100 l0_0 a1).f2) x11_2).f1)) else ((impl_Puts.f k2 ((rd_T102 ((rd_T100 l0_0 a1).f2) x11_2).f0) ((rd_T102 ((rd_T100 l0_0 a1).f2) x11_2).f1)).bind fun t338 => (impl_heightsOf.j2 k2 ((rd_T100 l0_0 a1).f2) x8_2 y333 x11_2 (wrap64 ((rd x8_2 x11_2) - t337)) (decide ((wrap64 ((wrap64 ((rd x8_2 x11_2) - t337)) + t338)) > 8)) l0_0 ((rd_T102 ((rd_T100 l0_0 a1).f2) x11_2).f0) ((rd_T102 ((rd_T100 l0_0 a1).f2) x11_2).f1))))) else (none))) = some (r1, r2, r3) := by rw [if_pos rfl] at H; exact H
                 clear H
                 have H := H1
                 clear H1
                 obtain ⟨y333, hy333⟩ : ∃ y_ : List Bool, y_ = (x9_2.set (x11_2 : Int).toNat false) := ⟨_, rfl⟩
                 replace H : (if x11_2 < (x8_2.length : Int) then ((impl_Takes.f k2 l0_0 ((rd_T102 ((rd_T100 l0_0 a1).f2) x11_2).f0) ((rd_T102 ((rd_T100 l0_0 a1).f2) x11_2).f1)).bind fun t337 => (if (wrap64 ((rd x8_2 x11_2) - t337)) < 0 then (impl_heightsOf.j2 k2 ((rd_T100 l0_0 a1).f2) x8_2 y333 x11_2 (wrap64 ((rd x8_2 x11_2) - t337)) true l0_0 ((rd_T102 ((rd_T100 l0_0 a1).f2) x11_2).f0) ((rd_T102 ((rd_T100 l0_0 a1).f2) x11_2).f1)) else ((impl_Puts.f k2 ((rd_T102 ((rd_T100 l0_0 a1).f2) x11_2).f0) ((rd_T102 ((rd_T100 l0_0 a1).f2) x11_2).f1)).bind fun t338 => (impl_heightsOf.j2 k2 ((rd_T100 l0_0 a1).f2) x8_2 y333 x11_2 (wrap64 ((rd x8_2 x11_2) - t337)) (decide ((wrap64 ((wrap64 ((rd x8_2 x11_2) - t337)) + t338)) > 8)) l0_0 ((rd_T102 ((rd_T100 l0_0 a1).f2) x11_2).f0) ((rd_T102 ((rd_T100 l0_0 a1).f2) x11_2).f1))))) else (none)) = some (r1, r2, r3) := by first | (rw [hy333]; with_reducible exact H) | (have H2_ := (Option.bind_some _ _).symm.trans H; rw [hy333]; with_reducible exact H2_) | (have H2_ := (Option.bind_some _ _).symm.trans H; with_reducible exact H2_) | with_reducible exact H | (rw [hy333]; exact H) | exact H
                 have Ny333 := am hy333
                 clear hy333
                 by_cases c35 : x11_2 < (x8_2.length : Int)
                 ·rw [if_pos c35] at H
                  have c35b0 := decide_eq_true c35
                  (try (have c35b0hl8_1 := c35b0; rw [hl8_1] at c35b0hl8_1))
                  (try (have c35b0hl8_2 := c35b0; rw [hl8_2] at c35b0hl8_2))
                  (try (have c35b0hl9_2 := c35b0; rw [hl9_2] at c35b0hl9_2))
                  clear c35
                  replace H := Option.bind_eq_some_iff.mp H
                  obtain ⟨t337, A360, H⟩ := H
                  replace H : (if (wrap64 ((rd x8_2 x11_2) - t337)) < 0 then (impl_heightsOf.j2 k2 ((rd_T100 l0_0 a1).f2) x8_2 y333 x11_2 (wrap64 ((rd x8_2 x11_2) - t337)) true l0_0 ((rd_T102 ((rd_T100 l0_0 a1).f2) x11_2).f0) ((rd_T102 ((rd_T100 l0_0 a1).f2) x11_2).f1)) else ((impl_Puts.f k2 ((rd_T102 ((rd_T100 l0_0 a1).f2) x11_2).f0) ((rd_T102 ((rd_T100 l0_0 a1).f2) x11_2).f1)).bind fun t338 => (impl_heightsOf.j2 k2 ((rd_T100 l0_0 a1).f2) x8_2 y333 x11_2 (wrap64 ((rd x8_2 x11_2) - t337)) (decide ((wrap64 ((wrap64 ((rd x8_2 x11_2) - t337)) + t338)) > 8)) l0_0 ((rd_T102 ((rd_T100 l0_0 a1).f2) x11_2).f0) ((rd_T102 ((rd_T100 l0_0 a1).f2) x11_2).f1)))) = some (r1, r2, r3) := H
                  have A36 := am A360
                  clear A360
                  have HC37 := am H
                  clear H
                  have p332 : 0 ≤ (x11_2 : Int) := of_decide_eq_true as1
                  have q332 : x11_2 < (x9_2.length : Int) := of_decide_eq_true as1
                  obtain ⟨ad332, e332, hx332_0⟩ := Kd.at_bool (Kd.R_reads' HO_9.out).2.2 x11_2 p332 q332
                  (try rw [← Nbq32.out] at hx332_0)
                  obtain rfl : (⟨go24, 0, none⟩ : Addr) = ad332 := (by injection e332)
                  (first | simp only [add_plain] at hx332_0 | simp only [add_at] at hx332_0 | simp only [Addr.add, Nat.zero_add] at hx332_0 | skip)
                  replace p332 := eq_true p332
                  replace q332 := eq_true q332
                  have p34 : 0 ≤ (x11_2 : Int) := of_decide_eq_true as1
                  have q34 : (x11_2 : Int) < ((x9_2.length : Int) : Int) := of_decide_eq_true as1
                  obtain ⟨hx34_0, hf34_0⟩ := Kd.R_celln false HO_9.out (x11_2 : Int) p34 q34
                  replace p34 := eq_true p34
                  replace q34 := eq_true q34
                  have HP38 := Kd.R_putg HO_9.out (x11_2 : Int) false
                  try go_wp2_with (first | ((with_reducible refine gate_store (t := 4) (p := 55) rfl ?_); refine store_event (t := 4) (p := 55) (v := ?vo_w39) (w1 := (wr.setCell ⟨go24, (x11_2 : Int).toNat, none⟩ (.bool false))) ?hg ?ho ?hn ?hr ?_; (case ho => rfl); (case hg => rfl); (case hn => rfl); (case hr => exact gs); intro w39 hw; have hg : wr.grownBy w39 (some go24) := (by rw [hw]; exact HP38.2); have hp_ : Kd.R Kd.bool 4 w39 w.heap.size (fun _ => True) (.slice (some ⟨go24, 0, none⟩) x9_2.length co24) y333 := (by rw [hw, Ny333.out]; exact HP38.1); clear HP38; replace HO_8 := am (Kd.R_over' (v := (.slice (some ⟨go24, 0, none⟩) x9_2.length co24)) (kR HO_8) (Kd.R_typed HO_9.out) (by decide) hg); replace BK321 := am (blk_grown (g := gb321) (o := .cells #[.slice (some ad322) l0_0.length c0_0] 30 (0, 0)) (bp BK321) hg (Kd.R_ne HO_9.out BK321.out (by decide))); replace HO_9 := am (hp_); replace HB := am ((by rw [hw]; exact below_set (HB.out) GB24.out : Below w.heap.size w w39)); clear hg hw hp_; have p334 : 0 ≤ (x11_2 : Int) := of_decide_eq_true as1; have q334 : x11_2 < (((rd_T100 l0_0 a1).f2).length : Int) := of_decide_eq_true as1; obtain ⟨ad334, e334, hx334_0, hx334_1⟩ := at_T102 HR322_2.out x11_2 p334 q334; cases e334; replace hx334_0 := (HB.out.cell (World.block_lt_of_cell? w _ hx334_0)).trans hx334_0; replace hx334_1 := (HB.out.cell (World.block_lt_of_cell? w _ hx334_1)).trans hx334_1; replace p334 := eq_true p334; replace q334 := eq_true q334) | ((with_reducible refine gate_dst (N := 12) rfl ?_); refine box_event ?hg (N := 12) ?hd (cs := #[.int .i64 0, .int .i64 0]) (t := 102) ?hr ?_; (case hd => rfl); (case hg => rfl); (case hr => exact gs); intro gb335 hg w40 hbox hb; replace HO_8 := am (Kd.R_below (kR HO_8) hb); replace HO_9 := am (Kd.R_below (kR HO_9) hb); have BK335 := am (hbox); have GW335 := am ((by rw [hg]; exact (below_size (bw HB)) : w.heap.size ≤ gb335)); have GE335 := am ((by rw [hg]; exact (below_size (bw HB)) : w.heap.size ≤ gb335)); replace HB := am (below_step (bw HB) hb); have NB321_335 := am ((by rw [hg]; exact Nat.ne_of_lt (blk_lt (g := gb321) (o := .cells #[.slice (some ad322) l0_0.length c0_0] 30 (0, 0)) (bp BK321)) : gb321 ≠ gb335)); have NB335_321 := am ((by rw [hg]; exact Nat.ne_of_gt (blk_lt (g := gb321) (o := .cells #[.slice (some ad322) l0_0.length c0_0] 30 (0, 0)) (bp BK321)) : gb335 ≠ gb321)); replace BK321 := am (blk_below (g := gb321) (o := .cells #[.slice (some ad322) l0_0.length c0_0] 30 (0, 0)) (bp BK321) hb); clear hb hbox hg; have hnb41 := NB335_321.out; have hnc41 := NB321_335.out; have hcz42_0 : w40.cell? ⟨gb335, 0, none⟩ = some (.int .i64 0) := bc BK335 0; have hcz42_1 : w40.cell? ⟨gb335, 1, none⟩ = some (.int .i64 0) := bc BK335 1; have hfz42_0 := bf BK335 0; have hfz42_1 := bf BK335 1))
                  have n0_ : Aside0 (Kd.R (Kd.int .i64) 2 ((w40.setCell ⟨gb335, 0, none⟩ (.int .i64 ((rd_T102 ((rd_T100 l0_0 a1).f2) x11_2).f0))).setCell ⟨gb335, 1, none⟩ (.int .i64 ((rd_T102 ((rd_T100 l0_0 a1).f2) x11_2).f1))) w.heap.size (fun _ => True) (.slice (some ⟨go22, 0, none⟩) x8_2.length co14) x8_2) := ⟨by (with_reducible repeat (first | apply Kd.R_alloc | apply Kd.R_drewN | apply Kd.R_drew)); exact Kd.R_mono (Kd.R_far (p := ⟨gb335, 1, none⟩) (Kd.R_far (p := ⟨gb335, 0, none⟩) (Kd.R_types HO_8.out BK335.out (by decide)) (fun _ hk => hk.2) (.int .i64 ((rd_T102 ((rd_T100 l0_0 a1).f2) x11_2).f0))) (fun _ hk => hk.2) (.int .i64 ((rd_T102 ((rd_T100 l0_0 a1).f2) x11_2).f1))) (fun _ hk => trivial)⟩
                  have n1_ : Aside0 (Kd.R Kd.bool 4 ((w40.setCell ⟨gb335, 0, none⟩ (.int .i64 ((rd_T102 ((rd_T100 l0_0 a1).f2) x11_2).f0))).setCell ⟨gb335, 1, none⟩ (.int .i64 ((rd_T102 ((rd_T100 l0_0 a1).f2) x11_2).f1))) w.heap.size (fun _ => True) (.slice (some ⟨go24, 0, none⟩) x9_2.length co24) y333) := ⟨by (with_reducible repeat (first | apply Kd.R_alloc | apply Kd.R_drewN | apply Kd.R_drew)); exact Kd.R_mono (Kd.R_far (p := ⟨gb335, 1, none⟩) (Kd.R_far (p := ⟨gb335, 0, none⟩) (Kd.R_types HO_9.out BK335.out (by decide)) (fun _ hk => hk.2) (.int .i64 ((rd_T102 ((rd_T100 l0_0 a1).f2) x11_2).f0))) (fun _ hk => hk.2) (.int .i64 ((rd_T102 ((rd_T100 l0_0 a1).f2) x11_2).f1))) (fun _ hk => trivial)⟩
                  have n2_ : Aside0 (((w40.setCell ⟨gb335, 0, none⟩ (.int .i64 ((rd_T102 ((rd_T100 l0_0 a1).f2) x11_2).f0))).setCell ⟨gb335, 1, none⟩ (.int .i64 ((rd_T102 ((rd_T100 l0_0 a1).f2) x11_2).f1))).heap[gb321]? = some (.cells #[.slice (some ad322) l0_0.length c0_0] 30 (0, 0))) := ⟨by (with_reducible repeat (first | apply dN | apply dW | apply dA)); refine blk_far ?_ NB321_335.out _; (with_reducible repeat (first | apply dN | apply dW | apply dA)); refine blk_far ?_ NB321_335.out _; exact bp BK321⟩
                  have n3_ : Aside0 (((w40.setCell ⟨gb335, 0, none⟩ (.int .i64 ((rd_T102 ((rd_T100 l0_0 a1).f2) x11_2).f0))).setCell ⟨gb335, 1, none⟩ (.int .i64 ((rd_T102 ((rd_T100 l0_0 a1).f2) x11_2).f1))).heap[gb335]? = some (.cells #[.int .i64 ((rd_T102 ((rd_T100 l0_0 a1).f2) x11_2).f0), .int .i64 ((rd_T102 ((rd_T100 l0_0 a1).f2) x11_2).f1)] 102 (0, 0))) := ⟨by (with_reducible repeat (first | apply dN | apply dW | apply dA)); refine blk_put (cs := #[.int .i64 ((rd_T102 ((rd_T100 l0_0 a1).f2) x11_2).f0), .int .i64 0]) ?_ 1 _ rfl; (with_reducible repeat (first | apply dN | apply dW | apply dA)); refine blk_put (cs := #[.int .i64 0, .int .i64 0]) ?_ 0 _ rfl; exact bp BK335⟩
                  have n4_ : Aside0 (Below w.heap.size w ((w40.setCell ⟨gb335, 0, none⟩ (.int .i64 ((rd_T102 ((rd_T100 l0_0 a1).f2) x11_2).f0))).setCell ⟨gb335, 1, none⟩ (.int .i64 ((rd_T102 ((rd_T100 l0_0 a1).f2) x11_2).f1)))) := ⟨bw HB⟩
                  (try clear HO_8)
                  (try clear HO_9)
                  (try clear BK321)
                  (try clear BK335)
                  (try clear HB)
                  generalize ((w40.setCell ⟨gb335, 0, none⟩ (.int .i64 ((rd_T102 ((rd_T100 l0_0 a1).f2) x11_2).f0))).setCell ⟨gb335, 1, none⟩ (.int .i64 ((rd_T102 ((rd_T100 l0_0 a1).f2) x11_2).f1))) = w43 at n0_ n1_ n2_ n3_ n4_ ⊢
                  have HO_8 := n0_
                  have HO_9 := n1_
                  have BK321 := n2_
                  have BK335 := n3_
                  have HB := n4_
                  clear n0_ n1_ n2_ n3_ n4_
                  have n0_ := am (Kd.R_drew HO_8.out)
                  have n1_ := am (Kd.R_drew HO_9.out)
                  have n2_ := am (blk_drew BK321.out)
                  have n3_ := am (blk_drew BK335.out)
                  have n4_ := am (below_drew1 HB.out)
                  clear HO_8
                  clear HO_9
                  clear BK321
                  clear BK335
                  clear HB
                  have HO_8 := n0_
                  have HO_9 := n1_
                  have BK321 := n2_
                  have BK335 := n3_
                  have HB := n4_
                  clear n0_ n1_ n2_ n3_ n4_
                  have p336 : 0 ≤ (x11_2 : Int) := of_decide_eq_true as1
                  have q336 : x11_2 < (x8_2.length : Int) := of_decide_eq_true as1
                  obtain ⟨ad336, e336, hx336_0⟩ := Kd.at_int (Kd.R_reads' HO_8.out).2.2 x11_2 p336 q336
                  obtain rfl : (⟨go22, 0, none⟩ : Addr) = ad336 := (by injection e336)
                  (first | simp only [add_plain] at hx336_0 | simp only [add_at] at hx336_0 | simp only [Addr.add, Nat.zero_add] at hx336_0 | skip)
                  replace p336 := eq_true p336
                  replace q336 := eq_true q336
                  refine start_ (n := 9) (S := fun w' => w'.cell? ⟨gb321, 0, none⟩ = some (.slice (some ad322) l0_0.length c0_0) ∧ w'.cell? ⟨gb335, 0, none⟩ = some (.int .i64 ((rd_T102 ((rd_T100 l0_0 a1).f2) x11_2).f0)) ∧ w'.cell? ⟨gb335, 1, none⟩ = some (.int .i64 ((rd_T102 ((rd_T100 l0_0 a1).f2) x11_2).f1)) ∧ w'.cell? ⟨go22, (x11_2).toNat, none⟩ = some (.int .i64 (rd x8_2 x11_2))) (ds := []) #[false, false, false, false, false, false, false, false, false] (by kernel_rfl) rfl rfl ⟨bc BK321 0, bc BK335 0, bc BK335 1, hx336_0⟩ (fun hHeld => ?_); refine with_tabW impl_heightsOf.tab17 impl_heightsOf.bits17 (fun HT_ HW_ => ?_)
                  generalize w43.drew = w44 at HO_8 HO_9 BK321 BK335 HB hx336_0 hHeld ⊢
                  refine pure_ (i := 0) (N := some 60) (v := ?_) (a' := ?_) #[true, false, false, false, false, false, false, false, false] rfl rfl (any_of HT_.out (by kernel_rfl)) (fun _ _ _ h => h) (Or.inl ⟨by rfl, ?_⟩) ?_ ?_
                  rotate_left
                  ·intro w'
                   go_simp
                   with_reducible rfl
                  rotate_left
                  ·simp only [Act.put, sa, sz, ss, i64_w, i32_w]
                   rfl
                  refine pure_ (i := 1) (N := some 61) (v := ?_) (a' := ?_) #[true, true, false, false, false, false, false, false, false] rfl rfl (any_of HT_.out (by kernel_rfl)) (fun _ _ _ h => h) (Or.inl ⟨by rfl, ?_⟩) ?_ ?_
                  rotate_left
                  ·intro w'
                   go_simp
                   with_reducible rfl
                  rotate_left
                  ·simp only [Act.put, sa, sz, ss, i64_w, i32_w]
                   rfl
                  refine pure_ (i := 2) (N := some 62) (v := ?_) (a' := ?_) #[true, true, true, false, false, false, false, false, false] rfl rfl (any_of HT_.out (by kernel_rfl)) (fun _ _ _ h => h) (Or.inl ⟨by rfl, ?_⟩) ?_ ?_
                  rotate_left
                  ·intro w'
                   go_simp
                   with_reducible rfl
                  rotate_left
                  ·simp only [Act.put, sa, sz, ss, i64_w, i32_w]
                   rfl
                  refine take_ (i := 3) (N := some 63) (v := ?_) (a' := ?_) #[true, true, true, true, false, false, false, false, false] rfl rfl (take_ofW HT_.out HW_.out (by kernel_rfl)) (fun _ _ _ h => h) (Or.inl ⟨by rfl, ?_⟩) hHeld ?_ ?_
                  rotate_left
                  ·rintro w' ⟨s0, s1, s2, s3⟩
                   go_simp
                   with_reducible rfl
                  rotate_left
                  ·simp only [Act.put, sa, sz, ss, i64_w, i32_w]
                   rfl
                  refine take_ (i := 4) (N := some 64) (v := ?_) (a' := ?_) #[true, true, true, true, true, false, false, false, false] rfl rfl (take_ofW HT_.out HW_.out (by kernel_rfl)) (fun _ _ _ h => h) (Or.inl ⟨by rfl, ?_⟩) hHeld ?_ ?_
                  rotate_left
                  ·rintro w' ⟨s0, s1, s2, s3⟩
                   go_simp
                   with_reducible rfl
                  rotate_left
                  ·simp only [Act.put, sa, sz, ss, i64_w, i32_w]
                   rfl
                  refine take_ (i := 5) (N := some 65) (v := ?_) (a' := ?_) #[true, true, true, true, true, true, false, false, false] rfl rfl (take_ofW HT_.out HW_.out (by kernel_rfl)) (fun _ _ _ h => h) (Or.inl ⟨by rfl, ?_⟩) hHeld ?_ ?_
                  rotate_left
                  ·rintro w' ⟨s0, s1, s2, s3⟩
                   go_simp
                   with_reducible rfl
                  rotate_left
                  ·simp only [Act.put, sa, sz, ss, i64_w, i32_w]
                   rfl
                  refine one_ (i := 6) (N := some 66) #[true, true, true, true, true, true, true, false, false] rfl rfl (one_of HT_.out (by kernel_rfl)) (by decide) (fun K hK => ?_)
                  refine goes_ Try.func134 (by kernel_rfl) rfl #[.agg #[.slice (some ad322) l0_0.length c0_0], .agg #[.int .i64 ((rd_T102 ((rd_T100 l0_0 a1).f2) x11_2).f0), .int .i64 ((rd_T102 ((rd_T100 l0_0 a1).f2) x11_2).f1)]] (by rfl) rfl rfl gl ?_
                  with_reducible refine (impl_Takes.calls k2 _ _ l0_0 ((rd_T102 ((rd_T100 l0_0 a1).f2) x11_2).f0) ((rd_T102 ((rd_T100 l0_0 a1).f2) x11_2).f1) t337 _ ?side1 ?side2 A36.out).mono ?_
                  (case side1 => exact cc (Kd.C_below HR0_0.out HB.out))
                  (case side2 => exact HC0_0.out)
                  rintro e w45 ⟨rfl, hb⟩
                  have HS3_ := (hb.cell (World.block_lt_of_cell? _ _ (hHeld.2.2.2))).trans (hHeld.2.2.2)
                  refine ⟨_, rfl, ?_⟩
                  have n0_ := am (Kd.R_below (kR HO_8) hb)
                  have n1_ := am (Kd.R_below (kR HO_9) hb)
                  have n2_ := am (blk_below (g := gb321) (o := .cells #[.slice (some ad322) l0_0.length c0_0] 30 (0, 0)) (bp BK321) hb)
                  have n3_ := am (blk_below (g := gb335) (o := .cells #[.int .i64 ((rd_T102 ((rd_T100 l0_0 a1).f2) x11_2).f0), .int .i64 ((rd_T102 ((rd_T100 l0_0 a1).f2) x11_2).f1)] 102 (0, 0)) (bp BK335) hb)
                  have n4_ := am (below_step (bw HB) hb)
                  clear HO_8
                  clear HO_9
                  clear BK321
                  clear BK335
                  clear HB
                  have HO_8 := n0_
                  have HO_9 := n1_
                  have BK321 := n2_
                  have BK335 := n3_
                  have HB := n4_
                  clear n0_ n1_ n2_ n3_ n4_
                  (try clear hb)
                  (try clear hb2)
                  (try clear hk)
                  (try clear hi)
                  refine hK.out _ _ ⟨bc BK321 0, bc BK335 0, bc BK335 1, HS3_⟩ (fun hHeld => ?_)
                  clear hK K
                  refine norm_ (a' := ?_) ?_ ?_
                  rotate_left
                  ·show Act.put _ (some 66) _ = _
                   simp only [Act.put, sa, sz, ss, i64_w, i32_w]
                   rfl
                  refine pure_ (i := 7) (N := some 67) (v := ?_) (a' := ?_) #[true, true, true, true, true, true, true, true, false] rfl rfl (any_of HT_.out (by kernel_rfl)) (fun _ _ _ h => h) (Or.inl ⟨by rfl, ?_⟩) ?_ ?_
                  rotate_left
                  ·intro w'
                   go_simp
                   with_reducible rfl
                  rotate_left
                  ·simp only [Act.put, sa, sz, ss, i64_w, i32_w]
                   rfl
                  refine pure_ (i := 8) (N := some 13) (v := ?_) (a' := ?_) #[true, true, true, true, true, true, true, true, true] rfl rfl (any_of HT_.out (by kernel_rfl)) (fun _ _ _ h => h) (Or.inl ⟨by rfl, ?_⟩) ?_ ?_
                  rotate_left
                  ·intro w'
                   go_simp
                   with_reducible rfl
                  rotate_left
                  ·simp only [Act.put, sa, sz, ss, i64_w, i32_w]
                   rfl
                  refine done_ (done_of HT_.out (by kernel_rfl)) ?_
                  go_upto_region 18 with (fail)
                  go_cut [76] (fun v76 wc => ∃ (kq : Nat) (x76_36 : Bool), v76 = .bool x76_36 ∧ Aside0 (impl_heightsOf.j2 kq ((rd_T100 l0_0 a1).f2) x8_2 y333 x11_2 (wrap64 ((rd x8_2 x11_2) - t337)) x76_36 l0_0 ((rd_T102 ((rd_T100 l0_0 a1).f2) x11_2).f0) ((rd_T102 ((rd_T100 l0_0 a1).f2) x11_2).f1) = some (r1, r2, r3)) ∧ Aside0 (kq ≤ k2) ∧ Aside0 (Kd.R (Kd.int .i64) 2 wc w.heap.size (fun _ => True) (.slice (some ⟨go22, 0, none⟩) x8_2.length co14) x8_2) ∧ Aside0 (Kd.R Kd.bool 4 wc w.heap.size (fun _ => True) (.slice (some ⟨go24, 0, none⟩) x9_2.length co24) y333) ∧ Aside0 (wc.heap[gb321]? = some (.cells #[(.slice (some ad322) l0_0.length c0_0)] 30 (0, 0))) ∧ Aside0 (wc.heap[gb335]? = some (.cells #[.int .i64 ((rd_T102 ((rd_T100 l0_0 a1).f2) x11_2).f0), .int .i64 ((rd_T102 ((rd_T100 l0_0 a1).f2) x11_2).f1)] 102 (0, 0))) ∧ Aside0 (Below w.heap.size w wc))
                  case first =>
                   have H := HC37.out
                   clear HC37
                   by_cases c46 : (wrap64 ((rd x8_2 x11_2) - t337)) < 0
                   ·rw [if_pos c46] at H
                    have c46b0 := decide_eq_true c46
                    clear c46
                    (first | rw [c46b0] | (simp only [i64_w, i32_w]; rw [c46b0]) | skip)
                    have H' := am H
                    clear H
                    go_wp2
                    go_meet
                    case rel => exact ⟨_, (true), dr, H', ⟨by have := HK1.out; have := HK2.out; first | omega | exact Nat.le_refl _⟩, ⟨by (try simp only [hl8_1]); (try simp only [hl8_2]); (try simp only [hl9_2]); exact kR HO_8⟩, ⟨by (try simp only [hl8_1]); (try simp only [hl8_2]); (try simp only [hl9_2]); exact kR HO_9⟩, ⟨by (try simp only [hl8_1]); (try simp only [hl8_2]); (try simp only [hl9_2]); exact bp BK321⟩, ⟨by (try simp only [hl8_1]); (try simp only [hl8_2]); (try simp only [hl9_2]); exact bp BK335⟩, ⟨bw HB⟩⟩
                   ·rw [if_neg c46] at H
                    have c46b0 := decide_eq_false c46
                    clear c46
                    (first | rw [c46b0] | (simp only [i64_w, i32_w]; rw [c46b0]) | skip)
                    replace H := Option.bind_eq_some_iff.mp H
                    obtain ⟨t338, A470, H⟩ := H
                    replace H : (impl_heightsOf.j2 k2 ((rd_T100 l0_0 a1).f2) x8_2 y333 x11_2 (wrap64 ((rd x8_2 x11_2) - t337)) (decide ((wrap64 ((wrap64 ((rd x8_2 x11_2) - t337)) + t338)) > 8)) l0_0 ((rd_T102 ((rd_T100 l0_0 a1).f2) x11_2).f0) ((rd_T102 ((rd_T100 l0_0 a1).f2) x11_2).f1)) = some (r1, r2, r3) := H
                    have A47 := am A470
                    clear A470
                    have H' := am H
                    clear H
                    have hnb48 := NB335_321.out
                    have hnc48 := NB321_335.out
                    have hcz49_0 : w45.cell? ⟨gb335, 0, none⟩ = some (.int .i64 ((rd_T102 ((rd_T100 l0_0 a1).f2) x11_2).f0)) := bc BK335 0
                    have hcz49_1 : w45.cell? ⟨gb335, 1, none⟩ = some (.int .i64 ((rd_T102 ((rd_T100 l0_0 a1).f2) x11_2).f1)) := bc BK335 1
                    have hfz49_0 := bf BK335 0
                    have hfz49_1 := bf BK335 1
                    go_wp2_with (first | (go_at_call 140; (with_reducible refine (impl_Puts.calls k2 ((rd_T102 ((rd_T100 l0_0 a1).f2) x11_2).f0) ((rd_T102 ((rd_T100 l0_0 a1).f2) x11_2).f1) t338 _ A47.out).mono ?_); rintro e w50 ⟨rfl, hb⟩; replace HO_8 := am (Kd.R_below (kR HO_8) hb); replace HO_9 := am (Kd.R_below (kR HO_9) hb); replace BK321 := am (blk_below (g := gb321) (o := .cells #[.slice (some ad322) l0_0.length c0_0] 30 (0, 0)) (bp BK321) hb); replace BK335 := am (blk_below (g := gb335) (o := .cells #[.int .i64 ((rd_T102 ((rd_T100 l0_0 a1).f2) x11_2).f0), .int .i64 ((rd_T102 ((rd_T100 l0_0 a1).f2) x11_2).f1)] 102 (0, 0)) (bp BK335) hb); replace HB := am (below_step (bw HB) hb); (try clear hb); (try clear hb2); (try clear hk); (try clear hi)))
                    go_meet
                    case rel => exact ⟨_, (decide ((wrap64 ((wrap64 ((rd x8_2 x11_2) - t337)) + t338)) > 8)), dr, H', ⟨by have := HK1.out; have := HK2.out; first | omega | exact Nat.le_refl _⟩, ⟨by (try simp only [hl8_1]); (try simp only [hl8_2]); (try simp only [hl9_2]); exact kR HO_8⟩, ⟨by (try simp only [hl8_1]); (try simp only [hl8_2]); (try simp only [hl9_2]); exact kR HO_9⟩, ⟨by (try simp only [hl8_1]); (try simp only [hl8_2]); (try simp only [hl9_2]); exact bp BK321⟩, ⟨by (try simp only [hl8_1]); (try simp only [hl8_2]); (try simp only [hl9_2]); exact bp BK335⟩, ⟨bw HB⟩⟩
                  case rest =>
                   clear HC37
                   (try clear c1); (try clear p1); (try clear q1); (try clear hx1); (try clear c2); (try clear p2); (try clear q2); (try clear hx2); (try clear qi2); (try clear hf2); (try clear c3); (try clear c3b0); (try clear p3); (try clear q3); (try clear hx3); (try clear hf3); (try clear c4); (try clear c4b0); (try clear c5); (try clear c5b0); (try clear c5b1); (try clear c6); (try clear c6b0); (try clear c6b1); (try clear p6); (try clear c7); (try clear c7b0); (try clear c7b1); (try clear c13); (try clear c15); (try clear c15b0); (try clear c16); (try clear c16b0); (try clear c17); (try clear c17b0); (try clear p18); (try clear q18); (try clear hx18); (try clear hf18); (try clear c21); (try clear c21b0); (try clear c21b1); (try clear p22); (try clear q22); (try clear hx22); (try clear qi22); (try clear hf22); (try clear c23); (try clear c23b0); (try clear c23b1); (try clear p24); (try clear q24); (try clear hx24); (try clear qi24); (try clear hf24); (try clear c29); (try clear c29b0); (try clear c30); (try clear c30b0); (try clear c31); (try clear c31b0); (try clear c32); (try clear p32); (try clear q32); (try clear hx32); (try clear c33); (try clear p33); (try clear q33); (try clear hx33); (try clear p34); (try clear q34); (try clear hx34); (try clear hf34); (try clear c35); (try clear c35b0); (try clear c41); (try clear c46); (try clear c46b0); (try clear c48); (try clear hcz42_0); (try clear hcz42_1); (try clear hcz49_0); (try clear hcz49_1); (try clear hcz9_0); (try clear hfz42_0); (try clear hfz42_1); (try clear hfz49_0); (try clear hfz49_1); (try clear hfz9_0); (try clear hx18_0); (try clear hx22_0); (try clear hx24_0); (try clear hx322_0); (try clear hx322_1); (try clear hx322_2); (try clear hx332_0); (try clear hx334_0); (try clear hx334_1); (try clear hx336_0); (try clear hx34_0); (try clear p1); (try clear p18); (try clear p2); (try clear p22); (try clear p24); (try clear p3); (try clear p322); (try clear p332); (try clear p334); (try clear p336); (try clear p34); (try clear p6); (try clear q1); (try clear q18); (try clear q2); (try clear q22); (try clear q24); (try clear q3); (try clear q322); (try clear q332); (try clear q334); (try clear q336); (try clear q34)
                   obtain ⟨kq, x76_36, rfl, HA, HJ36, HO_8, HO_9, BK321, BK335, HB⟩ := hcut
                   have hl9_36 := (Kd.R_reads' HO_9.out).1
                   rw [hl9_36] at HO_9
                   (try simp only [hl9_36])
                   (try simp only [hl9_36] at BK321)
                   (try simp only [hl9_36] at BK335)
                   (try simp only [hl9_36] at HO_8)
                   cases kq with
                   | zero => exact absurd HA.out (by simp [impl_heightsOf.j2])
                   | succ kj36 =>
                    have H := HA.out
                    clear HA
                    simp only [impl_heightsOf.j2] at H
                    by_cases c51 : x76_36 = true
                    ·subst c51
                     have H1 : (some (x8_2, x11_2, 5)) = some (r1, r2, r3) := by rw [if_pos rfl] at H; exact H
                     clear H
                     have H := H1
                     clear H1
                     simp only [Option.some.injEq, Prod.mk.injEq] at H
                     obtain ⟨rfl, rfl, rfl⟩ := H
                     go_wp2
                     go_ret3
                     exact ⟨_, er, kR HO_8, bw HB⟩
                    ·replace c51 := Bool.eq_false_iff.mpr c51
                     subst c51
                     have H1 : ((impl_next.f ((rd_T102 ((rd_T100 l0_0 a1).f2) x11_2).f0) ((rd_T102 ((rd_T100 l0_0 a1).f2) x11_2).f1) x11_2).bind fun t339 => (impl_heightsOf.l2 kj36 ((rd_T100 l0_0 a1).f2) x8_2 y333 x11_2 (wrap64 ((rd x8_2 x11_2) - t337)) x11_2 t339 (t339.length : Int) 0 l0_0 ((rd_T102 ((rd_T100 l0_0 a1).f2) x11_2).f0) ((rd_T102 ((rd_T100 l0_0 a1).f2) x11_2).f1))) = some (r1, r2, r3) := by rw [if_neg (show ¬ (false = true) by decide)] at H; exact H
                     clear H
                     have H := H1
                     clear H1
                     replace H := Option.bind_eq_some_iff.mp H
                     obtain ⟨t339, A520, H⟩ := H
                     replace H : (impl_heightsOf.l2 kj36 ((rd_T100 l0_0 a1).f2) x8_2 y333 x11_2 (wrap64 ((rd x8_2 x11_2) - t337)) x11_2 t339 (t339.length : Int) 0 l0_0 ((rd_T102 ((rd_T100 l0_0 a1).f2) x11_2).f0) ((rd_T102 ((rd_T100 l0_0 a1).f2) x11_2).f1)) = some (r1, r2, r3) := H
                     have A52 := am A520
                     clear A520
                     have H' := am H
                     clear H
                     have hnb53 := NB335_321.out
                     have hnc53 := NB321_335.out
                     have hcz54_0 : wc.cell? ⟨gb335, 0, none⟩ = some (.int .i64 ((rd_T102 ((rd_T100 l0_0 a1).f2) x11_2).f0)) := bc BK335 0
                     have hcz54_1 : wc.cell? ⟨gb335, 1, none⟩ = some (.int .i64 ((rd_T102 ((rd_T100 l0_0 a1).f2) x11_2).f1)) := bc BK335 1
                     have hfz54_0 := bf BK335 0
                     have hfz54_1 := bf BK335 1
                     go_wp2_with (first | ((with_reducible refine gate_callee (f := 147) rfl ?_); refine goesL_ (some 82) rfl rfl Try.func147 (by kernel_rfl) rfl #[.agg #[.int .i64 ((rd_T102 ((rd_T100 l0_0 a1).f2) x11_2).f0), .int .i64 ((rd_T102 ((rd_T100 l0_0 a1).f2) x11_2).f1)], .int .i64 x11_2] rfl gl ?_; (with_reducible refine (impl_next.calls ((rd_T102 ((rd_T100 l0_0 a1).f2) x11_2).f0) ((rd_T102 ((rd_T100 l0_0 a1).f2) x11_2).f1) x11_2 t339 _ A52.out).mono ?_); rintro e w55 ⟨v340, rfl, ho0, hb⟩; refine ⟨_, rfl, ?_⟩; replace HO_9 := am (Kd.R_below (kR HO_9) hb); have HO341 := am (Kd.R_lower (Kd.R_new' ho0 (Kd.R_lt (kR HO_8))) (below_size (bw HB))); replace HO_8 := am (Kd.R_elder' (kR HO_8) (Kd.R_base ho0) hb); replace BK321 := am (blk_below (g := gb321) (o := .cells #[.slice (some ad322) l0_0.length c0_0] 30 (0, 0)) (bp BK321) hb); replace BK335 := am (blk_below (g := gb335) (o := .cells #[.int .i64 ((rd_T102 ((rd_T100 l0_0 a1).f2) x11_2).f0), .int .i64 ((rd_T102 ((rd_T100 l0_0 a1).f2) x11_2).f1)] 102 (0, 0)) (bp BK335) hb); replace HB := am (below_step (bw HB) hb); (try clear hb); (try clear hb2); (try clear hk); (try clear hi); (try clear ho0); obtain ⟨Ao56, co56, eo56⟩ := Kd.R_slice HO341.out; subst eo56))
                     go_loopg [14, 84] kj36 (fun kq v14 v84 w' => ∃ (x8_4 : List Int) (x9_4 : List Bool) (x14_4 : Int) (x84_4 : Int), v14 = .int .i64 x14_4 ∧ v84 = .int .i64 x84_4 ∧ Aside0 (impl_heightsOf.l2 kq ((rd_T100 l0_0 a1).f2) x8_4 x9_4 x11_2 (wrap64 ((rd x8_2 x11_2) - t337)) x14_4 t339 (t339.length : Int) x84_4 l0_0 ((rd_T102 ((rd_T100 l0_0 a1).f2) x11_2).f0) ((rd_T102 ((rd_T100 l0_0 a1).f2) x11_2).f1) = some (r1, r2, r3)) ∧ Aside0 (kq ≤ kj36) ∧ Aside0 (Kd.R (Kd.int .i64) 2 w' w.heap.size (fun k_ => some k_ ≠ ((.slice Ao56 t339.length co56) : Value).ownBlock) (.slice (some ⟨go22, 0, none⟩) x8_2.length co14) x8_4) ∧ Aside0 (Kd.R Kd.bool 4 w' w.heap.size (fun _ => True) (.slice (some ⟨go24, 0, none⟩) y333.length co24) x9_4) ∧ Aside0 (Kd.R (Kd.int .i64) 2 w' w.heap.size (fun k_ => some k_ ≠ ((.slice (some ⟨go22, 0, none⟩) x8_2.length co14) : Value).ownBlock) (.slice Ao56 t339.length co56) t339) ∧ Aside0 (w'.heap[gb321]? = some (.cells #[(.slice (some ad322) l0_0.length c0_0)] 30 (0, 0))) ∧ Aside0 (w'.heap[gb335]? = some (.cells #[.int .i64 ((rd_T102 ((rd_T100 l0_0 a1).f2) x11_2).f0), .int .i64 ((rd_T102 ((rd_T100 l0_0 a1).f2) x11_2).f1)] 102 (0, 0))) ∧ Aside0 (Below w.heap.size w w'))
                     case atStart => exact ⟨(x8_2), (y333), (x11_2), (0), dr, dr, H', ⟨Nat.le_refl _⟩, ⟨by (try simp only [hl8_1]); (try simp only [hl8_2]); (try simp only [hl9_2]); (try simp only [hl9_36]); (with_reducible repeat (first | apply Kd.R_alloc | apply Kd.R_drewN | apply Kd.R_drew)); exact Kd.R_mono HO_8.out (fun _ hk => hk.2)⟩, ⟨by (try simp only [hl8_1]); (try simp only [hl8_2]); (try simp only [hl9_2]); (try simp only [hl9_36]); exact kR HO_9⟩, ⟨by (try simp only [hl8_1]); (try simp only [hl8_2]); (try simp only [hl9_2]); (try simp only [hl9_36]); (with_reducible repeat (first | apply Kd.R_alloc | apply Kd.R_drewN | apply Kd.R_drew)); exact Kd.R_mono HO341.out (fun _ hk => hk.2)⟩, ⟨by (try simp only [hl8_1]); (try simp only [hl8_2]); (try simp only [hl9_2]); (try simp only [hl9_36]); exact bp BK321⟩, ⟨by (try simp only [hl8_1]); (try simp only [hl8_2]); (try simp only [hl9_2]); (try simp only [hl9_36]); exact bp BK335⟩, ⟨bw HB⟩⟩
                     case round =>
                      clear H'
                      (try clear c1); (try clear p1); (try clear q1); (try clear hx1); (try clear c2); (try clear p2); (try clear q2); (try clear hx2); (try clear qi2); (try clear hf2); (try clear c3); (try clear c3b0); (try clear p3); (try clear q3); (try clear hx3); (try clear hf3); (try clear c4); (try clear c4b0); (try clear c5); (try clear c5b0); (try clear c5b1); (try clear c6); (try clear c6b0); (try clear c6b1); (try clear p6); (try clear c7); (try clear c7b0); (try clear c7b1); (try clear c13); (try clear c14); (try clear c15); (try clear c15b0); (try clear c16); (try clear c16b0); (try clear c17); (try clear c17b0); (try clear p18); (try clear q18); (try clear hx18); (try clear hf18); (try clear c21); (try clear c21b0); (try clear c21b1); (try clear p22); (try clear q22); (try clear hx22); (try clear qi22); (try clear hf22); (try clear c23); (try clear c23b0); (try clear c23b1); (try clear p24); (try clear q24); (try clear hx24); (try clear qi24); (try clear hf24); (try clear c29); (try clear c29b0); (try clear c30); (try clear c30b0); (try clear c31); (try clear c31b0); (try clear c32); (try clear p32); (try clear q32); (try clear hx32); (try clear c33); (try clear p33); (try clear q33); (try clear hx33); (try clear p34); (try clear q34); (try clear hx34); (try clear hf34); (try clear c35); (try clear c35b0); (try clear c41); (try clear c46); (try clear c46b0); (try clear c48); (try clear c51); (try clear c53); (try clear hcz42_0); (try clear hcz42_1); (try clear hcz49_0); (try clear hcz49_1); (try clear hcz54_0); (try clear hcz54_1); (try clear hcz9_0); (try clear hfz42_0); (try clear hfz42_1); (try clear hfz49_0); (try clear hfz49_1); (try clear hfz54_0); (try clear hfz54_1); (try clear hfz9_0); (try clear hx18_0); (try clear hx22_0); (try clear hx24_0); (try clear hx322_0); (try clear hx322_1); (try clear hx322_2); (try clear hx332_0); (try clear hx334_0); (try clear hx334_1); (try clear hx336_0); (try clear hx34_0); (try clear p1); (try clear p18); (try clear p2); (try clear p22); (try clear p24); (try clear p3); (try clear p32); (try clear p322); (try clear p33); (try clear p332); (try clear p334); (try clear p336); (try clear p34); (try clear p6); (try clear q1); (try clear q18); (try clear q2); (try clear q22); (try clear q24); (try clear q3); (try clear q32); (try clear q322); (try clear q33); (try clear q332); (try clear q334); (try clear q336); (try clear q34)
                      obtain ⟨x8_4, x9_4, x14_4, x84_4, rfl, rfl, HA, HK4, HO_8, HO_9, HO_82, BK321, BK335, HB⟩ := hrel
                      have hl8_4 := (Kd.R_reads' HO_8.out).1
                      rw [hl8_4] at HO_8
                      (try simp only [hl8_4])
                      (try simp only [hl8_4] at BK321)
                      (try simp only [hl8_4] at BK335)
                      (try simp only [hl8_4] at HO_9)
                      (try simp only [hl8_4] at HO_82)
                      have hl9_4 := (Kd.R_reads' HO_9.out).1
                      rw [hl9_4] at HO_9
                      (try simp only [hl9_4])
                      (try simp only [hl9_4] at BK321)
                      (try simp only [hl9_4] at BK335)
                      (try simp only [hl9_4] at HO_8)
                      (try simp only [hl9_4] at HO_82)
                      cases gk with
                      | zero => exact absurd HA.out (by simp [impl_heightsOf.l2])
                      | succ k4 =>
                       have H := HA.out
                       clear HA
                       simp only [impl_heightsOf.l2] at H
                       by_cases c57 : x84_4 < (t339.length : Int)
                       ·rw [if_pos c57] at H
                        have c57b0 := decide_eq_true c57
                        (try (have c57b0hl8_1 := c57b0; rw [hl8_1] at c57b0hl8_1))
                        (try (have c57b0hl8_2 := c57b0; rw [hl8_2] at c57b0hl8_2))
                        (try (have c57b0hl9_2 := c57b0; rw [hl9_2] at c57b0hl9_2))
                        (try (have c57b0hl9_36 := c57b0; rw [hl9_36] at c57b0hl9_36))
                        (try (have c57b0hl8_4 := c57b0; rw [hl8_4] at c57b0hl8_4))
                        (try (have c57b0hl9_4 := c57b0; rw [hl9_4] at c57b0hl9_4))
                        clear c57
                        by_cases c58 : 0 ≤ x84_4
                        ·rw [if_pos c58] at H
                         have c58b0 := decide_eq_true c58
                         clear c58
                         by_cases c59 : x84_4 < (t339.length : Int)
                         ·rw [if_pos c59] at H
                          have c59b0 := decide_eq_true c59
                          (try (have c59b0hl8_1 := c59b0; rw [hl8_1] at c59b0hl8_1))
                          (try (have c59b0hl8_2 := c59b0; rw [hl8_2] at c59b0hl8_2))
                          (try (have c59b0hl9_2 := c59b0; rw [hl9_2] at c59b0hl9_2))
                          (try (have c59b0hl9_36 := c59b0; rw [hl9_36] at c59b0hl9_36))
                          (try (have c59b0hl8_4 := c59b0; rw [hl8_4] at c59b0hl8_4))
                          (try (have c59b0hl9_4 := c59b0; rw [hl9_4] at c59b0hl9_4))
                          clear c59
                          by_cases c60 : (rd t339 x84_4) = (((rd_T100 l0_0 a1).f2).length : Int)
                          ·rw [if_pos c60] at H
                           have c60b0 : ((rd t339 x84_4) == (((rd_T100 l0_0 a1).f2).length : Int)) = true := beq_iff_eq.mpr c60
                           have c60b1 : ((rd t339 x84_4) != (((rd_T100 l0_0 a1).f2).length : Int)) = false := bne_eq_false_iff_eq.mpr c60
                           (try (have c60b0hl8_1 := c60b0; rw [hl8_1] at c60b0hl8_1))
                           (try (have c60b0hl8_2 := c60b0; rw [hl8_2] at c60b0hl8_2))
                           (try (have c60b0hl9_2 := c60b0; rw [hl9_2] at c60b0hl9_2))
                           (try (have c60b0hl9_36 := c60b0; rw [hl9_36] at c60b0hl9_36))
                           (try (have c60b0hl8_4 := c60b0; rw [hl8_4] at c60b0hl8_4))
                           (try (have c60b0hl9_4 := c60b0; rw [hl9_4] at c60b0hl9_4))
                           (try (have c60b1hl8_1 := c60b1; rw [hl8_1] at c60b1hl8_1))
                           (try (have c60b1hl8_2 := c60b1; rw [hl8_2] at c60b1hl8_2))
                           (try (have c60b1hl9_2 := c60b1; rw [hl9_2] at c60b1hl9_2))
                           (try (have c60b1hl9_36 := c60b1; rw [hl9_36] at c60b1hl9_36))
                           (try (have c60b1hl8_4 := c60b1; rw [hl8_4] at c60b1hl8_4))
                           (try (have c60b1hl9_4 := c60b1; rw [hl9_4] at c60b1hl9_4))
                           clear c60
                           simp only [Option.some.injEq, Prod.mk.injEq] at H
                           obtain ⟨rfl, rfl, rfl⟩ := H
                           have p342 : 0 ≤ (x84_4 : Int) := of_decide_eq_true as1
                           have q342 : x84_4 < (t339.length : Int) := of_decide_eq_true as1
                           obtain ⟨ad342, e342, hx342_0⟩ := Kd.at_int (Kd.R_reads' HO_82.out).2.2 x84_4 p342 q342
                           cases e342
                           replace p342 := eq_true p342
                           replace q342 := eq_true q342
                           go_wp2
                           go_ret3
                           exact ⟨_, er, by (with_reducible repeat (first | apply Kd.R_alloc | apply Kd.R_drewN | apply Kd.R_drew)); exact Kd.R_mono HO_8.out (fun _ hk => trivial), bw HB⟩
                          ·rw [if_neg c60] at H
                           have c60b0 : ((rd t339 x84_4) == (((rd_T100 l0_0 a1).f2).length : Int)) = false := beq_eq_false_iff_ne.mpr c60
                           have c60b1 : ((rd t339 x84_4) != (((rd_T100 l0_0 a1).f2).length : Int)) = true := bne_iff_ne.mpr c60
                           (try (have c60b0hl8_1 := c60b0; rw [hl8_1] at c60b0hl8_1))
                           (try (have c60b0hl8_2 := c60b0; rw [hl8_2] at c60b0hl8_2))
                           (try (have c60b0hl9_2 := c60b0; rw [hl9_2] at c60b0hl9_2))
                           (try (have c60b0hl9_36 := c60b0; rw [hl9_36] at c60b0hl9_36))
                           (try (have c60b0hl8_4 := c60b0; rw [hl8_4] at c60b0hl8_4))
                           (try (have c60b0hl9_4 := c60b0; rw [hl9_4] at c60b0hl9_4))
                           (try (have c60b1hl8_1 := c60b1; rw [hl8_1] at c60b1hl8_1))
                           (try (have c60b1hl8_2 := c60b1; rw [hl8_2] at c60b1hl8_2))
                           (try (have c60b1hl9_2 := c60b1; rw [hl9_2] at c60b1hl9_2))
                           (try (have c60b1hl9_36 := c60b1; rw [hl9_36] at c60b1hl9_36))
                           (try (have c60b1hl8_4 := c60b1; rw [hl8_4] at c60b1hl8_4))
                           (try (have c60b1hl9_4 := c60b1; rw [hl9_4] at c60b1hl9_4))
                           have HC61 := am H
                           clear H
                           have p342 : 0 ≤ (x84_4 : Int) := of_decide_eq_true as1
                           have q342 : x84_4 < (t339.length : Int) := of_decide_eq_true as1
                           obtain ⟨ad342, e342, hx342_0⟩ := Kd.at_int (Kd.R_reads' HO_82.out).2.2 x84_4 p342 q342
                           cases e342
                           replace p342 := eq_true p342
                           replace q342 := eq_true q342
                           go_upto_region 26 with (fail)
                           go_cut [109] (fun v109 wc => ∃ (kq : Nat) (x109_60 : Bool), v109 = .bool x109_60 ∧ Aside0 (impl_heightsOf.j4 kq ((rd_T100 l0_0 a1).f2) x8_4 x9_4 x11_2 (wrap64 ((rd x8_2 x11_2) - t337)) x14_4 (rd t339 x84_4) t339 (t339.length : Int) x84_4 x109_60 l0_0 ((rd_T102 ((rd_T100 l0_0 a1).f2) x11_2).f0) ((rd_T102 ((rd_T100 l0_0 a1).f2) x11_2).f1) = some (r1, r2, r3)) ∧ Aside0 (kq ≤ k4) ∧ Aside0 (Kd.R (Kd.int .i64) 2 wc w.heap.size (fun k_ => some k_ ≠ ((.slice (some ad342) t339.length co56) : Value).ownBlock) (.slice (some ⟨go22, 0, none⟩) x8_4.length co14) x8_4) ∧ Aside0 (Kd.R Kd.bool 4 wc w.heap.size (fun _ => True) (.slice (some ⟨go24, 0, none⟩) x9_4.length co24) x9_4) ∧ Aside0 (Kd.R (Kd.int .i64) 2 wc w.heap.size (fun k_ => some k_ ≠ ((.slice (some ⟨go22, 0, none⟩) x8_4.length co14) : Value).ownBlock) (.slice (some ad342) t339.length co56) t339) ∧ Aside0 (wc.heap[gb321]? = some (.cells #[(.slice (some ad322) l0_0.length c0_0)] 30 (0, 0))) ∧ Aside0 (wc.heap[gb335]? = some (.cells #[.int .i64 ((rd_T102 ((rd_T100 l0_0 a1).f2) x11_2).f0), .int .i64 ((rd_T102 ((rd_T100 l0_0 a1).f2) x11_2).f1)] 102 (0, 0))) ∧ Aside0 (Below w.heap.size w wc))
                           case first =>
                            have H := HC61.out
                            clear HC61
                            by_cases c62 : 0 ≤ (rd t339 x84_4)
                            ·rw [if_pos c62] at H
                             have c62b0 := decide_eq_true c62
                             clear c62
                             (first | rw [c62b0] | (simp only [i64_w, i32_w]; rw [c62b0]) | skip)
                             by_cases c63 : (rd t339 x84_4) < (x8_4.length : Int)
                             ·rw [if_pos c63] at H
                              have c63b0 := decide_eq_true c63
                              (try (have c63b0hl8_1 := c63b0; rw [hl8_1] at c63b0hl8_1))
                              (try (have c63b0hl8_2 := c63b0; rw [hl8_2] at c63b0hl8_2))
                              (try (have c63b0hl9_2 := c63b0; rw [hl9_2] at c63b0hl9_2))
                              (try (have c63b0hl9_36 := c63b0; rw [hl9_36] at c63b0hl9_36))
                              (try (have c63b0hl8_4 := c63b0; rw [hl8_4] at c63b0hl8_4))
                              (try (have c63b0hl9_4 := c63b0; rw [hl9_4] at c63b0hl9_4))
                              clear c63
                              by_cases c64 : (rd x8_4 (rd t339 x84_4)) ≥ 0
                              ·rw [if_pos c64] at H
                               have c64b0 : decide (0 ≤ (rd x8_4 (rd t339 x84_4))) = true := decide_eq_true c64
                               clear c64
                               replace H := Option.bind_eq_some_iff.mp H
                               obtain ⟨t345, A650, H⟩ := H
                               replace H : (impl_heightsOf.j4 k4 ((rd_T100 l0_0 a1).f2) x8_4 x9_4 x11_2 (wrap64 ((rd x8_2 x11_2) - t337)) x14_4 (rd t339 x84_4) t339 (t339.length : Int) x84_4 ((rd x8_4 (rd t339 x84_4)) != (wrap64 ((wrap64 ((rd x8_2 x11_2) - t337)) + t345))) l0_0 ((rd_T102 ((rd_T100 l0_0 a1).f2) x11_2).f0) ((rd_T102 ((rd_T100 l0_0 a1).f2) x11_2).f1)) = some (r1, r2, r3) := H
                               have A65 := am A650
                               clear A650
                               have H' := am H
                               clear H
                               try go_wp2
                               have n0_ := am (Kd.R_drew HO_8.out)
                               have n1_ := am (Kd.R_drew HO_9.out)
                               have n2_ := am (Kd.R_drew HO_82.out)
                               have n3_ := am (blk_drew BK321.out)
                               have n4_ := am (blk_drew BK335.out)
                               have n5_ := am (below_drew1 HB.out)
                               clear HO_8
                               clear HO_9
                               clear HO_82
                               clear BK321
                               clear BK335
                               clear HB
                               have HO_8 := n0_
                               have HO_9 := n1_
                               have HO_82 := n2_
                               have BK321 := n3_
                               have BK335 := n4_
                               have HB := n5_
                               clear n0_ n1_ n2_ n3_ n4_ n5_
                               have p343 : 0 ≤ ((rd t339 x84_4) : Int) := of_decide_eq_true as1
                               have q343 : (rd t339 x84_4) < (x8_4.length : Int) := of_decide_eq_true as1
                               obtain ⟨ad343, e343, hx343_0⟩ := Kd.at_int (Kd.R_reads' HO_8.out).2.2 (rd t339 x84_4) p343 q343
                               obtain rfl : (⟨go22, 0, none⟩ : Addr) = ad343 := (by injection e343)
                               (first | simp only [add_plain] at hx343_0 | simp only [add_at] at hx343_0 | simp only [Addr.add, Nat.zero_add] at hx343_0 | skip)
                               replace p343 := eq_true p343
                               replace q343 := eq_true q343
                               have p344 : 0 ≤ ((rd t339 x84_4) : Int) := of_decide_eq_true as1
                               have q344 : (rd t339 x84_4) < (x8_4.length : Int) := of_decide_eq_true as1
                               obtain ⟨ad344, e344, hx344_0⟩ := Kd.at_int (Kd.R_reads' HO_8.out).2.2 (rd t339 x84_4) p344 q344
                               obtain rfl : (⟨go22, 0, none⟩ : Addr) = ad344 := (by injection e344)
                               (first | simp only [add_plain] at hx344_0 | simp only [add_at] at hx344_0 | simp only [Addr.add, Nat.zero_add] at hx344_0 | skip)
                               replace p344 := eq_true p344
                               replace q344 := eq_true q344
                               refine start_ (n := 16) (S := fun w' => w'.cell? ⟨gb335, 0, none⟩ = some (.int .i64 ((rd_T102 ((rd_T100 l0_0 a1).f2) x11_2).f0)) ∧ w'.cell? ⟨gb335, 1, none⟩ = some (.int .i64 ((rd_T102 ((rd_T100 l0_0 a1).f2) x11_2).f1)) ∧ w'.cell? ⟨go22, ((rd t339 x84_4)).toNat, none⟩ = some (.int .i64 (rd x8_4 (rd t339 x84_4))) ∧ w'.cell? ⟨go22, ((rd t339 x84_4)).toNat, none⟩ = some (.int .i64 (rd x8_4 (rd t339 x84_4)))) (ds := []) #[false, false, false, false, false, false, false, false, false, false, false, false, false, false, false, false] (by kernel_rfl) rfl rfl ⟨bc BK335 0, bc BK335 1, hx343_0, hx344_0⟩ (fun hHeld => ?_); refine with_tabW impl_heightsOf.tab26 impl_heightsOf.bits26 (fun HT_ HW_ => ?_)
                               generalize wr.drew = w66 at HO_8 HO_9 HO_82 BK321 BK335 HB hx343_0 hx344_0 hHeld ⊢
                               refine pure_ (i := 0) (N := some 94) (v := ?_) (a' := ?_) #[true, false, false, false, false, false, false, false, false, false, false, false, false, false, false, false] rfl rfl (any_of HT_.out (by kernel_rfl)) (fun _ _ _ h => h) (Or.inl ⟨by rfl, ?_⟩) ?_ ?_
                               rotate_left
                               ·intro w'
                                go_simp
                                with_reducible rfl
                               rotate_left
                               ·simp only [Act.put, sa, sz, ss, i64_w, i32_w]
                                rfl
                               refine pure_ (i := 1) (N := some 95) (v := ?_) (a' := ?_) #[true, true, false, false, false, false, false, false, false, false, false, false, false, false, false, false] rfl rfl (any_of HT_.out (by kernel_rfl)) (fun _ _ _ h => h) (Or.inl ⟨by rfl, ?_⟩) ?_ ?_
                               rotate_left
                               ·intro w'
                                go_simp
                                with_reducible rfl
                               rotate_left
                               ·simp only [Act.put, sa, sz, ss, i64_w, i32_w]
                                rfl
                               refine pure_ (i := 2) (N := some 96) (v := ?_) (a' := ?_) #[true, true, true, false, false, false, false, false, false, false, false, false, false, false, false, false] rfl rfl (any_of HT_.out (by kernel_rfl)) (fun _ _ _ h => h) (Or.inl ⟨by rfl, ?_⟩) ?_ ?_
                               rotate_left
                               ·intro w'
                                go_simp
                                with_reducible rfl
                               rotate_left
                               ·simp only [Act.put, sa, sz, ss, i64_w, i32_w]
                                rfl
                               refine take_ (i := 3) (N := some 97) (v := ?_) (a' := ?_) #[true, true, true, true, false, false, false, false, false, false, false, false, false, false, false, false] rfl rfl (take_ofW HT_.out HW_.out (by kernel_rfl)) (fun _ _ _ h => h) (Or.inl ⟨by rfl, ?_⟩) hHeld ?_ ?_
                               rotate_left
                               ·rintro w' ⟨s0, s1, s2, s3⟩
                                go_simp
                                with_reducible rfl
                               rotate_left
                               ·simp only [Act.put, sa, sz, ss, i64_w, i32_w]
                                rfl
                               refine pure_ (i := 4) (N := some 98) (v := ?_) (a' := ?_) #[true, true, true, true, true, false, false, false, false, false, false, false, false, false, false, false] rfl rfl (any_of HT_.out (by kernel_rfl)) (fun _ _ _ h => h) (Or.inl ⟨by rfl, ?_⟩) ?_ ?_
                               rotate_left
                               ·intro w'
                                go_simp
                                with_reducible rfl
                               rotate_left
                               ·simp only [Act.put, sa, sz, ss, i64_w, i32_w]
                                rfl
                               refine pure_ (i := 5) (N := some 99) (v := ?_) (a' := ?_) #[true, true, true, true, true, true, false, false, false, false, false, false, false, false, false, false] rfl rfl (any_of HT_.out (by kernel_rfl)) (fun _ _ _ h => h) (Or.inl ⟨by rfl, ?_⟩) ?_ ?_
                               rotate_left
                               ·intro w'
                                go_simp
                                with_reducible rfl
                               rotate_left
                               ·simp only [Act.put, sa, sz, ss, i64_w, i32_w]
                                rfl
                               refine pure_ (i := 6) (N := some 100) (v := ?_) (a' := ?_) #[true, true, true, true, true, true, true, false, false, false, false, false, false, false, false, false] rfl rfl (any_of HT_.out (by kernel_rfl)) (fun _ _ _ h => h) (Or.inl ⟨by rfl, ?_⟩) ?_ ?_
                               rotate_left
                               ·intro w'
                                go_simp
                                with_reducible rfl
                               rotate_left
                               ·simp only [Act.put, sa, sz, ss, i64_w, i32_w]
                                rfl
                               refine pure_ (i := 7) (N := some 101) (v := ?_) (a' := ?_) #[true, true, true, true, true, true, true, true, false, false, false, false, false, false, false, false] rfl rfl (any_of HT_.out (by kernel_rfl)) (fun _ _ _ h => h) (Or.inl ⟨by rfl, ?_⟩) ?_ ?_
                               rotate_left
                               ·intro w'
                                go_simp
                                with_reducible rfl
                               rotate_left
                               ·simp only [Act.put, sa, sz, ss, i64_w, i32_w]
                                rfl
                               refine pure_ (i := 8) (N := some 102) (v := ?_) (a' := ?_) #[true, true, true, true, true, true, true, true, true, false, false, false, false, false, false, false] rfl rfl (any_of HT_.out (by kernel_rfl)) (fun _ _ _ h => h) (Or.inl ⟨by rfl, ?_⟩) ?_ ?_
                               rotate_left
                               ·intro w'
                                go_simp
                                with_reducible rfl
                               rotate_left
                               ·simp only [Act.put, sa, sz, ss, i64_w, i32_w]
                                rfl
                               refine pure_ (i := 10) (N := some 104) (v := ?_) (a' := ?_) #[true, true, true, true, true, true, true, true, true, false, true, false, false, false, false, false] rfl rfl (any_of HT_.out (by kernel_rfl)) (fun _ _ _ h => h) (Or.inl ⟨by rfl, ?_⟩) ?_ ?_
                               rotate_left
                               ·intro w'
                                go_simp
                                with_reducible rfl
                               rotate_left
                               ·simp only [Act.put, sa, sz, ss, i64_w, i32_w]
                                rfl
                               refine take_ (i := 9) (N := some 103) (v := ?_) (a' := ?_) #[true, true, true, true, true, true, true, true, true, true, true, false, false, false, false, false] rfl rfl (take_ofW HT_.out HW_.out (by kernel_rfl)) (fun _ _ _ h => h) (Or.inl ⟨by rfl, ?_⟩) hHeld ?_ ?_
                               rotate_left
                               ·rintro w' ⟨s0, s1, s2, s3⟩
                                go_simp
                                with_reducible rfl
                               rotate_left
                               ·simp only [Act.put, sa, sz, ss, i64_w, i32_w]
                                rfl
                               refine take_ (i := 11) (N := some 105) (v := ?_) (a' := ?_) #[true, true, true, true, true, true, true, true, true, true, true, true, false, false, false, false] rfl rfl (take_ofW HT_.out HW_.out (by kernel_rfl)) (fun _ _ _ h => h) (Or.inl ⟨by rfl, ?_⟩) hHeld ?_ ?_
                               rotate_left
                               ·rintro w' ⟨s0, s1, s2, s3⟩
                                go_simp
                                with_reducible rfl
                               rotate_left
                               ·simp only [Act.put, sa, sz, ss, i64_w, i32_w]
                                rfl
                               refine one_ (i := 12) (N := some 106) #[true, true, true, true, true, true, true, true, true, true, true, true, true, false, false, false] rfl rfl (one_of HT_.out (by kernel_rfl)) (by decide) (fun K hK => ?_)
                               refine goes_ Try.func140 (by kernel_rfl) rfl #[.agg #[.int .i64 ((rd_T102 ((rd_T100 l0_0 a1).f2) x11_2).f0), .int .i64 ((rd_T102 ((rd_T100 l0_0 a1).f2) x11_2).f1)]] (by rfl) rfl rfl gl ?_
                               with_reducible refine (impl_Puts.calls k4 ((rd_T102 ((rd_T100 l0_0 a1).f2) x11_2).f0) ((rd_T102 ((rd_T100 l0_0 a1).f2) x11_2).f1) t345 _ A65.out).mono ?_
                               rintro e w67 ⟨rfl, hb⟩
                               have HS2_ := (hb.cell (World.block_lt_of_cell? _ _ (hHeld.2.2.1))).trans (hHeld.2.2.1)
                               have HS3_ := (hb.cell (World.block_lt_of_cell? _ _ (hHeld.2.2.2))).trans (hHeld.2.2.2)
                               refine ⟨_, rfl, ?_⟩
                               have n0_ := am (Kd.R_below (kR HO_8) hb)
                               have n1_ := am (Kd.R_below (kR HO_9) hb)
                               have n2_ := am (Kd.R_below (kR HO_82) hb)
                               have n3_ := am (blk_below (g := gb321) (o := .cells #[.slice (some ad322) l0_0.length c0_0] 30 (0, 0)) (bp BK321) hb)
                               have n4_ := am (blk_below (g := gb335) (o := .cells #[.int .i64 ((rd_T102 ((rd_T100 l0_0 a1).f2) x11_2).f0), .int .i64 ((rd_T102 ((rd_T100 l0_0 a1).f2) x11_2).f1)] 102 (0, 0)) (bp BK335) hb)
                               have n5_ := am (below_step (bw HB) hb)
                               clear HO_8
                               clear HO_9
                               clear HO_82
                               clear BK321
                               clear BK335
                               clear HB
                               have HO_8 := n0_
                               have HO_9 := n1_
                               have HO_82 := n2_
                               have BK321 := n3_
                               have BK335 := n4_
                               have HB := n5_
                               clear n0_ n1_ n2_ n3_ n4_ n5_
                               (try clear hb)
                               (try clear hb2)
                               (try clear hk)
                               (try clear hi)
                               refine hK.out _ _ ⟨bc BK335 0, bc BK335 1, HS2_, HS3_⟩ (fun hHeld => ?_)
                               clear hK K
                               refine norm_ (a' := ?_) ?_ ?_
                               rotate_left
                               ·show Act.put _ (some 106) _ = _
                                simp only [Act.put, sa, sz, ss, i64_w, i32_w]
                                rfl
                               refine pure_ (i := 13) (N := some 107) (v := ?_) (a' := ?_) #[true, true, true, true, true, true, true, true, true, true, true, true, true, true, false, false] rfl rfl (any_of HT_.out (by kernel_rfl)) (fun _ _ _ h => h) (Or.inl ⟨by rfl, ?_⟩) ?_ ?_
                               rotate_left
                               ·intro w'
                                go_simp
                                with_reducible rfl
                               rotate_left
                               ·simp only [Act.put, sa, sz, ss, i64_w, i32_w]
                                rfl
                               refine pure_ (i := 14) (N := some 108) (v := ?_) (a' := ?_) #[true, true, true, true, true, true, true, true, true, true, true, true, true, true, true, false] rfl rfl (any_of HT_.out (by kernel_rfl)) (fun _ _ _ h => h) (Or.inl ⟨by rfl, ?_⟩) ?_ ?_
                               rotate_left
                               ·intro w'
                                go_simp
                                with_reducible rfl
                               rotate_left
                               ·simp only [Act.put, sa, sz, ss, i64_w, i32_w]
                                rfl
                               refine pure_ (i := 15) (N := some 109) (v := ?_) (a' := ?_) #[true, true, true, true, true, true, true, true, true, true, true, true, true, true, true, true] rfl rfl (any_of HT_.out (by kernel_rfl)) (fun _ _ _ h => h) (Or.inl ⟨by rfl, ?_⟩) ?_ ?_
                               rotate_left
                               ·intro w'
                                go_simp
                                with_reducible rfl
                               rotate_left
                               ·simp only [Act.put, sa, sz, ss, i64_w, i32_w]
                                rfl
                               refine done_ (done_of HT_.out (by kernel_rfl)) ?_
                               try go_wp2
                               go_meet
                               case rel => exact ⟨_, (((rd x8_4 (rd t339 x84_4)) != (wrap64 ((wrap64 ((rd x8_2 x11_2) - t337)) + t345)))), dr, H', ⟨by have := HK1.out; have := HK2.out; have := HJ36.out; have := HK4.out; first | omega | exact Nat.le_refl _⟩, ⟨by (try simp only [hl8_1]); (try simp only [hl8_2]); (try simp only [hl9_2]); (try simp only [hl9_36]); (try simp only [hl8_4]); (try simp only [hl9_4]); exact kR HO_8⟩, ⟨by (try simp only [hl8_1]); (try simp only [hl8_2]); (try simp only [hl9_2]); (try simp only [hl9_36]); (try simp only [hl8_4]); (try simp only [hl9_4]); exact kR HO_9⟩, ⟨by (try simp only [hl8_1]); (try simp only [hl8_2]); (try simp only [hl9_2]); (try simp only [hl9_36]); (try simp only [hl8_4]); (try simp only [hl9_4]); exact kR HO_82⟩, ⟨by (try simp only [hl8_1]); (try simp only [hl8_2]); (try simp only [hl9_2]); (try simp only [hl9_36]); (try simp only [hl8_4]); (try simp only [hl9_4]); exact bp BK321⟩, ⟨by (try simp only [hl8_1]); (try simp only [hl8_2]); (try simp only [hl9_2]); (try simp only [hl9_36]); (try simp only [hl8_4]); (try simp only [hl9_4]); exact bp BK335⟩, ⟨bw HB⟩⟩
                              ·rw [if_neg c64] at H
                               have c64b0 : decide (0 ≤ (rd x8_4 (rd t339 x84_4))) = false := decide_eq_false c64
                               clear c64
                               have H' := am H
                               clear H
                               try go_wp2
                               have n0_ := am (Kd.R_drew HO_8.out)
                               have n1_ := am (Kd.R_drew HO_9.out)
                               have n2_ := am (Kd.R_drew HO_82.out)
                               have n3_ := am (blk_drew BK321.out)
                               have n4_ := am (blk_drew BK335.out)
                               have n5_ := am (below_drew1 HB.out)
                               clear HO_8
                               clear HO_9
                               clear HO_82
                               clear BK321
                               clear BK335
                               clear HB
                               have HO_8 := n0_
                               have HO_9 := n1_
                               have HO_82 := n2_
                               have BK321 := n3_
                               have BK335 := n4_
                               have HB := n5_
                               clear n0_ n1_ n2_ n3_ n4_ n5_
                               have p343 : 0 ≤ ((rd t339 x84_4) : Int) := of_decide_eq_true as1
                               have q343 : (rd t339 x84_4) < (x8_4.length : Int) := of_decide_eq_true as1
                               obtain ⟨ad343, e343, hx343_0⟩ := Kd.at_int (Kd.R_reads' HO_8.out).2.2 (rd t339 x84_4) p343 q343
                               obtain rfl : (⟨go22, 0, none⟩ : Addr) = ad343 := (by injection e343)
                               (first | simp only [add_plain] at hx343_0 | simp only [add_at] at hx343_0 | simp only [Addr.add, Nat.zero_add] at hx343_0 | skip)
                               replace p343 := eq_true p343
                               replace q343 := eq_true q343
                               refine start_ (n := 16) (S := fun w' => w'.cell? ⟨go22, ((rd t339 x84_4)).toNat, none⟩ = some (.int .i64 (rd x8_4 (rd t339 x84_4)))) (ds := []) #[false, false, false, false, false, false, false, false, false, false, false, false, false, false, false, false] (by kernel_rfl) rfl rfl (hx343_0) (fun hHeld => ?_); refine with_tabW impl_heightsOf.tab26 impl_heightsOf.bits26 (fun HT_ HW_ => ?_)
                               generalize wr.drew = w68 at HO_8 HO_9 HO_82 BK321 BK335 HB hx343_0 hHeld ⊢
                               refine pure_ (i := 0) (N := some 94) (v := ?_) (a' := ?_) #[true, false, false, false, false, false, false, false, false, false, false, false, false, false, false, false] rfl rfl (any_of HT_.out (by kernel_rfl)) (fun _ _ _ h => h) (Or.inl ⟨by rfl, ?_⟩) ?_ ?_
                               rotate_left
                               ·intro w'
                                go_simp
                                with_reducible rfl
                               rotate_left
                               ·simp only [Act.put, sa, sz, ss, i64_w, i32_w]
                                rfl
                               refine pure_ (i := 1) (N := some 95) (v := ?_) (a' := ?_) #[true, true, false, false, false, false, false, false, false, false, false, false, false, false, false, false] rfl rfl (any_of HT_.out (by kernel_rfl)) (fun _ _ _ h => h) (Or.inl ⟨by rfl, ?_⟩) ?_ ?_
                               rotate_left
                               ·intro w'
                                go_simp
                                with_reducible rfl
                               rotate_left
                               ·simp only [Act.put, sa, sz, ss, i64_w, i32_w]
                                rfl
                               refine pure_ (i := 2) (N := some 96) (v := ?_) (a' := ?_) #[true, true, true, false, false, false, false, false, false, false, false, false, false, false, false, false] rfl rfl (any_of HT_.out (by kernel_rfl)) (fun _ _ _ h => h) (Or.inl ⟨by rfl, ?_⟩) ?_ ?_
                               rotate_left
                               ·intro w'
                                go_simp
                                with_reducible rfl
                               rotate_left
                               ·simp only [Act.put, sa, sz, ss, i64_w, i32_w]
                                rfl
                               refine take_ (i := 3) (N := some 97) (v := ?_) (a' := ?_) #[true, true, true, true, false, false, false, false, false, false, false, false, false, false, false, false] rfl rfl (take_ofW HT_.out HW_.out (by kernel_rfl)) (fun _ _ _ h => h) (Or.inl ⟨by rfl, ?_⟩) hHeld ?_ ?_
                               rotate_left
                               ·intro w' s0
                                go_simp
                                with_reducible rfl
                               rotate_left
                               ·simp only [Act.put, sa, sz, ss, i64_w, i32_w]
                                rfl
                               refine pure_ (i := 4) (N := some 98) (v := ?_) (a' := ?_) #[true, true, true, true, true, false, false, false, false, false, false, false, false, false, false, false] rfl rfl (any_of HT_.out (by kernel_rfl)) (fun _ _ _ h => h) (Or.inl ⟨by rfl, ?_⟩) ?_ ?_
                               rotate_left
                               ·intro w'
                                go_simp
                                with_reducible rfl
                               rotate_left
                               ·simp only [Act.put, sa, sz, ss, i64_w, i32_w]
                                rfl
                               refine pure_ (i := 5) (N := some 99) (v := ?_) (a' := ?_) #[true, true, true, true, true, true, false, false, false, false, false, false, false, false, false, false] rfl rfl (any_of HT_.out (by kernel_rfl)) (fun _ _ _ h => h) (Or.inl ⟨by rfl, ?_⟩) ?_ ?_
                               rotate_left
                               ·intro w'
                                go_simp
                                with_reducible rfl
                               rotate_left
                               ·simp only [Act.put, sa, sz, ss, i64_w, i32_w]
                                rfl
                               refine pure_ (i := 6) (N := some 100) (v := undef) (a' := ?_) #[true, true, true, true, true, true, true, false, false, false, false, false, false, false, false, false] rfl rfl (any_of HT_.out (by kernel_rfl)) (fun _ _ _ h => h) (Or.inr ⟨by rfl, rfl⟩) ?_ ?_
                               rotate_left
                               ·simp only [Act.put, sa, sz, ss, i64_w, i32_w]
                                rfl
                               refine pure_ (i := 7) (N := some 101) (v := undef) (a' := ?_) #[true, true, true, true, true, true, true, true, false, false, false, false, false, false, false, false] rfl rfl (any_of HT_.out (by kernel_rfl)) (fun _ _ _ h => h) (Or.inr ⟨by rfl, rfl⟩) ?_ ?_
                               rotate_left
                               ·simp only [Act.put, sa, sz, ss, i64_w, i32_w]
                                rfl
                               refine pure_ (i := 8) (N := some 102) (v := undef) (a' := ?_) #[true, true, true, true, true, true, true, true, true, false, false, false, false, false, false, false] rfl rfl (any_of HT_.out (by kernel_rfl)) (fun _ _ _ h => h) (Or.inr ⟨by rfl, rfl⟩) ?_ ?_
                               rotate_left
                               ·simp only [Act.put, sa, sz, ss, i64_w, i32_w]
                                rfl
                               refine pure_ (i := 9) (N := some 103) (v := undef) (a' := ?_) #[true, true, true, true, true, true, true, true, true, true, false, false, false, false, false, false] rfl rfl (any_of HT_.out (by kernel_rfl)) (fun _ _ _ h => h) (Or.inr ⟨by rfl, rfl⟩) ?_ ?_
                               rotate_left
                               ·simp only [Act.put, sa, sz, ss, i64_w, i32_w]
                                rfl
                               refine pure_ (i := 10) (N := some 104) (v := undef) (a' := ?_) #[true, true, true, true, true, true, true, true, true, true, true, false, false, false, false, false] rfl rfl (any_of HT_.out (by kernel_rfl)) (fun _ _ _ h => h) (Or.inr ⟨by rfl, rfl⟩) ?_ ?_
                               rotate_left
                               ·simp only [Act.put, sa, sz, ss, i64_w, i32_w]
                                rfl
                               refine pure_ (i := 11) (N := some 105) (v := undef) (a' := ?_) #[true, true, true, true, true, true, true, true, true, true, true, true, false, false, false, false] rfl rfl (any_of HT_.out (by kernel_rfl)) (fun _ _ _ h => h) (Or.inr ⟨by rfl, rfl⟩) ?_ ?_
                               rotate_left
                               ·simp only [Act.put, sa, sz, ss, i64_w, i32_w]
                                rfl
                               refine pure_ (i := 12) (N := some 106) (v := undef) (a' := ?_) #[true, true, true, true, true, true, true, true, true, true, true, true, true, false, false, false] rfl rfl (any_of HT_.out (by kernel_rfl)) (fun _ _ _ h => h) (Or.inr ⟨by rfl, rfl⟩) ?_ ?_
                               rotate_left
                               ·simp only [Act.put, sa, sz, ss, i64_w, i32_w]
                                rfl
                               refine pure_ (i := 13) (N := some 107) (v := undef) (a' := ?_) #[true, true, true, true, true, true, true, true, true, true, true, true, true, true, false, false] rfl rfl (any_of HT_.out (by kernel_rfl)) (fun _ _ _ h => h) (Or.inr ⟨by rfl, rfl⟩) ?_ ?_
                               rotate_left
                               ·simp only [Act.put, sa, sz, ss, i64_w, i32_w]
                                rfl
                               refine pure_ (i := 14) (N := some 108) (v := undef) (a' := ?_) #[true, true, true, true, true, true, true, true, true, true, true, true, true, true, true, false] rfl rfl (any_of HT_.out (by kernel_rfl)) (fun _ _ _ h => h) (Or.inr ⟨by rfl, rfl⟩) ?_ ?_
                               rotate_left
                               ·simp only [Act.put, sa, sz, ss, i64_w, i32_w]
                                rfl
                               refine pure_ (i := 15) (N := some 109) (v := ?_) (a' := ?_) #[true, true, true, true, true, true, true, true, true, true, true, true, true, true, true, true] rfl rfl (any_of HT_.out (by kernel_rfl)) (fun _ _ _ h => h) (Or.inl ⟨by rfl, ?_⟩) ?_ ?_
                               rotate_left
                               ·intro w'
                                go_simp
                                with_reducible rfl
                               rotate_left
                               ·simp only [Act.put, sa, sz, ss, i64_w, i32_w]
                                rfl
                               refine done_ (done_of HT_.out (by kernel_rfl)) ?_
                               try go_wp2
                               go_meet
                               case rel => exact ⟨_, (false), dr, H', ⟨by have := HK1.out; have := HK2.out; have := HJ36.out; have := HK4.out; first | omega | exact Nat.le_refl _⟩, ⟨by (try simp only [hl8_1]); (try simp only [hl8_2]); (try simp only [hl9_2]); (try simp only [hl9_36]); (try simp only [hl8_4]); (try simp only [hl9_4]); exact kR HO_8⟩, ⟨by (try simp only [hl8_1]); (try simp only [hl8_2]); (try simp only [hl9_2]); (try simp only [hl9_36]); (try simp only [hl8_4]); (try simp only [hl9_4]); exact kR HO_9⟩, ⟨by (try simp only [hl8_1]); (try simp only [hl8_2]); (try simp only [hl9_2]); (try simp only [hl9_36]); (try simp only [hl8_4]); (try simp only [hl9_4]); exact kR HO_82⟩, ⟨by (try simp only [hl8_1]); (try simp only [hl8_2]); (try simp only [hl9_2]); (try simp only [hl9_36]); (try simp only [hl8_4]); (try simp only [hl9_4]); exact bp BK321⟩, ⟨by (try simp only [hl8_1]); (try simp only [hl8_2]); (try simp only [hl9_2]); (try simp only [hl9_36]); (try simp only [hl8_4]); (try simp only [hl9_4]); exact bp BK335⟩, ⟨bw HB⟩⟩
                             ·rw [if_neg c63] at H
                              exact absurd H (by simp)
                            ·rw [if_neg c62] at H
                             exact absurd H (by simp)
                           case rest =>
                            clear HC61
                            (try clear c1); (try clear p1); (try clear q1); (try clear hx1); (try clear c2); (try clear p2); (try clear q2); (try clear hx2); (try clear qi2); (try clear hf2); (try clear c3); (try clear c3b0); (try clear p3); (try clear q3); (try clear hx3); (try clear hf3); (try clear c4); (try clear c4b0); (try clear c5); (try clear c5b0); (try clear c5b1); (try clear c6); (try clear c6b0); (try clear c6b1); (try clear p6); (try clear c7); (try clear c7b0); (try clear c7b1); (try clear c13); (try clear c14); (try clear c15); (try clear c15b0); (try clear c16); (try clear c16b0); (try clear c17); (try clear c17b0); (try clear p18); (try clear q18); (try clear hx18); (try clear hf18); (try clear c21); (try clear c21b0); (try clear c21b1); (try clear p22); (try clear q22); (try clear hx22); (try clear qi22); (try clear hf22); (try clear c23); (try clear c23b0); (try clear c23b1); (try clear p24); (try clear q24); (try clear hx24); (try clear qi24); (try clear hf24); (try clear c29); (try clear c29b0); (try clear c30); (try clear c30b0); (try clear c31); (try clear c31b0); (try clear c32); (try clear p32); (try clear q32); (try clear hx32); (try clear c33); (try clear p33); (try clear q33); (try clear hx33); (try clear p34); (try clear q34); (try clear hx34); (try clear hf34); (try clear c35); (try clear c35b0); (try clear c41); (try clear c46); (try clear c46b0); (try clear c48); (try clear c51); (try clear c53); (try clear c57); (try clear c57b0); (try clear c58); (try clear c58b0); (try clear c59); (try clear c59b0); (try clear c60); (try clear c60b0); (try clear c60b1); (try clear c62); (try clear c62b0); (try clear c63); (try clear c63b0); (try clear c64); (try clear c64b0); (try clear p64); (try clear hcz42_0); (try clear hcz42_1); (try clear hcz49_0); (try clear hcz49_1); (try clear hcz54_0); (try clear hcz54_1); (try clear hcz9_0); (try clear hfz42_0); (try clear hfz42_1); (try clear hfz49_0); (try clear hfz49_1); (try clear hfz54_0); (try clear hfz54_1); (try clear hfz9_0); (try clear hx18_0); (try clear hx22_0); (try clear hx24_0); (try clear hx322_0); (try clear hx322_1); (try clear hx322_2); (try clear hx332_0); (try clear hx334_0); (try clear hx334_1); (try clear hx336_0); (try clear hx342_0); (try clear hx343_0); (try clear hx344_0); (try clear hx34_0); (try clear p1); (try clear p18); (try clear p2); (try clear p22); (try clear p24); (try clear p3); (try clear p32); (try clear p322); (try clear p33); (try clear p332); (try clear p334); (try clear p336); (try clear p34); (try clear p342); (try clear p343); (try clear p344); (try clear p6); (try clear q1); (try clear q18); (try clear q2); (try clear q22); (try clear q24); (try clear q3); (try clear q32); (try clear q322); (try clear q33); (try clear q332); (try clear q334); (try clear q336); (try clear q34); (try clear q342); (try clear q343); (try clear q344)
                            obtain ⟨kq, x109_60, rfl, HA, HJ60, HO_8, HO_9, HO_82, BK321, BK335, HB⟩ := hcut
                            cases kq with
                            | zero => exact absurd HA.out (by simp [impl_heightsOf.j4])
                            | succ kj60 =>
                             have H := HA.out
                             clear HA
                             simp only [impl_heightsOf.j4] at H
                             by_cases c69 : x109_60 = true
                             ·subst c69
                              have H1 : (some (x8_4, x11_2, 5)) = some (r1, r2, r3) := by rw [if_pos rfl] at H; exact H
                              clear H
                              have H := H1
                              clear H1
                              simp only [Option.some.injEq, Prod.mk.injEq] at H
                              obtain ⟨rfl, rfl, rfl⟩ := H
                              go_wp2
                              go_ret3
                              exact ⟨_, er, by (with_reducible repeat (first | apply Kd.R_alloc | apply Kd.R_drewN | apply Kd.R_drew)); exact Kd.R_mono HO_8.out (fun _ hk => trivial), bw HB⟩
                             ·replace c69 := Bool.eq_false_iff.mpr c69
                              subst c69
                              have H1 : (if 0 ≤ (rd t339 x84_4) then (if (rd t339 x84_4) < (x8_4.length : Int) then (if (rd x8_4 (rd t339 x84_4)) < 0 then ((impl_Puts.f kj60 ((rd_T102 ((rd_T100 l0_0 a1).f2) x11_2).f0) ((rd_T102 ((rd_T100 l0_0 a1).f2) x11_2).f1)).bind fun t347 => (if (rd t339 x84_4) < (x9_4.length : Int) then (impl_heightsOf.l2 kj60 ((rd_T100 l0_0 a1).f2) (x8_4.set ((rd t339 x84_4) : Int).toNat (wrap64 ((wrap64 ((rd x8_2 x11_2) - t337)) + t347))) (x9_4.set ((rd t339 x84_4) : Int).toNat true) x11_2 (wrap64 ((rd x8_2 x11_2) - t337)) (mn x14_4 (rd t339 x84_4)) t339 (t339.length : Int) (wrap64 (x84_4 + 1)) l0_0 ((rd_T102 ((rd_T100 l0_0 a1).f2) x11_2).f0) ((rd_T102 ((rd_T100 l0_0 a1).f2) x11_2).f1)) else (none))) else (impl_heightsOf.l2 kj60 ((rd_T100 l0_0 a1).f2) x8_4 x9_4 x11_2 (wrap64 ((rd x8_2 x11_2) - t337)) x14_4 t339 (t339.length : Int) (wrap64 (x84_4 + 1)) l0_0 ((rd_T102 ((rd_T100 l0_0 a1).f2) x11_2).f0) ((rd_T102 ((rd_T100 l0_0 a1).f2) x11_2).f1))) else (none)) else (none)) = some (r1, r2, r3) := by rw [if_neg (show ¬ (false = true) by decide)] at H; exact H
                              clear H
                              have H := H1
                              clear H1
                              by_cases c70 : 0 ≤ (rd t339 x84_4)
                              ·rw [if_pos c70] at H
                               have c70b0 := decide_eq_true c70
                               clear c70
                               by_cases c71 : (rd t339 x84_4) < (x8_4.length : Int)
                               ·rw [if_pos c71] at H
                                have c71b0 := decide_eq_true c71
                                (try (have c71b0hl8_1 := c71b0; rw [hl8_1] at c71b0hl8_1))
                                (try (have c71b0hl8_2 := c71b0; rw [hl8_2] at c71b0hl8_2))
                                (try (have c71b0hl9_2 := c71b0; rw [hl9_2] at c71b0hl9_2))
                                (try (have c71b0hl9_36 := c71b0; rw [hl9_36] at c71b0hl9_36))
                                (try (have c71b0hl8_4 := c71b0; rw [hl8_4] at c71b0hl8_4))
                                (try (have c71b0hl9_4 := c71b0; rw [hl9_4] at c71b0hl9_4))
                                clear c71
                                by_cases c72 : (rd x8_4 (rd t339 x84_4)) < 0
                                ·rw [if_pos c72] at H
                                 have c72b0 := decide_eq_true c72
                                 clear c72
                                 replace H := Option.bind_eq_some_iff.mp H
                                 obtain ⟨t347, A730, H⟩ := H
                                 replace H : (if (rd t339 x84_4) < (x9_4.length : Int) then (impl_heightsOf.l2 kj60 ((rd_T100 l0_0 a1).f2) (x8_4.set ((rd t339 x84_4) : Int).toNat (wrap64 ((wrap64 ((rd x8_2 x11_2) - t337)) + t347))) (x9_4.set ((rd t339 x84_4) : Int).toNat true) x11_2 (wrap64 ((rd x8_2 x11_2) - t337)) (mn x14_4 (rd t339 x84_4)) t339 (t339.length : Int) (wrap64 (x84_4 + 1)) l0_0 ((rd_T102 ((rd_T100 l0_0 a1).f2) x11_2).f0) ((rd_T102 ((rd_T100 l0_0 a1).f2) x11_2).f1)) else (none)) = some (r1, r2, r3) := H
                                 have A73 := am A730
                                 clear A730
                                 obtain ⟨y348, hy348⟩ : ∃ y_ : List Int, y_ = (x8_4.set ((rd t339 x84_4) : Int).toNat (wrap64 ((wrap64 ((rd x8_2 x11_2) - t337)) + t347))) := ⟨_, rfl⟩
                                 replace H : (if (rd t339 x84_4) < (x9_4.length : Int) then (impl_heightsOf.l2 kj60 ((rd_T100 l0_0 a1).f2) y348 (x9_4.set ((rd t339 x84_4) : Int).toNat true) x11_2 (wrap64 ((rd x8_2 x11_2) - t337)) (mn x14_4 (rd t339 x84_4)) t339 (t339.length : Int) (wrap64 (x84_4 + 1)) l0_0 ((rd_T102 ((rd_T100 l0_0 a1).f2) x11_2).f0) ((rd_T102 ((rd_T100 l0_0 a1).f2) x11_2).f1)) else (none)) = some (r1, r2, r3) := by first | (rw [hy348]; with_reducible exact H) | (have H2_ := (Option.bind_some _ _).symm.trans H; rw [hy348]; with_reducible exact H2_) | (have H2_ := (Option.bind_some _ _).symm.trans H; with_reducible exact H2_) | with_reducible exact H | (rw [hy348]; exact H) | exact H
                                 have Ny348 := am hy348
                                 clear hy348
                                 by_cases c75 : (rd t339 x84_4) < (x9_4.length : Int)
                                 ·rw [if_pos c75] at H
                                  have c75b0 := decide_eq_true c75
                                  (try (have c75b0hl8_1 := c75b0; rw [hl8_1] at c75b0hl8_1))
                                  (try (have c75b0hl8_2 := c75b0; rw [hl8_2] at c75b0hl8_2))
                                  (try (have c75b0hl9_2 := c75b0; rw [hl9_2] at c75b0hl9_2))
                                  (try (have c75b0hl9_36 := c75b0; rw [hl9_36] at c75b0hl9_36))
                                  (try (have c75b0hl8_4 := c75b0; rw [hl8_4] at c75b0hl8_4))
                                  (try (have c75b0hl9_4 := c75b0; rw [hl9_4] at c75b0hl9_4))
                                  clear c75
                                  obtain ⟨y349, hy349⟩ : ∃ y_ : List Bool, y_ = (x9_4.set ((rd t339 x84_4) : Int).toNat true) := ⟨_, rfl⟩
                                  replace H : (impl_heightsOf.l2 kj60 ((rd_T100 l0_0 a1).f2) y348 y349 x11_2 (wrap64 ((rd x8_2 x11_2) - t337)) (mn x14_4 (rd t339 x84_4)) t339 (t339.length : Int) (wrap64 (x84_4 + 1)) l0_0 ((rd_T102 ((rd_T100 l0_0 a1).f2) x11_2).f0) ((rd_T102 ((rd_T100 l0_0 a1).f2) x11_2).f1)) = some (r1, r2, r3) := by first | (rw [hy349]; with_reducible exact H) | (have H2_ := (Option.bind_some _ _).symm.trans H; rw [hy349]; with_reducible exact H2_) | (have H2_ := (Option.bind_some _ _).symm.trans H; with_reducible exact H2_) | with_reducible exact H | (rw [hy349]; exact H) | exact H
                                  have Ny349 := am hy349
                                  clear hy349
                                  obtain ⟨ji77, hji77⟩ : ∃ j_ : Int, (mn x14_4 (rd t339 x84_4)) = j_ := ⟨_, rfl⟩
                                  replace H : (impl_heightsOf.l2 kj60 ((rd_T100 l0_0 a1).f2) y348 y349 x11_2 (wrap64 ((rd x8_2 x11_2) - t337)) ji77 t339 (t339.length : Int) (wrap64 (x84_4 + 1)) l0_0 ((rd_T102 ((rd_T100 l0_0 a1).f2) x11_2).f0) ((rd_T102 ((rd_T100 l0_0 a1).f2) x11_2).f1)) = some (r1, r2, r3) := by first | (rw [hji77] at H; exact H) | (simp only [hji77] at H ⊢; exact H)
                                  (try rw [hji77] at A73)
                                  have hji77_ : (if (rd t339 x84_4) < x14_4 then (rd t339 x84_4) else x14_4) = ji77 := hji77
                                  have H' := am H
                                  clear H
                                  have p346 : 0 ≤ ((rd t339 x84_4) : Int) := of_decide_eq_true as1
                                  have q346 : (rd t339 x84_4) < (x8_4.length : Int) := of_decide_eq_true as1
                                  obtain ⟨ad346, e346, hx346_0⟩ := Kd.at_int (Kd.R_reads' HO_8.out).2.2 (rd t339 x84_4) p346 q346
                                  obtain rfl : (⟨go22, 0, none⟩ : Addr) = ad346 := (by injection e346)
                                  (first | simp only [add_plain] at hx346_0 | simp only [add_at] at hx346_0 | simp only [Addr.add, Nat.zero_add] at hx346_0 | skip)
                                  replace p346 := eq_true p346
                                  replace q346 := eq_true q346
                                  have hnb78 := NB335_321.out
                                  have hnc78 := NB321_335.out
                                  have hcz79_0 : wc.cell? ⟨gb335, 0, none⟩ = some (.int .i64 ((rd_T102 ((rd_T100 l0_0 a1).f2) x11_2).f0)) := bc BK335 0
                                  have hcz79_1 : wc.cell? ⟨gb335, 1, none⟩ = some (.int .i64 ((rd_T102 ((rd_T100 l0_0 a1).f2) x11_2).f1)) := bc BK335 1
                                  have hfz79_0 := bf BK335 0
                                  have hfz79_1 := bf BK335 1
                                  go_wp2_with (first | ((with_reducible refine gate_callee (f := 140) rfl ?_); refine goesL_ (some 121) rfl rfl Try.func140 (by kernel_rfl) rfl #[.agg #[.int .i64 ((rd_T102 ((rd_T100 l0_0 a1).f2) x11_2).f0), .int .i64 ((rd_T102 ((rd_T100 l0_0 a1).f2) x11_2).f1)]] rfl gl ?_; (with_reducible refine (impl_Puts.calls kj60 ((rd_T102 ((rd_T100 l0_0 a1).f2) x11_2).f0) ((rd_T102 ((rd_T100 l0_0 a1).f2) x11_2).f1) t347 _ A73.out).mono ?_); rintro e w80 ⟨rfl, hb⟩; refine ⟨_, rfl, ?_⟩; replace HO_8 := am (Kd.R_below (kR HO_8) hb); replace HO_9 := am (Kd.R_below (kR HO_9) hb); replace HO_82 := am (Kd.R_below (kR HO_82) hb); replace BK321 := am (blk_below (g := gb321) (o := .cells #[.slice (some ad322) l0_0.length c0_0] 30 (0, 0)) (bp BK321) hb); replace BK335 := am (blk_below (g := gb335) (o := .cells #[.int .i64 ((rd_T102 ((rd_T100 l0_0 a1).f2) x11_2).f0), .int .i64 ((rd_T102 ((rd_T100 l0_0 a1).f2) x11_2).f1)] 102 (0, 0)) (bp BK335) hb); replace HB := am (below_step (bw HB) hb); (try clear hb); (try clear hb2); (try clear hk); (try clear hi); have p74 : 0 ≤ ((rd t339 x84_4) : Int) := of_decide_eq_true as1; have q74 : ((rd t339 x84_4) : Int) < ((x8_4.length : Int) : Int) := of_decide_eq_true as1; obtain ⟨hx74_0, hf74_0⟩ := Kd.R_celln 0 HO_8.out ((rd t339 x84_4) : Int) p74 q74; replace p74 := eq_true p74; replace q74 := eq_true q74; obtain ⟨hy81_, hz81_⟩ := Kd.R_celln 0 HO_8.out ((rd t339 x84_4) : Int) (of_decide_eq_true as1) (of_decide_eq_true as1); have HP81 := Kd.R_putg HO_8.out ((rd t339 x84_4) : Int) (wrap64 ((wrap64 ((rd x8_2 x11_2) - t337)) + t347))) | ((with_reducible refine gate_store (t := 2) (p := 123) rfl ?_); refine store_event (t := 2) (p := 123) (v := ?vo_w82) (w1 := (w80.setCell ⟨go22, ((rd t339 x84_4) : Int).toNat, none⟩ (.int .i64 (wrap64 ((wrap64 ((rd x8_2 x11_2) - t337)) + t347))))) ?hg ?ho ?hn ?hr ?_; (case ho => rfl); (case hg => rfl); (case hn => rfl); (case hr => exact gs); intro w82 hw; have hg : w80.grownBy w82 (some go22) := (by rw [hw]; exact HP81.2); have hp_ : Kd.R (Kd.int .i64) 2 w82 w.heap.size (fun k_ => some k_ ≠ (.slice (some ad342) t339.length co56 : Value).ownBlock) (.slice (some ⟨go22, 0, none⟩) x8_4.length co14) y348 := (by rw [hw, Ny348.out]; exact HP81.1); clear HP81; replace HO_9 := am (Kd.R_over' (v := (.slice (some ⟨go22, 0, none⟩) x8_4.length co14)) (kR HO_9) (Kd.R_typed HO_8.out) (by decide) hg); replace HO_82 := am (Kd.R_after (v := (.slice (some ⟨go22, 0, none⟩) x8_4.length co14)) (v1 := (.slice (some ⟨go22, 0, none⟩) x8_4.length co14)) (ok := (fun _ => True)) (by (with_reducible repeat (first | apply Kd.R_alloc | apply Kd.R_drewN | apply Kd.R_drew)); exact Kd.R_mono HO_82.out (fun _ hk => ⟨trivial, hk⟩)) hg (.inl rfl)); replace BK321 := am (blk_grown (g := gb321) (o := .cells #[.slice (some ad322) l0_0.length c0_0] 30 (0, 0)) (bp BK321) hg (Kd.R_ne HO_8.out BK321.out (by decide))); replace BK335 := am (blk_grown (g := gb335) (o := .cells #[.int .i64 ((rd_T102 ((rd_T100 l0_0 a1).f2) x11_2).f0), .int .i64 ((rd_T102 ((rd_T100 l0_0 a1).f2) x11_2).f1)] 102 (0, 0)) (bp BK335) hg (Kd.R_ne HO_8.out BK335.out (by decide))); replace HO_8 := am (hp_); replace HB := am ((by rw [hw]; exact below_set (HB.out) GB22.out : Below w.heap.size w w82)); clear hg hw hp_; have p76 : 0 ≤ ((rd t339 x84_4) : Int) := of_decide_eq_true as1; have q76 : ((rd t339 x84_4) : Int) < ((x9_4.length : Int) : Int) := of_decide_eq_true as1; obtain ⟨hx76_0, hf76_0⟩ := Kd.R_celln false HO_9.out ((rd t339 x84_4) : Int) p76 q76; replace p76 := eq_true p76; replace q76 := eq_true q76; obtain ⟨hy83_, hz83_⟩ := Kd.R_celln false HO_9.out ((rd t339 x84_4) : Int) (of_decide_eq_true as1) (of_decide_eq_true as1); have HP83 := Kd.R_putg HO_9.out ((rd t339 x84_4) : Int) true) | ((with_reducible refine gate_store (t := 4) (p := 126) rfl ?_); refine store_event (t := 4) (p := 126) (v := ?vo_w84) (w1 := (w82.setCell ⟨go24, ((rd t339 x84_4) : Int).toNat, none⟩ (.bool true))) ?hg ?ho ?hn ?hr ?_; (case ho => rfl); (case hg => rfl); (case hn => rfl); (case hr => exact gs); intro w84 hw; have hg : w82.grownBy w84 (some go24) := (by rw [hw]; exact HP83.2); have hp_ : Kd.R Kd.bool 4 w84 w.heap.size (fun _ => True) (.slice (some ⟨go24, 0, none⟩) x9_4.length co24) y349 := (by rw [hw, Ny349.out]; exact HP83.1); clear HP83; replace HO_8 := am (Kd.R_over' (v := (.slice (some ⟨go24, 0, none⟩) x9_4.length co24)) (kR HO_8) (Kd.R_typed HO_9.out) (by decide) hg); replace HO_82 := am (Kd.R_over' (v := (.slice (some ⟨go24, 0, none⟩) x9_4.length co24)) (kR HO_82) (Kd.R_typed HO_9.out) (by decide) hg); replace BK321 := am (blk_grown (g := gb321) (o := .cells #[.slice (some ad322) l0_0.length c0_0] 30 (0, 0)) (bp BK321) hg (Kd.R_ne HO_9.out BK321.out (by decide))); replace BK335 := am (blk_grown (g := gb335) (o := .cells #[.int .i64 ((rd_T102 ((rd_T100 l0_0 a1).f2) x11_2).f0), .int .i64 ((rd_T102 ((rd_T100 l0_0 a1).f2) x11_2).f1)] 102 (0, 0)) (bp BK335) hg (Kd.R_ne HO_9.out BK335.out (by decide))); replace HO_9 := am (hp_); replace HB := am ((by rw [hw]; exact below_set (HB.out) GB24.out : Below w.heap.size w w84)); clear hg hw hp_))
                                  (try simp only [← hl8_4, ← hl9_4])
                                  go_roundg kj60
                                  case measure => have := HK1.out; have := HK2.out; have := HJ36.out; have := HK4.out; have := HJ60.out; omega
                                  case rel => exact ⟨(y348), (y349), (ji77), (wrap64 (x84_4 + 1)), (by first | rfl | (simp; done) | (simp only [← hji77] <;> (first | rfl | simp)) | (simp [*]; done)), dr, H', ⟨by have := HK1.out; have := HK2.out; have := HJ36.out; have := HK4.out; have := HJ60.out; omega⟩, ⟨by (try simp only [hl8_1]); (try simp only [hl8_2]); (try simp only [hl9_2]); (try simp only [hl9_36]); (try simp only [hl8_4]); (try simp only [hl9_4]); exact kR HO_8⟩, ⟨by (try simp only [hl8_1]); (try simp only [hl8_2]); (try simp only [hl9_2]); (try simp only [hl9_36]); (try simp only [hl8_4]); (try simp only [hl9_4]); exact kR HO_9⟩, ⟨by (try simp only [hl8_1]); (try simp only [hl8_2]); (try simp only [hl9_2]); (try simp only [hl9_36]); (try simp only [hl8_4]); (try simp only [hl9_4]); (with_reducible repeat (first | apply Kd.R_alloc | apply Kd.R_drewN | apply Kd.R_drew)); exact Kd.R_mono HO_82.out (fun _ hk => hk.2)⟩, ⟨by (try simp only [hl8_1]); (try simp only [hl8_2]); (try simp only [hl9_2]); (try simp only [hl9_36]); (try simp only [hl8_4]); (try simp only [hl9_4]); exact bp BK321⟩, ⟨by (try simp only [hl8_1]); (try simp only [hl8_2]); (try simp only [hl9_2]); (try simp only [hl9_36]); (try simp only [hl8_4]); (try simp only [hl9_4]); exact bp BK335⟩, ⟨bw HB⟩⟩
                                 ·rw [if_neg c75] at H
                                  exact absurd H (by simp)
                                ·rw [if_neg c72] at H
                                 have c72b0 := decide_eq_false c72
                                 clear c72
                                 have H' := am H
                                 clear H
                                 have p346 : 0 ≤ ((rd t339 x84_4) : Int) := of_decide_eq_true as1
                                 have q346 : (rd t339 x84_4) < (x8_4.length : Int) := of_decide_eq_true as1
                                 obtain ⟨ad346, e346, hx346_0⟩ := Kd.at_int (Kd.R_reads' HO_8.out).2.2 (rd t339 x84_4) p346 q346
                                 obtain rfl : (⟨go22, 0, none⟩ : Addr) = ad346 := (by injection e346)
                                 (first | simp only [add_plain] at hx346_0 | simp only [add_at] at hx346_0 | simp only [Addr.add, Nat.zero_add] at hx346_0 | skip)
                                 replace p346 := eq_true p346
                                 replace q346 := eq_true q346
                                 go_wp2
                                 (try simp only [← hl8_4, ← hl9_4])
                                 go_roundg kj60
                                 case measure => have := HK1.out; have := HK2.out; have := HJ36.out; have := HK4.out; have := HJ60.out; omega
                                 case rel => exact ⟨(x8_4), (x9_4), (x14_4), (wrap64 (x84_4 + 1)), dr, dr, H', ⟨by have := HK1.out; have := HK2.out; have := HJ36.out; have := HK4.out; have := HJ60.out; omega⟩, ⟨by (try simp only [hl8_1]); (try simp only [hl8_2]); (try simp only [hl9_2]); (try simp only [hl9_36]); (try simp only [hl8_4]); (try simp only [hl9_4]); exact kR HO_8⟩, ⟨by (try simp only [hl8_1]); (try simp only [hl8_2]); (try simp only [hl9_2]); (try simp only [hl9_36]); (try simp only [hl8_4]); (try simp only [hl9_4]); exact kR HO_9⟩, ⟨by (try simp only [hl8_1]); (try simp only [hl8_2]); (try simp only [hl9_2]); (try simp only [hl9_36]); (try simp only [hl8_4]); (try simp only [hl9_4]); exact kR HO_82⟩, ⟨by (try simp only [hl8_1]); (try simp only [hl8_2]); (try simp only [hl9_2]); (try simp only [hl9_36]); (try simp only [hl8_4]); (try simp only [hl9_4]); exact bp BK321⟩, ⟨by (try simp only [hl8_1]); (try simp only [hl8_2]); (try simp only [hl9_2]); (try simp only [hl9_36]); (try simp only [hl8_4]); (try simp only [hl9_4]); exact bp BK335⟩, ⟨bw HB⟩⟩
                               ·rw [if_neg c71] at H
                                exact absurd H (by simp)
                              ·rw [if_neg c70] at H
                               exact absurd H (by simp)
                         ·rw [if_neg c59] at H
                          exact absurd H (by simp)
                        ·rw [if_neg c58] at H
                         exact absurd H (by simp)
                       ·rw [if_neg c57] at H
                        have c57b0 := decide_eq_false c57
                        (try (have c57b0hl8_1 := c57b0; rw [hl8_1] at c57b0hl8_1))
                        (try (have c57b0hl8_2 := c57b0; rw [hl8_2] at c57b0hl8_2))
                        (try (have c57b0hl9_2 := c57b0; rw [hl9_2] at c57b0hl9_2))
                        (try (have c57b0hl9_36 := c57b0; rw [hl9_36] at c57b0hl9_36))
                        (try (have c57b0hl8_4 := c57b0; rw [hl8_4] at c57b0hl8_4))
                        (try (have c57b0hl9_4 := c57b0; rw [hl9_4] at c57b0hl9_4))
                        clear c57
                        have H' := am H
                        clear H
                        go_wp2
                        (try simp only [← hl8_2, ← hl9_2, ← hl9_36, ← hl8_4, ← hl9_4])
                        go_roundg k4
                        case measure => have := HK1.out; have := HK2.out; have := HJ36.out; have := HK4.out; omega
                        case rel => exact ⟨(x8_4), (x9_4), (x14_4), dr, H', ⟨by have := HK1.out; have := HK2.out; have := HJ36.out; have := HK4.out; omega⟩, ⟨by (try simp only [hl8_1]); (try simp only [hl8_2]); (try simp only [hl9_2]); (try simp only [hl9_36]); (try simp only [hl8_4]); (try simp only [hl9_4]); (with_reducible repeat (first | apply Kd.R_alloc | apply Kd.R_drewN | apply Kd.R_drew)); exact Kd.R_mono HO_8.out (fun _ hk => trivial)⟩, ⟨by (try simp only [hl8_1]); (try simp only [hl8_2]); (try simp only [hl9_2]); (try simp only [hl9_36]); (try simp only [hl8_4]); (try simp only [hl9_4]); exact kR HO_9⟩, ⟨by (try simp only [hl8_1]); (try simp only [hl8_2]); (try simp only [hl9_2]); (try simp only [hl9_36]); (try simp only [hl8_4]); (try simp only [hl9_4]); exact bp BK321⟩, ⟨bw HB⟩⟩
                 ·rw [if_neg c35] at H
                  exact absurd H (by simp)
                ·replace c33 := Bool.eq_false_iff.mpr c33
                 subst c33
                 have H1 : (impl_heightsOf.l1 k2 ((rd_T100 l0_0 a1).f2) x8_2 x9_2 (wrap64 (x11_2 + 1)) l0_0) = some (r1, r2, r3) := by rw [if_neg (show ¬ (false = true) by decide)] at H; exact H
                 clear H
                 have H := H1
                 clear H1
                 have H' := am H
                 clear H
                 have p332 : 0 ≤ (x11_2 : Int) := of_decide_eq_true as1
                 have q332 : x11_2 < (x9_2.length : Int) := of_decide_eq_true as1
                 obtain ⟨ad332, e332, hx332_0⟩ := Kd.at_bool (Kd.R_reads' HO_9.out).2.2 x11_2 p332 q332
                 (try rw [← Nbq32.out] at hx332_0)
                 obtain rfl : (⟨go24, 0, none⟩ : Addr) = ad332 := (by injection e332)
                 (first | simp only [add_plain] at hx332_0 | simp only [add_at] at hx332_0 | simp only [Addr.add, Nat.zero_add] at hx332_0 | skip)
                 replace p332 := eq_true p332
                 replace q332 := eq_true q332
                 go_wp2
                 (try simp only [← hl8_2, ← hl9_2])
                 go_roundg k2
                 case measure => have := HK1.out; have := HK2.out; omega
                 case rel => exact ⟨(x8_2), (x9_2), (wrap64 (x11_2 + 1)), dr, H', ⟨by have := HK1.out; have := HK2.out; omega⟩, ⟨by (try simp only [hl8_1]); (try simp only [hl8_2]); (try simp only [hl9_2]); exact kR HO_8⟩, ⟨by (try simp only [hl8_1]); (try simp only [hl8_2]); (try simp only [hl9_2]); exact kR HO_9⟩, ⟨by (try simp only [hl8_1]); (try simp only [hl8_2]); (try simp only [hl9_2]); exact bp BK321⟩, ⟨bw HB⟩⟩
               ·rw [if_neg c31] at H
                exact absurd H (by simp)
              ·rw [if_neg c30] at H
               exact absurd H (by simp)
             ·rw [if_neg c29] at H
              have c29b0 := decide_eq_false c29
              (try (have c29b0hl8_1 := c29b0; rw [hl8_1] at c29b0hl8_1))
              (try (have c29b0hl8_2 := c29b0; rw [hl8_2] at c29b0hl8_2))
              (try (have c29b0hl9_2 := c29b0; rw [hl9_2] at c29b0hl9_2))
              clear c29
              simp only [Option.some.injEq, Prod.mk.injEq] at H
              obtain ⟨rfl, rfl, rfl⟩ := H
              go_wp2
              go_ret3
              exact ⟨_, er, kR HO_8, bw HB⟩
          ·rw [if_neg c23] at H
           exact absurd H (by simp)
         ·rw [if_neg c21] at H
          exact absurd H (by simp)
     ·rw [if_neg c7] at H
      exact absurd H (by simp)
    ·rw [if_neg c6] at H
     exact absurd H (by simp)
   ·rw [if_neg c5] at H
    exact absurd H (by simp)
  ·rw [if_neg c4] at H
   exact absurd H (by simp)
 ·rw [if_neg c3] at H
  exact absurd H (by simp)

end Go.Proofs.Ytbmjmaahcaoajaa.QFnExactFileBytes
