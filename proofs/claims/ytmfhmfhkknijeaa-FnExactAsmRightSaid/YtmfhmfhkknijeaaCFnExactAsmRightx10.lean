import Derived.Test.YtmfhmfhkknijeaaCFnExactAsmRightx0
import Derived.Test.YtmfhmfhkknijeaaCFnExactAsmRightx5
import Derived.Test.YtmfhmfhkknijeaaCFnExactAsmRightx7
import Derived.Test.YtmfhmfhkknijeaaCFnExactAsmRightx8
import Derived.Test.YtmfhmfhkknijeaaCFnExactAsmRightx9
namespace Go.Proofs.Ytmfhmfhkknijeaa.QFnExactAsmRight
open Go.RowKit Go.Proofs.YtmfhmfhkknijeaaW
open PrintWords PrintLast PrintMore PrintShort
attribute [local go_sem] max2_int min2_int max_two min_two max_three min_three max_four min_four   -- for this text's walks alone
set_option linter.unusedVariables false
set_option maxHeartbeats 8000000
set_option maxRecDepth 100000
set_option linter.unusedSimpArgs false

mutual
def spec_AsmRight.j0 : Nat → Bool → List (S50) → Int → List (S59) → List (List (S63)) → Option (Bool)
 | 0, _, _, _, _, _ => none
 | k + 1, x38, x232000, x233000, x233001, x233002 => if x38 = true then (some false) else ((spec_l04Heights.f k x232000 x233000).bind fun bt235 => (spec_AsmRight.l0 k bt235.1 0 x232000 x233000 x233001 x233002))
def spec_AsmRight.l0 : Nat → List Int → Int → List (S50) → Int → List (S59) → List (List (S63)) → Option (Bool)
 | 0, _, _, _, _, _, _ => none
 | k + 1, x5, x7, x232000, x233000, x233001, x233002 => if x7 < (x233001.length : Int) then (if 0 ≤ x7 then ((spec_l10Ins.f k x232000 x233000 ((rd_T59 x233001 x7).f0) ((rd_T59 x233001 x7).f1) ((rd_T59 x233001 x7).f2) ((rd_T59 x233001 x7).f3) ((rd_T59 x233001 x7).f4)).bind fun t244 => (if t244 = true then (if x7 < (x5.length : Int) then (if (rd x5 x7) < 0 then (if ((rd_T59 x233001 x7).f1) = 0 then (spec_AsmRight.j2 k x5 x7 (decide ((((rd_T59 x233001 x7).f0).length : Int) > 0)) x232000 x233000 x233001 x233002) else (spec_AsmRight.j2 k x5 x7 true x232000 x233000 x233001 x233002)) else (spec_AsmRight.j2 k x5 x7 false x232000 x233000 x233001 x233002)) else (none)) else (spec_AsmRight.j2 k x5 x7 true x232000 x233000 x233001 x233002))) else (none)) else (some true)
def spec_AsmRight.j2 : Nat → List Int → Int → Bool → List (S50) → Int → List (S59) → List (List (S63)) → Option (Bool)
 | 0, _, _, _, _, _, _, _ => none
 | k + 1, x5, x7, x81, x232000, x233000, x233001, x233002 => if x81 = true then (some false) else (if 0 ≤ x7 then (if x7 < (x5.length : Int) then (if (rd x5 x7) ≥ 0 then (if 0 ≤ x233000 then (if x233000 < (x232000.length : Int) then (spec_AsmRight.j3 k x5 x7 (wrap64 (((rd_T50 x232000 x233000).f1) + (rd x5 x7))) x232000 x233000 x233001 x233002) else (none)) else (none)) else (spec_AsmRight.j3 k x5 x7 0 x232000 x233000 x233001 x233002)) else (none)) else (none))
def spec_AsmRight.j3 : Nat → List Int → Int → Int → List (S50) → Int → List (S59) → List (List (S63)) → Option (Bool)
 | 0, _, _, _, _, _, _, _ => none
 | k + 1, x5, x7, x9, x232000, x233000, x233001, x233002 => if 0 ≤ x7 then (if x7 < (x233002.length : Int) then (if ((rd_L17 x233002 x7).length : Int) = x9 then (spec_AsmRight.l1 k x5 x7 0 x232000 x233000 x233001 x233002) else (some false)) else (none)) else (none)
def spec_AsmRight.l1 : Nat → List Int → Int → Int → List (S50) → Int → List (S59) → List (List (S63)) → Option (Bool)
 | 0, _, _, _, _, _, _, _ => none
 | k + 1, x5, x7, x10, x232000, x233000, x233001, x233002 => if 0 ≤ x7 then (if x7 < (x233002.length : Int) then (if x10 < ((rd_L17 x233002 x7).length : Int) then (if 0 ≤ x10 then ((spec_l10Val.f ((rd_T63 (rd_L17 x233002 x7) x10).f0) ((rd_T63 (rd_L17 x233002 x7) x10).f1)).bind fun t253 => (if t253 = true then (spec_AsmRight.l1 k x5 x7 (wrap64 (x10 + 1)) x232000 x233000 x233001 x233002) else (some false))) else (none)) else (spec_AsmRight.l0 k x5 (wrap64 (x7 + 1)) x232000 x233000 x233001 x233002)) else (none)) else (none)
end
def spec_AsmRight.f (k : Nat) (l0_0 : List (S50)) (a1_0 : Int) (l1_1 : List (S59)) (l1_2 : List (List (S63))) : Option (Bool) := (spec_l04Is.f k l0_0 a1_0).bind fun t233 => (if t233 = true then (if 0 ≤ a1_0 then (if a1_0 < (l0_0.length : Int) then (if (l1_1.length : Int) = (((rd_T50 l0_0 a1_0).f2).length : Int) then (spec_AsmRight.j0 k ((l1_2.length : Int) != (l1_1.length : Int)) l0_0 a1_0 l1_1 l1_2) else (spec_AsmRight.j0 k true l0_0 a1_0 l1_1 l1_2)) else (none)) else (none)) else (spec_AsmRight.j0 k true l0_0 a1_0 l1_1 l1_2))
theorem spec_AsmRight.mono_l : ∀ k, (∀ y0 y1 y2 y3 y4, LeO (spec_AsmRight.j0 k y0 y1 y2 y3 y4) (spec_AsmRight.j0 (k + 1) y0 y1 y2 y3 y4)) ∧ (∀ y0 y1 y2 y3 y4 y5, LeO (spec_AsmRight.l0 k y0 y1 y2 y3 y4 y5) (spec_AsmRight.l0 (k + 1) y0 y1 y2 y3 y4 y5)) ∧ (∀ y0 y1 y2 y3 y4 y5 y6, LeO (spec_AsmRight.j2 k y0 y1 y2 y3 y4 y5 y6) (spec_AsmRight.j2 (k + 1) y0 y1 y2 y3 y4 y5 y6)) ∧ (∀ y0 y1 y2 y3 y4 y5 y6, LeO (spec_AsmRight.j3 k y0 y1 y2 y3 y4 y5 y6) (spec_AsmRight.j3 (k + 1) y0 y1 y2 y3 y4 y5 y6)) ∧ (∀ y0 y1 y2 y3 y4 y5 y6, LeO (spec_AsmRight.l1 k y0 y1 y2 y3 y4 y5 y6) (spec_AsmRight.l1 (k + 1) y0 y1 y2 y3 y4 y5 y6))
 | 0 => ⟨fun _ _ _ _ _ r h => by simp [spec_AsmRight.j0] at h, fun _ _ _ _ _ _ r h => by simp [spec_AsmRight.l0] at h, fun _ _ _ _ _ _ _ r h => by simp [spec_AsmRight.j2] at h, fun _ _ _ _ _ _ _ r h => by simp [spec_AsmRight.j3] at h, fun _ _ _ _ _ _ _ r h => by simp [spec_AsmRight.l1] at h⟩
 | k + 1 => by
  obtain ⟨ih0, ih1, ih2, ih3, ih4⟩ := spec_AsmRight.mono_l k
  refine ⟨?_, ?_, ?_, ?_, ?_⟩
  ·intro y0 y1 y2 y3 y4
   unfold spec_AsmRight.j0
   with_reducible repeat' first | exact ih0 .. | exact ih1 .. | exact ih2 .. | exact ih3 .. | exact ih4 .. | exact spec_l04Heights.mono .. | exact spec_l04Is.mono .. | exact spec_l10Ins.mono .. | exact LeO.refl _ | exact LeO.none _ | refine LeO.ite ?_ ?_ | refine LeO.bind ?_ (fun _ => ?_)
  ·intro y0 y1 y2 y3 y4 y5
   unfold spec_AsmRight.l0
   with_reducible repeat' first | exact ih0 .. | exact ih1 .. | exact ih2 .. | exact ih3 .. | exact ih4 .. | exact spec_l04Heights.mono .. | exact spec_l04Is.mono .. | exact spec_l10Ins.mono .. | exact LeO.refl _ | exact LeO.none _ | refine LeO.ite ?_ ?_ | refine LeO.bind ?_ (fun _ => ?_)
  ·intro y0 y1 y2 y3 y4 y5 y6
   unfold spec_AsmRight.j2
   with_reducible repeat' first | exact ih0 .. | exact ih1 .. | exact ih2 .. | exact ih3 .. | exact ih4 .. | exact spec_l04Heights.mono .. | exact spec_l04Is.mono .. | exact spec_l10Ins.mono .. | exact LeO.refl _ | exact LeO.none _ | refine LeO.ite ?_ ?_ | refine LeO.bind ?_ (fun _ => ?_)
  ·intro y0 y1 y2 y3 y4 y5 y6
   unfold spec_AsmRight.j3
   with_reducible repeat' first | exact ih0 .. | exact ih1 .. | exact ih2 .. | exact ih3 .. | exact ih4 .. | exact spec_l04Heights.mono .. | exact spec_l04Is.mono .. | exact spec_l10Ins.mono .. | exact LeO.refl _ | exact LeO.none _ | refine LeO.ite ?_ ?_ | refine LeO.bind ?_ (fun _ => ?_)
  ·intro y0 y1 y2 y3 y4 y5 y6
   unfold spec_AsmRight.l1
   with_reducible repeat' first | exact ih0 .. | exact ih1 .. | exact ih2 .. | exact ih3 .. | exact ih4 .. | exact spec_l04Heights.mono .. | exact spec_l04Is.mono .. | exact spec_l10Ins.mono .. | exact LeO.refl _ | exact LeO.none _ | refine LeO.ite ?_ ?_ | refine LeO.bind ?_ (fun _ => ?_)
theorem spec_AsmRight.mono : ∀ a0 a1 a2 a3 k, LeO (spec_AsmRight.f k a0 a1 a2 a3) (spec_AsmRight.f (k + 1) a0 a1 a2 a3) := by
 intro a0 a1 a2 a3 k
 obtain ⟨ih0, ih1, ih2, ih3, ih4⟩ := spec_AsmRight.mono_l k
 unfold spec_AsmRight.f
 with_reducible repeat' first | exact ih0 .. | exact ih1 .. | exact ih2 .. | exact ih3 .. | exact ih4 .. | exact spec_l04Heights.mono .. | exact spec_l04Is.mono .. | exact spec_l10Ins.mono .. | exact LeO.refl _ | exact LeO.none _ | refine LeO.ite ?_ ?_ | refine LeO.bind ?_ (fun _ => ?_)
def spec_AsmRight.T1 : Bool × List (List Nat × List Nat) := (true, [([], []), ([], []), ([1], [1]), ([0, 2], [0, 2]), ([3], [3]), ([4, 3], [4]), ([5], [5]), ([6, 5], [5, 6]), ([7, 5], [5, 7]), ([5], [5]), ([9, 5], [5, 9]), ([5], [5]), ([11, 5], [5, 11]), ([10, 12, 5], [5, 10, 12]), ([13, 5], [5, 13]), ([14, 5], [5, 14]), ([15, 5], [5, 15]), ([8, 16, 5], [5, 8, 16]), ([5, 17], [5, 17]), ([18, 5], [18]), ([19], [19]), ([20, 19], [19, 20]), ([21, 19], [19, 21]), ([19], [19]), ([23, 19], [19, 23]), ([24, 19], [19, 24]), ([22, 25, 19], [19, 22, 25]), ([19, 26], [19, 26])])
def spec_AsmRight.B1 : List Nat := [0, 0, 2, 7, 15, 31, 63, 127, 255, 63, 575, 63, 2111, 7743, 15935, 32319, 65087, 131071, 262143, 524287, 1048575, 2097151, 4194303, 1048575, 9437183, 26214399, 67108863, 134217727]
theorem spec_AsmRight.tab1 : rtab .any (opsOf Try.f6 1) = spec_AsmRight.T1 := by kernel_rfl
theorem spec_AsmRight.bits1 : waitsOk spec_AsmRight.T1.2 spec_AsmRight.B1 = true := by kernel_rfl
def spec_AsmRight.T12 : Bool × List (List Nat × List Nat) := (true, [([], []), ([0], [0]), ([], []), ([2], [2]), ([1, 3], [1, 3]), ([4], [4]), ([5], [5]), ([], []), ([], []), ([7, 8], [7, 8]), ([9], [9]), ([6, 10], [6, 10]), ([11, 0, 1, 2, 3, 4, 5, 6, 7, 8, 9, 10, 11], [11])])
def spec_AsmRight.B12 : List Nat := [0, 1, 0, 4, 15, 31, 63, 0, 0, 384, 896, 2047, 4095]
theorem spec_AsmRight.tab12 : rtab .any (opsOf Try.f6 12) = spec_AsmRight.T12 := by kernel_rfl
theorem spec_AsmRight.bits12 : waitsOk spec_AsmRight.T12.2 spec_AsmRight.B12 = true := by kernel_rfl
theorem spec_AsmRight.calls (k : Nat) (A0_0 : Option Addr) (c0_0 : Nat) (l0_0 : List (S50)) (a1_0 : Int) (A1_1 : Option Addr) (c1_1 : Nat) (l1_1 : List (S59)) (A1_2 : Option Addr) (c1_2 : Nat) (l1_2 : List (List (S63))) (r : Bool) (w : World) (hr0_0 : Kd.C k50 w A0_0 l0_0.length l0_0) (hc0_0 : l0_0.length ≤ c0_0) (hr1_1 : Kd.C k59 w A1_1 l1_1.length l1_1) (hc1_1 : l1_1.length ≤ c1_1) (hr1_2 : Kd.C (Kd.slice 63 k63) w A1_2 l1_2.length l1_2) (hc1_2 : l1_2.length ≤ c1_2) (h : spec_AsmRight.f k l0_0 a1_0 l1_1 l1_2 = some r) :
  Calls Try.prog 6 #[.agg #[.slice A0_0 l0_0.length c0_0], .agg #[.int .i64 a1_0, .slice A1_1 l1_1.length c1_1, .slice A1_2 l1_2.length c1_2]] w fun e w' => e = .returned (.bool r) ∧ Below w.heap.size w w' := by
 have hu34 := Try.underlying34
 have hu39 := Try.underlying39
 have hu53 := Try.underlying53
 have hu59 := Try.underlying59
 have hu63 := Try.underlying63
 have HR0_0 := am hr0_0
 have HC0_0 := am hc0_0
 clear hr0_0 hc0_0
 have HR1_1 := am hr1_1
 have HC1_1 := am hc1_1
 clear hr1_1 hc1_1
 have HR1_2 := am hr1_2
 have HC1_2 := am hc1_2
 clear hr1_2 hc1_2
 have HB := am (Below.refl w.heap.size w)
 have H : ((spec_l04Is.f k l0_0 a1_0).bind fun t233 => (if t233 = true then (if 0 ≤ a1_0 then (if a1_0 < (l0_0.length : Int) then (if (l1_1.length : Int) = (((rd_T50 l0_0 a1_0).f2).length : Int) then (spec_AsmRight.j0 k ((l1_2.length : Int) != (l1_1.length : Int)) l0_0 a1_0 l1_1 l1_2) else (spec_AsmRight.j0 k true l0_0 a1_0 l1_1 l1_2)) else (none)) else (none)) else (spec_AsmRight.j0 k true l0_0 a1_0 l1_1 l1_2))) = some r := h
 clear h
 have HC3 := am H
 clear H
 go_enter Try.func6, Try.ntmps6
 go_upto_region 1 with (first | ((with_reducible refine gate_dst (N := 2) rfl ?_); (try (refine gate_guard (by rfl) ?_; dsimp only)); refine box_event ?hg (N := 2) ?hd (cs := #[.slice A0_0 l0_0.length c0_0]) (t := 34) ?hr ?_; (case hd => rfl); (case hg => rfl); (case hr => exact gs); intro gb231 hg w4 hbox hb; have BK231 := am (hbox); have GW231 := gw hg HB; replace HB := bs HB hb; clear hb hbox hg) | ((with_reducible refine gate_dst (N := 3) rfl ?_); (try (refine gate_guard (by rfl) ?_; dsimp only)); refine box_event ?hg (N := 3) ?hd (cs := #[.int .i64 a1_0, .slice A1_1 l1_1.length c1_1, .slice A1_2 l1_2.length c1_2]) (t := 39) ?hr ?_; (case hd => rfl); (case hg => rfl); (case hr => exact gs); intro gb232 hg w5 hbox hb; have BK232 := am (hbox); have GW232 := gw hg HB; replace HB := bs HB hb; obtain ⟨NB231_232, NB232_231, BK231⟩ := b3 hg BK231 hb; clear hb hbox hg))
 (try simp only [Act.put, sa, sz, ss])
 go_cut [38] (fun v38 wc => ∃ (kq : Nat) (x38_2 : Bool), v38 = .bool x38_2 ∧ Aside0 (spec_AsmRight.j0 kq x38_2 l0_0 a1_0 l1_1 l1_2 = some r) ∧ Aside0 (kq ≤ k) ∧ Aside0 (wc.heap[gb231]? = some (.cells #[(.slice A0_0 l0_0.length c0_0)] 34 (0, 0))) ∧ Aside0 (wc.heap[gb232]? = some (.cells #[.int .i64 a1_0, (.slice A1_1 l1_1.length c1_1), (.slice A1_2 l1_2.length c1_2)] 39 (0, 0))) ∧ Aside0 (Below w.heap.size w wc))
 case first =>
  have H := HC3.out
  clear HC3
  refine be H ?_; clear H; intro t233 A6 H
  refine qT H ?_ ?_ <;> clear H <;> intro c7 H <;> subst c7
  ·refine iM H ?_; clear H; intro c8b0 H
   (first | rw [c8b0] | (simp only [i64_w, i32_w]; rw [c8b0]) | skip)
   refine iM H ?_; clear H; intro c9b0 H
   by_cases c10 : (l1_1.length : Int) = (((rd_T50 l0_0 a1_0).f2).length : Int)
   ·rw [if_pos c10] at H
    have c10b0 : ((l1_1.length : Int) == (((rd_T50 l0_0 a1_0).f2).length : Int)) = true := beq_iff_eq.mpr c10
    have c10b1 : ((l1_1.length : Int) != (((rd_T50 l0_0 a1_0).f2).length : Int)) = false := bne_eq_false_iff_eq.mpr c10
    have c10b2 : (l1_1.length == ((rd_T50 l0_0 a1_0).f2).length) = true := by first | simpa using c10 | (simp at c10 ⊢; omega)
    clear c10
    have H' := am H
    clear H
    try go_wp2
    replace BK231 := am (blk_drew BK231.out)
    replace BK232 := am (blk_drew BK232.out)
    replace HB := am (below_drew1 HB.out)
    have p234 : 0 ≤ (a1_0 : Int) := of_decide_eq_true as1
    have q234 : a1_0 < (l0_0.length : Int) := of_decide_eq_true as1
    obtain ⟨ad234, A234_2, c234_2, e234, hx234_0, hx234_1, hx234_2, hl234_2, hi234_2⟩ := at_T50 HR0_0.out a1_0 p234 q234
    have hw234_2 := hx234_2
    have hw234_1 := hx234_1
    have hw234_0 := hx234_0
    cases e234
    replace hx234_0 := cl HB hx234_0
    replace hx234_1 := cl HB hx234_1
    replace hx234_2 := cl HB hx234_2
    have HR234_2 := am hi234_2
    have HC234_2 := am hl234_2
    clear hi234_2 hl234_2
    replace p234 := eq_true p234
    replace q234 := eq_true q234
    refine start_ (n := 28) (S := fun w' => w'.cell? ⟨gb231, 0, none⟩ = some (.slice (some ad234) l0_0.length c0_0) ∧ w'.cell? ⟨gb232, 0, none⟩ = some (.int .i64 a1_0) ∧ w'.cell? ⟨gb232, 1, none⟩ = some (.slice A1_1 l1_1.length c1_1) ∧ w'.cell? ⟨gb232, 2, none⟩ = some (.slice A1_2 l1_2.length c1_2) ∧ w'.cell? (ad234.add ((a1_0).toNat * 3)) = some (.int .i64 ((rd_T50 l0_0 a1_0).f0)) ∧ w'.cell? ⟨(ad234.add ((a1_0).toNat * 3)).block, (ad234.add ((a1_0).toNat * 3)).off + 1, none⟩ = some (.int .i64 ((rd_T50 l0_0 a1_0).f1)) ∧ w'.cell? ⟨(ad234.add ((a1_0).toNat * 3)).block, (ad234.add ((a1_0).toNat * 3)).off + 2, none⟩ = some (.slice A234_2 ((rd_T50 l0_0 a1_0).f2).length c234_2)) (ds := []) (bv 28 0) (by kernel_rfl) rfl (by kernel_rfl) ⟨bc BK231 0, bc BK232 0, bc BK232 1, bc BK232 2, (cq HB hw234_0), (cq HB hw234_1), (cq HB hw234_2)⟩ (fun hHeld => ?_); refine with_tabW spec_AsmRight.tab1 spec_AsmRight.bits1 (fun HT_ HW_ => ?_)
    generalize w5.drew = w11 at BK231 BK232 HB HR234_2 hx234_0 hx234_1 hx234_2 hHeld ⊢
    refine pu 1 12 28 2 HT_ ?_
    refine tk 0 11 28 3 HT_ HW_ hHeld ?_
    refine tk 2 13 28 7 HT_ HW_ hHeld ?_
    refine on 3 (some 14) 28 15 HT_ fun K hK => ?_
    refine goes_ Try.func15 (by kernel_rfl) rfl #[.agg #[.slice (some ad234) l0_0.length c0_0], .int .i64 a1_0] (by rfl) rfl rfl gl ?_
    with_reducible refine (spec_l04Is.calls k _ _ l0_0 a1_0 true _ ?side1 ?side2 A6.out).mono ?_
    (case side1 => exact cc (Kd.C_below HR0_0.out HB.out))
    (case side2 => exact HC0_0.out)
    rintro e w12 ⟨rfl, hb⟩
    refine ⟨_, rfl, ?_⟩
    replace BK231 := bb BK231 hb
    replace BK232 := bb BK232 hb
    replace HB := am (below_step (bw HB) hb)
    clear hb
    refine hK.out _ _ ⟨bc BK231 0, bc BK232 0, bc BK232 1, bc BK232 2, (cq HB hw234_0), (cq HB hw234_1), (cq HB hw234_2)⟩ (fun hHeld => ?_)
    clear hK K
    refine nm (some 14) ?_
    refine pu 4 15 28 31 HT_ ?_
    refine pu 5 16 28 63 HT_ ?_
    refine pu 6 17 28 127 HT_ ?_
    refine pu 9 20 28 639 HT_ ?_
    refine pu 11 22 28 2687 HT_ ?_
    refine tk 7 18 28 2815 HT_ HW_ hHeld ?_
    refine pu 8 19 28 3071 HT_ ?_
    refine tk 10 21 28 4095 HT_ HW_ hHeld ?_
    refine tk 12 23 28 8191 HT_ HW_ hHeld ?_
    refine pu 13 24 28 16383 HT_ ?_
    refine pu 14 25 28 32767 HT_ ?_
    refine tk 15 26 28 65535 HT_ HW_ hHeld ?_
    refine pu 16 27 28 131071 HT_ ?_
    refine pu 17 28 28 262143 HT_ ?_
    refine pu 18 29 28 524287 HT_ ?_
    refine pu 19 30 28 1048575 HT_ ?_
    refine pu 20 31 28 2097151 HT_ ?_
    refine pu 23 34 28 10485759 HT_ ?_
    refine tk 21 32 28 12582911 HT_ HW_ hHeld ?_
    refine pu 22 33 28 16777215 HT_ ?_
    refine tk 24 35 28 33554431 HT_ HW_ hHeld ?_
    refine pu 25 36 28 67108863 HT_ ?_
    refine pu 26 37 28 134217727 HT_ ?_
    refine pu 27 38 28 268435455 HT_ ?_
    refine done_ (done_of HT_.out (by kernel_rfl)) ?_
    try go_wp2
    go_meet
    case rel => exact ⟨_, (((l1_2.length : Int) != (l1_1.length : Int))), dr, H', ⟨lk0⟩, ⟨bp BK231⟩, ⟨bp BK232⟩, ⟨bw HB⟩⟩
   rw [if_neg c10] at H
   have c10b0 : ((l1_1.length : Int) == (((rd_T50 l0_0 a1_0).f2).length : Int)) = false := beq_eq_false_iff_ne.mpr c10
   have c10b1 : ((l1_1.length : Int) != (((rd_T50 l0_0 a1_0).f2).length : Int)) = true := bne_iff_ne.mpr c10
   have c10b2 : (l1_1.length == ((rd_T50 l0_0 a1_0).f2).length) = false := by first | simpa using c10 | (simp at c10 ⊢; omega)
   have H' := am H
   clear H
   try go_wp2
   replace BK231 := am (blk_drew BK231.out)
   replace BK232 := am (blk_drew BK232.out)
   replace HB := am (below_drew1 HB.out)
   have p234 : 0 ≤ (a1_0 : Int) := of_decide_eq_true as1
   have q234 : a1_0 < (l0_0.length : Int) := of_decide_eq_true as1
   obtain ⟨ad234, A234_2, c234_2, e234, hx234_0, hx234_1, hx234_2, hl234_2, hi234_2⟩ := at_T50 HR0_0.out a1_0 p234 q234
   have hw234_2 := hx234_2
   have hw234_1 := hx234_1
   have hw234_0 := hx234_0
   cases e234
   replace hx234_0 := cl HB hx234_0
   replace hx234_1 := cl HB hx234_1
   replace hx234_2 := cl HB hx234_2
   have HR234_2 := am hi234_2
   have HC234_2 := am hl234_2
   clear hi234_2 hl234_2
   replace p234 := eq_true p234
   replace q234 := eq_true q234
   refine start_ (n := 28) (S := fun w' => w'.cell? ⟨gb231, 0, none⟩ = some (.slice (some ad234) l0_0.length c0_0) ∧ w'.cell? ⟨gb232, 0, none⟩ = some (.int .i64 a1_0) ∧ w'.cell? ⟨gb232, 1, none⟩ = some (.slice A1_1 l1_1.length c1_1) ∧ w'.cell? ⟨gb232, 2, none⟩ = some (.slice A1_2 l1_2.length c1_2) ∧ w'.cell? (ad234.add ((a1_0).toNat * 3)) = some (.int .i64 ((rd_T50 l0_0 a1_0).f0)) ∧ w'.cell? ⟨(ad234.add ((a1_0).toNat * 3)).block, (ad234.add ((a1_0).toNat * 3)).off + 1, none⟩ = some (.int .i64 ((rd_T50 l0_0 a1_0).f1)) ∧ w'.cell? ⟨(ad234.add ((a1_0).toNat * 3)).block, (ad234.add ((a1_0).toNat * 3)).off + 2, none⟩ = some (.slice A234_2 ((rd_T50 l0_0 a1_0).f2).length c234_2)) (ds := []) (bv 28 0) (by kernel_rfl) rfl (by kernel_rfl) ⟨bc BK231 0, bc BK232 0, bc BK232 1, bc BK232 2, (cq HB hw234_0), (cq HB hw234_1), (cq HB hw234_2)⟩ (fun hHeld => ?_); refine with_tabW spec_AsmRight.tab1 spec_AsmRight.bits1 (fun HT_ HW_ => ?_)
   generalize w5.drew = w13 at BK231 BK232 HB HR234_2 hx234_0 hx234_1 hx234_2 hHeld ⊢
   refine pu 1 12 28 2 HT_ ?_
   refine tk 0 11 28 3 HT_ HW_ hHeld ?_
   refine tk 2 13 28 7 HT_ HW_ hHeld ?_
   refine on 3 (some 14) 28 15 HT_ fun K hK => ?_
   refine goes_ Try.func15 (by kernel_rfl) rfl #[.agg #[.slice (some ad234) l0_0.length c0_0], .int .i64 a1_0] (by rfl) rfl rfl gl ?_
   with_reducible refine (spec_l04Is.calls k _ _ l0_0 a1_0 true _ ?side1 ?side2 A6.out).mono ?_
   (case side1 => exact cc (Kd.C_below HR0_0.out HB.out))
   (case side2 => exact HC0_0.out)
   rintro e w14 ⟨rfl, hb⟩
   refine ⟨_, rfl, ?_⟩
   replace BK231 := bb BK231 hb
   replace BK232 := bb BK232 hb
   replace HB := am (below_step (bw HB) hb)
   clear hb
   refine hK.out _ _ ⟨bc BK231 0, bc BK232 0, bc BK232 1, bc BK232 2, (cq HB hw234_0), (cq HB hw234_1), (cq HB hw234_2)⟩ (fun hHeld => ?_)
   clear hK K
   refine nm (some 14) ?_
   refine pu 4 15 28 31 HT_ ?_
   refine pu 5 16 28 63 HT_ ?_
   refine pu 6 17 28 127 HT_ ?_
   refine pu 9 20 28 639 HT_ ?_
   refine pu 11 22 28 2687 HT_ ?_
   refine tk 7 18 28 2815 HT_ HW_ hHeld ?_
   refine pu 8 19 28 3071 HT_ ?_
   refine tk 10 21 28 4095 HT_ HW_ hHeld ?_
   refine tk 12 23 28 8191 HT_ HW_ hHeld ?_
   refine pu 13 24 28 16383 HT_ ?_
   refine pu 14 25 28 32767 HT_ ?_
   refine tk 15 26 28 65535 HT_ HW_ hHeld ?_
   refine pu 16 27 28 131071 HT_ ?_
   refine pu 17 28 28 262143 HT_ ?_
   refine pu 18 29 28 524287 HT_ ?_
   refine pu 19 30 28 1048575 HT_ ?_
   refine pn 20 31 28 2097151 HT_ ?_
   refine pn 21 32 28 4194303 HT_ ?_
   refine pn 22 33 28 8388607 HT_ ?_
   refine pn 23 34 28 16777215 HT_ ?_
   refine pn 24 35 28 33554431 HT_ ?_
   refine pn 25 36 28 67108863 HT_ ?_
   refine pn 26 37 28 134217727 HT_ ?_
   refine pu 27 38 28 268435455 HT_ ?_
   refine done_ (done_of HT_.out (by kernel_rfl)) ?_
   try go_wp2
   go_meet
   case rel => exact ⟨_, (true), dr, H', ⟨lk0⟩, ⟨bp BK231⟩, ⟨bp BK232⟩, ⟨bw HB⟩⟩
  have H' := am H
  clear H
  try go_wp2
  replace BK231 := am (blk_drew BK231.out)
  replace BK232 := am (blk_drew BK232.out)
  replace HB := am (below_drew1 HB.out)
  refine start_ (n := 28) (S := fun w' => w'.cell? ⟨gb231, 0, none⟩ = some (.slice A0_0 l0_0.length c0_0) ∧ w'.cell? ⟨gb232, 0, none⟩ = some (.int .i64 a1_0) ∧ w'.cell? ⟨gb232, 1, none⟩ = some (.slice A1_1 l1_1.length c1_1) ∧ w'.cell? ⟨gb232, 2, none⟩ = some (.slice A1_2 l1_2.length c1_2)) (ds := []) (bv 28 0) (by kernel_rfl) rfl (by kernel_rfl) ⟨bc BK231 0, bc BK232 0, bc BK232 1, bc BK232 2⟩ (fun hHeld => ?_); refine with_tabW spec_AsmRight.tab1 spec_AsmRight.bits1 (fun HT_ HW_ => ?_)
  generalize w5.drew = w15 at BK231 BK232 HB hHeld ⊢
  refine pu 1 12 28 2 HT_ ?_
  refine tk 0 11 28 3 HT_ HW_ hHeld ?_
  refine tk 2 13 28 7 HT_ HW_ hHeld ?_
  refine on 3 (some 14) 28 15 HT_ fun K hK => ?_
  refine goes_ Try.func15 (by kernel_rfl) rfl #[.agg #[.slice A0_0 l0_0.length c0_0], .int .i64 a1_0] (by rfl) rfl rfl gl ?_
  with_reducible refine (spec_l04Is.calls k _ _ l0_0 a1_0 false _ ?side1 ?side2 A6.out).mono ?_
  (case side1 => exact cc (Kd.C_below HR0_0.out HB.out))
  (case side2 => exact HC0_0.out)
  rintro e w16 ⟨rfl, hb⟩
  refine ⟨_, rfl, ?_⟩
  replace BK231 := bb BK231 hb
  replace BK232 := bb BK232 hb
  replace HB := am (below_step (bw HB) hb)
  clear hb
  refine hK.out _ _ ⟨bc BK231 0, bc BK232 0, bc BK232 1, bc BK232 2⟩ (fun hHeld => ?_)
  clear hK K
  refine nm (some 14) ?_
  refine pu 4 15 28 31 HT_ ?_
  refine pu 5 16 28 63 HT_ ?_
  refine pn 6 17 28 127 HT_ ?_
  refine pn 7 18 28 255 HT_ ?_
  refine pn 8 19 28 511 HT_ ?_
  refine pn 9 20 28 1023 HT_ ?_
  refine pn 10 21 28 2047 HT_ ?_
  refine pn 11 22 28 4095 HT_ ?_
  refine pn 12 23 28 8191 HT_ ?_
  refine pn 13 24 28 16383 HT_ ?_
  refine pn 14 25 28 32767 HT_ ?_
  refine pn 15 26 28 65535 HT_ ?_
  refine pn 16 27 28 131071 HT_ ?_
  refine pn 17 28 28 262143 HT_ ?_
  refine pu 18 29 28 524287 HT_ ?_
  refine pu 19 30 28 1048575 HT_ ?_
  refine pn 20 31 28 2097151 HT_ ?_
  refine pn 21 32 28 4194303 HT_ ?_
  refine pn 22 33 28 8388607 HT_ ?_
  refine pn 23 34 28 16777215 HT_ ?_
  refine pn 24 35 28 33554431 HT_ ?_
  refine pn 25 36 28 67108863 HT_ ?_
  refine pn 26 37 28 134217727 HT_ ?_
  refine pu 27 38 28 268435455 HT_ ?_
  refine done_ (done_of HT_.out (by kernel_rfl)) ?_
  try go_wp2
  go_meet
  case rel => exact ⟨_, (true), dr, H', ⟨lk0⟩, ⟨bp BK231⟩, ⟨bp BK232⟩, ⟨bw HB⟩⟩
 clear HC3
 (try clear c1); (try clear c2); (try clear p2); (try clear q2); (try clear hx2); (try clear c7); (try clear c8); (try clear c9); (try clear c10); (try clear c10b0); (try clear c10b1); (try clear c10b2); (try clear c15); (try clear hx234_0); (try clear hx234_1); (try clear hx234_2); (try clear p234); (try clear q234)
 obtain ⟨kq, x38_2, rfl, HA, HJ2, BK231, BK232, HB⟩ := hcut
 rcases kq with _ | kj2
 ·exact absurd HA.out (by simp [spec_AsmRight.j0])
 have H := HA.out
 clear HA
 simp only [spec_AsmRight.j0] at H
 refine qT H ?_ ?_ <;> clear H <;> intro c17 H <;> subst c17
 ·obtain rfl := Option.some.inj H
  go_wp2
  go_ret
  exact ⟨er, bw HB⟩
 replace H := Option.bind_eq_some_iff.mp H
 obtain ⟨⟨t235, t238, t239, t240⟩, A180, H⟩ := H
 replace H : (spec_AsmRight.l0 kj2 t235 0 l0_0 a1_0 l1_1 l1_2) = some r := H
 have A18 := am A180
 clear A180
 have H' := am H
 clear H
 have hnb19 := NB231_232.out
 have hnc19 := NB232_231.out
 have hcz20 := bK wc BK231
 have hfz20 := bF BK231
 have hcz21 := bK wc BK232
 have hfz21 := bF BK232
 go_wp2_with (first | ((with_reducible refine gk 16 rfl ?_); refine gC 16 (some 43) Try.func16 #[.agg #[.slice A0_0 l0_0.length c0_0], .int .i64 a1_0] ((spec_l04Heights.calls kj2 _ _ l0_0 a1_0 t235 t238 t239 t240 _ (cc (Kd.C_below HR0_0.out HB.out)) HC0_0.out A18.out).mono ?_); rintro e w22 ⟨v236, rfl, ho0, hb⟩; refine ⟨_, rfl, ?_⟩; have HO237 := am (Kd.R_lower ho0 (below_size (bw HB))); replace BK231 := bb BK231 hb; replace BK232 := bb BK232 hb; replace HB := bs HB hb; clear hb; (try clear ho0)) | ((with_reducible refine gate_dst (N := 6) rfl ?_); (try (refine gate_guard (by rfl) ?_; dsimp only)); refine box_event ?hg (N := 6) ?hd (cs := #[.int .i64 0, .int .i64 0, .int .i64 0]) (t := 53) ?hr ?_; (case hd => rfl); (case hg => rfl); (case hr => exact gs); intro gb241 hg w23 hbox hb; replace HO237 := am (Kd.R_below (kR HO237) hb); have BK241 := am (hbox); have GW241 := gw hg HB; replace HB := bs HB hb; obtain ⟨NB231_241, NB241_231, BK231⟩ := b3 hg BK231 hb; obtain ⟨NB232_241, NB241_232, BK232⟩ := b3 hg BK232 hb; clear hb hbox hg; have hnb24 := NB241_231.out; have hnc24 := NB231_241.out; have hnb25 := NB241_232.out; have hnc25 := NB232_241.out; have hcz26 := bK w23 BK241; have hfz26 := bF BK241))
 go_loopg [7] kj2 (fun kq v7 w' => ∃ (x7_2 : Int), v7 = .int .i64 x7_2 ∧ Aside0 (spec_AsmRight.l0 kq t235 x7_2 l0_0 a1_0 l1_1 l1_2 = some r) ∧ Aside0 (kq ≤ kj2) ∧ Aside0 (Kd.R (Kd.int .i64) 2 w' w.heap.size (fun _ => True) v236 t235) ∧ Aside0 (w'.heap[gb231]? = some (.cells #[(.slice A0_0 l0_0.length c0_0)] 34 (0, 0))) ∧ Aside0 (w'.heap[gb232]? = some (.cells #[.int .i64 a1_0, (.slice A1_1 l1_1.length c1_1), (.slice A1_2 l1_2.length c1_2)] 39 (0, 0))) ∧ Aside0 (w'.heap[gb241]? = some (.cells #[.int .i64 t238, .int .i64 t239, .int .i64 t240] 53 (0, 0))) ∧ Aside0 (Below w.heap.size w w'))
 case atStart => exact ⟨(0), dr, H', ⟨Nat.le_refl _⟩, ⟨by (with_reducible repeat (first | apply Kd.R_alloc | apply Kd.R_drewN | apply Kd.R_drew)); exact Kd.R_mono (Kd.R_far (p := ⟨gb241, 2, none⟩) (Kd.R_far (p := ⟨gb241, 1, none⟩) (Kd.R_far (p := ⟨gb241, 0, none⟩) (Kd.R_types HO237.out BK241.out (by decide)) (fun _ hk => hk.2) (.int .i64 t238)) (fun _ hk => hk.2) (.int .i64 t239)) (fun _ hk => hk.2) (.int .i64 t240)) (fun _ hk => trivial)⟩, ⟨by (with_reducible repeat (first | apply dN | apply dW | apply dA)); refine blk_far ?_ NB231_241.out _; (with_reducible repeat (first | apply dN | apply dW | apply dA)); refine blk_far ?_ NB231_241.out _; (with_reducible repeat (first | apply dN | apply dW | apply dA)); refine blk_far ?_ NB231_241.out _; exact bp BK231⟩, ⟨by (with_reducible repeat (first | apply dN | apply dW | apply dA)); refine blk_far ?_ NB232_241.out _; (with_reducible repeat (first | apply dN | apply dW | apply dA)); refine blk_far ?_ NB232_241.out _; (with_reducible repeat (first | apply dN | apply dW | apply dA)); refine blk_far ?_ NB232_241.out _; exact bp BK232⟩, ⟨by (with_reducible repeat (first | apply dN | apply dW | apply dA)); refine blk_put (cs := #[.int .i64 t238, .int .i64 t239, .int .i64 0]) ?_ 2 _ rfl; (with_reducible repeat (first | apply dN | apply dW | apply dA)); refine blk_put (cs := #[.int .i64 t238, .int .i64 0, .int .i64 0]) ?_ 1 _ rfl; (with_reducible repeat (first | apply dN | apply dW | apply dA)); refine blk_put (cs := #[.int .i64 0, .int .i64 0, .int .i64 0]) ?_ 0 _ rfl; exact bp BK241⟩, ⟨bw HB⟩⟩
 clear H'
 (try clear c16); (try clear c17); (try clear c19); (try clear c23); (try clear p23); (try clear q23); (try clear hx23); (try clear c24); (try clear c25); (try clear hcz20); (try clear hcz21); (try clear hcz26); (try clear hfz20); (try clear hfz21); (try clear hfz26)
 obtain ⟨x7_2, rfl, HA, HK2, HO_5, BK231, BK232, BK241, HB⟩ := hrel
 rcases gk with _ | k2
 ·exact absurd HA.out (by simp [spec_AsmRight.l0])
 have H := HA.out
 clear HA
 simp only [spec_AsmRight.l0] at H
 by_cases c27 : x7_2 < (l1_1.length : Int)
 ·rw [if_pos c27] at H
  have c27b0 := decide_eq_true c27
  clear c27
  refine iN H ?_; clear H; intro c28 H
  have c28b0 := decide_eq_true c28
  clear c28
  have HC29 := am H
  clear H
  have hnb30 := NB232_231.out
  have hnc30 := NB231_232.out
  have hnb31 := NB232_241.out
  have hnc31 := NB241_232.out
  have hcz32 := bK wr BK232
  have hfz32 := bF BK232
  have p242 : 0 ≤ (x7_2 : Int) := of_decide_eq_true as1
  have q242 : x7_2 < (l1_1.length : Int) := of_decide_eq_true as1
  obtain ⟨ad242, A242_0, c242_0, A242_3, c242_3, e242, hx242_0, hx242_1, hx242_2, hx242_3, hx242_4, hl242_0, hi242_0, hl242_3, hi242_3⟩ := at_T59 HR1_1.out x7_2 p242 q242
  cases e242
  replace hx242_0 := cl HB hx242_0
  replace hx242_1 := cl HB hx242_1
  replace hx242_2 := cl HB hx242_2
  replace hx242_3 := cl HB hx242_3
  replace hx242_4 := cl HB hx242_4
  have HR242_0 := am hi242_0
  have HC242_0 := am hl242_0
  clear hi242_0 hl242_0
  have HR242_3 := am hi242_3
  have HC242_3 := am hl242_3
  clear hi242_3 hl242_3
  replace p242 := eq_true p242
  replace q242 := eq_true q242
  go_upto_region 8 with (first | ((with_reducible refine gate_dst (N := 8) rfl ?_); (try (refine gate_guard (by rfl) ?_; dsimp only)); refine box_event ?hg (N := 8) ?hd (cs := #[.slice none 0 0, .int .i64 0, .int .i64 0, .slice none 0 0, .int .i64 0]) (t := 59) ?hr ?_; (case hd => rfl); (case hg => rfl); (case hr => exact gs); intro gb243 hg w33 hbox hb; replace HO_5 := am (Kd.R_below (kR HO_5) hb); have BK243 := am (hbox); have GW243 := gw hg HB; replace HB := bs HB hb; obtain ⟨NB231_243, NB243_231, BK231⟩ := b3 hg BK231 hb; obtain ⟨NB232_243, NB243_232, BK232⟩ := b3 hg BK232 hb; obtain ⟨NB241_243, NB243_241, BK241⟩ := b3 hg BK241 hb; clear hb hbox hg; have hnb34 := NB243_231.out; have hnc34 := NB231_243.out; have hnb35 := NB243_232.out; have hnc35 := NB232_243.out; have hnb36 := NB243_241.out; have hnc36 := NB241_243.out; have hcz37_0 := bk w33 BK243 0; have hcz37_1 := bk w33 BK243 1; have hcz37_2 := bk w33 BK243 2; have hcz37_3 := bk w33 BK243 3; have hcz37_4 := bk w33 BK243 4; have hfz37_0 := bf BK243 0; have hfz37_1 := bf BK243 1; have hfz37_2 := bf BK243 2; have hfz37_3 := bf BK243 3; have hfz37_4 := bf BK243 4))
  (try simp only [Act.put, sa, sz, ss])
  go_cut [81] (fun v81 wc => ∃ (kq : Nat) (x81_28 : Bool), v81 = .bool x81_28 ∧ Aside0 (spec_AsmRight.j2 kq t235 x7_2 x81_28 l0_0 a1_0 l1_1 l1_2 = some r) ∧ Aside0 (kq ≤ k2) ∧ Aside0 (Kd.R (Kd.int .i64) 2 wc w.heap.size (fun _ => True) v236 t235) ∧ Aside0 (wc.heap[gb231]? = some (.cells #[(.slice A0_0 l0_0.length c0_0)] 34 (0, 0))) ∧ Aside0 (wc.heap[gb232]? = some (.cells #[.int .i64 a1_0, (.slice (some ad242) l1_1.length c1_1), (.slice A1_2 l1_2.length c1_2)] 39 (0, 0))) ∧ Aside0 (wc.heap[gb241]? = some (.cells #[.int .i64 t238, .int .i64 t239, .int .i64 t240] 53 (0, 0))) ∧ Aside0 (wc.heap[gb243]? = some (.cells #[(.slice A242_0 ((rd_T59 l1_1 x7_2).f0).length c242_0), .int .i64 ((rd_T59 l1_1 x7_2).f1), .int .i64 ((rd_T59 l1_1 x7_2).f2), (.slice A242_3 ((rd_T59 l1_1 x7_2).f3).length c242_3), .int .i64 ((rd_T59 l1_1 x7_2).f4)] 59 (0, 0))) ∧ Aside0 (Below w.heap.size w wc))
  case first =>
   have H := HC29.out
   clear HC29
   refine be H ?_; clear H; intro t244 A38 H
   refine qT H ?_ ?_ <;> clear H <;> intro c39 H <;> subst c39
   ·refine iM H ?_; clear H; intro c40b0 H
    (first | rw [c40b0] | (simp only [i64_w, i32_w]; rw [c40b0]) | skip)
    refine qI H ?_ ?_ <;> clear H <;> intro c41b0 H
    ·refine qE H ?_ ?_ <;> clear H
     ·intro c42b0 c42b1 H
      have H' := am H
      clear H
      have hnb43 := NB231_232.out
      have hnc43 := NB232_231.out
      have hnb44 := NB231_241.out
      have hnc44 := NB241_231.out
      have hnb45 := NB231_243.out
      have hnc45 := NB243_231.out
      have hcz46 := bK w33 BK231
      have hfz46 := bF BK231
      have hnb47 := NB232_241.out
      have hnc47 := NB241_232.out
      have hnb48 := NB232_243.out
      have hnc48 := NB243_232.out
      have hcz49 := bK w33 BK232
      have hfz49 := bF BK232
      have hnb50 := NB243_241.out
      have hnc50 := NB241_243.out
      have hcz51_0 := bk w33 BK243 0
      have hcz51_1 := bk w33 BK243 1
      have hcz51_2 := bk w33 BK243 2
      have hcz51_3 := bk w33 BK243 3
      have hcz51_4 := bk w33 BK243 4
      have hfz51_0 := bf BK243 0
      have hfz51_1 := bf BK243 1
      have hfz51_2 := bf BK243 2
      have hfz51_3 := bf BK243 3
      have hfz51_4 := bf BK243 4
      go_wp2_with (first | ((with_reducible refine gk 17 rfl ?_); refine gB 17 (some 62) Try.func17 #[.agg #[.slice A0_0 l0_0.length c0_0], .int .i64 a1_0, .agg #[.slice A242_0 ((rd_T59 l1_1 x7_2).f0).length c242_0, .int .i64 ((rd_T59 l1_1 x7_2).f1), .int .i64 ((rd_T59 l1_1 x7_2).f2), .slice A242_3 ((rd_T59 l1_1 x7_2).f3).length c242_3, .int .i64 ((rd_T59 l1_1 x7_2).f4)]] (spec_l10Ins.calls k2 _ _ l0_0 a1_0 _ _ ((rd_T59 l1_1 x7_2).f0) ((rd_T59 l1_1 x7_2).f1) ((rd_T59 l1_1 x7_2).f2) _ _ ((rd_T59 l1_1 x7_2).f3) ((rd_T59 l1_1 x7_2).f4) true _ (Kd.C_below HR0_0.out (bw HB)) HC0_0.out (Kd.C_below HR242_0.out (bw HB)) HC242_0.out (Kd.C_below HR242_3.out (bw HB)) HC242_3.out A38.out) ?_; intro w52 hb; replace HO_5 := am (Kd.R_below (by (with_reducible repeat (first | apply Kd.R_alloc | apply Kd.R_drewN | apply Kd.R_drew)); exact (Kd.R_mono (Kd.R_far (p := ⟨gb243, 4, none⟩) (Kd.R_far (p := ⟨gb243, 3, none⟩) (Kd.R_far (p := ⟨gb243, 2, none⟩) (Kd.R_far (p := ⟨gb243, 1, none⟩) (Kd.R_far (p := ⟨gb243, 0, none⟩) (Kd.R_types HO_5.out BK243.out (by decide)) (fun _ hk => hk.2) (.slice A242_0 ((rd_T59 l1_1 x7_2).f0).length c242_0)) (fun _ hk => hk.2) (.int .i64 ((rd_T59 l1_1 x7_2).f1))) (fun _ hk => hk.2) (.int .i64 ((rd_T59 l1_1 x7_2).f2))) (fun _ hk => hk.2) (.slice A242_3 ((rd_T59 l1_1 x7_2).f3).length c242_3)) (fun _ hk => hk.2) (.int .i64 ((rd_T59 l1_1 x7_2).f4))) (fun _ h_ => h_.1))) hb); replace BK231 := bb2 BK231 hb; replace BK232 := bb2 BK232 hb; replace BK241 := bb2 BK241 hb; replace BK243 := bo #[.slice A242_0 ((rd_T59 l1_1 x7_2).f0).length c242_0, .int .i64 ((rd_T59 l1_1 x7_2).f1), .int .i64 ((rd_T59 l1_1 x7_2).f2), .slice A242_3 ((rd_T59 l1_1 x7_2).f3).length c242_3, .int .i64 ((rd_T59 l1_1 x7_2).f4)] BK243 hb; replace HB := bs HB hb; clear hb; obtain ⟨Ao53, co53, eo53⟩ := Kd.R_slice HO_5.out; subst eo53; have p245 : 0 ≤ (x7_2 : Int) := of_decide_eq_true as1; have q245 : x7_2 < (t235.length : Int) := of_decide_eq_true as1; obtain ⟨ad245, e245, hx245_0⟩ := Kd.at_int (Kd.R_reads' HO_5.out).2.2 x7_2 p245 q245; cases e245; replace p245 := eq_true p245; replace q245 := eq_true q245; have hcz54_0 := bk w52 BK243 0; have hcz54_1 := bk w52 BK243 1; have hcz54_2 := bk w52 BK243 2; have hcz54_3 := bk w52 BK243 3; have hcz54_4 := bk w52 BK243 4; have hfz54_0 := bf BK243 0; have hfz54_1 := bf BK243 1; have hfz54_2 := bf BK243 2; have hfz54_3 := bf BK243 3; have hfz54_4 := bf BK243 4))
      go_meet
      case rel => exact ⟨_, (decide ((((rd_T59 l1_1 x7_2).f0).length : Int) > 0)), dr, H', ⟨lk2 HJ2 HK2⟩, ⟨kR HO_5⟩, ⟨bp BK231⟩, ⟨bp BK232⟩, ⟨bp BK241⟩, ⟨bp BK243⟩, ⟨bw HB⟩⟩
     intro c42 c42b0 c42b1 H
     have H' := am H
     clear H
     have hnb55 := NB231_232.out
     have hnc55 := NB232_231.out
     have hnb56 := NB231_241.out
     have hnc56 := NB241_231.out
     have hnb57 := NB231_243.out
     have hnc57 := NB243_231.out
     have hcz58 := bK w33 BK231
     have hfz58 := bF BK231
     have hnb59 := NB232_241.out
     have hnc59 := NB241_232.out
     have hnb60 := NB232_243.out
     have hnc60 := NB243_232.out
     have hcz61 := bK w33 BK232
     have hfz61 := bF BK232
     have hnb62 := NB243_241.out
     have hnc62 := NB241_243.out
     have hcz63_0 := bk w33 BK243 0
     have hcz63_1 := bk w33 BK243 1
     have hcz63_2 := bk w33 BK243 2
     have hcz63_3 := bk w33 BK243 3
     have hcz63_4 := bk w33 BK243 4
     have hfz63_0 := bf BK243 0
     have hfz63_1 := bf BK243 1
     have hfz63_2 := bf BK243 2
     have hfz63_3 := bf BK243 3
     have hfz63_4 := bf BK243 4
     go_wp2_with (first | ((with_reducible refine gk 17 rfl ?_); refine gB 17 (some 62) Try.func17 #[.agg #[.slice A0_0 l0_0.length c0_0], .int .i64 a1_0, .agg #[.slice A242_0 ((rd_T59 l1_1 x7_2).f0).length c242_0, .int .i64 ((rd_T59 l1_1 x7_2).f1), .int .i64 ((rd_T59 l1_1 x7_2).f2), .slice A242_3 ((rd_T59 l1_1 x7_2).f3).length c242_3, .int .i64 ((rd_T59 l1_1 x7_2).f4)]] (spec_l10Ins.calls k2 _ _ l0_0 a1_0 _ _ ((rd_T59 l1_1 x7_2).f0) ((rd_T59 l1_1 x7_2).f1) ((rd_T59 l1_1 x7_2).f2) _ _ ((rd_T59 l1_1 x7_2).f3) ((rd_T59 l1_1 x7_2).f4) true _ (Kd.C_below HR0_0.out (bw HB)) HC0_0.out (Kd.C_below HR242_0.out (bw HB)) HC242_0.out (Kd.C_below HR242_3.out (bw HB)) HC242_3.out A38.out) ?_; intro w64 hb; replace HO_5 := am (Kd.R_below (by (with_reducible repeat (first | apply Kd.R_alloc | apply Kd.R_drewN | apply Kd.R_drew)); exact (Kd.R_mono (Kd.R_far (p := ⟨gb243, 4, none⟩) (Kd.R_far (p := ⟨gb243, 3, none⟩) (Kd.R_far (p := ⟨gb243, 2, none⟩) (Kd.R_far (p := ⟨gb243, 1, none⟩) (Kd.R_far (p := ⟨gb243, 0, none⟩) (Kd.R_types HO_5.out BK243.out (by decide)) (fun _ hk => hk.2) (.slice A242_0 ((rd_T59 l1_1 x7_2).f0).length c242_0)) (fun _ hk => hk.2) (.int .i64 ((rd_T59 l1_1 x7_2).f1))) (fun _ hk => hk.2) (.int .i64 ((rd_T59 l1_1 x7_2).f2))) (fun _ hk => hk.2) (.slice A242_3 ((rd_T59 l1_1 x7_2).f3).length c242_3)) (fun _ hk => hk.2) (.int .i64 ((rd_T59 l1_1 x7_2).f4))) (fun _ h_ => h_.1))) hb); replace BK231 := bb2 BK231 hb; replace BK232 := bb2 BK232 hb; replace BK241 := bb2 BK241 hb; replace BK243 := bo #[.slice A242_0 ((rd_T59 l1_1 x7_2).f0).length c242_0, .int .i64 ((rd_T59 l1_1 x7_2).f1), .int .i64 ((rd_T59 l1_1 x7_2).f2), .slice A242_3 ((rd_T59 l1_1 x7_2).f3).length c242_3, .int .i64 ((rd_T59 l1_1 x7_2).f4)] BK243 hb; replace HB := bs HB hb; clear hb; obtain ⟨Ao65, co65, eo65⟩ := Kd.R_slice HO_5.out; subst eo65; have p245 : 0 ≤ (x7_2 : Int) := of_decide_eq_true as1; have q245 : x7_2 < (t235.length : Int) := of_decide_eq_true as1; obtain ⟨ad245, e245, hx245_0⟩ := Kd.at_int (Kd.R_reads' HO_5.out).2.2 x7_2 p245 q245; cases e245; replace p245 := eq_true p245; replace q245 := eq_true q245; have hcz66_0 := bk w64 BK243 0; have hcz66_1 := bk w64 BK243 1; have hcz66_2 := bk w64 BK243 2; have hcz66_3 := bk w64 BK243 3; have hcz66_4 := bk w64 BK243 4; have hfz66_0 := bf BK243 0; have hfz66_1 := bf BK243 1; have hfz66_2 := bf BK243 2; have hfz66_3 := bf BK243 3; have hfz66_4 := bf BK243 4))
     go_meet
     case rel => exact ⟨_, (true), dr, H', ⟨lk2 HJ2 HK2⟩, ⟨kR HO_5⟩, ⟨bp BK231⟩, ⟨bp BK232⟩, ⟨bp BK241⟩, ⟨bp BK243⟩, ⟨bw HB⟩⟩
    have H' := am H
    clear H
    have hnb67 := NB231_232.out
    have hnc67 := NB232_231.out
    have hnb68 := NB231_241.out
    have hnc68 := NB241_231.out
    have hnb69 := NB231_243.out
    have hnc69 := NB243_231.out
    have hcz70 := bK w33 BK231
    have hfz70 := bF BK231
    have hnb71 := NB232_241.out
    have hnc71 := NB241_232.out
    have hnb72 := NB232_243.out
    have hnc72 := NB243_232.out
    have hcz73 := bK w33 BK232
    have hfz73 := bF BK232
    have hnb74 := NB243_241.out
    have hnc74 := NB241_243.out
    have hcz75_0 := bk w33 BK243 0
    have hcz75_1 := bk w33 BK243 1
    have hcz75_2 := bk w33 BK243 2
    have hcz75_3 := bk w33 BK243 3
    have hcz75_4 := bk w33 BK243 4
    have hfz75_0 := bf BK243 0
    have hfz75_1 := bf BK243 1
    have hfz75_2 := bf BK243 2
    have hfz75_3 := bf BK243 3
    have hfz75_4 := bf BK243 4
    go_wp2_with (first | ((with_reducible refine gk 17 rfl ?_); refine gB 17 (some 62) Try.func17 #[.agg #[.slice A0_0 l0_0.length c0_0], .int .i64 a1_0, .agg #[.slice A242_0 ((rd_T59 l1_1 x7_2).f0).length c242_0, .int .i64 ((rd_T59 l1_1 x7_2).f1), .int .i64 ((rd_T59 l1_1 x7_2).f2), .slice A242_3 ((rd_T59 l1_1 x7_2).f3).length c242_3, .int .i64 ((rd_T59 l1_1 x7_2).f4)]] (spec_l10Ins.calls k2 _ _ l0_0 a1_0 _ _ ((rd_T59 l1_1 x7_2).f0) ((rd_T59 l1_1 x7_2).f1) ((rd_T59 l1_1 x7_2).f2) _ _ ((rd_T59 l1_1 x7_2).f3) ((rd_T59 l1_1 x7_2).f4) true _ (Kd.C_below HR0_0.out (bw HB)) HC0_0.out (Kd.C_below HR242_0.out (bw HB)) HC242_0.out (Kd.C_below HR242_3.out (bw HB)) HC242_3.out A38.out) ?_; intro w76 hb; replace HO_5 := am (Kd.R_below (by (with_reducible repeat (first | apply Kd.R_alloc | apply Kd.R_drewN | apply Kd.R_drew)); exact (Kd.R_mono (Kd.R_far (p := ⟨gb243, 4, none⟩) (Kd.R_far (p := ⟨gb243, 3, none⟩) (Kd.R_far (p := ⟨gb243, 2, none⟩) (Kd.R_far (p := ⟨gb243, 1, none⟩) (Kd.R_far (p := ⟨gb243, 0, none⟩) (Kd.R_types HO_5.out BK243.out (by decide)) (fun _ hk => hk.2) (.slice A242_0 ((rd_T59 l1_1 x7_2).f0).length c242_0)) (fun _ hk => hk.2) (.int .i64 ((rd_T59 l1_1 x7_2).f1))) (fun _ hk => hk.2) (.int .i64 ((rd_T59 l1_1 x7_2).f2))) (fun _ hk => hk.2) (.slice A242_3 ((rd_T59 l1_1 x7_2).f3).length c242_3)) (fun _ hk => hk.2) (.int .i64 ((rd_T59 l1_1 x7_2).f4))) (fun _ h_ => h_.1))) hb); replace BK231 := bb2 BK231 hb; replace BK232 := bb2 BK232 hb; replace BK241 := bb2 BK241 hb; replace BK243 := bo #[.slice A242_0 ((rd_T59 l1_1 x7_2).f0).length c242_0, .int .i64 ((rd_T59 l1_1 x7_2).f1), .int .i64 ((rd_T59 l1_1 x7_2).f2), .slice A242_3 ((rd_T59 l1_1 x7_2).f3).length c242_3, .int .i64 ((rd_T59 l1_1 x7_2).f4)] BK243 hb; replace HB := bs HB hb; clear hb; obtain ⟨Ao77, co77, eo77⟩ := Kd.R_slice HO_5.out; subst eo77; have p245 : 0 ≤ (x7_2 : Int) := of_decide_eq_true as1; have q245 : x7_2 < (t235.length : Int) := of_decide_eq_true as1; obtain ⟨ad245, e245, hx245_0⟩ := Kd.at_int (Kd.R_reads' HO_5.out).2.2 x7_2 p245 q245; cases e245; replace p245 := eq_true p245; replace q245 := eq_true q245))
    go_meet
    case rel => exact ⟨_, (false), dr, H', ⟨lk2 HJ2 HK2⟩, ⟨kR HO_5⟩, ⟨bp BK231⟩, ⟨bp BK232⟩, ⟨bp BK241⟩, ⟨bp BK243⟩, ⟨bw HB⟩⟩
   have H' := am H
   clear H
   have hnb78 := NB231_232.out
   have hnc78 := NB232_231.out
   have hnb79 := NB231_241.out
   have hnc79 := NB241_231.out
   have hnb80 := NB231_243.out
   have hnc80 := NB243_231.out
   have hcz81 := bK w33 BK231
   have hfz81 := bF BK231
   have hnb82 := NB232_241.out
   have hnc82 := NB241_232.out
   have hnb83 := NB232_243.out
   have hnc83 := NB243_232.out
   have hcz84 := bK w33 BK232
   have hfz84 := bF BK232
   have hnb85 := NB243_241.out
   have hnc85 := NB241_243.out
   have hcz86_0 := bk w33 BK243 0
   have hcz86_1 := bk w33 BK243 1
   have hcz86_2 := bk w33 BK243 2
   have hcz86_3 := bk w33 BK243 3
   have hcz86_4 := bk w33 BK243 4
   have hfz86_0 := bf BK243 0
   have hfz86_1 := bf BK243 1
   have hfz86_2 := bf BK243 2
   have hfz86_3 := bf BK243 3
   have hfz86_4 := bf BK243 4
   go_wp2_with (first | ((with_reducible refine gk 17 rfl ?_); refine gB 17 (some 62) Try.func17 #[.agg #[.slice A0_0 l0_0.length c0_0], .int .i64 a1_0, .agg #[.slice A242_0 ((rd_T59 l1_1 x7_2).f0).length c242_0, .int .i64 ((rd_T59 l1_1 x7_2).f1), .int .i64 ((rd_T59 l1_1 x7_2).f2), .slice A242_3 ((rd_T59 l1_1 x7_2).f3).length c242_3, .int .i64 ((rd_T59 l1_1 x7_2).f4)]] (spec_l10Ins.calls k2 _ _ l0_0 a1_0 _ _ ((rd_T59 l1_1 x7_2).f0) ((rd_T59 l1_1 x7_2).f1) ((rd_T59 l1_1 x7_2).f2) _ _ ((rd_T59 l1_1 x7_2).f3) ((rd_T59 l1_1 x7_2).f4) false _ (Kd.C_below HR0_0.out (bw HB)) HC0_0.out (Kd.C_below HR242_0.out (bw HB)) HC242_0.out (Kd.C_below HR242_3.out (bw HB)) HC242_3.out A38.out) ?_; intro w87 hb; replace HO_5 := am (Kd.R_below (by (with_reducible repeat (first | apply Kd.R_alloc | apply Kd.R_drewN | apply Kd.R_drew)); exact (Kd.R_mono (Kd.R_far (p := ⟨gb243, 4, none⟩) (Kd.R_far (p := ⟨gb243, 3, none⟩) (Kd.R_far (p := ⟨gb243, 2, none⟩) (Kd.R_far (p := ⟨gb243, 1, none⟩) (Kd.R_far (p := ⟨gb243, 0, none⟩) (Kd.R_types HO_5.out BK243.out (by decide)) (fun _ hk => hk.2) (.slice A242_0 ((rd_T59 l1_1 x7_2).f0).length c242_0)) (fun _ hk => hk.2) (.int .i64 ((rd_T59 l1_1 x7_2).f1))) (fun _ hk => hk.2) (.int .i64 ((rd_T59 l1_1 x7_2).f2))) (fun _ hk => hk.2) (.slice A242_3 ((rd_T59 l1_1 x7_2).f3).length c242_3)) (fun _ hk => hk.2) (.int .i64 ((rd_T59 l1_1 x7_2).f4))) (fun _ h_ => h_.1))) hb); replace BK231 := bb2 BK231 hb; replace BK232 := bb2 BK232 hb; replace BK241 := bb2 BK241 hb; replace BK243 := bo #[.slice A242_0 ((rd_T59 l1_1 x7_2).f0).length c242_0, .int .i64 ((rd_T59 l1_1 x7_2).f1), .int .i64 ((rd_T59 l1_1 x7_2).f2), .slice A242_3 ((rd_T59 l1_1 x7_2).f3).length c242_3, .int .i64 ((rd_T59 l1_1 x7_2).f4)] BK243 hb; replace HB := bs HB hb; clear hb))
   go_meet
   case rel => exact ⟨_, (true), dr, H', ⟨lk2 HJ2 HK2⟩, ⟨kR HO_5⟩, ⟨bp BK231⟩, ⟨bp BK232⟩, ⟨bp BK241⟩, ⟨bp BK243⟩, ⟨bw HB⟩⟩
  clear HC29
  (try clear c3); (try clear c4); (try clear c5); (try clear c6); (try clear p24); (try clear q24); (try clear hx24); (try clear c27); (try clear c27b0); (try clear c28); (try clear c28b0); (try clear c30); (try clear c31); (try clear c34); (try clear c35); (try clear c36); (try clear c39); (try clear c40); (try clear c40b0); (try clear c41); (try clear c41b0); (try clear c42); (try clear c42b0); (try clear c42b1); (try clear c43); (try clear c44); (try clear c45); (try clear c47); (try clear c48); (try clear c50); (try clear c55); (try clear c56); (try clear c57); (try clear c59); (try clear c60); (try clear c62); (try clear c67); (try clear c68); (try clear c69); (try clear c71); (try clear c72); (try clear c74); (try clear c78); (try clear c79); (try clear c80); (try clear c82); (try clear c83); (try clear c85); (try clear hcz32); (try clear hcz37_0); (try clear hcz37_1); (try clear hcz37_2); (try clear hcz37_3); (try clear hcz37_4); (try clear hcz46); (try clear hcz49); (try clear hcz51_0); (try clear hcz51_1); (try clear hcz51_2); (try clear hcz51_3); (try clear hcz51_4); (try clear hcz54_0); (try clear hcz54_1); (try clear hcz54_2); (try clear hcz54_3); (try clear hcz54_4); (try clear hcz58); (try clear hcz61); (try clear hcz63_0); (try clear hcz63_1); (try clear hcz63_2); (try clear hcz63_3); (try clear hcz63_4); (try clear hcz66_0); (try clear hcz66_1); (try clear hcz66_2); (try clear hcz66_3); (try clear hcz66_4); (try clear hcz70); (try clear hcz73); (try clear hcz75_0); (try clear hcz75_1); (try clear hcz75_2); (try clear hcz75_3); (try clear hcz75_4); (try clear hcz81); (try clear hcz84); (try clear hcz86_0); (try clear hcz86_1); (try clear hcz86_2); (try clear hcz86_3); (try clear hcz86_4); (try clear hfz32); (try clear hfz37_0); (try clear hfz37_1); (try clear hfz37_2); (try clear hfz37_3); (try clear hfz37_4); (try clear hfz46); (try clear hfz49); (try clear hfz51_0); (try clear hfz51_1); (try clear hfz51_2); (try clear hfz51_3); (try clear hfz51_4); (try clear hfz54_0); (try clear hfz54_1); (try clear hfz54_2); (try clear hfz54_3); (try clear hfz54_4); (try clear hfz58); (try clear hfz61); (try clear hfz63_0); (try clear hfz63_1); (try clear hfz63_2); (try clear hfz63_3); (try clear hfz63_4); (try clear hfz66_0); (try clear hfz66_1); (try clear hfz66_2); (try clear hfz66_3); (try clear hfz66_4); (try clear hfz70); (try clear hfz73); (try clear hfz75_0); (try clear hfz75_1); (try clear hfz75_2); (try clear hfz75_3); (try clear hfz75_4); (try clear hfz81); (try clear hfz84); (try clear hfz86_0); (try clear hfz86_1); (try clear hfz86_2); (try clear hfz86_3); (try clear hfz86_4); (try clear hx242_0); (try clear hx242_1); (try clear hx242_2); (try clear hx242_3); (try clear hx242_4); (try clear hx245_0); (try clear p242); (try clear p245); (try clear q242); (try clear q245)
  obtain ⟨kq, x81_28, rfl, HA, HJ28, HO_5, BK231, BK232, BK241, BK243, HB⟩ := hcut
  rcases kq with _ | kj28
  ·exact absurd HA.out (by simp [spec_AsmRight.j2])
  have H := HA.out
  clear HA
  simp only [spec_AsmRight.j2] at H
  refine qT H ?_ ?_ <;> clear H <;> intro c88 H <;> subst c88
  ·obtain rfl := Option.some.inj H
   go_wp2
   go_ret
   exact ⟨er, bw HB⟩
  refine iN H ?_; clear H; intro c89 H
  have c89b0 := decide_eq_true c89
  clear c89
  refine iN H ?_; clear H; intro c90 H
  have c90b0 := decide_eq_true c90
  clear c90
  have HC91 := am H
  clear H
  obtain ⟨Ao92, co92, eo92⟩ := Kd.R_slice HO_5.out
  subst eo92
  have p246 : 0 ≤ (x7_2 : Int) := of_decide_eq_true as1
  have q246 : x7_2 < (t235.length : Int) := of_decide_eq_true as1
  obtain ⟨ad246, e246, hx246_0⟩ := Kd.at_int (Kd.R_reads' HO_5.out).2.2 x7_2 p246 q246
  cases e246
  replace p246 := eq_true p246
  replace q246 := eq_true q246
  go_upto_if 86 with (fail)
  go_cut [9] (fun v9 wc => ∃ (kq : Nat) (x9_90 : Int), v9 = .int .i64 x9_90 ∧ Aside0 (spec_AsmRight.j3 kq t235 x7_2 x9_90 l0_0 a1_0 l1_1 l1_2 = some r) ∧ Aside0 (kq ≤ kj28) ∧ Aside0 (Kd.R (Kd.int .i64) 2 wc w.heap.size (fun _ => True) (.slice (some ad246) t235.length co92) t235) ∧ Aside0 (wc.heap[gb231]? = some (.cells #[(.slice A0_0 l0_0.length c0_0)] 34 (0, 0))) ∧ Aside0 (wc.heap[gb232]? = some (.cells #[.int .i64 a1_0, (.slice (some ad242) l1_1.length c1_1), (.slice A1_2 l1_2.length c1_2)] 39 (0, 0))) ∧ Aside0 (wc.heap[gb241]? = some (.cells #[.int .i64 t238, .int .i64 t239, .int .i64 t240] 53 (0, 0))) ∧ Aside0 (wc.heap[gb243]? = some (.cells #[(.slice A242_0 ((rd_T59 l1_1 x7_2).f0).length c242_0), .int .i64 ((rd_T59 l1_1 x7_2).f1), .int .i64 ((rd_T59 l1_1 x7_2).f2), (.slice A242_3 ((rd_T59 l1_1 x7_2).f3).length c242_3), .int .i64 ((rd_T59 l1_1 x7_2).f4)] 59 (0, 0))) ∧ Aside0 (Below w.heap.size w wc))
  case first =>
   have H := HC91.out
   clear HC91
   refine qL H ?_ ?_ <;> clear H <;> intro c93b0 H
   ·(first | rw [c93b0] | (simp only [i64_w, i32_w]; rw [c93b0]) | skip)
    refine iM H ?_; clear H; intro c94b0 H
    refine iM H ?_; clear H; intro c95b0 H
    have H' := am H
    clear H
    try go_wp2
    replace HO_5 := am (Kd.R_drew HO_5.out)
    replace BK231 := am (blk_drew BK231.out)
    replace BK232 := am (blk_drew BK232.out)
    replace BK241 := am (blk_drew BK241.out)
    replace BK243 := am (blk_drew BK243.out)
    replace HB := am (below_drew1 HB.out)
    have p247 : 0 ≤ (a1_0 : Int) := of_decide_eq_true as1
    have q247 : a1_0 < (l0_0.length : Int) := of_decide_eq_true as1
    obtain ⟨ad247, A247_2, c247_2, e247, hx247_0, hx247_1, hx247_2, hl247_2, hi247_2⟩ := at_T50 HR0_0.out a1_0 p247 q247
    have hw247_2 := hx247_2
    have hw247_1 := hx247_1
    have hw247_0 := hx247_0
    cases e247
    replace hx247_0 := cl HB hx247_0
    replace hx247_1 := cl HB hx247_1
    replace hx247_2 := cl HB hx247_2
    have HR247_2 := am hi247_2
    have HC247_2 := am hl247_2
    clear hi247_2 hl247_2
    replace p247 := eq_true p247
    replace q247 := eq_true q247
    have p248 : 0 ≤ (x7_2 : Int) := of_decide_eq_true as1
    have q248 : x7_2 < (t235.length : Int) := of_decide_eq_true as1
    obtain ⟨ad248, e248, hx248_0⟩ := Kd.at_int (Kd.R_reads' HO_5.out).2.2 x7_2 p248 q248
    obtain rfl : ad246 = ad248 := (by injection e248)
    replace p248 := eq_true p248
    replace q248 := eq_true q248
    refine start_ (n := 13) (S := fun w' => w'.cell? ⟨gb231, 0, none⟩ = some (.slice (some ad247) l0_0.length c0_0) ∧ w'.cell? ⟨gb232, 0, none⟩ = some (.int .i64 a1_0) ∧ w'.cell? ⟨gb232, 1, none⟩ = some (.slice (some ad242) l1_1.length c1_1) ∧ w'.cell? ⟨gb232, 2, none⟩ = some (.slice A1_2 l1_2.length c1_2) ∧ w'.cell? (ad247.add ((a1_0).toNat * 3)) = some (.int .i64 ((rd_T50 l0_0 a1_0).f0)) ∧ w'.cell? ⟨(ad247.add ((a1_0).toNat * 3)).block, (ad247.add ((a1_0).toNat * 3)).off + 1, none⟩ = some (.int .i64 ((rd_T50 l0_0 a1_0).f1)) ∧ w'.cell? ⟨(ad247.add ((a1_0).toNat * 3)).block, (ad247.add ((a1_0).toNat * 3)).off + 2, none⟩ = some (.slice A247_2 ((rd_T50 l0_0 a1_0).f2).length c247_2) ∧ w'.cell? (ad246.add (x7_2).toNat) = some (.int .i64 (rd t235 x7_2))) (ds := []) (bv 13 0) (by kernel_rfl) rfl (by kernel_rfl) ⟨bc BK231 0, bc BK232 0, bc BK232 1, bc BK232 2, (cq HB hw247_0), (cq HB hw247_1), (cq HB hw247_2), hx248_0⟩ (fun hHeld => ?_); refine with_tabW spec_AsmRight.tab12 spec_AsmRight.bits12 (fun HT_ HW_ => ?_)
    generalize wc.drew = w96 at HO_5 BK231 BK232 BK241 BK243 HB HR247_2 hx247_0 hx247_1 hx247_2 hx248_0 hHeld ⊢
    refine pu 0 87 13 1 HT_ ?_
    refine pu 2 89 13 5 HT_ ?_
    refine pu 7 94 13 133 HT_ ?_
    refine pu 8 95 13 389 HT_ ?_
    refine pu 9 96 13 901 HT_ ?_
    refine tk 1 88 13 903 HT_ HW_ hHeld ?_
    refine tk 3 90 13 911 HT_ HW_ hHeld ?_
    refine pu 4 91 13 927 HT_ ?_
    refine pu 5 92 13 959 HT_ ?_
    refine tk 6 93 13 1023 HT_ HW_ hHeld ?_
    refine tk 10 97 13 2047 HT_ HW_ hHeld ?_
    refine pu 11 98 13 4095 HT_ ?_
    refine pu 12 9 13 8191 HT_ ?_
    refine done_ (done_of HT_.out (by kernel_rfl)) ?_
    try go_wp2
    go_meet
    case rel => exact ⟨_, (wrap64 (((rd_T50 l0_0 a1_0).f1) + (rd t235 x7_2))), dr, H', ⟨lk3 HJ2 HK2 HJ28⟩, ⟨kR HO_5⟩, ⟨bp BK231⟩, ⟨bp BK232⟩, ⟨bp BK241⟩, ⟨bp BK243⟩, ⟨bw HB⟩⟩
   (first | rw [c93b0] | (simp only [i64_w, i32_w]; rw [c93b0]) | skip)
   have H' := am H
   clear H
   go_wp2
   go_meet
   case rel => exact ⟨_, (0), dr, H', ⟨lk3 HJ2 HK2 HJ28⟩, ⟨kR HO_5⟩, ⟨bp BK231⟩, ⟨bp BK232⟩, ⟨bp BK241⟩, ⟨bp BK243⟩, ⟨bw HB⟩⟩
  clear HC91
  (try clear p6); (try clear p64); (try clear c88); (try clear c89); (try clear c89b0); (try clear c90); (try clear c90b0); (try clear c93); (try clear c93b0); (try clear c94); (try clear c94b0); (try clear c95); (try clear c95b0); (try clear hx246_0); (try clear hx247_0); (try clear hx247_1); (try clear hx247_2); (try clear hx248_0); (try clear p246); (try clear p247); (try clear p248); (try clear q246); (try clear q247); (try clear q248)
  obtain ⟨kq, x9_90, rfl, HA, HJ90, HO_5, BK231, BK232, BK241, BK243, HB⟩ := hcut
  rcases kq with _ | kj90
  ·exact absurd HA.out (by simp [spec_AsmRight.j3])
  have H := HA.out
  clear HA
  simp only [spec_AsmRight.j3] at H
  refine iN H ?_; clear H; intro c97 H
  have c97b0 := decide_eq_true c97
  clear c97
  refine iN H ?_; clear H; intro c98 H
  have c98b0 := decide_eq_true c98
  clear c98
  by_cases c99 : ((rd_L17 l1_2 x7_2).length : Int) = x9_90
  ·rw [if_pos c99] at H
   have c99b0 : (((rd_L17 l1_2 x7_2).length : Int) == x9_90) = true := beq_iff_eq.mpr c99
   have c99b1 : (((rd_L17 l1_2 x7_2).length : Int) != x9_90) = false := bne_eq_false_iff_eq.mpr c99
   clear c99
   have H' := am H
   clear H
   have hnb100 := NB232_231.out
   have hnc100 := NB231_232.out
   have hnb101 := NB232_241.out
   have hnc101 := NB241_232.out
   have hnb102 := NB232_243.out
   have hnc102 := NB243_232.out
   have hcz103 := bK wc BK232
   have hfz103 := bF BK232
   have p249 : 0 ≤ (x7_2 : Int) := of_decide_eq_true as1
   have q249 : x7_2 < (l1_2.length : Int) := of_decide_eq_true as1
   obtain ⟨ad249, A249_0, c249_0, e249, hx249_0, hl249_0, hi249_0⟩ := at_L17 HR1_2.out x7_2 p249 q249
   cases e249
   replace hx249_0 := cl HB hx249_0
   have HR249_0 := am hi249_0
   have HC249_0 := am hl249_0
   clear hi249_0 hl249_0
   replace p249 := eq_true p249
   replace q249 := eq_true q249
   go_wp2
   go_loopg [10] kj90 (fun kq v10 w' => ∃ (x10_5 : Int), v10 = .int .i64 x10_5 ∧ Aside0 (spec_AsmRight.l1 kq t235 x7_2 x10_5 l0_0 a1_0 l1_1 l1_2 = some r) ∧ Aside0 (kq ≤ kj90) ∧ Aside0 (Kd.R (Kd.int .i64) 2 w' w.heap.size (fun _ => True) (.slice (some ad246) t235.length co92) t235) ∧ Aside0 (w'.heap[gb231]? = some (.cells #[(.slice A0_0 l0_0.length c0_0)] 34 (0, 0))) ∧ Aside0 (w'.heap[gb232]? = some (.cells #[.int .i64 a1_0, (.slice (some ad242) l1_1.length c1_1), (.slice (some ad249) l1_2.length c1_2)] 39 (0, 0))) ∧ Aside0 (w'.heap[gb241]? = some (.cells #[.int .i64 t238, .int .i64 t239, .int .i64 t240] 53 (0, 0))) ∧ Aside0 (w'.heap[gb243]? = some (.cells #[(.slice A242_0 ((rd_T59 l1_1 x7_2).f0).length c242_0), .int .i64 ((rd_T59 l1_1 x7_2).f1), .int .i64 ((rd_T59 l1_1 x7_2).f2), (.slice A242_3 ((rd_T59 l1_1 x7_2).f3).length c242_3), .int .i64 ((rd_T59 l1_1 x7_2).f4)] 59 (0, 0))) ∧ Aside0 (Below w.heap.size w w'))
   case atStart => exact ⟨(0), dr, H', ⟨Nat.le_refl _⟩, ⟨kR HO_5⟩, ⟨bp BK231⟩, ⟨bp BK232⟩, ⟨bp BK241⟩, ⟨bp BK243⟩, ⟨bw HB⟩⟩
   clear H'
   (try clear c97); (try clear c97b0); (try clear c98); (try clear c98b0); (try clear c99); (try clear c99b0); (try clear c99b1); (try clear c100); (try clear c101); (try clear c102); (try clear hcz103); (try clear hfz103); (try clear hx249_0); (try clear p249); (try clear q249)
   obtain ⟨x10_5, rfl, HA, HK5, HO_5, BK231, BK232, BK241, BK243, HB⟩ := hrel
   rcases gk with _ | k5
   ·exact absurd HA.out (by simp [spec_AsmRight.l1])
   have H := HA.out
   clear HA
   simp only [spec_AsmRight.l1] at H
   refine iM H ?_; clear H; intro c104b0 H
   refine iM H ?_; clear H; intro c105b0 H
   refine qI H ?_ ?_ <;> clear H <;> intro c106b0 H
   ·refine iM H ?_; clear H; intro c107b0 H
    refine be H ?_; clear H; intro t253 A108 H
    have HC109 := am H
    clear H
    have hnb110 := NB232_231.out
    have hnc110 := NB231_232.out
    have hnb111 := NB232_241.out
    have hnc111 := NB241_232.out
    have hnb112 := NB232_243.out
    have hnc112 := NB243_232.out
    have hcz113 := bK wr BK232
    have hfz113 := bF BK232
    have p250 : 0 ≤ (x7_2 : Int) := of_decide_eq_true as1
    have q250 : x7_2 < (l1_2.length : Int) := of_decide_eq_true as1
    obtain ⟨ad250, A250_0, c250_0, e250, hx250_0, hl250_0, hi250_0⟩ := at_L17 HR1_2.out x7_2 p250 q250
    obtain rfl : ad249 = ad250 := (by injection e250)
    replace hx250_0 := cl HB hx250_0
    have HR250_0 := am hi250_0
    have HC250_0 := am hl250_0
    clear hi250_0 hl250_0
    replace p250 := eq_true p250
    replace q250 := eq_true q250
    have p251 : 0 ≤ (x7_2 : Int) := of_decide_eq_true as1
    have q251 : x7_2 < (l1_2.length : Int) := of_decide_eq_true as1
    obtain ⟨ad251, A251_0, c251_0, e251, hx251_0, hl251_0, hi251_0⟩ := at_L17 HR1_2.out x7_2 p251 q251
    obtain rfl : ad249 = ad251 := (by injection e251)
    replace hx251_0 := cl HB hx251_0
    have HR251_0 := am hi251_0
    have HC251_0 := am hl251_0
    clear hi251_0 hl251_0
    replace p251 := eq_true p251
    replace q251 := eq_true q251
    have ea_ := Option.some.inj (hx250_0.symm.trans hx251_0)
    injection ea_ with ea_ en_ ec_
    subst ea_
    subst ec_
    clear en_
    have p252 : 0 ≤ (x10_5 : Int) := of_decide_eq_true as1
    have q252 : x10_5 < ((rd_L17 l1_2 x7_2).length : Int) := of_decide_eq_true as1
    obtain ⟨ad252, e252, hx252_0, hx252_1⟩ := at_T63 HR251_0.out x10_5 p252 q252
    cases e252
    replace hx252_0 := cl HB hx252_0
    replace hx252_1 := cl HB hx252_1
    replace p252 := eq_true p252
    replace q252 := eq_true q252
    go_upto_if 126 with (first | ((with_reducible refine gate_callee (f := 18) rfl ?_); refine goesL_ (some 125) rfl rfl Try.func18 (by kernel_rfl) rfl #[.agg #[.int .i64 ((rd_T63 (rd_L17 l1_2 x7_2) x10_5).f0), .int .i64 ((rd_T63 (rd_L17 l1_2 x7_2) x10_5).f1)]] rfl gl ?_; (with_reducible refine (spec_l10Val.calls ((rd_T63 (rd_L17 l1_2 x7_2) x10_5).f0) ((rd_T63 (rd_L17 l1_2 x7_2) x10_5).f1) t253 _ A108.out).mono ?_); rintro e w114 ⟨rfl, hb⟩; refine ⟨_, rfl, ?_⟩; replace HO_5 := am (Kd.R_below (kR HO_5) hb); replace BK231 := bb BK231 hb; replace BK232 := bb BK232 hb; replace BK241 := bb BK241 hb; replace BK243 := bb BK243 hb; replace HB := bs HB hb; clear hb))
    (try simp only [Act.put, sa, sz, ss])
    have H := HC109.out
    clear HC109
    refine qT H ?_ ?_ <;> clear H <;> intro c115 H <;> subst c115
    ·have H' := am H
     clear H
     go_wp2
     go_roundg k5
     case measure => have := HJ2.out; have := HK2.out; have := HJ28.out; have := HJ90.out; have := HK5.out; omega
     case rel => exact ⟨(wrap64 (x10_5 + 1)), dr, H', ⟨by have := HJ2.out; have := HK2.out; have := HJ28.out; have := HJ90.out; have := HK5.out; omega⟩, ⟨kR HO_5⟩, ⟨bp BK231⟩, ⟨bp BK232⟩, ⟨bp BK241⟩, ⟨bp BK243⟩, ⟨bw HB⟩⟩
    obtain rfl := Option.some.inj H
    go_wp2
    go_ret
    exact ⟨er, bw HB⟩
   have H' := am H
   clear H
   have hnb116 := NB232_231.out
   have hnc116 := NB231_232.out
   have hnb117 := NB232_241.out
   have hnc117 := NB241_232.out
   have hnb118 := NB232_243.out
   have hnc118 := NB243_232.out
   have hcz119 := bK wr BK232
   have hfz119 := bF BK232
   have p250 : 0 ≤ (x7_2 : Int) := of_decide_eq_true as1
   have q250 : x7_2 < (l1_2.length : Int) := of_decide_eq_true as1
   obtain ⟨ad250, A250_0, c250_0, e250, hx250_0, hl250_0, hi250_0⟩ := at_L17 HR1_2.out x7_2 p250 q250
   obtain rfl : ad249 = ad250 := (by injection e250)
   replace hx250_0 := cl HB hx250_0
   have HR250_0 := am hi250_0
   have HC250_0 := am hl250_0
   clear hi250_0 hl250_0
   replace p250 := eq_true p250
   replace q250 := eq_true q250
   go_wp2
   go_roundg k5
   case measure => have := HJ2.out; have := HK2.out; have := HJ28.out; have := HJ90.out; have := HK5.out; omega
   case rel => exact ⟨(wrap64 (x7_2 + 1)), dr, H', ⟨by have := HJ2.out; have := HK2.out; have := HJ28.out; have := HJ90.out; have := HK5.out; omega⟩, ⟨kR HO_5⟩, ⟨bp BK231⟩, ⟨bp BK232⟩, ⟨bp BK241⟩, ⟨bw HB⟩⟩
  rw [if_neg c99] at H
  have c99b0 : (((rd_L17 l1_2 x7_2).length : Int) == x9_90) = false := beq_eq_false_iff_ne.mpr c99
  have c99b1 : (((rd_L17 l1_2 x7_2).length : Int) != x9_90) = true := bne_iff_ne.mpr c99
  obtain rfl := Option.some.inj H
  have hnb120 := NB232_231.out
  have hnc120 := NB231_232.out
  have hnb121 := NB232_241.out
  have hnc121 := NB241_232.out
  have hnb122 := NB232_243.out
  have hnc122 := NB243_232.out
  have hcz123 := bK wc BK232
  have hfz123 := bF BK232
  have p249 : 0 ≤ (x7_2 : Int) := of_decide_eq_true as1
  have q249 : x7_2 < (l1_2.length : Int) := of_decide_eq_true as1
  obtain ⟨ad249, A249_0, c249_0, e249, hx249_0, hl249_0, hi249_0⟩ := at_L17 HR1_2.out x7_2 p249 q249
  cases e249
  replace hx249_0 := cl HB hx249_0
  have HR249_0 := am hi249_0
  have HC249_0 := am hl249_0
  clear hi249_0 hl249_0
  replace p249 := eq_true p249
  replace q249 := eq_true q249
  go_wp2
  go_ret
  exact ⟨er, bw HB⟩
 rw [if_neg c27] at H
 have c27b0 := decide_eq_false c27
 clear c27
 obtain rfl := Option.some.inj H
 have hnb124 := NB232_231.out
 have hnc124 := NB231_232.out
 have hnb125 := NB232_241.out
 have hnc125 := NB241_232.out
 have hcz126 := bK wr BK232
 have hfz126 := bF BK232
 go_wp2
 go_ret
 exact ⟨er, bw HB⟩

end Go.Proofs.Ytmfhmfhkknijeaa.QFnExactAsmRight
