import Derived.Test.YtkhpiicijkhpkaaCFnExactAsmBytesx0
import Derived.Test.YtkhpiicijkhpkaaCFnExactAsmBytesx7
import Derived.Test.YtkhpiicijkhpkaaCFnExactAsmBytesx9
import Derived.Test.YtkhpiicijkhpkaaCFnExactAsmBytesx10
import Derived.Test.YtkhpiicijkhpkaaCFnExactAsmBytesx11
namespace Go.Proofs.Ytkhpiicijkhpkaa.QFnExactAsmBytes
open Go.RowKit Go.Proofs.YtkhpiicijkhpkaaW
open PrintWords PrintLast PrintMore PrintShort PrintIsh
attribute [local go_sem] max2_int min2_int max_two min_two max_three min_three max_four min_four
set_option linter.unusedVariables false
set_option maxHeartbeats 8000000
set_option maxRecDepth 100000
set_option linter.unusedSimpArgs false

mutual
def spec_AsmRight.j0 : Nat → Bool → List (S121) → Int → List (S80) → List (List (S82)) → Option (Bool)
 | 0, _, _, _, _, _ => none
 | k + 1, x38, x278000, x279000, x279001, x279002 => if x38 = true then (some false) else ((spec_l04Heights.f k x278000 x279000).bind fun bt281 => (spec_AsmRight.l0 k bt281.1 0 x278000 x279000 x279001 x279002))
def spec_AsmRight.l0 : Nat → List Int → Int → List (S121) → Int → List (S80) → List (List (S82)) → Option (Bool)
 | 0, _, _, _, _, _, _ => none
 | k + 1, x5, x7, x278000, x279000, x279001, x279002 => if x7 < (x279001.length : Int) then (if 0 ≤ x7 then ((spec_l10Ins.f k x278000 x279000 ((rd_T80 x279001 x7).f0) ((rd_T80 x279001 x7).f1) ((rd_T80 x279001 x7).f2) ((rd_T80 x279001 x7).f3) ((rd_T80 x279001 x7).f4)).bind fun t290 => (if t290 = true then (if x7 < (x5.length : Int) then (if (rd x5 x7) < 0 then (if ((rd_T80 x279001 x7).f1) = 0 then (spec_AsmRight.j2 k x5 x7 (decide ((((rd_T80 x279001 x7).f0).length : Int) > 0)) x278000 x279000 x279001 x279002) else (spec_AsmRight.j2 k x5 x7 true x278000 x279000 x279001 x279002)) else (spec_AsmRight.j2 k x5 x7 false x278000 x279000 x279001 x279002)) else (none)) else (spec_AsmRight.j2 k x5 x7 true x278000 x279000 x279001 x279002))) else (none)) else (some true)
def spec_AsmRight.j2 : Nat → List Int → Int → Bool → List (S121) → Int → List (S80) → List (List (S82)) → Option (Bool)
 | 0, _, _, _, _, _, _, _ => none
 | k + 1, x5, x7, x81, x278000, x279000, x279001, x279002 => if x81 = true then (some false) else (if 0 ≤ x7 then (if x7 < (x5.length : Int) then (if (rd x5 x7) ≥ 0 then (if 0 ≤ x279000 then (if x279000 < (x278000.length : Int) then (spec_AsmRight.j3 k x5 x7 (wrap64 (((rd_T121 x278000 x279000).f1) + (rd x5 x7))) x278000 x279000 x279001 x279002) else (none)) else (none)) else (spec_AsmRight.j3 k x5 x7 0 x278000 x279000 x279001 x279002)) else (none)) else (none))
def spec_AsmRight.j3 : Nat → List Int → Int → Int → List (S121) → Int → List (S80) → List (List (S82)) → Option (Bool)
 | 0, _, _, _, _, _, _, _ => none
 | k + 1, x5, x7, x9, x278000, x279000, x279001, x279002 => if 0 ≤ x7 then (if x7 < (x279002.length : Int) then (if ((rd_L17 x279002 x7).length : Int) = x9 then (spec_AsmRight.l1 k x5 x7 0 x278000 x279000 x279001 x279002) else (some false)) else (none)) else (none)
def spec_AsmRight.l1 : Nat → List Int → Int → Int → List (S121) → Int → List (S80) → List (List (S82)) → Option (Bool)
 | 0, _, _, _, _, _, _, _ => none
 | k + 1, x5, x7, x10, x278000, x279000, x279001, x279002 => if 0 ≤ x7 then (if x7 < (x279002.length : Int) then (if x10 < ((rd_L17 x279002 x7).length : Int) then (if 0 ≤ x10 then ((spec_l10Val.f ((rd_T82 (rd_L17 x279002 x7) x10).f0) ((rd_T82 (rd_L17 x279002 x7) x10).f1)).bind fun t299 => (if t299 = true then (spec_AsmRight.l1 k x5 x7 (wrap64 (x10 + 1)) x278000 x279000 x279001 x279002) else (some false))) else (none)) else (spec_AsmRight.l0 k x5 (wrap64 (x7 + 1)) x278000 x279000 x279001 x279002)) else (none)) else (none)
end
def spec_AsmRight.f (k : Nat) (l0_0 : List (S121)) (a1_0 : Int) (l1_1 : List (S80)) (l1_2 : List (List (S82))) : Option (Bool) := (spec_l04Is.f k l0_0 a1_0).bind fun t279 => (if t279 = true then (if 0 ≤ a1_0 then (if a1_0 < (l0_0.length : Int) then (if (l1_1.length : Int) = (((rd_T121 l0_0 a1_0).f2).length : Int) then (spec_AsmRight.j0 k ((l1_2.length : Int) != (l1_1.length : Int)) l0_0 a1_0 l1_1 l1_2) else (spec_AsmRight.j0 k true l0_0 a1_0 l1_1 l1_2)) else (none)) else (none)) else (spec_AsmRight.j0 k true l0_0 a1_0 l1_1 l1_2))
def spec_AsmRight.T1 : Bool × List (List Nat × List Nat) := (true, [([], []), ([], []), ([1], [1]), ([0, 2], [0, 2]), ([3], [3]), ([4, 3], [4]), ([5], [5]), ([6, 5], [5, 6]), ([7, 5], [5, 7]), ([5], [5]), ([9, 5], [5, 9]), ([5], [5]), ([11, 5], [5, 11]), ([10, 12, 5], [5, 10, 12]), ([13, 5], [5, 13]), ([14, 5], [5, 14]), ([15, 5], [5, 15]), ([8, 16, 5], [5, 8, 16]), ([5, 17], [5, 17]), ([18, 5], [18]), ([19], [19]), ([20, 19], [19, 20]), ([21, 19], [19, 21]), ([19], [19]), ([23, 19], [19, 23]), ([24, 19], [19, 24]), ([22, 25, 19], [19, 22, 25]), ([19, 26], [19, 26])])
def spec_AsmRight.B1 : List Nat := [0, 0, 2, 7, 15, 31, 63, 127, 255, 63, 575, 63, 2111, 7743, 15935, 32319, 65087, 131071, 262143, 524287, 1048575, 2097151, 4194303, 1048575, 9437183, 26214399, 67108863, 134217727]
theorem spec_AsmRight.tab1 : rtab .any (opsOf Try.f43 1) = spec_AsmRight.T1 := by kernel_rfl
theorem spec_AsmRight.bits1 : waitsOk spec_AsmRight.T1.2 spec_AsmRight.B1 = true := by kernel_rfl
def spec_AsmRight.T12 : Bool × List (List Nat × List Nat) := (true, [([], []), ([0], [0]), ([], []), ([2], [2]), ([1, 3], [1, 3]), ([4], [4]), ([5], [5]), ([], []), ([], []), ([7, 8], [7, 8]), ([9], [9]), ([6, 10], [6, 10]), ([11, 0, 1, 2, 3, 4, 5, 6, 7, 8, 9, 10, 11], [11])])
def spec_AsmRight.B12 : List Nat := [0, 1, 0, 4, 15, 31, 63, 0, 0, 384, 896, 2047, 4095]
theorem spec_AsmRight.tab12 : rtab .any (opsOf Try.f43 12) = spec_AsmRight.T12 := by kernel_rfl
theorem spec_AsmRight.bits12 : waitsOk spec_AsmRight.T12.2 spec_AsmRight.B12 = true := by kernel_rfl
theorem spec_AsmRight.calls (k : Nat) (A0_0 : Option Addr) (c0_0 : Nat) (l0_0 : List (S121)) (a1_0 : Int) (A1_1 : Option Addr) (c1_1 : Nat) (l1_1 : List (S80)) (A1_2 : Option Addr) (c1_2 : Nat) (l1_2 : List (List (S82))) (r : Bool) (w : World) (hr0_0 : Kd.C k121 w A0_0 l0_0.length l0_0) (hc0_0 : l0_0.length ≤ c0_0) (hr1_1 : Kd.C k80 w A1_1 l1_1.length l1_1) (hc1_1 : l1_1.length ≤ c1_1) (hr1_2 : Kd.C (Kd.slice 82 k82) w A1_2 l1_2.length l1_2) (hc1_2 : l1_2.length ≤ c1_2) (h : spec_AsmRight.f k l0_0 a1_0 l1_1 l1_2 = some r) :
  Calls Try.prog 43 #[.agg #[.slice A0_0 l0_0.length c0_0], .agg #[.int .i64 a1_0, .slice A1_1 l1_1.length c1_1, .slice A1_2 l1_2.length c1_2]] w fun e w' => e = .returned (.bool r) ∧ Below w.heap.size w w' := by
 have hu32 := Try.underlying32
 have hu49 := Try.underlying49
 have hu138 := Try.underlying138
 have hu80 := Try.underlying80
 have hu82 := Try.underlying82
 have HR0_0 := am hr0_0
 have HC0_0 := am hc0_0
 clear hr0_0 hc0_0
 have HR1_1 := am hr1_1
 have HC1_1 := am hc1_1
 clear hr1_1 hc1_1
 have HR1_2 := am hr1_2
 have HC1_2 := am hc1_2
 clear hr1_2 hc1_2
 have HB := am (Below.refl w.heap.size w)
 have H : ((spec_l04Is.f k l0_0 a1_0).bind fun t279 => (if t279 = true then (if 0 ≤ a1_0 then (if a1_0 < (l0_0.length : Int) then (if (l1_1.length : Int) = (((rd_T121 l0_0 a1_0).f2).length : Int) then (spec_AsmRight.j0 k ((l1_2.length : Int) != (l1_1.length : Int)) l0_0 a1_0 l1_1 l1_2) else (spec_AsmRight.j0 k true l0_0 a1_0 l1_1 l1_2)) else (none)) else (none)) else (spec_AsmRight.j0 k true l0_0 a1_0 l1_1 l1_2))) = some r := h
 clear h
 have HC3 := am H
 clear H
 go_enter Try.func43, Try.ntmps43
 go_upto_region 1 with (first | ((with_reducible refine gate_dst (N := 2) rfl ?_); (try (refine gate_guard (by rfl) ?_; dsimp only)); refine box_event ?hg (N := 2) ?hd (cs := #[.slice A0_0 l0_0.length c0_0]) (t := 32) ?hr ?_; (case hd => rfl); (case hg => rfl); (case hr => exact gs); intro gb277 hg w4 hbox hb; have BK277 := am (hbox); have GW277 := gw hg HB; replace HB := bs HB hb; clear hb hbox hg) | ((with_reducible refine gate_dst (N := 3) rfl ?_); (try (refine gate_guard (by rfl) ?_; dsimp only)); refine box_event ?hg (N := 3) ?hd (cs := #[.int .i64 a1_0, .slice A1_1 l1_1.length c1_1, .slice A1_2 l1_2.length c1_2]) (t := 49) ?hr ?_; (case hd => rfl); (case hg => rfl); (case hr => exact gs); intro gb278 hg w5 hbox hb; have BK278 := am (hbox); have GW278 := gw hg HB; replace HB := bs HB hb; obtain ⟨NB277_278, NB278_277, BK277⟩ := b3 hg BK277 hb; clear hb hbox hg))
 (try simp only [Act.put, sa, sz, ss])
 go_cut [38] (fun v38 wc => ∃ (kq : Nat) (x38_2 : Bool), v38 = .bool x38_2 ∧ Aside0 (spec_AsmRight.j0 kq x38_2 l0_0 a1_0 l1_1 l1_2 = some r) ∧ Aside0 (kq ≤ k) ∧ Aside0 (wc.heap[gb277]? = some (.cells #[(.slice A0_0 l0_0.length c0_0)] 32 (0, 0))) ∧ Aside0 (wc.heap[gb278]? = some (.cells #[.int .i64 a1_0, (.slice A1_1 l1_1.length c1_1), (.slice A1_2 l1_2.length c1_2)] 49 (0, 0))) ∧ Aside0 (Below w.heap.size w wc))
 case first =>
  have H := HC3.out
  clear HC3
  refine be H ?_; clear H; intro t279 A6 H
  refine qT H ?_ ?_ <;> clear H <;> intro c7 H <;> subst c7
  ·refine iM H ?_; clear H; intro c8b0 H
   (first | rw [c8b0] | (simp only [i64_w, i32_w]; rw [c8b0]) | skip)
   refine iM H ?_; clear H; intro c9b0 H
   by_cases c10 : (l1_1.length : Int) = (((rd_T121 l0_0 a1_0).f2).length : Int)
   ·rw [if_pos c10] at H
    have c10b0 : ((l1_1.length : Int) == (((rd_T121 l0_0 a1_0).f2).length : Int)) = true := beq_iff_eq.mpr c10
    have c10b1 : ((l1_1.length : Int) != (((rd_T121 l0_0 a1_0).f2).length : Int)) = false := bne_eq_false_iff_eq.mpr c10
    have c10b2 : (l1_1.length == ((rd_T121 l0_0 a1_0).f2).length) = true := by first | simpa using c10 | (simp at c10 ⊢; omega)
    clear c10
    have H' := am H
    clear H
    try go_wp2
    replace BK277 := am (blk_drew BK277.out)
    replace BK278 := am (blk_drew BK278.out)
    replace HB := am (below_drew1 HB.out)
    have p280 : 0 ≤ (a1_0 : Int) := dt
    have q280 : a1_0 < (l0_0.length : Int) := dt
    obtain ⟨ad280, A280_2, c280_2, e280, hx280_0, hx280_1, hx280_2, hl280_2, hi280_2⟩ := at_T121 HR0_0.out a1_0 p280 q280
    have hw280_2 := hx280_2
    have hw280_1 := hx280_1
    have hw280_0 := hx280_0
    cases e280
    replace hx280_0 := cl HB hx280_0
    replace hx280_1 := cl HB hx280_1
    replace hx280_2 := cl HB hx280_2
    have HR280_2 := am hi280_2
    have HC280_2 := am hl280_2
    clear hi280_2 hl280_2
    replace p280 := eq_true p280
    replace q280 := eq_true q280
    refine start_ (n := 28) (S := fun w' => w'.cell? ⟨gb277, 0, none⟩ = some (.slice (some ad280) l0_0.length c0_0) ∧ w'.cell? ⟨gb278, 0, none⟩ = some (.int .i64 a1_0) ∧ w'.cell? ⟨gb278, 1, none⟩ = some (.slice A1_1 l1_1.length c1_1) ∧ w'.cell? ⟨gb278, 2, none⟩ = some (.slice A1_2 l1_2.length c1_2) ∧ w'.cell? (ad280.add ((a1_0).toNat * 3)) = some (.int .i64 ((rd_T121 l0_0 a1_0).f0)) ∧ w'.cell? ⟨(ad280.add ((a1_0).toNat * 3)).block, (ad280.add ((a1_0).toNat * 3)).off + 1, none⟩ = some (.int .i64 ((rd_T121 l0_0 a1_0).f1)) ∧ w'.cell? ⟨(ad280.add ((a1_0).toNat * 3)).block, (ad280.add ((a1_0).toNat * 3)).off + 2, none⟩ = some (.slice A280_2 ((rd_T121 l0_0 a1_0).f2).length c280_2)) (ds := []) (bv 28 0) (by kernel_rfl) rfl (by kernel_rfl) ⟨bc BK277 0, bc BK278 0, bc BK278 1, bc BK278 2, (cq HB hw280_0), (cq HB hw280_1), (cq HB hw280_2)⟩ (fun hHeld => ?_); refine with_tabW spec_AsmRight.tab1 spec_AsmRight.bits1 (fun HT_ HW_ => ?_)
    generalize w5.drew = w11 at BK277 BK278 HB HR280_2 hx280_0 hx280_1 hx280_2 hHeld ⊢
    refine pu 1 12 28 2 HT_ ?_
    refine tk 0 11 28 3 HT_ HW_ hHeld ?_
    refine tk 2 13 28 7 HT_ HW_ hHeld ?_
    refine on 3 (some 14) 28 15 HT_ fun K hK => ?_
    refine goes_ Try.func83 (by kernel_rfl) rfl #[.agg #[.slice (some ad280) l0_0.length c0_0], .int .i64 a1_0] (by rfl) rfl rfl gl ?_
    with_reducible refine (spec_l04Is.calls k _ _ l0_0 a1_0 true _ ?side1 ?side2 A6.out).mono ?_
    (case side1 => exact cc (Kd.C_below HR0_0.out HB.out))
    (case side2 => exact HC0_0.out)
    rintro e w12 ⟨rfl, hb⟩
    refine ⟨_, rfl, ?_⟩
    replace BK277 := bb BK277 hb
    replace BK278 := bb BK278 hb
    replace HB := am (below_step (bw HB) hb)
    clear hb
    refine hK.out _ _ ⟨bc BK277 0, bc BK278 0, bc BK278 1, bc BK278 2, (cq HB hw280_0), (cq HB hw280_1), (cq HB hw280_2)⟩ (fun hHeld => ?_)
    clear hK K
    refine nm (some 14) ?_
    refine pu 4 15 28 31 HT_ ?_
    refine pu 5 16 28 63 HT_ ?_
    refine pu 6 17 28 127 HT_ ?_
    refine pu 9 20 28 639 HT_ ?_
    refine pu 11 22 28 2687 HT_ ?_
    refine tk 7 18 28 2815 HT_ HW_ hHeld ?_
    refine pu 8 19 28 3071 HT_ ?_
    refine tk 10 21 28 4095 HT_ HW_ hHeld ?_
    refine tk 12 23 28 8191 HT_ HW_ hHeld ?_
    refine pu 13 24 28 16383 HT_ ?_
    refine pu 14 25 28 32767 HT_ ?_
    refine tk 15 26 28 65535 HT_ HW_ hHeld ?_
    refine pu 16 27 28 131071 HT_ ?_
    refine pu 17 28 28 262143 HT_ ?_
    refine pu 18 29 28 524287 HT_ ?_
    refine pu 19 30 28 1048575 HT_ ?_
    refine pu 20 31 28 2097151 HT_ ?_
    refine pu 23 34 28 10485759 HT_ ?_
    refine tk 21 32 28 12582911 HT_ HW_ hHeld ?_
    refine pu 22 33 28 16777215 HT_ ?_
    refine tk 24 35 28 33554431 HT_ HW_ hHeld ?_
    refine pu 25 36 28 67108863 HT_ ?_
    refine pu 26 37 28 134217727 HT_ ?_
    refine pu 27 38 28 268435455 HT_ ?_
    refine done_ (done_of HT_.out (by kernel_rfl)) ?_
    try go_wp2
    go_meet
    case rel => exact ⟨_, (((l1_2.length : Int) != (l1_1.length : Int))), dr, H', ⟨lk0⟩, ⟨bp BK277⟩, ⟨bp BK278⟩, ⟨bw HB⟩⟩
   rw [if_neg c10] at H
   have c10b0 : ((l1_1.length : Int) == (((rd_T121 l0_0 a1_0).f2).length : Int)) = false := beq_eq_false_iff_ne.mpr c10
   have c10b1 : ((l1_1.length : Int) != (((rd_T121 l0_0 a1_0).f2).length : Int)) = true := bne_iff_ne.mpr c10
   have c10b2 : (l1_1.length == ((rd_T121 l0_0 a1_0).f2).length) = false := by first | simpa using c10 | (simp at c10 ⊢; omega)
   have H' := am H
   clear H
   try go_wp2
   replace BK277 := am (blk_drew BK277.out)
   replace BK278 := am (blk_drew BK278.out)
   replace HB := am (below_drew1 HB.out)
   have p280 : 0 ≤ (a1_0 : Int) := dt
   have q280 : a1_0 < (l0_0.length : Int) := dt
   obtain ⟨ad280, A280_2, c280_2, e280, hx280_0, hx280_1, hx280_2, hl280_2, hi280_2⟩ := at_T121 HR0_0.out a1_0 p280 q280
   have hw280_2 := hx280_2
   have hw280_1 := hx280_1
   have hw280_0 := hx280_0
   cases e280
   replace hx280_0 := cl HB hx280_0
   replace hx280_1 := cl HB hx280_1
   replace hx280_2 := cl HB hx280_2
   have HR280_2 := am hi280_2
   have HC280_2 := am hl280_2
   clear hi280_2 hl280_2
   replace p280 := eq_true p280
   replace q280 := eq_true q280
   refine start_ (n := 28) (S := fun w' => w'.cell? ⟨gb277, 0, none⟩ = some (.slice (some ad280) l0_0.length c0_0) ∧ w'.cell? ⟨gb278, 0, none⟩ = some (.int .i64 a1_0) ∧ w'.cell? ⟨gb278, 1, none⟩ = some (.slice A1_1 l1_1.length c1_1) ∧ w'.cell? ⟨gb278, 2, none⟩ = some (.slice A1_2 l1_2.length c1_2) ∧ w'.cell? (ad280.add ((a1_0).toNat * 3)) = some (.int .i64 ((rd_T121 l0_0 a1_0).f0)) ∧ w'.cell? ⟨(ad280.add ((a1_0).toNat * 3)).block, (ad280.add ((a1_0).toNat * 3)).off + 1, none⟩ = some (.int .i64 ((rd_T121 l0_0 a1_0).f1)) ∧ w'.cell? ⟨(ad280.add ((a1_0).toNat * 3)).block, (ad280.add ((a1_0).toNat * 3)).off + 2, none⟩ = some (.slice A280_2 ((rd_T121 l0_0 a1_0).f2).length c280_2)) (ds := []) (bv 28 0) (by kernel_rfl) rfl (by kernel_rfl) ⟨bc BK277 0, bc BK278 0, bc BK278 1, bc BK278 2, (cq HB hw280_0), (cq HB hw280_1), (cq HB hw280_2)⟩ (fun hHeld => ?_); refine with_tabW spec_AsmRight.tab1 spec_AsmRight.bits1 (fun HT_ HW_ => ?_)
   generalize w5.drew = w13 at BK277 BK278 HB HR280_2 hx280_0 hx280_1 hx280_2 hHeld ⊢
   refine pu 1 12 28 2 HT_ ?_
   refine tk 0 11 28 3 HT_ HW_ hHeld ?_
   refine tk 2 13 28 7 HT_ HW_ hHeld ?_
   refine on 3 (some 14) 28 15 HT_ fun K hK => ?_
   refine goes_ Try.func83 (by kernel_rfl) rfl #[.agg #[.slice (some ad280) l0_0.length c0_0], .int .i64 a1_0] (by rfl) rfl rfl gl ?_
   with_reducible refine (spec_l04Is.calls k _ _ l0_0 a1_0 true _ ?side1 ?side2 A6.out).mono ?_
   (case side1 => exact cc (Kd.C_below HR0_0.out HB.out))
   (case side2 => exact HC0_0.out)
   rintro e w14 ⟨rfl, hb⟩
   refine ⟨_, rfl, ?_⟩
   replace BK277 := bb BK277 hb
   replace BK278 := bb BK278 hb
   replace HB := am (below_step (bw HB) hb)
   clear hb
   refine hK.out _ _ ⟨bc BK277 0, bc BK278 0, bc BK278 1, bc BK278 2, (cq HB hw280_0), (cq HB hw280_1), (cq HB hw280_2)⟩ (fun hHeld => ?_)
   clear hK K
   refine nm (some 14) ?_
   refine pu 4 15 28 31 HT_ ?_
   refine pu 5 16 28 63 HT_ ?_
   refine pu 6 17 28 127 HT_ ?_
   refine pu 9 20 28 639 HT_ ?_
   refine pu 11 22 28 2687 HT_ ?_
   refine tk 7 18 28 2815 HT_ HW_ hHeld ?_
   refine pu 8 19 28 3071 HT_ ?_
   refine tk 10 21 28 4095 HT_ HW_ hHeld ?_
   refine tk 12 23 28 8191 HT_ HW_ hHeld ?_
   refine pu 13 24 28 16383 HT_ ?_
   refine pu 14 25 28 32767 HT_ ?_
   refine tk 15 26 28 65535 HT_ HW_ hHeld ?_
   refine pu 16 27 28 131071 HT_ ?_
   refine pu 17 28 28 262143 HT_ ?_
   refine pu 18 29 28 524287 HT_ ?_
   refine pu 19 30 28 1048575 HT_ ?_
   refine pn 20 31 28 2097151 HT_ ?_
   refine pn 21 32 28 4194303 HT_ ?_
   refine pn 22 33 28 8388607 HT_ ?_
   refine pn 23 34 28 16777215 HT_ ?_
   refine pn 24 35 28 33554431 HT_ ?_
   refine pn 25 36 28 67108863 HT_ ?_
   refine pn 26 37 28 134217727 HT_ ?_
   refine pu 27 38 28 268435455 HT_ ?_
   refine done_ (done_of HT_.out (by kernel_rfl)) ?_
   try go_wp2
   go_meet
   case rel => exact ⟨_, (true), dr, H', ⟨lk0⟩, ⟨bp BK277⟩, ⟨bp BK278⟩, ⟨bw HB⟩⟩
  have H' := am H
  clear H
  try go_wp2
  replace BK277 := am (blk_drew BK277.out)
  replace BK278 := am (blk_drew BK278.out)
  replace HB := am (below_drew1 HB.out)
  refine start_ (n := 28) (S := fun w' => w'.cell? ⟨gb277, 0, none⟩ = some (.slice A0_0 l0_0.length c0_0) ∧ w'.cell? ⟨gb278, 0, none⟩ = some (.int .i64 a1_0) ∧ w'.cell? ⟨gb278, 1, none⟩ = some (.slice A1_1 l1_1.length c1_1) ∧ w'.cell? ⟨gb278, 2, none⟩ = some (.slice A1_2 l1_2.length c1_2)) (ds := []) (bv 28 0) (by kernel_rfl) rfl (by kernel_rfl) ⟨bc BK277 0, bc BK278 0, bc BK278 1, bc BK278 2⟩ (fun hHeld => ?_); refine with_tabW spec_AsmRight.tab1 spec_AsmRight.bits1 (fun HT_ HW_ => ?_)
  generalize w5.drew = w15 at BK277 BK278 HB hHeld ⊢
  refine pu 1 12 28 2 HT_ ?_
  refine tk 0 11 28 3 HT_ HW_ hHeld ?_
  refine tk 2 13 28 7 HT_ HW_ hHeld ?_
  refine on 3 (some 14) 28 15 HT_ fun K hK => ?_
  refine goes_ Try.func83 (by kernel_rfl) rfl #[.agg #[.slice A0_0 l0_0.length c0_0], .int .i64 a1_0] (by rfl) rfl rfl gl ?_
  with_reducible refine (spec_l04Is.calls k _ _ l0_0 a1_0 false _ ?side1 ?side2 A6.out).mono ?_
  (case side1 => exact cc (Kd.C_below HR0_0.out HB.out))
  (case side2 => exact HC0_0.out)
  rintro e w16 ⟨rfl, hb⟩
  refine ⟨_, rfl, ?_⟩
  replace BK277 := bb BK277 hb
  replace BK278 := bb BK278 hb
  replace HB := am (below_step (bw HB) hb)
  clear hb
  refine hK.out _ _ ⟨bc BK277 0, bc BK278 0, bc BK278 1, bc BK278 2⟩ (fun hHeld => ?_)
  clear hK K
  refine nm (some 14) ?_
  refine pu 4 15 28 31 HT_ ?_
  refine pu 5 16 28 63 HT_ ?_
  refine pn 6 17 28 127 HT_ ?_
  refine pn 7 18 28 255 HT_ ?_
  refine pn 8 19 28 511 HT_ ?_
  refine pn 9 20 28 1023 HT_ ?_
  refine pn 10 21 28 2047 HT_ ?_
  refine pn 11 22 28 4095 HT_ ?_
  refine pn 12 23 28 8191 HT_ ?_
  refine pn 13 24 28 16383 HT_ ?_
  refine pn 14 25 28 32767 HT_ ?_
  refine pn 15 26 28 65535 HT_ ?_
  refine pn 16 27 28 131071 HT_ ?_
  refine pn 17 28 28 262143 HT_ ?_
  refine pu 18 29 28 524287 HT_ ?_
  refine pu 19 30 28 1048575 HT_ ?_
  refine pn 20 31 28 2097151 HT_ ?_
  refine pn 21 32 28 4194303 HT_ ?_
  refine pn 22 33 28 8388607 HT_ ?_
  refine pn 23 34 28 16777215 HT_ ?_
  refine pn 24 35 28 33554431 HT_ ?_
  refine pn 25 36 28 67108863 HT_ ?_
  refine pn 26 37 28 134217727 HT_ ?_
  refine pu 27 38 28 268435455 HT_ ?_
  refine done_ (done_of HT_.out (by kernel_rfl)) ?_
  try go_wp2
  go_meet
  case rel => exact ⟨_, (true), dr, H', ⟨lk0⟩, ⟨bp BK277⟩, ⟨bp BK278⟩, ⟨bw HB⟩⟩
 clear HC3
 obtain ⟨kq, x38_2, rfl, HA, HJ2, BK277, BK278, HB⟩ := hcut
 rcases kq with _ | kj2
 ·exact absurd HA.out (by simp [spec_AsmRight.j0])
 have H := HA.out
 clear HA
 simp only [spec_AsmRight.j0] at H
 refine qT H ?_ ?_ <;> clear H <;> intro c17 H <;> subst c17
 ·obtain rfl := oi H
  go_wp2
  go_ret
  exact ⟨er, bw HB⟩
 replace H := Option.bind_eq_some_iff.mp H
 obtain ⟨⟨t281, t284, t285, t286⟩, A180, H⟩ := H
 replace H : (spec_AsmRight.l0 kj2 t281 0 l0_0 a1_0 l1_1 l1_2) = some r := H
 have A18 := am A180
 clear A180
 have H' := am H
 clear H
 have hnb19 := NB277_278.out
 have hnc19 := NB278_277.out
 have hcz20 := bK wc BK277
 have hfz20 := bF BK277
 have hcz21 := bK wc BK278
 have hfz21 := bF BK278
 go_wp2_with (first | ((with_reducible refine gk 84 rfl ?_); refine gC 84 (some 43) Try.func84 #[.agg #[.slice A0_0 l0_0.length c0_0], .int .i64 a1_0] ((spec_l04Heights.calls kj2 _ _ l0_0 a1_0 t281 t284 t285 t286 _ (cc (Kd.C_below HR0_0.out HB.out)) HC0_0.out A18.out).mono ?_); rintro e w22 ⟨v282, rfl, ho0, hb⟩; refine ⟨_, rfl, ?_⟩; have HO283 := am (Kd.R_lower ho0 (below_size (bw HB))); replace BK277 := bb BK277 hb; replace BK278 := bb BK278 hb; replace HB := bs HB hb; clear hb) | ((with_reducible refine gate_dst (N := 6) rfl ?_); (try (refine gate_guard (by rfl) ?_; dsimp only)); refine box_event ?hg (N := 6) ?hd (cs := #[.int .i64 0, .int .i64 0, .int .i64 0]) (t := 138) ?hr ?_; (case hd => rfl); (case hg => rfl); (case hr => exact gs); intro gb287 hg w23 hbox hb; replace HO283 := am (Kd.R_below (kR HO283) hb); have BK287 := am (hbox); have GW287 := gw hg HB; replace HB := bs HB hb; obtain ⟨NB277_287, NB287_277, BK277⟩ := b3 hg BK277 hb; obtain ⟨NB278_287, NB287_278, BK278⟩ := b3 hg BK278 hb; clear hb hbox hg; have hnb24 := NB287_277.out; have hnc24 := NB277_287.out; have hnb25 := NB287_278.out; have hnc25 := NB278_287.out; have hcz26 := bK w23 BK287; have hfz26 := bF BK287))
 go_loopg [7] kj2 (fun kq v7 w' => ∃ (x7_2 : Int), v7 = .int .i64 x7_2 ∧ Aside0 (spec_AsmRight.l0 kq t281 x7_2 l0_0 a1_0 l1_1 l1_2 = some r) ∧ Aside0 (kq ≤ kj2) ∧ Aside0 (Kd.R (Kd.int .i64) 2 w' w.heap.size (fun _ => True) v282 t281) ∧ Aside0 (w'.heap[gb277]? = some (.cells #[(.slice A0_0 l0_0.length c0_0)] 32 (0, 0))) ∧ Aside0 (w'.heap[gb278]? = some (.cells #[.int .i64 a1_0, (.slice A1_1 l1_1.length c1_1), (.slice A1_2 l1_2.length c1_2)] 49 (0, 0))) ∧ Aside0 (w'.heap[gb287]? = some (.cells #[.int .i64 t284, .int .i64 t285, .int .i64 t286] 138 (0, 0))) ∧ Aside0 (Below w.heap.size w w'))
 case atStart => exact ⟨(0), dr, H', ⟨Nat.le_refl _⟩, ⟨by (with_reducible repeat (first | apply Kd.R_alloc | apply Kd.R_drewN | apply Kd.R_drew)); exact Kd.R_mono (Kd.R_far (p := ⟨gb287, 2, none⟩) (Kd.R_far (p := ⟨gb287, 1, none⟩) (Kd.R_far (p := ⟨gb287, 0, none⟩) (Kd.R_types HO283.out BK287.out (by decide)) (fun _ hk => hk.2) (.int .i64 t284)) (fun _ hk => hk.2) (.int .i64 t285)) (fun _ hk => hk.2) (.int .i64 t286)) (fun _ hk => trivial)⟩, ⟨by (with_reducible repeat (first | apply dN | apply dW | apply dA)); refine blk_far ?_ NB277_287.out _; (with_reducible repeat (first | apply dN | apply dW | apply dA)); refine blk_far ?_ NB277_287.out _; (with_reducible repeat (first | apply dN | apply dW | apply dA)); refine blk_far ?_ NB277_287.out _; exact bp BK277⟩, ⟨by (with_reducible repeat (first | apply dN | apply dW | apply dA)); refine blk_far ?_ NB278_287.out _; (with_reducible repeat (first | apply dN | apply dW | apply dA)); refine blk_far ?_ NB278_287.out _; (with_reducible repeat (first | apply dN | apply dW | apply dA)); refine blk_far ?_ NB278_287.out _; exact bp BK278⟩, ⟨by (with_reducible repeat (first | apply dN | apply dW | apply dA)); refine blk_put (cs := #[.int .i64 t284, .int .i64 t285, .int .i64 0]) ?_ 2 _ rfl; (with_reducible repeat (first | apply dN | apply dW | apply dA)); refine blk_put (cs := #[.int .i64 t284, .int .i64 0, .int .i64 0]) ?_ 1 _ rfl; (with_reducible repeat (first | apply dN | apply dW | apply dA)); refine blk_put (cs := #[.int .i64 0, .int .i64 0, .int .i64 0]) ?_ 0 _ rfl; exact bp BK287⟩, ⟨bw HB⟩⟩
 clear H'
 obtain ⟨x7_2, rfl, HA, HK2, HO_5, BK277, BK278, BK287, HB⟩ := hrel
 rcases gk with _ | k2
 ·exact absurd HA.out (by simp [spec_AsmRight.l0])
 have H := HA.out
 clear HA
 simp only [spec_AsmRight.l0] at H
 by_cases c27 : x7_2 < (l1_1.length : Int)
 ·rw [if_pos c27] at H
  have c27b0 := decide_eq_true c27
  clear c27
  refine iN H ?_; clear H; intro c28 H
  have c28b0 := decide_eq_true c28
  clear c28
  have HC29 := am H
  clear H
  have hnb30 := NB278_277.out
  have hnc30 := NB277_278.out
  have hnb31 := NB278_287.out
  have hnc31 := NB287_278.out
  have hcz32 := bK wr BK278
  have hfz32 := bF BK278
  have p288 : 0 ≤ (x7_2 : Int) := dt
  have q288 : x7_2 < (l1_1.length : Int) := dt
  obtain ⟨ad288, A288_0, c288_0, A288_3, c288_3, e288, hx288_0, hx288_1, hx288_2, hx288_3, hx288_4, hl288_0, hi288_0, hl288_3, hi288_3⟩ := at_T80 HR1_1.out x7_2 p288 q288
  cases e288
  replace hx288_0 := cl HB hx288_0
  replace hx288_1 := cl HB hx288_1
  replace hx288_2 := cl HB hx288_2
  replace hx288_3 := cl HB hx288_3
  replace hx288_4 := cl HB hx288_4
  have HR288_0 := am hi288_0
  have HC288_0 := am hl288_0
  clear hi288_0 hl288_0
  have HR288_3 := am hi288_3
  have HC288_3 := am hl288_3
  clear hi288_3 hl288_3
  replace p288 := eq_true p288
  replace q288 := eq_true q288
  go_upto_region 8 with (first | ((with_reducible refine gate_dst (N := 8) rfl ?_); (try (refine gate_guard (by rfl) ?_; dsimp only)); refine box_event ?hg (N := 8) ?hd (cs := #[.slice none 0 0, .int .i64 0, .int .i64 0, .slice none 0 0, .int .i64 0]) (t := 80) ?hr ?_; (case hd => rfl); (case hg => rfl); (case hr => exact gs); intro gb289 hg w33 hbox hb; replace HO_5 := am (Kd.R_below (kR HO_5) hb); have BK289 := am (hbox); have GW289 := gw hg HB; replace HB := bs HB hb; obtain ⟨NB277_289, NB289_277, BK277⟩ := b3 hg BK277 hb; obtain ⟨NB278_289, NB289_278, BK278⟩ := b3 hg BK278 hb; obtain ⟨NB287_289, NB289_287, BK287⟩ := b3 hg BK287 hb; clear hb hbox hg; have hnb34 := NB289_277.out; have hnc34 := NB277_289.out; have hnb35 := NB289_278.out; have hnc35 := NB278_289.out; have hnb36 := NB289_287.out; have hnc36 := NB287_289.out; have hcz37_0 := bk w33 BK289 0; have hcz37_1 := bk w33 BK289 1; have hcz37_2 := bk w33 BK289 2; have hcz37_3 := bk w33 BK289 3; have hcz37_4 := bk w33 BK289 4; have hfz37_0 := bf BK289 0; have hfz37_1 := bf BK289 1; have hfz37_2 := bf BK289 2; have hfz37_3 := bf BK289 3; have hfz37_4 := bf BK289 4))
  (try simp only [Act.put, sa, sz, ss])
  go_cut [81] (fun v81 wc => ∃ (kq : Nat) (x81_28 : Bool), v81 = .bool x81_28 ∧ Aside0 (spec_AsmRight.j2 kq t281 x7_2 x81_28 l0_0 a1_0 l1_1 l1_2 = some r) ∧ Aside0 (kq ≤ k2) ∧ Aside0 (Kd.R (Kd.int .i64) 2 wc w.heap.size (fun _ => True) v282 t281) ∧ Aside0 (wc.heap[gb277]? = some (.cells #[(.slice A0_0 l0_0.length c0_0)] 32 (0, 0))) ∧ Aside0 (wc.heap[gb278]? = some (.cells #[.int .i64 a1_0, (.slice (some ad288) l1_1.length c1_1), (.slice A1_2 l1_2.length c1_2)] 49 (0, 0))) ∧ Aside0 (wc.heap[gb287]? = some (.cells #[.int .i64 t284, .int .i64 t285, .int .i64 t286] 138 (0, 0))) ∧ Aside0 (wc.heap[gb289]? = some (.cells #[(.slice A288_0 ((rd_T80 l1_1 x7_2).f0).length c288_0), .int .i64 ((rd_T80 l1_1 x7_2).f1), .int .i64 ((rd_T80 l1_1 x7_2).f2), (.slice A288_3 ((rd_T80 l1_1 x7_2).f3).length c288_3), .int .i64 ((rd_T80 l1_1 x7_2).f4)] 80 (0, 0))) ∧ Aside0 (Below w.heap.size w wc))
  case first =>
   have H := HC29.out
   clear HC29
   refine be H ?_; clear H; intro t290 A38 H
   refine qT H ?_ ?_ <;> clear H <;> intro c39 H <;> subst c39
   ·refine iM H ?_; clear H; intro c40b0 H
    (first | rw [c40b0] | (simp only [i64_w, i32_w]; rw [c40b0]) | skip)
    refine qI H ?_ ?_ <;> clear H <;> intro c41b0 H
    ·refine qE H ?_ ?_ <;> clear H
     ·intro c42b0 c42b1 H
      have H' := am H
      clear H
      have hnb43 := NB277_278.out
      have hnc43 := NB278_277.out
      have hnb44 := NB277_287.out
      have hnc44 := NB287_277.out
      have hnb45 := NB277_289.out
      have hnc45 := NB289_277.out
      have hcz46 := bK w33 BK277
      have hfz46 := bF BK277
      have hnb47 := NB278_287.out
      have hnc47 := NB287_278.out
      have hnb48 := NB278_289.out
      have hnc48 := NB289_278.out
      have hcz49 := bK w33 BK278
      have hfz49 := bF BK278
      have hnb50 := NB289_287.out
      have hnc50 := NB287_289.out
      have hcz51_0 := bk w33 BK289 0
      have hcz51_1 := bk w33 BK289 1
      have hcz51_2 := bk w33 BK289 2
      have hcz51_3 := bk w33 BK289 3
      have hcz51_4 := bk w33 BK289 4
      have hfz51_0 := bf BK289 0
      have hfz51_1 := bf BK289 1
      have hfz51_2 := bf BK289 2
      have hfz51_3 := bf BK289 3
      have hfz51_4 := bf BK289 4
      go_wp2_with (first | ((with_reducible refine gk 85 rfl ?_); refine gB 85 (some 62) Try.func85 #[.agg #[.slice A0_0 l0_0.length c0_0], .int .i64 a1_0, .agg #[.slice A288_0 ((rd_T80 l1_1 x7_2).f0).length c288_0, .int .i64 ((rd_T80 l1_1 x7_2).f1), .int .i64 ((rd_T80 l1_1 x7_2).f2), .slice A288_3 ((rd_T80 l1_1 x7_2).f3).length c288_3, .int .i64 ((rd_T80 l1_1 x7_2).f4)]] (spec_l10Ins.calls k2 _ _ l0_0 a1_0 _ _ ((rd_T80 l1_1 x7_2).f0) ((rd_T80 l1_1 x7_2).f1) ((rd_T80 l1_1 x7_2).f2) _ _ ((rd_T80 l1_1 x7_2).f3) ((rd_T80 l1_1 x7_2).f4) true _ (Kd.C_below HR0_0.out (bw HB)) HC0_0.out (Kd.C_below HR288_0.out (bw HB)) HC288_0.out (Kd.C_below HR288_3.out (bw HB)) HC288_3.out A38.out) ?_; intro w52 hb; replace HO_5 := am (Kd.R_below (by (with_reducible repeat (first | apply Kd.R_alloc | apply Kd.R_drewN | apply Kd.R_drew)); exact (Kd.R_mono (Kd.R_far (p := ⟨gb289, 4, none⟩) (Kd.R_far (p := ⟨gb289, 3, none⟩) (Kd.R_far (p := ⟨gb289, 2, none⟩) (Kd.R_far (p := ⟨gb289, 1, none⟩) (Kd.R_far (p := ⟨gb289, 0, none⟩) (Kd.R_types HO_5.out BK289.out (by decide)) (fun _ hk => hk.2) (.slice A288_0 ((rd_T80 l1_1 x7_2).f0).length c288_0)) (fun _ hk => hk.2) (.int .i64 ((rd_T80 l1_1 x7_2).f1))) (fun _ hk => hk.2) (.int .i64 ((rd_T80 l1_1 x7_2).f2))) (fun _ hk => hk.2) (.slice A288_3 ((rd_T80 l1_1 x7_2).f3).length c288_3)) (fun _ hk => hk.2) (.int .i64 ((rd_T80 l1_1 x7_2).f4))) (fun _ h_ => h_.1))) hb); replace BK277 := bb2 BK277 hb; replace BK278 := bb2 BK278 hb; replace BK287 := bb2 BK287 hb; replace BK289 := bo #[.slice A288_0 ((rd_T80 l1_1 x7_2).f0).length c288_0, .int .i64 ((rd_T80 l1_1 x7_2).f1), .int .i64 ((rd_T80 l1_1 x7_2).f2), .slice A288_3 ((rd_T80 l1_1 x7_2).f3).length c288_3, .int .i64 ((rd_T80 l1_1 x7_2).f4)] BK289 hb; replace HB := bs HB hb; clear hb; obtain ⟨Ao53, co53, eo53⟩ := Kd.R_slice HO_5.out; subst eo53; have p291 : 0 ≤ (x7_2 : Int) := dt; have q291 : x7_2 < (t281.length : Int) := dt; obtain ⟨ad291, e291, hx291_0⟩ := Kd.at_int (Kd.R_reads' HO_5.out).2.2 x7_2 p291 q291; cases e291; replace p291 := eq_true p291; replace q291 := eq_true q291; have hcz54_0 := bk w52 BK289 0; have hcz54_1 := bk w52 BK289 1; have hcz54_2 := bk w52 BK289 2; have hcz54_3 := bk w52 BK289 3; have hcz54_4 := bk w52 BK289 4; have hfz54_0 := bf BK289 0; have hfz54_1 := bf BK289 1; have hfz54_2 := bf BK289 2; have hfz54_3 := bf BK289 3; have hfz54_4 := bf BK289 4))
      go_meet
      case rel => exact ⟨_, (decide ((((rd_T80 l1_1 x7_2).f0).length : Int) > 0)), dr, H', ⟨lk2 HJ2 HK2⟩, ⟨kR HO_5⟩, ⟨bp BK277⟩, ⟨bp BK278⟩, ⟨bp BK287⟩, ⟨bp BK289⟩, ⟨bw HB⟩⟩
     intro c42 c42b0 c42b1 H
     have H' := am H
     clear H
     have hnb55 := NB277_278.out
     have hnc55 := NB278_277.out
     have hnb56 := NB277_287.out
     have hnc56 := NB287_277.out
     have hnb57 := NB277_289.out
     have hnc57 := NB289_277.out
     have hcz58 := bK w33 BK277
     have hfz58 := bF BK277
     have hnb59 := NB278_287.out
     have hnc59 := NB287_278.out
     have hnb60 := NB278_289.out
     have hnc60 := NB289_278.out
     have hcz61 := bK w33 BK278
     have hfz61 := bF BK278
     have hnb62 := NB289_287.out
     have hnc62 := NB287_289.out
     have hcz63_0 := bk w33 BK289 0
     have hcz63_1 := bk w33 BK289 1
     have hcz63_2 := bk w33 BK289 2
     have hcz63_3 := bk w33 BK289 3
     have hcz63_4 := bk w33 BK289 4
     have hfz63_0 := bf BK289 0
     have hfz63_1 := bf BK289 1
     have hfz63_2 := bf BK289 2
     have hfz63_3 := bf BK289 3
     have hfz63_4 := bf BK289 4
     go_wp2_with (first | ((with_reducible refine gk 85 rfl ?_); refine gB 85 (some 62) Try.func85 #[.agg #[.slice A0_0 l0_0.length c0_0], .int .i64 a1_0, .agg #[.slice A288_0 ((rd_T80 l1_1 x7_2).f0).length c288_0, .int .i64 ((rd_T80 l1_1 x7_2).f1), .int .i64 ((rd_T80 l1_1 x7_2).f2), .slice A288_3 ((rd_T80 l1_1 x7_2).f3).length c288_3, .int .i64 ((rd_T80 l1_1 x7_2).f4)]] (spec_l10Ins.calls k2 _ _ l0_0 a1_0 _ _ ((rd_T80 l1_1 x7_2).f0) ((rd_T80 l1_1 x7_2).f1) ((rd_T80 l1_1 x7_2).f2) _ _ ((rd_T80 l1_1 x7_2).f3) ((rd_T80 l1_1 x7_2).f4) true _ (Kd.C_below HR0_0.out (bw HB)) HC0_0.out (Kd.C_below HR288_0.out (bw HB)) HC288_0.out (Kd.C_below HR288_3.out (bw HB)) HC288_3.out A38.out) ?_; intro w64 hb; replace HO_5 := am (Kd.R_below (by (with_reducible repeat (first | apply Kd.R_alloc | apply Kd.R_drewN | apply Kd.R_drew)); exact (Kd.R_mono (Kd.R_far (p := ⟨gb289, 4, none⟩) (Kd.R_far (p := ⟨gb289, 3, none⟩) (Kd.R_far (p := ⟨gb289, 2, none⟩) (Kd.R_far (p := ⟨gb289, 1, none⟩) (Kd.R_far (p := ⟨gb289, 0, none⟩) (Kd.R_types HO_5.out BK289.out (by decide)) (fun _ hk => hk.2) (.slice A288_0 ((rd_T80 l1_1 x7_2).f0).length c288_0)) (fun _ hk => hk.2) (.int .i64 ((rd_T80 l1_1 x7_2).f1))) (fun _ hk => hk.2) (.int .i64 ((rd_T80 l1_1 x7_2).f2))) (fun _ hk => hk.2) (.slice A288_3 ((rd_T80 l1_1 x7_2).f3).length c288_3)) (fun _ hk => hk.2) (.int .i64 ((rd_T80 l1_1 x7_2).f4))) (fun _ h_ => h_.1))) hb); replace BK277 := bb2 BK277 hb; replace BK278 := bb2 BK278 hb; replace BK287 := bb2 BK287 hb; replace BK289 := bo #[.slice A288_0 ((rd_T80 l1_1 x7_2).f0).length c288_0, .int .i64 ((rd_T80 l1_1 x7_2).f1), .int .i64 ((rd_T80 l1_1 x7_2).f2), .slice A288_3 ((rd_T80 l1_1 x7_2).f3).length c288_3, .int .i64 ((rd_T80 l1_1 x7_2).f4)] BK289 hb; replace HB := bs HB hb; clear hb; obtain ⟨Ao65, co65, eo65⟩ := Kd.R_slice HO_5.out; subst eo65; have p291 : 0 ≤ (x7_2 : Int) := dt; have q291 : x7_2 < (t281.length : Int) := dt; obtain ⟨ad291, e291, hx291_0⟩ := Kd.at_int (Kd.R_reads' HO_5.out).2.2 x7_2 p291 q291; cases e291; replace p291 := eq_true p291; replace q291 := eq_true q291; have hcz66_0 := bk w64 BK289 0; have hcz66_1 := bk w64 BK289 1; have hcz66_2 := bk w64 BK289 2; have hcz66_3 := bk w64 BK289 3; have hcz66_4 := bk w64 BK289 4; have hfz66_0 := bf BK289 0; have hfz66_1 := bf BK289 1; have hfz66_2 := bf BK289 2; have hfz66_3 := bf BK289 3; have hfz66_4 := bf BK289 4))
     go_meet
     case rel => exact ⟨_, (true), dr, H', ⟨lk2 HJ2 HK2⟩, ⟨kR HO_5⟩, ⟨bp BK277⟩, ⟨bp BK278⟩, ⟨bp BK287⟩, ⟨bp BK289⟩, ⟨bw HB⟩⟩
    have H' := am H
    clear H
    have hnb67 := NB277_278.out
    have hnc67 := NB278_277.out
    have hnb68 := NB277_287.out
    have hnc68 := NB287_277.out
    have hnb69 := NB277_289.out
    have hnc69 := NB289_277.out
    have hcz70 := bK w33 BK277
    have hfz70 := bF BK277
    have hnb71 := NB278_287.out
    have hnc71 := NB287_278.out
    have hnb72 := NB278_289.out
    have hnc72 := NB289_278.out
    have hcz73 := bK w33 BK278
    have hfz73 := bF BK278
    have hnb74 := NB289_287.out
    have hnc74 := NB287_289.out
    have hcz75_0 := bk w33 BK289 0
    have hcz75_1 := bk w33 BK289 1
    have hcz75_2 := bk w33 BK289 2
    have hcz75_3 := bk w33 BK289 3
    have hcz75_4 := bk w33 BK289 4
    have hfz75_0 := bf BK289 0
    have hfz75_1 := bf BK289 1
    have hfz75_2 := bf BK289 2
    have hfz75_3 := bf BK289 3
    have hfz75_4 := bf BK289 4
    go_wp2_with (first | ((with_reducible refine gk 85 rfl ?_); refine gB 85 (some 62) Try.func85 #[.agg #[.slice A0_0 l0_0.length c0_0], .int .i64 a1_0, .agg #[.slice A288_0 ((rd_T80 l1_1 x7_2).f0).length c288_0, .int .i64 ((rd_T80 l1_1 x7_2).f1), .int .i64 ((rd_T80 l1_1 x7_2).f2), .slice A288_3 ((rd_T80 l1_1 x7_2).f3).length c288_3, .int .i64 ((rd_T80 l1_1 x7_2).f4)]] (spec_l10Ins.calls k2 _ _ l0_0 a1_0 _ _ ((rd_T80 l1_1 x7_2).f0) ((rd_T80 l1_1 x7_2).f1) ((rd_T80 l1_1 x7_2).f2) _ _ ((rd_T80 l1_1 x7_2).f3) ((rd_T80 l1_1 x7_2).f4) true _ (Kd.C_below HR0_0.out (bw HB)) HC0_0.out (Kd.C_below HR288_0.out (bw HB)) HC288_0.out (Kd.C_below HR288_3.out (bw HB)) HC288_3.out A38.out) ?_; intro w76 hb; replace HO_5 := am (Kd.R_below (by (with_reducible repeat (first | apply Kd.R_alloc | apply Kd.R_drewN | apply Kd.R_drew)); exact (Kd.R_mono (Kd.R_far (p := ⟨gb289, 4, none⟩) (Kd.R_far (p := ⟨gb289, 3, none⟩) (Kd.R_far (p := ⟨gb289, 2, none⟩) (Kd.R_far (p := ⟨gb289, 1, none⟩) (Kd.R_far (p := ⟨gb289, 0, none⟩) (Kd.R_types HO_5.out BK289.out (by decide)) (fun _ hk => hk.2) (.slice A288_0 ((rd_T80 l1_1 x7_2).f0).length c288_0)) (fun _ hk => hk.2) (.int .i64 ((rd_T80 l1_1 x7_2).f1))) (fun _ hk => hk.2) (.int .i64 ((rd_T80 l1_1 x7_2).f2))) (fun _ hk => hk.2) (.slice A288_3 ((rd_T80 l1_1 x7_2).f3).length c288_3)) (fun _ hk => hk.2) (.int .i64 ((rd_T80 l1_1 x7_2).f4))) (fun _ h_ => h_.1))) hb); replace BK277 := bb2 BK277 hb; replace BK278 := bb2 BK278 hb; replace BK287 := bb2 BK287 hb; replace BK289 := bo #[.slice A288_0 ((rd_T80 l1_1 x7_2).f0).length c288_0, .int .i64 ((rd_T80 l1_1 x7_2).f1), .int .i64 ((rd_T80 l1_1 x7_2).f2), .slice A288_3 ((rd_T80 l1_1 x7_2).f3).length c288_3, .int .i64 ((rd_T80 l1_1 x7_2).f4)] BK289 hb; replace HB := bs HB hb; clear hb; obtain ⟨Ao77, co77, eo77⟩ := Kd.R_slice HO_5.out; subst eo77; have p291 : 0 ≤ (x7_2 : Int) := dt; have q291 : x7_2 < (t281.length : Int) := dt; obtain ⟨ad291, e291, hx291_0⟩ := Kd.at_int (Kd.R_reads' HO_5.out).2.2 x7_2 p291 q291; cases e291; replace p291 := eq_true p291; replace q291 := eq_true q291))
    go_meet
    case rel => exact ⟨_, (false), dr, H', ⟨lk2 HJ2 HK2⟩, ⟨kR HO_5⟩, ⟨bp BK277⟩, ⟨bp BK278⟩, ⟨bp BK287⟩, ⟨bp BK289⟩, ⟨bw HB⟩⟩
   have H' := am H
   clear H
   have hnb78 := NB277_278.out
   have hnc78 := NB278_277.out
   have hnb79 := NB277_287.out
   have hnc79 := NB287_277.out
   have hnb80 := NB277_289.out
   have hnc80 := NB289_277.out
   have hcz81 := bK w33 BK277
   have hfz81 := bF BK277
   have hnb82 := NB278_287.out
   have hnc82 := NB287_278.out
   have hnb83 := NB278_289.out
   have hnc83 := NB289_278.out
   have hcz84 := bK w33 BK278
   have hfz84 := bF BK278
   have hnb85 := NB289_287.out
   have hnc85 := NB287_289.out
   have hcz86_0 := bk w33 BK289 0
   have hcz86_1 := bk w33 BK289 1
   have hcz86_2 := bk w33 BK289 2
   have hcz86_3 := bk w33 BK289 3
   have hcz86_4 := bk w33 BK289 4
   have hfz86_0 := bf BK289 0
   have hfz86_1 := bf BK289 1
   have hfz86_2 := bf BK289 2
   have hfz86_3 := bf BK289 3
   have hfz86_4 := bf BK289 4
   go_wp2_with (first | ((with_reducible refine gk 85 rfl ?_); refine gB 85 (some 62) Try.func85 #[.agg #[.slice A0_0 l0_0.length c0_0], .int .i64 a1_0, .agg #[.slice A288_0 ((rd_T80 l1_1 x7_2).f0).length c288_0, .int .i64 ((rd_T80 l1_1 x7_2).f1), .int .i64 ((rd_T80 l1_1 x7_2).f2), .slice A288_3 ((rd_T80 l1_1 x7_2).f3).length c288_3, .int .i64 ((rd_T80 l1_1 x7_2).f4)]] (spec_l10Ins.calls k2 _ _ l0_0 a1_0 _ _ ((rd_T80 l1_1 x7_2).f0) ((rd_T80 l1_1 x7_2).f1) ((rd_T80 l1_1 x7_2).f2) _ _ ((rd_T80 l1_1 x7_2).f3) ((rd_T80 l1_1 x7_2).f4) false _ (Kd.C_below HR0_0.out (bw HB)) HC0_0.out (Kd.C_below HR288_0.out (bw HB)) HC288_0.out (Kd.C_below HR288_3.out (bw HB)) HC288_3.out A38.out) ?_; intro w87 hb; replace HO_5 := am (Kd.R_below (by (with_reducible repeat (first | apply Kd.R_alloc | apply Kd.R_drewN | apply Kd.R_drew)); exact (Kd.R_mono (Kd.R_far (p := ⟨gb289, 4, none⟩) (Kd.R_far (p := ⟨gb289, 3, none⟩) (Kd.R_far (p := ⟨gb289, 2, none⟩) (Kd.R_far (p := ⟨gb289, 1, none⟩) (Kd.R_far (p := ⟨gb289, 0, none⟩) (Kd.R_types HO_5.out BK289.out (by decide)) (fun _ hk => hk.2) (.slice A288_0 ((rd_T80 l1_1 x7_2).f0).length c288_0)) (fun _ hk => hk.2) (.int .i64 ((rd_T80 l1_1 x7_2).f1))) (fun _ hk => hk.2) (.int .i64 ((rd_T80 l1_1 x7_2).f2))) (fun _ hk => hk.2) (.slice A288_3 ((rd_T80 l1_1 x7_2).f3).length c288_3)) (fun _ hk => hk.2) (.int .i64 ((rd_T80 l1_1 x7_2).f4))) (fun _ h_ => h_.1))) hb); replace BK277 := bb2 BK277 hb; replace BK278 := bb2 BK278 hb; replace BK287 := bb2 BK287 hb; replace BK289 := bo #[.slice A288_0 ((rd_T80 l1_1 x7_2).f0).length c288_0, .int .i64 ((rd_T80 l1_1 x7_2).f1), .int .i64 ((rd_T80 l1_1 x7_2).f2), .slice A288_3 ((rd_T80 l1_1 x7_2).f3).length c288_3, .int .i64 ((rd_T80 l1_1 x7_2).f4)] BK289 hb; replace HB := bs HB hb; clear hb))
   go_meet
   case rel => exact ⟨_, (true), dr, H', ⟨lk2 HJ2 HK2⟩, ⟨kR HO_5⟩, ⟨bp BK277⟩, ⟨bp BK278⟩, ⟨bp BK287⟩, ⟨bp BK289⟩, ⟨bw HB⟩⟩
  clear HC29
  obtain ⟨kq, x81_28, rfl, HA, HJ28, HO_5, BK277, BK278, BK287, BK289, HB⟩ := hcut
  rcases kq with _ | kj28
  ·exact absurd HA.out (by simp [spec_AsmRight.j2])
  have H := HA.out
  clear HA
  simp only [spec_AsmRight.j2] at H
  refine qT H ?_ ?_ <;> clear H <;> intro c88 H <;> subst c88
  ·obtain rfl := oi H
   go_wp2
   go_ret
   exact ⟨er, bw HB⟩
  refine iN H ?_; clear H; intro c89 H
  have c89b0 := decide_eq_true c89
  clear c89
  refine iN H ?_; clear H; intro c90 H
  have c90b0 := decide_eq_true c90
  clear c90
  have HC91 := am H
  clear H
  obtain ⟨Ao92, co92, eo92⟩ := Kd.R_slice HO_5.out
  subst eo92
  have p292 : 0 ≤ (x7_2 : Int) := dt
  have q292 : x7_2 < (t281.length : Int) := dt
  obtain ⟨ad292, e292, hx292_0⟩ := Kd.at_int (Kd.R_reads' HO_5.out).2.2 x7_2 p292 q292
  cases e292
  replace p292 := eq_true p292
  replace q292 := eq_true q292
  go_upto_if 86 with (fail)
  go_cut [9] (fun v9 wc => ∃ (kq : Nat) (x9_90 : Int), v9 = .int .i64 x9_90 ∧ Aside0 (spec_AsmRight.j3 kq t281 x7_2 x9_90 l0_0 a1_0 l1_1 l1_2 = some r) ∧ Aside0 (kq ≤ kj28) ∧ Aside0 (Kd.R (Kd.int .i64) 2 wc w.heap.size (fun _ => True) (.slice (some ad292) t281.length co92) t281) ∧ Aside0 (wc.heap[gb277]? = some (.cells #[(.slice A0_0 l0_0.length c0_0)] 32 (0, 0))) ∧ Aside0 (wc.heap[gb278]? = some (.cells #[.int .i64 a1_0, (.slice (some ad288) l1_1.length c1_1), (.slice A1_2 l1_2.length c1_2)] 49 (0, 0))) ∧ Aside0 (wc.heap[gb287]? = some (.cells #[.int .i64 t284, .int .i64 t285, .int .i64 t286] 138 (0, 0))) ∧ Aside0 (wc.heap[gb289]? = some (.cells #[(.slice A288_0 ((rd_T80 l1_1 x7_2).f0).length c288_0), .int .i64 ((rd_T80 l1_1 x7_2).f1), .int .i64 ((rd_T80 l1_1 x7_2).f2), (.slice A288_3 ((rd_T80 l1_1 x7_2).f3).length c288_3), .int .i64 ((rd_T80 l1_1 x7_2).f4)] 80 (0, 0))) ∧ Aside0 (Below w.heap.size w wc))
  case first =>
   have H := HC91.out
   clear HC91
   refine qL H ?_ ?_ <;> clear H <;> intro c93b0 H
   ·(first | rw [c93b0] | (simp only [i64_w, i32_w]; rw [c93b0]) | skip)
    refine iM H ?_; clear H; intro c94b0 H
    refine iM H ?_; clear H; intro c95b0 H
    have H' := am H
    clear H
    try go_wp2
    replace HO_5 := am (Kd.R_drew HO_5.out)
    replace BK277 := am (blk_drew BK277.out)
    replace BK278 := am (blk_drew BK278.out)
    replace BK287 := am (blk_drew BK287.out)
    replace BK289 := am (blk_drew BK289.out)
    replace HB := am (below_drew1 HB.out)
    have p293 : 0 ≤ (a1_0 : Int) := dt
    have q293 : a1_0 < (l0_0.length : Int) := dt
    obtain ⟨ad293, A293_2, c293_2, e293, hx293_0, hx293_1, hx293_2, hl293_2, hi293_2⟩ := at_T121 HR0_0.out a1_0 p293 q293
    have hw293_2 := hx293_2
    have hw293_1 := hx293_1
    have hw293_0 := hx293_0
    cases e293
    replace hx293_0 := cl HB hx293_0
    replace hx293_1 := cl HB hx293_1
    replace hx293_2 := cl HB hx293_2
    have HR293_2 := am hi293_2
    have HC293_2 := am hl293_2
    clear hi293_2 hl293_2
    replace p293 := eq_true p293
    replace q293 := eq_true q293
    have p294 : 0 ≤ (x7_2 : Int) := dt
    have q294 : x7_2 < (t281.length : Int) := dt
    obtain ⟨ad294, e294, hx294_0⟩ := Kd.at_int (Kd.R_reads' HO_5.out).2.2 x7_2 p294 q294
    obtain rfl : ad292 = ad294 := (by injection e294)
    replace p294 := eq_true p294
    replace q294 := eq_true q294
    refine start_ (n := 13) (S := fun w' => w'.cell? ⟨gb277, 0, none⟩ = some (.slice (some ad293) l0_0.length c0_0) ∧ w'.cell? ⟨gb278, 0, none⟩ = some (.int .i64 a1_0) ∧ w'.cell? ⟨gb278, 1, none⟩ = some (.slice (some ad288) l1_1.length c1_1) ∧ w'.cell? ⟨gb278, 2, none⟩ = some (.slice A1_2 l1_2.length c1_2) ∧ w'.cell? (ad293.add ((a1_0).toNat * 3)) = some (.int .i64 ((rd_T121 l0_0 a1_0).f0)) ∧ w'.cell? ⟨(ad293.add ((a1_0).toNat * 3)).block, (ad293.add ((a1_0).toNat * 3)).off + 1, none⟩ = some (.int .i64 ((rd_T121 l0_0 a1_0).f1)) ∧ w'.cell? ⟨(ad293.add ((a1_0).toNat * 3)).block, (ad293.add ((a1_0).toNat * 3)).off + 2, none⟩ = some (.slice A293_2 ((rd_T121 l0_0 a1_0).f2).length c293_2) ∧ w'.cell? (ad292.add (x7_2).toNat) = some (.int .i64 (rd t281 x7_2))) (ds := []) (bv 13 0) (by kernel_rfl) rfl (by kernel_rfl) ⟨bc BK277 0, bc BK278 0, bc BK278 1, bc BK278 2, (cq HB hw293_0), (cq HB hw293_1), (cq HB hw293_2), hx294_0⟩ (fun hHeld => ?_); refine with_tabW spec_AsmRight.tab12 spec_AsmRight.bits12 (fun HT_ HW_ => ?_)
    generalize wc.drew = w96 at HO_5 BK277 BK278 BK287 BK289 HB HR293_2 hx293_0 hx293_1 hx293_2 hx294_0 hHeld ⊢
    refine pu 0 87 13 1 HT_ ?_
    refine pu 2 89 13 5 HT_ ?_
    refine pu 7 94 13 133 HT_ ?_
    refine pu 8 95 13 389 HT_ ?_
    refine pu 9 96 13 901 HT_ ?_
    refine tk 1 88 13 903 HT_ HW_ hHeld ?_
    refine tk 3 90 13 911 HT_ HW_ hHeld ?_
    refine pu 4 91 13 927 HT_ ?_
    refine pu 5 92 13 959 HT_ ?_
    refine tk 6 93 13 1023 HT_ HW_ hHeld ?_
    refine tk 10 97 13 2047 HT_ HW_ hHeld ?_
    refine pu 11 98 13 4095 HT_ ?_
    refine pu 12 9 13 8191 HT_ ?_
    refine done_ (done_of HT_.out (by kernel_rfl)) ?_
    try go_wp2
    go_meet
    case rel => exact ⟨_, (wrap64 (((rd_T121 l0_0 a1_0).f1) + (rd t281 x7_2))), dr, H', ⟨lk3 HJ2 HK2 HJ28⟩, ⟨kR HO_5⟩, ⟨bp BK277⟩, ⟨bp BK278⟩, ⟨bp BK287⟩, ⟨bp BK289⟩, ⟨bw HB⟩⟩
   (first | rw [c93b0] | (simp only [i64_w, i32_w]; rw [c93b0]) | skip)
   have H' := am H
   clear H
   go_wp2
   go_meet
   case rel => exact ⟨_, (0), dr, H', ⟨lk3 HJ2 HK2 HJ28⟩, ⟨kR HO_5⟩, ⟨bp BK277⟩, ⟨bp BK278⟩, ⟨bp BK287⟩, ⟨bp BK289⟩, ⟨bw HB⟩⟩
  clear HC91
  obtain ⟨kq, x9_90, rfl, HA, HJ90, HO_5, BK277, BK278, BK287, BK289, HB⟩ := hcut
  rcases kq with _ | kj90
  ·exact absurd HA.out (by simp [spec_AsmRight.j3])
  have H := HA.out
  clear HA
  simp only [spec_AsmRight.j3] at H
  refine iN H ?_; clear H; intro c97 H
  have c97b0 := decide_eq_true c97
  clear c97
  refine iN H ?_; clear H; intro c98 H
  have c98b0 := decide_eq_true c98
  clear c98
  by_cases c99 : ((rd_L17 l1_2 x7_2).length : Int) = x9_90
  ·rw [if_pos c99] at H
   have c99b0 : (((rd_L17 l1_2 x7_2).length : Int) == x9_90) = true := beq_iff_eq.mpr c99
   have c99b1 : (((rd_L17 l1_2 x7_2).length : Int) != x9_90) = false := bne_eq_false_iff_eq.mpr c99
   clear c99
   have H' := am H
   clear H
   have hnb100 := NB278_277.out
   have hnc100 := NB277_278.out
   have hnb101 := NB278_287.out
   have hnc101 := NB287_278.out
   have hnb102 := NB278_289.out
   have hnc102 := NB289_278.out
   have hcz103 := bK wc BK278
   have hfz103 := bF BK278
   have p295 : 0 ≤ (x7_2 : Int) := dt
   have q295 : x7_2 < (l1_2.length : Int) := dt
   obtain ⟨ad295, A295_0, c295_0, e295, hx295_0, hl295_0, hi295_0⟩ := at_L17 HR1_2.out x7_2 p295 q295
   cases e295
   replace hx295_0 := cl HB hx295_0
   have HR295_0 := am hi295_0
   have HC295_0 := am hl295_0
   clear hi295_0 hl295_0
   replace p295 := eq_true p295
   replace q295 := eq_true q295
   go_wp2
   go_loopg [10] kj90 (fun kq v10 w' => ∃ (x10_5 : Int), v10 = .int .i64 x10_5 ∧ Aside0 (spec_AsmRight.l1 kq t281 x7_2 x10_5 l0_0 a1_0 l1_1 l1_2 = some r) ∧ Aside0 (kq ≤ kj90) ∧ Aside0 (Kd.R (Kd.int .i64) 2 w' w.heap.size (fun _ => True) (.slice (some ad292) t281.length co92) t281) ∧ Aside0 (w'.heap[gb277]? = some (.cells #[(.slice A0_0 l0_0.length c0_0)] 32 (0, 0))) ∧ Aside0 (w'.heap[gb278]? = some (.cells #[.int .i64 a1_0, (.slice (some ad288) l1_1.length c1_1), (.slice (some ad295) l1_2.length c1_2)] 49 (0, 0))) ∧ Aside0 (w'.heap[gb287]? = some (.cells #[.int .i64 t284, .int .i64 t285, .int .i64 t286] 138 (0, 0))) ∧ Aside0 (w'.heap[gb289]? = some (.cells #[(.slice A288_0 ((rd_T80 l1_1 x7_2).f0).length c288_0), .int .i64 ((rd_T80 l1_1 x7_2).f1), .int .i64 ((rd_T80 l1_1 x7_2).f2), (.slice A288_3 ((rd_T80 l1_1 x7_2).f3).length c288_3), .int .i64 ((rd_T80 l1_1 x7_2).f4)] 80 (0, 0))) ∧ Aside0 (Below w.heap.size w w'))
   case atStart => exact ⟨(0), dr, H', ⟨Nat.le_refl _⟩, ⟨kR HO_5⟩, ⟨bp BK277⟩, ⟨bp BK278⟩, ⟨bp BK287⟩, ⟨bp BK289⟩, ⟨bw HB⟩⟩
   clear H'
   obtain ⟨x10_5, rfl, HA, HK5, HO_5, BK277, BK278, BK287, BK289, HB⟩ := hrel
   rcases gk with _ | k5
   ·exact absurd HA.out (by simp [spec_AsmRight.l1])
   have H := HA.out
   clear HA
   simp only [spec_AsmRight.l1] at H
   refine iM H ?_; clear H; intro c104b0 H
   refine iM H ?_; clear H; intro c105b0 H
   refine qI H ?_ ?_ <;> clear H <;> intro c106b0 H
   ·refine iM H ?_; clear H; intro c107b0 H
    refine be H ?_; clear H; intro t299 A108 H
    have HC109 := am H
    clear H
    have hnb110 := NB278_277.out
    have hnc110 := NB277_278.out
    have hnb111 := NB278_287.out
    have hnc111 := NB287_278.out
    have hnb112 := NB278_289.out
    have hnc112 := NB289_278.out
    have hcz113 := bK wr BK278
    have hfz113 := bF BK278
    have p296 : 0 ≤ (x7_2 : Int) := dt
    have q296 : x7_2 < (l1_2.length : Int) := dt
    obtain ⟨ad296, A296_0, c296_0, e296, hx296_0, hl296_0, hi296_0⟩ := at_L17 HR1_2.out x7_2 p296 q296
    obtain rfl : ad295 = ad296 := (by injection e296)
    replace hx296_0 := cl HB hx296_0
    have HR296_0 := am hi296_0
    have HC296_0 := am hl296_0
    clear hi296_0 hl296_0
    replace p296 := eq_true p296
    replace q296 := eq_true q296
    have p297 : 0 ≤ (x7_2 : Int) := dt
    have q297 : x7_2 < (l1_2.length : Int) := dt
    obtain ⟨ad297, A297_0, c297_0, e297, hx297_0, hl297_0, hi297_0⟩ := at_L17 HR1_2.out x7_2 p297 q297
    obtain rfl : ad295 = ad297 := (by injection e297)
    replace hx297_0 := cl HB hx297_0
    have HR297_0 := am hi297_0
    have HC297_0 := am hl297_0
    clear hi297_0 hl297_0
    replace p297 := eq_true p297
    replace q297 := eq_true q297
    have ea_ := Option.some.inj (hx296_0.symm.trans hx297_0)
    injection ea_ with ea_ en_ ec_
    subst ea_
    subst ec_
    clear en_
    have p298 : 0 ≤ (x10_5 : Int) := dt
    have q298 : x10_5 < ((rd_L17 l1_2 x7_2).length : Int) := dt
    obtain ⟨ad298, e298, hx298_0, hx298_1⟩ := at_T82 HR297_0.out x10_5 p298 q298
    cases e298
    replace hx298_0 := cl HB hx298_0
    replace hx298_1 := cl HB hx298_1
    replace p298 := eq_true p298
    replace q298 := eq_true q298
    go_upto_if 126 with (first | ((with_reducible refine gate_callee (f := 86) rfl ?_); refine goesL_ (some 125) rfl rfl Try.func86 (by kernel_rfl) rfl #[.agg #[.int .i64 ((rd_T82 (rd_L17 l1_2 x7_2) x10_5).f0), .int .i64 ((rd_T82 (rd_L17 l1_2 x7_2) x10_5).f1)]] rfl gl ?_; (with_reducible refine (spec_l10Val.calls ((rd_T82 (rd_L17 l1_2 x7_2) x10_5).f0) ((rd_T82 (rd_L17 l1_2 x7_2) x10_5).f1) t299 _ A108.out).mono ?_); rintro e w114 ⟨rfl, hb⟩; refine ⟨_, rfl, ?_⟩; replace HO_5 := am (Kd.R_below (kR HO_5) hb); replace BK277 := bb BK277 hb; replace BK278 := bb BK278 hb; replace BK287 := bb BK287 hb; replace BK289 := bb BK289 hb; replace HB := bs HB hb; clear hb))
    (try simp only [Act.put, sa, sz, ss])
    have H := HC109.out
    clear HC109
    refine qT H ?_ ?_ <;> clear H <;> intro c115 H <;> subst c115
    ·have H' := am H
     clear H
     go_wp2
     go_roundg k5
     case measure => have := HJ2.out; have := HK2.out; have := HJ28.out; have := HJ90.out; have := HK5.out; omega
     case rel => exact ⟨(wrap64 (x10_5 + 1)), dr, H', ⟨by have := HJ2.out; have := HK2.out; have := HJ28.out; have := HJ90.out; have := HK5.out; omega⟩, ⟨kR HO_5⟩, ⟨bp BK277⟩, ⟨bp BK278⟩, ⟨bp BK287⟩, ⟨bp BK289⟩, ⟨bw HB⟩⟩
    obtain rfl := oi H
    go_wp2
    go_ret
    exact ⟨er, bw HB⟩
   have H' := am H
   clear H
   have hnb116 := NB278_277.out
   have hnc116 := NB277_278.out
   have hnb117 := NB278_287.out
   have hnc117 := NB287_278.out
   have hnb118 := NB278_289.out
   have hnc118 := NB289_278.out
   have hcz119 := bK wr BK278
   have hfz119 := bF BK278
   have p296 : 0 ≤ (x7_2 : Int) := dt
   have q296 : x7_2 < (l1_2.length : Int) := dt
   obtain ⟨ad296, A296_0, c296_0, e296, hx296_0, hl296_0, hi296_0⟩ := at_L17 HR1_2.out x7_2 p296 q296
   obtain rfl : ad295 = ad296 := (by injection e296)
   replace hx296_0 := cl HB hx296_0
   have HR296_0 := am hi296_0
   have HC296_0 := am hl296_0
   clear hi296_0 hl296_0
   replace p296 := eq_true p296
   replace q296 := eq_true q296
   go_wp2
   go_roundg k5
   case measure => have := HJ2.out; have := HK2.out; have := HJ28.out; have := HJ90.out; have := HK5.out; omega
   case rel => exact ⟨(wrap64 (x7_2 + 1)), dr, H', ⟨by have := HJ2.out; have := HK2.out; have := HJ28.out; have := HJ90.out; have := HK5.out; omega⟩, ⟨kR HO_5⟩, ⟨bp BK277⟩, ⟨bp BK278⟩, ⟨bp BK287⟩, ⟨bw HB⟩⟩
  rw [if_neg c99] at H
  have c99b0 : (((rd_L17 l1_2 x7_2).length : Int) == x9_90) = false := beq_eq_false_iff_ne.mpr c99
  have c99b1 : (((rd_L17 l1_2 x7_2).length : Int) != x9_90) = true := bne_iff_ne.mpr c99
  obtain rfl := oi H
  have hnb120 := NB278_277.out
  have hnc120 := NB277_278.out
  have hnb121 := NB278_287.out
  have hnc121 := NB287_278.out
  have hnb122 := NB278_289.out
  have hnc122 := NB289_278.out
  have hcz123 := bK wc BK278
  have hfz123 := bF BK278
  have p295 : 0 ≤ (x7_2 : Int) := dt
  have q295 : x7_2 < (l1_2.length : Int) := dt
  obtain ⟨ad295, A295_0, c295_0, e295, hx295_0, hl295_0, hi295_0⟩ := at_L17 HR1_2.out x7_2 p295 q295
  cases e295
  replace hx295_0 := cl HB hx295_0
  have HR295_0 := am hi295_0
  have HC295_0 := am hl295_0
  clear hi295_0 hl295_0
  replace p295 := eq_true p295
  replace q295 := eq_true q295
  go_wp2
  go_ret
  exact ⟨er, bw HB⟩
 rw [if_neg c27] at H
 have c27b0 := decide_eq_false c27
 clear c27
 obtain rfl := oi H
 have hnb124 := NB278_277.out
 have hnc124 := NB277_278.out
 have hnb125 := NB278_287.out
 have hnc125 := NB287_278.out
 have hcz126 := bK wr BK278
 have hfz126 := bF BK278
 go_wp2
 go_ret
 exact ⟨er, bw HB⟩

end Go.Proofs.Ytkhpiicijkhpkaa.QFnExactAsmBytes
