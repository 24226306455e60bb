import Derived.Test.YtkhpiicijkhpkaaCFnExactAsmBytesx0
import Derived.Test.YtkhpiicijkhpkaaCFnExactAsmBytesx14
import Derived.Test.YtkhpiicijkhpkaaCFnExactAsmBytesx18
import Derived.Test.YtkhpiicijkhpkaaCFnExactAsmBytesx19
import Derived.Test.YtkhpiicijkhpkaaCFnExactAsmBytesx20
namespace Go.Proofs.Ytkhpiicijkhpkaa.QFnExactAsmBytes
open Go.RowKit Go.Proofs.YtkhpiicijkhpkaaW
open PrintWords PrintLast PrintMore PrintShort PrintIsh
attribute [local go_sem] max2_int min2_int max_two min_two max_three min_three max_four min_four
set_option linter.unusedVariables false
set_option maxHeartbeats 8000000
set_option maxRecDepth 100000
set_option linter.unusedSimpArgs false

mutual
def impl_prog_asmRight.j0 : Nat → Bool → List (S121) → List (List Int) → Int → List (S80) → List (List (S82)) → Option (Bool)
 | 0, _, _, _, _, _, _ => none
 | k + 1, x37, x1000, x1001, x578000, x578001, x578002 => if x37 = true then (some false) else (impl_prog_asmRight.l0 k x578001 (x578001.length : Int) 0 x1000 x1001 x578000 x578001 x578002)
def impl_prog_asmRight.l0 : Nat → List (S80) → Int → Int → List (S121) → List (List Int) → Int → List (S80) → List (List (S82)) → Option (Bool)
 | 0, _, _, _, _, _, _, _, _ => none
 | k + 1, x39, x40, x41, x1000, x1001, x578000, x578001, x578002 => if x41 < x40 then (if 0 ≤ x41 then (if x41 < (x39.length : Int) then ((impl_prog_reached.f x1000 x1001 x578000 x41).bind fun t584 => (if t584 = true then (if x41 < (x578002.length : Int) then ((impl_prog_slots.f x1000 x1001 x578000 x41).bind fun t597 => (if ((rd_L17 x578002 x41).length : Int) = t597 then ((impl_prog_insRight.f k x1000 x1001 x578000 ((rd_T80 x39 x41).f0) ((rd_T80 x39 x41).f1) ((rd_T80 x39 x41).f2) ((rd_T80 x39 x41).f3) ((rd_T80 x39 x41).f4)).bind fun t598 => (impl_prog_asmRight.j2 k x41 x39 x40 x41 (!t598) x1000 x1001 x578000 x578001 x578002)) else (impl_prog_asmRight.j2 k x41 x39 x40 x41 true x1000 x1001 x578000 x578001 x578002))) else (none)) else (if x41 < (x578002.length : Int) then (if ((rd_L17 x578002 x41).length : Int) = 0 then ((impl_bareNop.f).bind fun bt586 => ((impl_sameIns.f k ((rd_T80 x39 x41).f0) ((rd_T80 x39 x41).f1) ((rd_T80 x39 x41).f2) ((rd_T80 x39 x41).f3) ((rd_T80 x39 x41).f4) bt586.1 bt586.2.1 bt586.2.2.1 bt586.2.2.2.1 bt586.2.2.2.2).bind fun t595 => (if t595 = true then (impl_prog_asmRight.l0 k x39 x40 (wrap64 (x41 + 1)) x1000 x1001 x578000 x578001 x578002) else (some false)))) else (some false)) else (none)))) else (none)) else (none)) else (some true)
def impl_prog_asmRight.j2 : Nat → Int → List (S80) → Int → Int → Bool → List (S121) → List (List Int) → Int → List (S80) → List (List (S82)) → Option (Bool)
 | 0, _, _, _, _, _, _, _, _, _, _ => none
 | k + 1, x5, x39, x40, x41, x85, x1000, x1001, x578000, x578001, x578002 => if x85 = true then (some false) else (if 0 ≤ x5 then (if x5 < (x578002.length : Int) then (impl_prog_asmRight.l1 k x39 x40 x41 (rd_L17 x578002 x5) ((rd_L17 x578002 x5).length : Int) 0 x1000 x1001 x578000 x578001 x578002) else (none)) else (none))
def impl_prog_asmRight.l1 : Nat → List (S80) → Int → Int → List (S82) → Int → Int → List (S121) → List (List Int) → Int → List (S80) → List (List (S82)) → Option (Bool)
 | 0, _, _, _, _, _, _, _, _, _, _, _ => none
 | k + 1, x39, x40, x41, x90, x91, x92, x1000, x1001, x578000, x578001, x578002 => if x92 < x91 then (if 0 ≤ x92 then (if x92 < (x90.length : Int) then ((impl_Val_right.f ((rd_T82 x90 x92).f0) ((rd_T82 x90 x92).f1)).bind fun t602 => (if t602 = true then (impl_prog_asmRight.l1 k x39 x40 x41 x90 x91 (wrap64 (x92 + 1)) x1000 x1001 x578000 x578001 x578002) else (some false))) else (none)) else (none)) else (impl_prog_asmRight.l0 k x39 x40 (wrap64 (x41 + 1)) x1000 x1001 x578000 x578001 x578002)
end
def impl_prog_asmRight.f (k : Nat) (l0_0 : List (S121)) (l0_1 : List (List Int)) (a1_0 : Int) (l1_1 : List (S80)) (l1_2 : List (List (S82))) : Option (Bool) := (impl_hasFunc.f l0_0 a1_0).bind fun t578 => (if t578 = true then ((impl_prog_code.f l0_0 l0_1 a1_0).bind fun t579 => (if (l1_1.length : Int) = (t579.length : Int) then (impl_prog_asmRight.j0 k ((l1_2.length : Int) != (l1_1.length : Int)) l0_0 l0_1 a1_0 l1_1 l1_2) else (impl_prog_asmRight.j0 k true l0_0 l0_1 a1_0 l1_1 l1_2))) else (impl_prog_asmRight.j0 k true l0_0 l0_1 a1_0 l1_1 l1_2))
def impl_prog_asmRight.T1 : Bool × List (List Nat × List Nat) := (true, [([], []), ([0], [0]), ([1], [1]), ([2], [2]), ([], []), ([4], [4]), ([3, 5], [3, 5]), ([6], [6]), ([7, 6], [7]), ([8], [8]), ([9, 8], [8, 9]), ([10, 8], [8, 10]), ([8], [8]), ([8], [8]), ([13, 8], [8, 13]), ([12, 14, 8, 8], [8, 12, 14]), ([15, 8], [8, 15]), ([11, 16, 8], [8, 11, 16]), ([8, 17], [8, 17]), ([18, 15], [18]), ([19], [19]), ([20, 19], [19, 20]), ([21, 19], [19, 21]), ([19], [19]), ([23, 19], [19, 23]), ([24, 19], [19, 24]), ([22, 25, 19], [19, 22, 25]), ([19, 26], [19, 26])])
def impl_prog_asmRight.B1 : List Nat := [0, 1, 3, 7, 0, 16, 63, 127, 255, 511, 1023, 2047, 511, 511, 8703, 29183, 61951, 131071, 262143, 524287, 1048575, 2097151, 4194303, 1048575, 9437183, 26214399, 67108863, 134217727]
theorem impl_prog_asmRight.tab1 : rtab .any (opsOf Try.f56 1) = impl_prog_asmRight.T1 := by kernel_rfl
theorem impl_prog_asmRight.bits1 : waitsOk impl_prog_asmRight.T1.2 impl_prog_asmRight.B1 = true := by kernel_rfl
def impl_prog_asmRight.T8 : Bool × List (List Nat × List Nat) := (true, [([], []), ([0], [0]), ([], []), ([1, 2], [1, 2]), ([3], [3]), ([4], [4]), ([5], [5]), ([6], [6]), ([7], [7]), ([7, 7], [7]), ([8, 9, 9, 7], [7, 8, 9]), ([10, 7], [7, 10]), ([7, 11], [7, 11])])
def impl_prog_asmRight.B8 : List Nat := [0, 1, 0, 7, 15, 31, 63, 127, 255, 255, 1023, 2047, 4095]
theorem impl_prog_asmRight.tab8 : rtab .any (opsOf Try.f56 8) = impl_prog_asmRight.T8 := by kernel_rfl
theorem impl_prog_asmRight.bits8 : waitsOk impl_prog_asmRight.T8.2 impl_prog_asmRight.B8 = true := by kernel_rfl
def impl_prog_asmRight.T10 : Bool × List (List Nat × List Nat) := (true, [([], []), ([0], [0]), ([], []), ([1, 2], [1, 2]), ([3], [3]), ([4], [4]), ([], []), ([], []), ([7], [7]), ([], []), ([6, 8, 9], [6, 8, 9]), ([5, 10], [5, 10]), ([11, 10], [11]), ([12], [12]), ([12], [12]), ([14, 12], [12, 14]), ([12], [12]), ([13, 15, 16, 12, 12], [12, 13, 15, 16]), ([17, 12], [12, 17]), ([12, 18], [12, 18])])
def impl_prog_asmRight.B10 : List Nat := [0, 1, 0, 7, 15, 31, 0, 0, 128, 0, 960, 2047, 4095, 8191, 8191, 24575, 8191, 131071, 262143, 524287]
theorem impl_prog_asmRight.tab10 : rtab .any (opsOf Try.f56 10) = impl_prog_asmRight.T10 := by kernel_rfl
theorem impl_prog_asmRight.bits10 : waitsOk impl_prog_asmRight.T10.2 impl_prog_asmRight.B10 = true := by kernel_rfl
theorem impl_prog_asmRight.calls (k : Nat) (g0_ : Nat) (A0_0 : Option Addr) (c0_0 : Nat) (l0_0 : List (S121)) (A0_1 : Option Addr) (c0_1 : Nat) (l0_1 : List (List Int)) (a1_0 : Int) (A1_1 : Option Addr) (c1_1 : Nat) (l1_1 : List (S80)) (A1_2 : Option Addr) (c1_2 : Nat) (l1_2 : List (List (S82))) (r : Bool) (w : World) (hp0 : w.heap[g0_]? = some (.cells #[.slice A0_0 l0_0.length c0_0, .slice A0_1 l0_1.length c0_1] 158 (0, 0))) (hr0_0 : Kd.C k121 w A0_0 l0_0.length l0_0) (hc0_0 : l0_0.length ≤ c0_0) (hr0_1 : Kd.C (Kd.slice 2 (Kd.int .i64)) w A0_1 l0_1.length l0_1) (hc0_1 : l0_1.length ≤ c0_1) (hr1_1 : Kd.C k80 w A1_1 l1_1.length l1_1) (hc1_1 : l1_1.length ≤ c1_1) (hr1_2 : Kd.C (Kd.slice 82 k82) w A1_2 l1_2.length l1_2) (hc1_2 : l1_2.length ≤ c1_2) (h : impl_prog_asmRight.f k l0_0 l0_1 a1_0 l1_1 l1_2 = some r) :
  Calls Try.prog 56 #[.pointer (some ⟨g0_, 0, none⟩), .agg #[.int .i64 a1_0, .slice A1_1 l1_1.length c1_1, .slice A1_2 l1_2.length c1_2]] w fun e w' => e = .returned (.bool r) ∧ Below w.heap.size w w' := by
 have hu49 := Try.underlying49
 have hu32 := Try.underlying32
 have hu80 := Try.underlying80
 have hu82 := Try.underlying82
 have HP0_ := am hp0
 clear hp0
 have HR0_0 := am hr0_0
 have HC0_0 := am hc0_0
 clear hr0_0 hc0_0
 have HR0_1 := am hr0_1
 have HC0_1 := am hc0_1
 clear hr0_1 hc0_1
 have HR1_1 := am hr1_1
 have HC1_1 := am hc1_1
 clear hr1_1 hc1_1
 have HR1_2 := am hr1_2
 have HC1_2 := am hc1_2
 clear hr1_2 hc1_2
 have HB := am (Below.refl w.heap.size w)
 have H : ((impl_hasFunc.f l0_0 a1_0).bind fun t578 => (if t578 = true then ((impl_prog_code.f l0_0 l0_1 a1_0).bind fun t579 => (if (l1_1.length : Int) = (t579.length : Int) then (impl_prog_asmRight.j0 k ((l1_2.length : Int) != (l1_1.length : Int)) l0_0 l0_1 a1_0 l1_1 l1_2) else (impl_prog_asmRight.j0 k true l0_0 l0_1 a1_0 l1_1 l1_2))) else (impl_prog_asmRight.j0 k true l0_0 l0_1 a1_0 l1_1 l1_2))) = some r := h
 clear h
 have HC3 := am H
 clear H
 go_enter Try.func56, Try.ntmps56
 go_upto_region 1 with (first | ((with_reducible refine gate_dst (N := 3) rfl ?_); (try (refine gate_guard (by rfl) ?_; dsimp only)); refine box_event ?hg (N := 3) ?hd (cs := #[.int .i64 a1_0, .slice A1_1 l1_1.length c1_1, .slice A1_2 l1_2.length c1_2]) (t := 49) ?hr ?_; (case hd => rfl); (case hg => rfl); (case hr => exact gs); intro gb577 hg w4 hbox hb; have BK577 := am (hbox); have GW577 := gw hg HB; replace HB := bs HB hb; obtain ⟨NB0_577, NB577_0, HP0_⟩ := b3 hg HP0_ hb; clear hb hbox hg))
 (try simp only [Act.put, sa, sz, ss])
 go_cut [37] (fun v37 wc => ∃ (kq : Nat) (x37_2 : Bool), v37 = .bool x37_2 ∧ Aside0 (impl_prog_asmRight.j0 kq x37_2 l0_0 l0_1 a1_0 l1_1 l1_2 = some r) ∧ Aside0 (kq ≤ k) ∧ Aside0 (wc.heap[g0_]? = some (.cells #[(.slice A0_0 l0_0.length c0_0), (.slice A0_1 l0_1.length c0_1)] 158 (0, 0))) ∧ Aside0 (wc.heap[gb577]? = some (.cells #[.int .i64 a1_0, (.slice A1_1 l1_1.length c1_1), (.slice A1_2 l1_2.length c1_2)] 49 (0, 0))) ∧ Aside0 (Below w.heap.size w wc))
 case first =>
  have H := HC3.out
  clear HC3
  refine be H ?_; clear H; intro t578 A5 H
  refine qT H ?_ ?_ <;> clear H <;> intro c6 H <;> subst c6
  ·refine be H ?_; clear H; intro t579 A7 H
   by_cases c8 : (l1_1.length : Int) = (t579.length : Int)
   ·rw [if_pos c8] at H
    have c8b0 : ((l1_1.length : Int) == (t579.length : Int)) = true := beq_iff_eq.mpr c8
    have c8b1 : ((l1_1.length : Int) != (t579.length : Int)) = false := bne_eq_false_iff_eq.mpr c8
    have c8b2 : (l1_1.length == t579.length) = true := by first | simpa using c8 | (simp at c8 ⊢; omega)
    clear c8
    (first | rw [c8b0] | (simp only [i64_w, i32_w]; rw [c8b0]) | skip)
    have H' := am H
    clear H
    try go_wp2
    replace HP0_ := am (blk_drew HP0_.out)
    replace BK577 := am (blk_drew BK577.out)
    replace HB := am (below_drew1 HB.out)
    refine start_ (n := 28) (S := fun w' => w'.cell? ⟨g0_, 0, none⟩ = some (.slice A0_0 l0_0.length c0_0) ∧ w'.cell? ⟨g0_, 1, none⟩ = some (.slice A0_1 l0_1.length c0_1) ∧ w'.cell? ⟨gb577, 0, none⟩ = some (.int .i64 a1_0) ∧ w'.cell? ⟨gb577, 1, none⟩ = some (.slice A1_1 l1_1.length c1_1) ∧ w'.cell? ⟨gb577, 2, none⟩ = some (.slice A1_2 l1_2.length c1_2)) (ds := []) (bv 28 0) (by kernel_rfl) rfl (by kernel_rfl) ⟨bc HP0_ 0, bc HP0_ 1, bc BK577 0, bc BK577 1, bc BK577 2⟩ (fun hHeld => ?_); refine with_tabW impl_prog_asmRight.tab1 impl_prog_asmRight.bits1 (fun HT_ HW_ => ?_)
    generalize w4.drew = w9 at HP0_ BK577 HB hHeld ⊢
    refine pu 0 10 28 1 HT_ ?_
    refine pu 1 11 28 3 HT_ ?_
    refine pu 2 12 28 7 HT_ ?_
    refine pu 4 14 28 23 HT_ ?_
    refine tk 3 13 28 31 HT_ HW_ hHeld ?_
    refine tk 5 15 28 63 HT_ HW_ hHeld ?_
    refine on 6 (some 16) 28 127 HT_ fun K hK => ?_
    refine goes_ Try.func95 (by kernel_rfl) rfl #[.agg #[.slice A0_0 l0_0.length c0_0], .int .i64 a1_0] (by rfl) rfl rfl gl ?_
    with_reducible refine (impl_hasFunc.calls _ _ l0_0 a1_0 true _ ?side1 ?side2 A5.out).mono ?_
    (case side1 => exact cc (Kd.C_below HR0_0.out HB.out))
    (case side2 => exact HC0_0.out)
    rintro e w10 ⟨rfl, hb⟩
    refine ⟨_, rfl, ?_⟩
    replace HP0_ := bb HP0_ hb
    replace BK577 := bb BK577 hb
    replace HB := am (below_step (bw HB) hb)
    clear hb
    refine hK.out _ _ ⟨bc HP0_ 0, bc HP0_ 1, bc BK577 0, bc BK577 1, bc BK577 2⟩ (fun hHeld => ?_)
    clear hK K
    refine nm (some 16) ?_
    refine pu 7 17 28 255 HT_ ?_
    refine pu 8 18 28 511 HT_ ?_
    refine pu 9 19 28 1023 HT_ ?_
    refine pu 12 22 28 5119 HT_ ?_
    refine pu 13 23 28 13311 HT_ ?_
    refine tk 10 20 28 14335 HT_ HW_ hHeld ?_
    refine pu 11 21 28 16383 HT_ ?_
    refine tk 14 24 28 32767 HT_ HW_ hHeld ?_
    refine on 15 (some 25) 28 65535 HT_ fun K hK => ?_
    refine goes_ Try.func96 (by kernel_rfl) rfl #[.pointer (some ⟨g0_, 0, none⟩), .int .i64 a1_0] (by rfl) rfl rfl gl ?_
    refine (impl_prog_code.calls g0_ (fun k_ => k_ < w.heap.size) A0_0 c0_0 l0_0 A0_1 c0_1 l0_1 a1_0 t579 _ ?side1 ?side2 ?side3 ?side4 A7.out).mono ?_
    (case side1 => exact (bp HP0_))
    (case side2 => exact Kd.V_mk HC0_0.out (Kd.F_below (Kd.C_F k121_heap HR0_0.out) (bw HB)))
    (case side3 => exact cc (Kd.C_below HR0_1.out HB.out))
    (case side4 => exact HC0_1.out)
    rintro e w11 ⟨v580, rfl, ho0, hb⟩
    refine ⟨_, rfl, ?_⟩
    have n0_ := am (Kd.V_lower (Kd.V_mono (ok' := fun k_ => k_ ≠ gb577) ho0 (fun k_ hk_ => Or.elim hk_ (fun hs_ => fun e_ => Nat.not_le.2 hs_ (by rw [e_]; exact GW577.out)) (fun hn_ => (Kd.freshB (g := gb577) (o := .cells #[.int .i64 a1_0, .slice A1_1 l1_1.length c1_1, .slice A1_2 l1_2.length c1_2] 49 (0, 0)) (bp BK577) k_ hn_)))) (below_size (bw HB)))
    have n1_ := bb HP0_ hb
    have n2_ := bb BK577 hb
    have n3_ := am (below_step (bw HB) hb)
    clear HP0_
    clear BK577
    clear HB
    have HO581 := n0_
    have HP0_ := n1_
    have BK577 := n2_
    have HB := n3_
    clear n0_ n1_ n2_ n3_
    clear hb
    obtain ⟨Ao12, co12, eo12⟩ := Kd.V_slice HO581.out
    (first | subst eo12 | (injection eo12 with f1_ f2_ f3_; have f4_ := f1_.symm; have f5_ := f3_.symm; clear f1_ f2_ f3_; subst f4_; subst f5_))
    refine hK.out _ _ ⟨bc HP0_ 0, bc HP0_ 1, bc BK577 0, bc BK577 1, bc BK577 2⟩ (fun hHeld => ?_)
    clear hK K
    refine nm (some 25) ?_
    refine pu 16 26 28 131071 HT_ ?_
    refine pu 17 27 28 262143 HT_ ?_
    refine pu 18 28 28 524287 HT_ ?_
    refine pu 19 29 28 1048575 HT_ ?_
    refine pu 20 30 28 2097151 HT_ ?_
    refine pu 23 33 28 10485759 HT_ ?_
    refine tk 21 31 28 12582911 HT_ HW_ hHeld ?_
    refine pu 22 32 28 16777215 HT_ ?_
    refine tk 24 34 28 33554431 HT_ HW_ hHeld ?_
    refine pu 25 35 28 67108863 HT_ ?_
    refine pu 26 36 28 134217727 HT_ ?_
    refine pu 27 37 28 268435455 HT_ ?_
    refine done_ (done_of HT_.out (by kernel_rfl)) ?_
    try go_wp2
    go_meet
    case rel => exact ⟨_, (((l1_2.length : Int) != (l1_1.length : Int))), dr, H', ⟨lk0⟩, ⟨bp HP0_⟩, ⟨bp BK577⟩, ⟨bw HB⟩⟩
   rw [if_neg c8] at H
   have c8b0 : ((l1_1.length : Int) == (t579.length : Int)) = false := beq_eq_false_iff_ne.mpr c8
   have c8b1 : ((l1_1.length : Int) != (t579.length : Int)) = true := bne_iff_ne.mpr c8
   have c8b2 : (l1_1.length == t579.length) = false := by first | simpa using c8 | (simp at c8 ⊢; omega)
   (first | rw [c8b0] | (simp only [i64_w, i32_w]; rw [c8b0]) | skip)
   have H' := am H
   clear H
   try go_wp2
   replace HP0_ := am (blk_drew HP0_.out)
   replace BK577 := am (blk_drew BK577.out)
   replace HB := am (below_drew1 HB.out)
   refine start_ (n := 28) (S := fun w' => w'.cell? ⟨g0_, 0, none⟩ = some (.slice A0_0 l0_0.length c0_0) ∧ w'.cell? ⟨g0_, 1, none⟩ = some (.slice A0_1 l0_1.length c0_1) ∧ w'.cell? ⟨gb577, 0, none⟩ = some (.int .i64 a1_0) ∧ w'.cell? ⟨gb577, 1, none⟩ = some (.slice A1_1 l1_1.length c1_1) ∧ w'.cell? ⟨gb577, 2, none⟩ = some (.slice A1_2 l1_2.length c1_2)) (ds := []) (bv 28 0) (by kernel_rfl) rfl (by kernel_rfl) ⟨bc HP0_ 0, bc HP0_ 1, bc BK577 0, bc BK577 1, bc BK577 2⟩ (fun hHeld => ?_); refine with_tabW impl_prog_asmRight.tab1 impl_prog_asmRight.bits1 (fun HT_ HW_ => ?_)
   generalize w4.drew = w13 at HP0_ BK577 HB hHeld ⊢
   refine pu 0 10 28 1 HT_ ?_
   refine pu 1 11 28 3 HT_ ?_
   refine pu 2 12 28 7 HT_ ?_
   refine pu 4 14 28 23 HT_ ?_
   refine tk 3 13 28 31 HT_ HW_ hHeld ?_
   refine tk 5 15 28 63 HT_ HW_ hHeld ?_
   refine on 6 (some 16) 28 127 HT_ fun K hK => ?_
   refine goes_ Try.func95 (by kernel_rfl) rfl #[.agg #[.slice A0_0 l0_0.length c0_0], .int .i64 a1_0] (by rfl) rfl rfl gl ?_
   with_reducible refine (impl_hasFunc.calls _ _ l0_0 a1_0 true _ ?side1 ?side2 A5.out).mono ?_
   (case side1 => exact cc (Kd.C_below HR0_0.out HB.out))
   (case side2 => exact HC0_0.out)
   rintro e w14 ⟨rfl, hb⟩
   refine ⟨_, rfl, ?_⟩
   replace HP0_ := bb HP0_ hb
   replace BK577 := bb BK577 hb
   replace HB := am (below_step (bw HB) hb)
   clear hb
   refine hK.out _ _ ⟨bc HP0_ 0, bc HP0_ 1, bc BK577 0, bc BK577 1, bc BK577 2⟩ (fun hHeld => ?_)
   clear hK K
   refine nm (some 16) ?_
   refine pu 7 17 28 255 HT_ ?_
   refine pu 8 18 28 511 HT_ ?_
   refine pu 9 19 28 1023 HT_ ?_
   refine pu 12 22 28 5119 HT_ ?_
   refine pu 13 23 28 13311 HT_ ?_
   refine tk 10 20 28 14335 HT_ HW_ hHeld ?_
   refine pu 11 21 28 16383 HT_ ?_
   refine tk 14 24 28 32767 HT_ HW_ hHeld ?_
   refine on 15 (some 25) 28 65535 HT_ fun K hK => ?_
   refine goes_ Try.func96 (by kernel_rfl) rfl #[.pointer (some ⟨g0_, 0, none⟩), .int .i64 a1_0] (by rfl) rfl rfl gl ?_
   refine (impl_prog_code.calls g0_ (fun k_ => k_ < w.heap.size) A0_0 c0_0 l0_0 A0_1 c0_1 l0_1 a1_0 t579 _ ?side1 ?side2 ?side3 ?side4 A7.out).mono ?_
   (case side1 => exact (bp HP0_))
   (case side2 => exact Kd.V_mk HC0_0.out (Kd.F_below (Kd.C_F k121_heap HR0_0.out) (bw HB)))
   (case side3 => exact cc (Kd.C_below HR0_1.out HB.out))
   (case side4 => exact HC0_1.out)
   rintro e w15 ⟨v580, rfl, ho0, hb⟩
   refine ⟨_, rfl, ?_⟩
   have n0_ := am (Kd.V_lower (Kd.V_mono (ok' := fun k_ => k_ ≠ gb577) ho0 (fun k_ hk_ => Or.elim hk_ (fun hs_ => fun e_ => Nat.not_le.2 hs_ (by rw [e_]; exact GW577.out)) (fun hn_ => (Kd.freshB (g := gb577) (o := .cells #[.int .i64 a1_0, .slice A1_1 l1_1.length c1_1, .slice A1_2 l1_2.length c1_2] 49 (0, 0)) (bp BK577) k_ hn_)))) (below_size (bw HB)))
   have n1_ := bb HP0_ hb
   have n2_ := bb BK577 hb
   have n3_ := am (below_step (bw HB) hb)
   clear HP0_
   clear BK577
   clear HB
   have HO581 := n0_
   have HP0_ := n1_
   have BK577 := n2_
   have HB := n3_
   clear n0_ n1_ n2_ n3_
   clear hb
   obtain ⟨Ao16, co16, eo16⟩ := Kd.V_slice HO581.out
   (first | subst eo16 | (injection eo16 with f1_ f2_ f3_; have f4_ := f1_.symm; have f5_ := f3_.symm; clear f1_ f2_ f3_; subst f4_; subst f5_))
   refine hK.out _ _ ⟨bc HP0_ 0, bc HP0_ 1, bc BK577 0, bc BK577 1, bc BK577 2⟩ (fun hHeld => ?_)
   clear hK K
   refine nm (some 25) ?_
   refine pu 16 26 28 131071 HT_ ?_
   refine pu 17 27 28 262143 HT_ ?_
   refine pu 18 28 28 524287 HT_ ?_
   refine pu 19 29 28 1048575 HT_ ?_
   refine pn 20 30 28 2097151 HT_ ?_
   refine pn 21 31 28 4194303 HT_ ?_
   refine pn 22 32 28 8388607 HT_ ?_
   refine pn 23 33 28 16777215 HT_ ?_
   refine pn 24 34 28 33554431 HT_ ?_
   refine pn 25 35 28 67108863 HT_ ?_
   refine pn 26 36 28 134217727 HT_ ?_
   refine pu 27 37 28 268435455 HT_ ?_
   refine done_ (done_of HT_.out (by kernel_rfl)) ?_
   try go_wp2
   go_meet
   case rel => exact ⟨_, (true), dr, H', ⟨lk0⟩, ⟨bp HP0_⟩, ⟨bp BK577⟩, ⟨bw HB⟩⟩
  have H' := am H
  clear H
  try go_wp2
  replace HP0_ := am (blk_drew HP0_.out)
  replace BK577 := am (blk_drew BK577.out)
  replace HB := am (below_drew1 HB.out)
  refine start_ (n := 28) (S := fun w' => w'.cell? ⟨g0_, 0, none⟩ = some (.slice A0_0 l0_0.length c0_0) ∧ w'.cell? ⟨g0_, 1, none⟩ = some (.slice A0_1 l0_1.length c0_1) ∧ w'.cell? ⟨gb577, 0, none⟩ = some (.int .i64 a1_0) ∧ w'.cell? ⟨gb577, 1, none⟩ = some (.slice A1_1 l1_1.length c1_1) ∧ w'.cell? ⟨gb577, 2, none⟩ = some (.slice A1_2 l1_2.length c1_2)) (ds := []) (bv 28 0) (by kernel_rfl) rfl (by kernel_rfl) ⟨bc HP0_ 0, bc HP0_ 1, bc BK577 0, bc BK577 1, bc BK577 2⟩ (fun hHeld => ?_); refine with_tabW impl_prog_asmRight.tab1 impl_prog_asmRight.bits1 (fun HT_ HW_ => ?_)
  generalize w4.drew = w17 at HP0_ BK577 HB hHeld ⊢
  refine pu 0 10 28 1 HT_ ?_
  refine pu 1 11 28 3 HT_ ?_
  refine pu 2 12 28 7 HT_ ?_
  refine pu 4 14 28 23 HT_ ?_
  refine tk 3 13 28 31 HT_ HW_ hHeld ?_
  refine tk 5 15 28 63 HT_ HW_ hHeld ?_
  refine on 6 (some 16) 28 127 HT_ fun K hK => ?_
  refine goes_ Try.func95 (by kernel_rfl) rfl #[.agg #[.slice A0_0 l0_0.length c0_0], .int .i64 a1_0] (by rfl) rfl rfl gl ?_
  with_reducible refine (impl_hasFunc.calls _ _ l0_0 a1_0 false _ ?side1 ?side2 A5.out).mono ?_
  (case side1 => exact cc (Kd.C_below HR0_0.out HB.out))
  (case side2 => exact HC0_0.out)
  rintro e w18 ⟨rfl, hb⟩
  refine ⟨_, rfl, ?_⟩
  replace HP0_ := bb HP0_ hb
  replace BK577 := bb BK577 hb
  replace HB := am (below_step (bw HB) hb)
  clear hb
  refine hK.out _ _ ⟨bc HP0_ 0, bc HP0_ 1, bc BK577 0, bc BK577 1, bc BK577 2⟩ (fun hHeld => ?_)
  clear hK K
  refine nm (some 16) ?_
  refine pu 7 17 28 255 HT_ ?_
  refine pu 8 18 28 511 HT_ ?_
  refine pn 9 19 28 1023 HT_ ?_
  refine pn 10 20 28 2047 HT_ ?_
  refine pn 11 21 28 4095 HT_ ?_
  refine pn 12 22 28 8191 HT_ ?_
  refine pn 13 23 28 16383 HT_ ?_
  refine pn 14 24 28 32767 HT_ ?_
  refine pn 15 25 28 65535 HT_ ?_
  refine pn 16 26 28 131071 HT_ ?_
  refine pn 17 27 28 262143 HT_ ?_
  refine pu 18 28 28 524287 HT_ ?_
  refine pu 19 29 28 1048575 HT_ ?_
  refine pn 20 30 28 2097151 HT_ ?_
  refine pn 21 31 28 4194303 HT_ ?_
  refine pn 22 32 28 8388607 HT_ ?_
  refine pn 23 33 28 16777215 HT_ ?_
  refine pn 24 34 28 33554431 HT_ ?_
  refine pn 25 35 28 67108863 HT_ ?_
  refine pn 26 36 28 134217727 HT_ ?_
  refine pu 27 37 28 268435455 HT_ ?_
  refine done_ (done_of HT_.out (by kernel_rfl)) ?_
  try go_wp2
  go_meet
  case rel => exact ⟨_, (true), dr, H', ⟨lk0⟩, ⟨bp HP0_⟩, ⟨bp BK577⟩, ⟨bw HB⟩⟩
 clear HC3
 obtain ⟨kq, x37_2, rfl, HA, HJ2, HP0_, BK577, HB⟩ := hcut
 rcases kq with _ | kj2
 ·exact absurd HA.out (by simp [impl_prog_asmRight.j0])
 have H := HA.out
 clear HA
 simp only [impl_prog_asmRight.j0] at H
 refine qT H ?_ ?_ <;> clear H <;> intro c19 H <;> subst c19
 ·obtain rfl := oi H
  go_wp2
  go_ret
  exact ⟨er, bw HB⟩
 have H' := am H
 clear H
 have hnb20 := NB577_0.out
 have hnc20 := NB0_577.out
 have hcz21 := bK wc BK577
 have hfz21 := bF BK577
 go_wp2
 go_loopg [41] kj2 (fun kq v41 w' => ∃ (x41_2 : Int), v41 = .int .i64 x41_2 ∧ Aside0 (impl_prog_asmRight.l0 kq l1_1 (l1_1.length : Int) x41_2 l0_0 l0_1 a1_0 l1_1 l1_2 = some r) ∧ Aside0 (kq ≤ kj2) ∧ Aside0 (w'.heap[g0_]? = some (.cells #[(.slice A0_0 l0_0.length c0_0), (.slice A0_1 l0_1.length c0_1)] 158 (0, 0))) ∧ Aside0 (w'.heap[gb577]? = some (.cells #[.int .i64 a1_0, (.slice A1_1 l1_1.length c1_1), (.slice A1_2 l1_2.length c1_2)] 49 (0, 0))) ∧ Aside0 (Below w.heap.size w w'))
 case atStart => exact ⟨(0), dr, H', ⟨Nat.le_refl _⟩, ⟨bp HP0_⟩, ⟨bp BK577⟩, ⟨bw HB⟩⟩
 clear H'
 obtain ⟨x41_2, rfl, HA, HK2, HP0_, BK577, HB⟩ := hrel
 rcases gk with _ | k2
 ·exact absurd HA.out (by simp [impl_prog_asmRight.l0])
 have H := HA.out
 clear HA
 simp only [impl_prog_asmRight.l0] at H
 by_cases c22 : x41_2 < (l1_1.length : Int)
 ·rw [if_pos c22] at H
  have c22b0 := decide_eq_true c22
  clear c22
  refine iN H ?_; clear H; intro c23 H
  have c23b0 := decide_eq_true c23
  clear c23
  refine iN H ?_; clear H; intro c24 H
  have c24b0 := decide_eq_true c24
  clear c24
  refine be H ?_; clear H; intro t584 A25 H
  have HC26 := am H
  clear H
  have p582 : 0 ≤ (x41_2 : Int) := dt
  have q582 : x41_2 < (l1_1.length : Int) := dt
  obtain ⟨ad582, A582_0, c582_0, A582_3, c582_3, e582, hx582_0, hx582_1, hx582_2, hx582_3, hx582_4, hl582_0, hi582_0, hl582_3, hi582_3⟩ := at_T80 HR1_1.out x41_2 p582 q582
  cases e582
  replace hx582_0 := cl HB hx582_0
  replace hx582_1 := cl HB hx582_1
  replace hx582_2 := cl HB hx582_2
  replace hx582_3 := cl HB hx582_3
  replace hx582_4 := cl HB hx582_4
  have HR582_0 := am hi582_0
  have HC582_0 := am hl582_0
  clear hi582_0 hl582_0
  have HR582_3 := am hi582_3
  have HC582_3 := am hl582_3
  clear hi582_3 hl582_3
  replace p582 := eq_true p582
  replace q582 := eq_true q582
  go_upto_if 52 with (first | ((with_reducible refine gate_dst (N := 6) rfl ?_); (try (refine gate_guard (by rfl) ?_; dsimp only)); refine box_event ?hg (N := 6) ?hd (cs := #[.slice none 0 0, .int .i64 0, .int .i64 0, .slice none 0 0, .int .i64 0]) (t := 80) ?hr ?_; (case hd => rfl); (case hg => rfl); (case hr => exact gs); intro gb583 hg w27 hbox hb; have BK583 := am (hbox); have GW583 := gw hg HB; replace HB := bs HB hb; obtain ⟨NB0_583, NB583_0, HP0_⟩ := b3 hg HP0_ hb; obtain ⟨NB577_583, NB583_577, BK577⟩ := b3 hg BK577 hb; clear hb hbox hg; have hnb28 := NB583_0.out; have hnc28 := NB0_583.out; have hnb29 := NB583_577.out; have hnc29 := NB577_583.out; have hcz30_0 := bk w27 BK583 0; have hcz30_1 := bk w27 BK583 1; have hcz30_2 := bk w27 BK583 2; have hcz30_3 := bk w27 BK583 3; have hcz30_4 := bk w27 BK583 4; have hfz30_0 := bf BK583 0; have hfz30_1 := bf BK583 1; have hfz30_2 := bf BK583 2; have hfz30_3 := bf BK583 3; have hfz30_4 := bf BK583 4; have hnb31 := NB577_0.out; have hnc31 := NB0_577.out; have hcz32 := bK w27 BK577; have hfz32 := bF BK577) | ((with_reducible refine gk 97 rfl ?_); refine gB 97 (some 51) Try.func97 #[.pointer (some ⟨g0_, 0, none⟩), .int .i64 a1_0, .int .i64 x41_2] (impl_prog_reached.calls g0_ A0_0 c0_0 l0_0 A0_1 c0_1 l0_1 a1_0 x41_2 t584 _ (bt HP0_) (Kd.C_below HR0_0.out (bw HB)) HC0_0.out (Kd.C_below HR0_1.out (bw HB)) HC0_1.out A25.out) ?_; intro w33 hb; replace HP0_ := bb2 HP0_ hb; replace BK577 := bb2 BK577 hb; replace BK583 := bo #[.slice A582_0 ((rd_T80 l1_1 x41_2).f0).length c582_0, .int .i64 ((rd_T80 l1_1 x41_2).f1), .int .i64 ((rd_T80 l1_1 x41_2).f2), .slice A582_3 ((rd_T80 l1_1 x41_2).f3).length c582_3, .int .i64 ((rd_T80 l1_1 x41_2).f4)] BK583 hb; replace HB := bs HB hb; clear hb))
  (try simp only [Act.put, sa, sz, ss])
  have H := HC26.out
  clear HC26
  refine qT H ?_ ?_ <;> clear H <;> intro c34 H <;> subst c34
  ·have HC35 := am H
   clear H
   go_upto_region 10 with (fail)
   go_cut [85] (fun v85 wc => ∃ (kq : Nat) (x85_34 : Bool), v85 = .bool x85_34 ∧ Aside0 (impl_prog_asmRight.j2 kq x41_2 l1_1 (l1_1.length : Int) x41_2 x85_34 l0_0 l0_1 a1_0 l1_1 l1_2 = some r) ∧ Aside0 (kq ≤ k2) ∧ Aside0 (wc.heap[g0_]? = some (.cells #[(.slice A0_0 l0_0.length c0_0), (.slice A0_1 l0_1.length c0_1)] 158 (0, 0))) ∧ Aside0 (wc.heap[gb577]? = some (.cells #[.int .i64 a1_0, (.slice (some ad582) l1_1.length c1_1), (.slice A1_2 l1_2.length c1_2)] 49 (0, 0))) ∧ Aside0 (wc.heap[gb583]? = some (.cells #[(.slice A582_0 ((rd_T80 l1_1 x41_2).f0).length c582_0), .int .i64 ((rd_T80 l1_1 x41_2).f1), .int .i64 ((rd_T80 l1_1 x41_2).f2), (.slice A582_3 ((rd_T80 l1_1 x41_2).f3).length c582_3), .int .i64 ((rd_T80 l1_1 x41_2).f4)] 80 (0, 0))) ∧ Aside0 (Below w.heap.size w wc))
   case first =>
    have H := HC35.out
    clear HC35
    refine iM H ?_; clear H; intro c36b0 H
    (first | rw [c36b0] | (simp only [i64_w, i32_w]; rw [c36b0]) | skip)
    refine be H ?_; clear H; intro t597 A37 H
    by_cases c38 : ((rd_L17 l1_2 x41_2).length : Int) = t597
    ·rw [if_pos c38] at H
     have c38b0 : (((rd_L17 l1_2 x41_2).length : Int) == t597) = true := beq_iff_eq.mpr c38
     have c38b1 : (((rd_L17 l1_2 x41_2).length : Int) != t597) = false := bne_eq_false_iff_eq.mpr c38
     clear c38
     refine be H ?_; clear H; intro t598 A39 H
     have H' := am H
     clear H
     try go_wp2
     replace HP0_ := am (blk_drew HP0_.out)
     replace BK577 := am (blk_drew BK577.out)
     replace BK583 := am (blk_drew BK583.out)
     replace HB := am (below_drew1 HB.out)
     have p596 : 0 ≤ (x41_2 : Int) := dt
     have q596 : x41_2 < (l1_2.length : Int) := dt
     obtain ⟨ad596, A596_0, c596_0, e596, hx596_0, hl596_0, hi596_0⟩ := at_L17 HR1_2.out x41_2 p596 q596
     have hw596_0 := hx596_0
     cases e596
     replace hx596_0 := cl HB hx596_0
     have HR596_0 := am hi596_0
     have HC596_0 := am hl596_0
     clear hi596_0 hl596_0
     replace p596 := eq_true p596
     replace q596 := eq_true q596
     refine start_ (n := 20) (S := fun w' => w'.cell? ⟨gb577, 0, none⟩ = some (.int .i64 a1_0) ∧ w'.cell? ⟨gb577, 1, none⟩ = some (.slice (some ad582) l1_1.length c1_1) ∧ w'.cell? ⟨gb577, 2, none⟩ = some (.slice (some ad596) l1_2.length c1_2) ∧ w'.cell? ⟨gb583, 0, none⟩ = some (.slice A582_0 ((rd_T80 l1_1 x41_2).f0).length c582_0) ∧ w'.cell? ⟨gb583, 1, none⟩ = some (.int .i64 ((rd_T80 l1_1 x41_2).f1)) ∧ w'.cell? ⟨gb583, 2, none⟩ = some (.int .i64 ((rd_T80 l1_1 x41_2).f2)) ∧ w'.cell? ⟨gb583, 3, none⟩ = some (.slice A582_3 ((rd_T80 l1_1 x41_2).f3).length c582_3) ∧ w'.cell? ⟨gb583, 4, none⟩ = some (.int .i64 ((rd_T80 l1_1 x41_2).f4)) ∧ w'.cell? (ad596.add (x41_2).toNat) = some (.slice A596_0 (rd_L17 l1_2 x41_2).length c596_0)) (ds := []) (bv 20 0) (by kernel_rfl) rfl (by kernel_rfl) ⟨bc BK577 0, bc BK577 1, bc BK577 2, bc BK583 0, bc BK583 1, bc BK583 2, bc BK583 3, bc BK583 4, (cq HB hw596_0)⟩ (fun hHeld => ?_); refine with_tabW impl_prog_asmRight.tab10 impl_prog_asmRight.bits10 (fun HT_ HW_ => ?_)
     generalize w33.drew = w40 at HP0_ BK577 BK583 HB HR596_0 hx596_0 hHeld ⊢
     refine pu 0 66 20 1 HT_ ?_
     refine pu 2 68 20 5 HT_ ?_
     refine pu 6 72 20 69 HT_ ?_
     refine pu 7 73 20 197 HT_ ?_
     refine pu 9 75 20 709 HT_ ?_
     refine tk 1 67 20 711 HT_ HW_ hHeld ?_
     refine pu 3 69 20 719 HT_ ?_
     refine tk 4 70 20 735 HT_ HW_ hHeld ?_
     refine pu 5 71 20 767 HT_ ?_
     refine tk 8 74 20 1023 HT_ HW_ hHeld ?_
     refine on 10 (some 76) 20 2047 HT_ fun K hK => ?_
     refine goes_ Try.func100 (by kernel_rfl) rfl #[.pointer (some ⟨g0_, 0, none⟩), .int .i64 a1_0, .int .i64 x41_2] (by rfl) rfl rfl gl ?_
     refine (impl_prog_slots.calls g0_ A0_0 c0_0 l0_0 A0_1 c0_1 l0_1 a1_0 x41_2 t597 _ ?side1 ?side2 ?side3 ?side4 ?side5 A37.out).mono ?_
     (case side1 => exact (bp HP0_))
     (case side2 => exact cc (Kd.C_below HR0_0.out HB.out))
     (case side3 => exact HC0_0.out)
     (case side4 => exact cc (Kd.C_below HR0_1.out HB.out))
     (case side5 => exact HC0_1.out)
     rintro e w41 ⟨rfl, hb⟩
     refine ⟨_, rfl, ?_⟩
     replace HP0_ := bb HP0_ hb
     replace BK577 := bb BK577 hb
     replace BK583 := bb BK583 hb
     replace HB := am (below_step (bw HB) hb)
     clear hb
     refine hK.out _ _ ⟨bc BK577 0, bc BK577 1, bc BK577 2, bc BK583 0, bc BK583 1, bc BK583 2, bc BK583 3, bc BK583 4, (cq HB hw596_0)⟩ (fun hHeld => ?_)
     clear hK K
     refine nm (some 76) ?_
     refine pu 11 77 20 4095 HT_ ?_
     refine pu 12 78 20 8191 HT_ ?_
     refine pu 13 79 20 16383 HT_ ?_
     refine pu 14 80 20 32767 HT_ ?_
     refine tk 15 81 20 65535 HT_ HW_ hHeld ?_
     refine tk 16 82 20 131071 HT_ HW_ hHeld ?_
     refine on 17 (some 83) 20 262143 HT_ fun K hK => ?_
     refine goes_ Try.func101 (by kernel_rfl) rfl #[.pointer (some ⟨g0_, 0, none⟩), .int .i64 a1_0, .agg #[.slice A582_0 ((rd_T80 l1_1 x41_2).f0).length c582_0, .int .i64 ((rd_T80 l1_1 x41_2).f1), .int .i64 ((rd_T80 l1_1 x41_2).f2), .slice A582_3 ((rd_T80 l1_1 x41_2).f3).length c582_3, .int .i64 ((rd_T80 l1_1 x41_2).f4)]] (by rfl) rfl rfl gl ?_
     refine (impl_prog_insRight.calls k2 g0_ A0_0 c0_0 l0_0 A0_1 c0_1 l0_1 a1_0 _ _ ((rd_T80 l1_1 x41_2).f0) ((rd_T80 l1_1 x41_2).f1) ((rd_T80 l1_1 x41_2).f2) _ _ ((rd_T80 l1_1 x41_2).f3) ((rd_T80 l1_1 x41_2).f4) t598 _ ?side1 ?side2 ?side3 ?side4 ?side5 ?side6 ?side7 ?side8 ?side9 A39.out).mono ?_
     (case side1 => exact (bp HP0_))
     (case side2 => exact cc (Kd.C_below HR0_0.out HB.out))
     (case side3 => exact HC0_0.out)
     (case side4 => exact cc (Kd.C_below HR0_1.out HB.out))
     (case side5 => exact HC0_1.out)
     (case side6 => exact cc (Kd.C_below HR582_0.out HB.out))
     (case side7 => exact HC582_0.out)
     (case side8 => exact cc (Kd.C_below HR582_3.out HB.out))
     (case side9 => exact HC582_3.out)
     rintro e w42 ⟨rfl, hb⟩
     refine ⟨_, rfl, ?_⟩
     replace HP0_ := bb HP0_ hb
     replace BK577 := bb BK577 hb
     replace BK583 := bb BK583 hb
     replace HB := am (below_step (bw HB) hb)
     clear hb
     refine hK.out _ _ ⟨bc BK577 0, bc BK577 1, bc BK577 2, bc BK583 0, bc BK583 1, bc BK583 2, bc BK583 3, bc BK583 4, (cq HB hw596_0)⟩ (fun hHeld => ?_)
     clear hK K
     refine nm (some 83) ?_
     refine pu 18 84 20 524287 HT_ ?_
     refine pu 19 85 20 1048575 HT_ ?_
     refine done_ (done_of HT_.out (by kernel_rfl)) ?_
     try go_wp2
     go_meet
     case rel => exact ⟨_, (!t598), dr, H', ⟨lk2 HJ2 HK2⟩, ⟨bp HP0_⟩, ⟨bp BK577⟩, ⟨bp BK583⟩, ⟨bw HB⟩⟩
    rw [if_neg c38] at H
    have c38b0 : (((rd_L17 l1_2 x41_2).length : Int) == t597) = false := beq_eq_false_iff_ne.mpr c38
    have c38b1 : (((rd_L17 l1_2 x41_2).length : Int) != t597) = true := bne_iff_ne.mpr c38
    have H' := am H
    clear H
    try go_wp2
    replace HP0_ := am (blk_drew HP0_.out)
    replace BK577 := am (blk_drew BK577.out)
    replace BK583 := am (blk_drew BK583.out)
    replace HB := am (below_drew1 HB.out)
    have p596 : 0 ≤ (x41_2 : Int) := dt
    have q596 : x41_2 < (l1_2.length : Int) := dt
    obtain ⟨ad596, A596_0, c596_0, e596, hx596_0, hl596_0, hi596_0⟩ := at_L17 HR1_2.out x41_2 p596 q596
    have hw596_0 := hx596_0
    cases e596
    replace hx596_0 := cl HB hx596_0
    have HR596_0 := am hi596_0
    have HC596_0 := am hl596_0
    clear hi596_0 hl596_0
    replace p596 := eq_true p596
    replace q596 := eq_true q596
    refine start_ (n := 20) (S := fun w' => w'.cell? ⟨gb577, 0, none⟩ = some (.int .i64 a1_0) ∧ w'.cell? ⟨gb577, 1, none⟩ = some (.slice (some ad582) l1_1.length c1_1) ∧ w'.cell? ⟨gb577, 2, none⟩ = some (.slice (some ad596) l1_2.length c1_2) ∧ w'.cell? (ad596.add (x41_2).toNat) = some (.slice A596_0 (rd_L17 l1_2 x41_2).length c596_0)) (ds := []) (bv 20 0) (by kernel_rfl) rfl (by kernel_rfl) ⟨bc BK577 0, bc BK577 1, bc BK577 2, (cq HB hw596_0)⟩ (fun hHeld => ?_); refine with_tabW impl_prog_asmRight.tab10 impl_prog_asmRight.bits10 (fun HT_ HW_ => ?_)
    generalize w33.drew = w43 at HP0_ BK577 BK583 HB HR596_0 hx596_0 hHeld ⊢
    refine pu 0 66 20 1 HT_ ?_
    refine pu 2 68 20 5 HT_ ?_
    refine pu 6 72 20 69 HT_ ?_
    refine pu 7 73 20 197 HT_ ?_
    refine pu 9 75 20 709 HT_ ?_
    refine tk 1 67 20 711 HT_ HW_ hHeld ?_
    refine pu 3 69 20 719 HT_ ?_
    refine tk 4 70 20 735 HT_ HW_ hHeld ?_
    refine pu 5 71 20 767 HT_ ?_
    refine tk 8 74 20 1023 HT_ HW_ hHeld ?_
    refine on 10 (some 76) 20 2047 HT_ fun K hK => ?_
    refine goes_ Try.func100 (by kernel_rfl) rfl #[.pointer (some ⟨g0_, 0, none⟩), .int .i64 a1_0, .int .i64 x41_2] (by rfl) rfl rfl gl ?_
    refine (impl_prog_slots.calls g0_ A0_0 c0_0 l0_0 A0_1 c0_1 l0_1 a1_0 x41_2 t597 _ ?side1 ?side2 ?side3 ?side4 ?side5 A37.out).mono ?_
    (case side1 => exact (bp HP0_))
    (case side2 => exact cc (Kd.C_below HR0_0.out HB.out))
    (case side3 => exact HC0_0.out)
    (case side4 => exact cc (Kd.C_below HR0_1.out HB.out))
    (case side5 => exact HC0_1.out)
    rintro e w44 ⟨rfl, hb⟩
    refine ⟨_, rfl, ?_⟩
    replace HP0_ := bb HP0_ hb
    replace BK577 := bb BK577 hb
    replace BK583 := bb BK583 hb
    replace HB := am (below_step (bw HB) hb)
    clear hb
    refine hK.out _ _ ⟨bc BK577 0, bc BK577 1, bc BK577 2, (cq HB hw596_0)⟩ (fun hHeld => ?_)
    clear hK K
    refine nm (some 76) ?_
    refine pu 11 77 20 4095 HT_ ?_
    refine pu 12 78 20 8191 HT_ ?_
    refine pn 13 79 20 16383 HT_ ?_
    refine pn 14 80 20 32767 HT_ ?_
    refine pn 15 81 20 65535 HT_ ?_
    refine pn 16 82 20 131071 HT_ ?_
    refine pn 17 83 20 262143 HT_ ?_
    refine pn 18 84 20 524287 HT_ ?_
    refine pu 19 85 20 1048575 HT_ ?_
    refine done_ (done_of HT_.out (by kernel_rfl)) ?_
    try go_wp2
    go_meet
    case rel => exact ⟨_, (true), dr, H', ⟨lk2 HJ2 HK2⟩, ⟨bp HP0_⟩, ⟨bp BK577⟩, ⟨bp BK583⟩, ⟨bw HB⟩⟩
   clear HC35
   obtain ⟨kq, x85_34, rfl, HA, HJ34, HP0_, BK577, BK583, HB⟩ := hcut
   rcases kq with _ | kj34
   ·exact absurd HA.out (by simp [impl_prog_asmRight.j2])
   have H := HA.out
   clear HA
   simp only [impl_prog_asmRight.j2] at H
   refine qT H ?_ ?_ <;> clear H <;> intro c45 H <;> subst c45
   ·obtain rfl := oi H
    go_wp2
    go_ret
    exact ⟨er, bw HB⟩
   refine iN H ?_; clear H; intro c46 H
   have c46b0 := decide_eq_true c46
   clear c46
   refine iN H ?_; clear H; intro c47 H
   have c47b0 := decide_eq_true c47
   clear c47
   have H' := am H
   clear H
   have hnb48 := NB577_0.out
   have hnc48 := NB0_577.out
   have hnb49 := NB577_583.out
   have hnc49 := NB583_577.out
   have hcz50 := bK wc BK577
   have hfz50 := bF BK577
   have p599 : 0 ≤ (x41_2 : Int) := dt
   have q599 : x41_2 < (l1_2.length : Int) := dt
   obtain ⟨ad599, A599_0, c599_0, e599, hx599_0, hl599_0, hi599_0⟩ := at_L17 HR1_2.out x41_2 p599 q599
   cases e599
   replace hx599_0 := cl HB hx599_0
   have HR599_0 := am hi599_0
   have HC599_0 := am hl599_0
   clear hi599_0 hl599_0
   replace p599 := eq_true p599
   replace q599 := eq_true q599
   go_wp2
   go_loopg [92] kj34 (fun kq v92 w' => ∃ (x92_4 : Int), v92 = .int .i64 x92_4 ∧ Aside0 (impl_prog_asmRight.l1 kq l1_1 (l1_1.length : Int) x41_2 (rd_L17 l1_2 x41_2) ((rd_L17 l1_2 x41_2).length : Int) x92_4 l0_0 l0_1 a1_0 l1_1 l1_2 = some r) ∧ Aside0 (kq ≤ kj34) ∧ Aside0 (w'.heap[g0_]? = some (.cells #[(.slice A0_0 l0_0.length c0_0), (.slice A0_1 l0_1.length c0_1)] 158 (0, 0))) ∧ Aside0 (w'.heap[gb577]? = some (.cells #[.int .i64 a1_0, (.slice (some ad582) l1_1.length c1_1), (.slice (some ad599) l1_2.length c1_2)] 49 (0, 0))) ∧ Aside0 (w'.heap[gb583]? = some (.cells #[(.slice A582_0 ((rd_T80 l1_1 x41_2).f0).length c582_0), .int .i64 ((rd_T80 l1_1 x41_2).f1), .int .i64 ((rd_T80 l1_1 x41_2).f2), (.slice A582_3 ((rd_T80 l1_1 x41_2).f3).length c582_3), .int .i64 ((rd_T80 l1_1 x41_2).f4)] 80 (0, 0))) ∧ Aside0 (Below w.heap.size w w'))
   case atStart => exact ⟨(0), dr, H', ⟨Nat.le_refl _⟩, ⟨bp HP0_⟩, ⟨bp BK577⟩, ⟨bp BK583⟩, ⟨bw HB⟩⟩
   clear H'
   obtain ⟨x92_4, rfl, HA, HK4, HP0_, BK577, BK583, HB⟩ := hrel
   rcases gk with _ | k4
   ·exact absurd HA.out (by simp [impl_prog_asmRight.l1])
   have H := HA.out
   clear HA
   simp only [impl_prog_asmRight.l1] at H
   refine qI H ?_ ?_ <;> clear H <;> intro c51b0 H
   ·refine iM H ?_; clear H; intro c52b0 H
    refine iM H ?_; clear H; intro c53b0 H
    refine be H ?_; clear H; intro t602 A54 H
    have HC55 := am H
    clear H
    have p600 : 0 ≤ (x92_4 : Int) := dt
    have q600 : x92_4 < ((rd_L17 l1_2 x41_2).length : Int) := dt
    obtain ⟨ad600, e600, hx600_0, hx600_1⟩ := at_T82 HR599_0.out x92_4 p600 q600
    cases e600
    replace hx600_0 := cl HB hx600_0
    replace hx600_1 := cl HB hx600_1
    replace p600 := eq_true p600
    replace q600 := eq_true q600
    go_upto_if 98 with (first | ((with_reducible refine gate_dst (N := 9) rfl ?_); (try (refine gate_guard (by rfl) ?_; dsimp only)); refine box_event ?hg (N := 9) ?hd (cs := #[.int .i64 0, .int .i64 0]) (t := 82) ?hr ?_; (case hd => rfl); (case hg => rfl); (case hr => exact gs); intro gb601 hg w56 hbox hb; have BK601 := am (hbox); have GW601 := gw hg HB; replace HB := bs HB hb; obtain ⟨NB0_601, NB601_0, HP0_⟩ := b3 hg HP0_ hb; obtain ⟨NB577_601, NB601_577, BK577⟩ := b3 hg BK577 hb; obtain ⟨NB583_601, NB601_583, BK583⟩ := b3 hg BK583 hb; clear hb hbox hg; have hnb57 := NB601_0.out; have hnc57 := NB0_601.out; have hnb58 := NB601_577.out; have hnc58 := NB577_601.out; have hnb59 := NB601_583.out; have hnc59 := NB583_601.out; have hcz60 := bK w56 BK601; have hfz60 := bF BK601) | ((with_reducible refine gate_callee (f := 102) rfl ?_); refine goesL_ (some 97) rfl rfl Try.func102 (by kernel_rfl) rfl #[.agg #[.int .i64 ((rd_T82 (rd_L17 l1_2 x41_2) x92_4).f0), .int .i64 ((rd_T82 (rd_L17 l1_2 x41_2) x92_4).f1)]] rfl gl ?_; (with_reducible refine (impl_Val_right.calls ((rd_T82 (rd_L17 l1_2 x41_2) x92_4).f0) ((rd_T82 (rd_L17 l1_2 x41_2) x92_4).f1) t602 _ A54.out).mono ?_); rintro e w61 ⟨rfl, hb⟩; refine ⟨_, rfl, ?_⟩; replace HP0_ := bb2 HP0_ hb; replace BK577 := bb2 BK577 hb; replace BK583 := bb2 BK583 hb; replace BK601 := bo #[.int .i64 ((rd_T82 (rd_L17 l1_2 x41_2) x92_4).f0), .int .i64 ((rd_T82 (rd_L17 l1_2 x41_2) x92_4).f1)] BK601 hb; replace HB := bs HB hb; clear hb))
    (try simp only [Act.put, sa, sz, ss])
    have H := HC55.out
    clear HC55
    refine qT H ?_ ?_ <;> clear H <;> intro c62 H <;> subst c62
    ·have H' := am H
     clear H
     go_wp2
     go_roundg k4
     case measure => have := HJ2.out; have := HK2.out; have := HJ34.out; have := HK4.out; omega
     case rel => exact ⟨(wrap64 (x92_4 + 1)), dr, H', ⟨by have := HJ2.out; have := HK2.out; have := HJ34.out; have := HK4.out; omega⟩, ⟨bp HP0_⟩, ⟨bp BK577⟩, ⟨bp BK583⟩, ⟨bw HB⟩⟩
    obtain rfl := oi H
    go_wp2
    go_ret
    exact ⟨er, bw HB⟩
   have H' := am H
   clear H
   go_wp2
   go_roundg k4
   case measure => have := HJ2.out; have := HK2.out; have := HJ34.out; have := HK4.out; omega
   case rel => exact ⟨(wrap64 (x41_2 + 1)), dr, H', ⟨by have := HJ2.out; have := HK2.out; have := HJ34.out; have := HK4.out; omega⟩, ⟨bp HP0_⟩, ⟨bp BK577⟩, ⟨bw HB⟩⟩
  refine iM H ?_; clear H; intro c63b0 H
  (first | rw [c63b0] | (simp only [i64_w, i32_w]; rw [c63b0]) | skip)
  by_cases c64 : ((rd_L17 l1_2 x41_2).length : Int) = 0
  ·rw [if_pos c64] at H
   have c64b0 : (((rd_L17 l1_2 x41_2).length : Int) == 0) = true := beq_iff_eq.mpr c64
   have c64b1 : (((rd_L17 l1_2 x41_2).length : Int) != 0) = false := bne_eq_false_iff_eq.mpr c64
   clear c64
   replace H := Option.bind_eq_some_iff.mp H
   obtain ⟨⟨t586, t589, t590, t591, t594⟩, A650, H⟩ := H
   replace H : ((impl_sameIns.f k2 ((rd_T80 l1_1 x41_2).f0) ((rd_T80 l1_1 x41_2).f1) ((rd_T80 l1_1 x41_2).f2) ((rd_T80 l1_1 x41_2).f3) ((rd_T80 l1_1 x41_2).f4) t586 t589 t590 t591 t594).bind fun t595 => (if t595 = true then (impl_prog_asmRight.l0 k2 l1_1 (l1_1.length : Int) (wrap64 (x41_2 + 1)) l0_0 l0_1 a1_0 l1_1 l1_2) else (some false))) = some r := H
   have A65 := am A650
   clear A650
   refine be H ?_; clear H; intro t595 A66 H
   have HC67 := am H
   clear H
   try go_wp2
   replace HP0_ := am (blk_drew HP0_.out)
   replace BK577 := am (blk_drew BK577.out)
   replace BK583 := am (blk_drew BK583.out)
   replace HB := am (below_drew1 HB.out)
   have p585 : 0 ≤ (x41_2 : Int) := dt
   have q585 : x41_2 < (l1_2.length : Int) := dt
   obtain ⟨ad585, A585_0, c585_0, e585, hx585_0, hl585_0, hi585_0⟩ := at_L17 HR1_2.out x41_2 p585 q585
   have hw585_0 := hx585_0
   cases e585
   replace hx585_0 := cl HB hx585_0
   have HR585_0 := am hi585_0
   have HC585_0 := am hl585_0
   clear hi585_0 hl585_0
   replace p585 := eq_true p585
   replace q585 := eq_true q585
   refine start_ (n := 13) (S := fun w' => w'.cell? ⟨gb577, 0, none⟩ = some (.int .i64 a1_0) ∧ w'.cell? ⟨gb577, 1, none⟩ = some (.slice (some ad582) l1_1.length c1_1) ∧ w'.cell? ⟨gb577, 2, none⟩ = some (.slice (some ad585) l1_2.length c1_2) ∧ w'.cell? ⟨gb583, 0, none⟩ = some (.slice A582_0 ((rd_T80 l1_1 x41_2).f0).length c582_0) ∧ w'.cell? ⟨gb583, 1, none⟩ = some (.int .i64 ((rd_T80 l1_1 x41_2).f1)) ∧ w'.cell? ⟨gb583, 2, none⟩ = some (.int .i64 ((rd_T80 l1_1 x41_2).f2)) ∧ w'.cell? ⟨gb583, 3, none⟩ = some (.slice A582_3 ((rd_T80 l1_1 x41_2).f3).length c582_3) ∧ w'.cell? ⟨gb583, 4, none⟩ = some (.int .i64 ((rd_T80 l1_1 x41_2).f4)) ∧ w'.cell? (ad585.add (x41_2).toNat) = some (.slice A585_0 (rd_L17 l1_2 x41_2).length c585_0)) (ds := []) (bv 13 0) (by kernel_rfl) rfl (by kernel_rfl) ⟨bc BK577 0, bc BK577 1, bc BK577 2, bc BK583 0, bc BK583 1, bc BK583 2, bc BK583 3, bc BK583 4, (cq HB hw585_0)⟩ (fun hHeld => ?_); refine with_tabW impl_prog_asmRight.tab8 impl_prog_asmRight.bits8 (fun HT_ HW_ => ?_)
   generalize w33.drew = w68 at HP0_ BK577 BK583 HB HR585_0 hx585_0 hHeld ⊢
   refine pu 0 53 13 1 HT_ ?_
   refine pu 2 55 13 5 HT_ ?_
   refine tk 1 54 13 7 HT_ HW_ hHeld ?_
   refine pu 3 56 13 15 HT_ ?_
   refine tk 4 57 13 31 HT_ HW_ hHeld ?_
   refine pu 5 58 13 63 HT_ ?_
   refine pu 6 59 13 127 HT_ ?_
   refine pu 7 60 13 255 HT_ ?_
   refine tk 8 61 13 511 HT_ HW_ hHeld ?_
   refine on 9 (some 62) 13 1023 HT_ fun K hK => ?_
   refine goes_ Try.func99 (by kernel_rfl) rfl #[] (by rfl) rfl rfl gl ?_
   with_reducible refine (impl_bareNop.calls  t586 t589 t590 t591 t594 _ A65.out).mono ?_
   rintro e w69 ⟨v587, v592, rfl, ho0, ho1, hb⟩
   refine ⟨_, rfl, ?_⟩
   have n0_ := am (Kd.R_lower ho0 (below_size (bw HB)))
   have n1_ := am (Kd.R_lower ho1 (below_size (bw HB)))
   have n2_ := bb HP0_ hb
   have n3_ := bb BK577 hb
   have n4_ := bb BK583 hb
   have n5_ := am (below_step (bw HB) hb)
   clear HP0_
   clear BK577
   clear BK583
   clear HB
   have HO588 := n0_
   have HO593 := n1_
   have HP0_ := n2_
   have BK577 := n3_
   have BK583 := n4_
   have HB := n5_
   clear n0_ n1_ n2_ n3_ n4_ n5_
   clear hb
   obtain ⟨Ao70, co70, eo70⟩ := Kd.R_slice HO588.out
   (first | subst eo70 | (injection eo70 with f1_ f2_ f3_; have f4_ := f1_.symm; have f5_ := f3_.symm; clear f1_ f2_ f3_; subst f4_; subst f5_))
   obtain ⟨Ao71, co71, eo71⟩ := Kd.R_slice HO593.out
   (first | subst eo71 | (injection eo71 with f1_ f2_ f3_; have f4_ := f1_.symm; have f5_ := f3_.symm; clear f1_ f2_ f3_; subst f4_; subst f5_))
   refine hK.out _ _ ⟨bc BK577 0, bc BK577 1, bc BK577 2, bc BK583 0, bc BK583 1, bc BK583 2, bc BK583 3, bc BK583 4, (cq HB hw585_0)⟩ (fun hHeld => ?_)
   clear hK K
   refine nm (some 62) ?_
   refine on 10 (some 63) 13 2047 HT_ fun K hK => ?_
   refine goes_ Try.func98 (by kernel_rfl) rfl #[.agg #[.slice A582_0 ((rd_T80 l1_1 x41_2).f0).length c582_0, .int .i64 ((rd_T80 l1_1 x41_2).f1), .int .i64 ((rd_T80 l1_1 x41_2).f2), .slice A582_3 ((rd_T80 l1_1 x41_2).f3).length c582_3, .int .i64 ((rd_T80 l1_1 x41_2).f4)], .agg #[.slice Ao70 t586.length co70, .int .i64 t589, .int .i64 t590, .slice Ao71 t591.length co71, .int .i64 t594]] (by rfl) rfl rfl gl ?_
   with_reducible refine (impl_sameIns.calls k2 _ _ ((rd_T80 l1_1 x41_2).f0) ((rd_T80 l1_1 x41_2).f1) ((rd_T80 l1_1 x41_2).f2) _ _ ((rd_T80 l1_1 x41_2).f3) ((rd_T80 l1_1 x41_2).f4) _ _ t586 t589 t590 _ _ t591 t594 t595 _ ?side1 ?side2 ?side3 ?side4 ?side5 ?side6 ?side7 ?side8 A66.out).mono ?_
   (case side1 => exact cc (Kd.C_below HR582_0.out HB.out))
   (case side2 => exact HC582_0.out)
   (case side3 => exact cc (Kd.C_below HR582_3.out HB.out))
   (case side4 => exact HC582_3.out)
   (case side5 => exact cc (Kd.R_reads' HO588.out).2.2)
   (case side6 => exact (Kd.R_reads' HO588.out).2.1)
   (case side7 => exact cc (Kd.R_reads' HO593.out).2.2)
   (case side8 => exact (Kd.R_reads' HO593.out).2.1)
   rintro e w72 ⟨rfl, hb⟩
   refine ⟨_, rfl, ?_⟩
   replace HO588 := am (Kd.R_below (kR HO588) hb)
   replace HO593 := am (Kd.R_below (kR HO593) hb)
   replace HP0_ := bb HP0_ hb
   replace BK577 := bb BK577 hb
   replace BK583 := bb BK583 hb
   replace HB := am (below_step (bw HB) hb)
   clear hb
   refine hK.out _ _ ⟨bc BK577 0, bc BK577 1, bc BK577 2, bc BK583 0, bc BK583 1, bc BK583 2, bc BK583 3, bc BK583 4, (cq HB hw585_0)⟩ (fun hHeld => ?_)
   clear hK K
   refine nm (some 63) ?_
   refine pu 11 64 13 4095 HT_ ?_
   refine pu 12 65 13 8191 HT_ ?_
   refine done_ (done_of HT_.out (by kernel_rfl)) ?_
   go_upto_if 65 with (fail)
   (try simp only [Act.put, sa, sz, ss])
   have H := HC67.out
   clear HC67
   refine qT H ?_ ?_ <;> clear H <;> intro c73 H <;> subst c73
   ·have H' := am H
    clear H
    go_wp2
    go_roundg k2
    case measure => have := HJ2.out; have := HK2.out; omega
    case rel => exact ⟨(wrap64 (x41_2 + 1)), dr, H', ⟨by have := HJ2.out; have := HK2.out; omega⟩, ⟨bp HP0_⟩, ⟨bp BK577⟩, ⟨bw HB⟩⟩
   obtain rfl := oi H
   go_wp2
   go_ret
   exact ⟨er, bw HB⟩
  rw [if_neg c64] at H
  have c64b0 : (((rd_L17 l1_2 x41_2).length : Int) == 0) = false := beq_eq_false_iff_ne.mpr c64
  have c64b1 : (((rd_L17 l1_2 x41_2).length : Int) != 0) = true := bne_iff_ne.mpr c64
  have c64b2 : ¬ ((rd_L17 l1_2 x41_2) = []) := fun h_ => c64 (by rw [h_]; rfl)
  obtain rfl := oi H
  try go_wp2
  replace HP0_ := am (blk_drew HP0_.out)
  replace BK577 := am (blk_drew BK577.out)
  replace BK583 := am (blk_drew BK583.out)
  replace HB := am (below_drew1 HB.out)
  have p585 : 0 ≤ (x41_2 : Int) := dt
  have q585 : x41_2 < (l1_2.length : Int) := dt
  obtain ⟨ad585, A585_0, c585_0, e585, hx585_0, hl585_0, hi585_0⟩ := at_L17 HR1_2.out x41_2 p585 q585
  have hw585_0 := hx585_0
  cases e585
  replace hx585_0 := cl HB hx585_0
  have HR585_0 := am hi585_0
  have HC585_0 := am hl585_0
  clear hi585_0 hl585_0
  replace p585 := eq_true p585
  replace q585 := eq_true q585
  refine start_ (n := 13) (S := fun w' => w'.cell? ⟨gb577, 0, none⟩ = some (.int .i64 a1_0) ∧ w'.cell? ⟨gb577, 1, none⟩ = some (.slice (some ad582) l1_1.length c1_1) ∧ w'.cell? ⟨gb577, 2, none⟩ = some (.slice (some ad585) l1_2.length c1_2) ∧ w'.cell? (ad585.add (x41_2).toNat) = some (.slice A585_0 (rd_L17 l1_2 x41_2).length c585_0)) (ds := []) (bv 13 0) (by kernel_rfl) rfl (by kernel_rfl) ⟨bc BK577 0, bc BK577 1, bc BK577 2, (cq HB hw585_0)⟩ (fun hHeld => ?_); refine with_tabW impl_prog_asmRight.tab8 impl_prog_asmRight.bits8 (fun HT_ HW_ => ?_)
  generalize w33.drew = w74 at HP0_ BK577 BK583 HB HR585_0 hx585_0 hHeld ⊢
  refine pu 0 53 13 1 HT_ ?_
  refine pu 2 55 13 5 HT_ ?_
  refine tk 1 54 13 7 HT_ HW_ hHeld ?_
  refine pu 3 56 13 15 HT_ ?_
  refine tk 4 57 13 31 HT_ HW_ hHeld ?_
  refine pu 5 58 13 63 HT_ ?_
  refine pu 6 59 13 127 HT_ ?_
  refine pu 7 60 13 255 HT_ ?_
  refine pn 8 61 13 511 HT_ ?_
  refine pn 9 62 13 1023 HT_ ?_
  refine pn 10 63 13 2047 HT_ ?_
  refine pn 11 64 13 4095 HT_ ?_
  refine pu 12 65 13 8191 HT_ ?_
  refine done_ (done_of HT_.out (by kernel_rfl)) ?_
  try go_wp2
  go_ret
  exact ⟨er, bw HB⟩
 rw [if_neg c22] at H
 have c22b0 := decide_eq_false c22
 clear c22
 obtain rfl := oi H
 go_wp2
 go_ret
 exact ⟨er, bw HB⟩

end Go.Proofs.Ytkhpiicijkhpkaa.QFnExactAsmBytes
