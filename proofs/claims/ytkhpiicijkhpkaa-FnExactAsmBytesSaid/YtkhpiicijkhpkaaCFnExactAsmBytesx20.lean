import Derived.Test.YtkhpiicijkhpkaaCFnExactAsmBytesx0
import Derived.Test.YtkhpiicijkhpkaaCFnExactAsmBytesx14
import Derived.Test.YtkhpiicijkhpkaaCFnExactAsmBytesx15
import Derived.Test.YtkhpiicijkhpkaaCFnExactAsmBytesx19
namespace Go.Proofs.Ytkhpiicijkhpkaa.QFnExactAsmBytes
open Go.RowKit Go.Proofs.YtkhpiicijkhpkaaW
open PrintWords PrintLast PrintMore PrintShort PrintIsh
attribute [local go_sem] max2_int min2_int max_two min_two max_three min_three max_four min_four
set_option linter.unusedVariables false
set_option maxHeartbeats 8000000
set_option maxRecDepth 100000
set_option linter.unusedSimpArgs false

mutual
def impl_prog_insRight.j0 : Nat → Int → Bool → List (S121) → List (List Int) → List (S84) → Int → Int → List (S82) → Int → Option (Bool)
 | 0, _, _, _, _, _, _, _, _, _ => none
 | k + 1, x1, x31, x1000, x1001, x564000, x564001, x564002, x564003, x564004 => if x31 = true then (some false) else (impl_prog_insRight.l0 k x1 x564000 (x564000.length : Int) 0 x1000 x1001 x564000 x564001 x564002 x564003 x564004)
def impl_prog_insRight.l0 : Nat → Int → List (S84) → Int → Int → List (S121) → List (List Int) → List (S84) → Int → Int → List (S82) → Int → Option (Bool)
 | 0, _, _, _, _, _, _, _, _, _, _, _ => none
 | k + 1, x1, x33, x34, x35, x1000, x1001, x564000, x564001, x564002, x564003, x564004 => if x35 < x34 then (if 0 ≤ x35 then (if x35 < (x33.length : Int) then ((impl_isLoc.f ((rd_T84 x33 x35).f0)).bind fun t568 => (if t568 = true then ((impl_Val_some.f ((rd_T84 x33 x35).f1.f0) ((rd_T84 x33 x35).f1.f1)).bind fun t569 => (if t569 = true then (impl_prog_insRight.l0 k x1 x33 x34 (wrap64 (x35 + 1)) x1000 x1001 x564000 x564001 x564002 x564003 x564004) else (some false))) else (some false))) else (none)) else (none)) else (if x564001 = 0 then (if x564002 = (-1) then (if (x564003.length : Int) = 0 then (some (x564004 == 0)) else (some false)) else (some false)) else (if x564001 = 1 then (if (x564002 = (-1)) then (some false) else (if (x564003.length : Int) = 1 then (some (x564004 == 0)) else (some false))) else (if x564001 = 3 then (if x564002 = (-1) then (if (x564003.length : Int) = 1 then (if x564004 = 1 then (some true) else (some (x564004 == 2))) else (some false)) else (some false)) else (if x564001 = 30 then (if x564002 = (-1) then (if (x564003.length : Int) = 0 then ((impl_prog_place.f x1000 x1001 x1 x564004).bind fun t570 => (some t570)) else (some false)) else (some false)) else (if x564001 = 31 then (if x564002 = (-1) then (if (x564003.length : Int) = 1 then ((impl_prog_place.f x1000 x1001 x1 x564004).bind fun t571 => (some t571)) else (some false)) else (some false)) else (if x564001 = 32 then ((impl_hasFunc.f x1000 x564004).bind fun t572 => (if t572 = true then (if 0 ≤ x564004 then (if x564004 < (x1000.length : Int) then (some ((x564003.length : Int) == ((rd_T121 x1000 x564004).f0))) else (none)) else (none)) else (some false))) else (if x564001 = 36 then (impl_prog_insRight.j2 k (x564003.length : Int) (x564002 == (-1)) true x1000 x1001 x564000 x564001 x564002 x564003 x564004) else (if x564001 = 38 then (impl_prog_insRight.j2 k (x564003.length : Int) (x564002 == (-1)) true x1000 x1001 x564000 x564001 x564002 x564003 x564004) else (impl_prog_insRight.j2 k (x564003.length : Int) (x564002 == (-1)) (x564001 == 33) x1000 x1001 x564000 x564001 x564002 x564003 x564004)))))))))
def impl_prog_insRight.j2 : Nat → Int → Bool → Bool → List (S121) → List (List Int) → List (S84) → Int → Int → List (S82) → Int → Option (Bool)
 | 0, _, _, _, _, _, _, _, _, _, _ => none
 | k + 1, x9, x10, x161, x1000, x1001, x564000, x564001, x564002, x564003, x564004 => if x161 = true then (if x10 = true then ((impl_Takes.f k x1000 x564001 0).bind fun t574 => (if x9 = t574 then (some (x564004 == 0)) else (some false))) else (some false)) else ((impl_isArith.f x564001).bind fun t575 => (if t575 = true then (impl_prog_insRight.j3 k x9 true x1000 x1001 x564000 x564001 x564002 x564003 x564004) else (if x564001 = 34 then (impl_prog_insRight.j3 k x9 true x1000 x1001 x564000 x564001 x564002 x564003 x564004) else (if x564001 = 35 then (impl_prog_insRight.j3 k x9 true x1000 x1001 x564000 x564001 x564002 x564003 x564004) else (impl_prog_insRight.j3 k x9 (x564001 == 37) x1000 x1001 x564000 x564001 x564002 x564003 x564004)))))
def impl_prog_insRight.j3 : Nat → Int → Bool → List (S121) → List (List Int) → List (S84) → Int → Int → List (S82) → Int → Option (Bool)
 | 0, _, _, _, _, _, _, _, _, _ => none
 | k + 1, x9, x193, x1000, x1001, x564000, x564001, x564002, x564003, x564004 => if x193 = true then ((impl_Takes.f k x1000 x564001 0).bind fun t576 => (if x9 = t576 then (some (x564004 == 0)) else (some false))) else (some false)
end
def impl_prog_insRight.f (k : Nat) (l0_0 : List (S121)) (l0_1 : List (List Int)) (a1 : Int) (l2_0 : List (S84)) (a2_1 : Int) (a2_2 : Int) (l2_3 : List (S82)) (a2_4 : Int) : Option (Bool) := if (l2_0.length : Int) > 16 then (impl_prog_insRight.j0 k a1 true l0_0 l0_1 l2_0 a2_1 a2_2 l2_3 a2_4) else ((impl_someAll.f k l2_3).bind fun t564 => (if t564 = true then (if a2_2 = (-1) then (impl_prog_insRight.j0 k a1 false l0_0 l0_1 l2_0 a2_1 a2_2 l2_3 a2_4) else ((impl_isLoc.f a2_2).bind fun t565 => (impl_prog_insRight.j0 k a1 (!t565) l0_0 l0_1 l2_0 a2_1 a2_2 l2_3 a2_4))) else (impl_prog_insRight.j0 k a1 true l0_0 l0_1 l2_0 a2_1 a2_2 l2_3 a2_4)))
def impl_prog_insRight.T22 : Bool × List (List Nat × List Nat) := (true, [([], []), ([0], [0]), ([1], [1]), ([2], [2]), ([], []), ([4], [4]), ([3, 5], [3, 5]), ([6, 6], [6]), ([7], [7]), ([7], [7]), ([9, 7], [7, 9]), ([10, 7], [7, 10]), ([11, 7], [7, 11]), ([12, 7], [7, 12]), ([7], [7]), ([14, 7], [7, 14]), ([13, 15, 7], [7, 13, 15]), ([16, 7], [7, 16]), ([17, 7], [7, 17]), ([8, 18, 7], [7, 8, 18]), ([7, 19], [7, 19]), ([20, 7, 0, 1, 2, 3, 4, 5, 6, 7, 8, 9, 10, 11, 12, 13, 14, 15, 16, 17, 18, 19, 20], [20])])
def impl_prog_insRight.B22 : List Nat := [0, 1, 3, 7, 0, 16, 63, 127, 255, 255, 767, 1791, 3839, 7935, 255, 16639, 65279, 130815, 261887, 524287, 1048575, 2097151]
theorem impl_prog_insRight.tab22 : rtab .any (opsOf Try.f101 22) = impl_prog_insRight.T22 := by kernel_rfl
theorem impl_prog_insRight.bits22 : waitsOk impl_prog_insRight.T22.2 impl_prog_insRight.B22 = true := by kernel_rfl
def impl_prog_insRight.T24 : Bool × List (List Nat × List Nat) := (true, [([], []), ([0], [0]), ([1], [1]), ([1], [1]), ([3, 1], [1, 3]), ([4, 1], [1, 4]), ([5, 1], [1, 5]), ([1], [1]), ([7, 1], [1, 7]), ([8, 1], [1, 8]), ([6, 9, 1, 1], [1, 6, 9]), ([2, 10, 1], [1, 2, 10]), ([1, 11], [1, 11]), ([12, 10], [12]), ([13], [13]), ([14, 13], [13, 14]), ([15, 13], [13, 15]), ([13, 16], [13, 16]), ([17, 13, 0, 1, 2, 3, 4, 5, 6, 7, 8, 9, 10, 11, 12, 13, 14, 15, 16, 17], [17])])
def impl_prog_insRight.B24 : List Nat := [0, 1, 3, 3, 11, 27, 59, 3, 131, 387, 1019, 2047, 4095, 8191, 16383, 32767, 65535, 131071, 262143]
theorem impl_prog_insRight.tab24 : rtab .any (opsOf Try.f101 24) = impl_prog_insRight.T24 := by kernel_rfl
theorem impl_prog_insRight.bits24 : waitsOk impl_prog_insRight.T24.2 impl_prog_insRight.B24 = true := by kernel_rfl
def impl_prog_insRight.T26 : Bool × List (List Nat × List Nat) := (true, [([], []), ([], []), ([1], [1]), ([2], [2]), ([3], [3]), ([], []), ([5], [5]), ([6], [6]), ([4, 7], [4, 7]), ([0, 8], [0, 8]), ([9, 8], [9]), ([10], [10]), ([11, 10], [10, 11]), ([12, 10], [10, 12]), ([10, 13], [10, 13]), ([14, 10, 0, 1, 2, 3, 4, 5, 6, 7, 8, 9, 10, 11, 12, 13, 14], [14])])
def impl_prog_insRight.B26 : List Nat := [0, 0, 2, 6, 14, 0, 32, 96, 254, 511, 1023, 2047, 4095, 8191, 16383, 32767]
theorem impl_prog_insRight.tab26 : rtab .any (opsOf Try.f101 26) = impl_prog_insRight.T26 := by kernel_rfl
theorem impl_prog_insRight.bits26 : waitsOk impl_prog_insRight.T26.2 impl_prog_insRight.B26 = true := by kernel_rfl
theorem impl_prog_insRight.calls (k : Nat) (g0_ : Nat) (A0_0 : Option Addr) (c0_0 : Nat) (l0_0 : List (S121)) (A0_1 : Option Addr) (c0_1 : Nat) (l0_1 : List (List Int)) (a1 : Int) (A2_0 : Option Addr) (c2_0 : Nat) (l2_0 : List (S84)) (a2_1 : Int) (a2_2 : Int) (A2_3 : Option Addr) (c2_3 : Nat) (l2_3 : List (S82)) (a2_4 : Int) (r : Bool) (w : World) (hp0 : w.heap[g0_]? = some (.cells #[.slice A0_0 l0_0.length c0_0, .slice A0_1 l0_1.length c0_1] 158 (0, 0))) (hr0_0 : Kd.C k121 w A0_0 l0_0.length l0_0) (hc0_0 : l0_0.length ≤ c0_0) (hr0_1 : Kd.C (Kd.slice 2 (Kd.int .i64)) w A0_1 l0_1.length l0_1) (hc0_1 : l0_1.length ≤ c0_1) (hr2_0 : Kd.C k84 w A2_0 l2_0.length l2_0) (hc2_0 : l2_0.length ≤ c2_0) (hr2_3 : Kd.C k82 w A2_3 l2_3.length l2_3) (hc2_3 : l2_3.length ≤ c2_3) (h : impl_prog_insRight.f k l0_0 l0_1 a1 l2_0 a2_1 a2_2 l2_3 a2_4 = some r) :
  Calls Try.prog 101 #[.pointer (some ⟨g0_, 0, none⟩), .int .i64 a1, .agg #[.slice A2_0 l2_0.length c2_0, .int .i64 a2_1, .int .i64 a2_2, .slice A2_3 l2_3.length c2_3, .int .i64 a2_4]] w fun e w' => e = .returned (.bool r) ∧ Below w.heap.size w w' := by
 have hu80 := Try.underlying80
 have hu84 := Try.underlying84
 have hu82 := Try.underlying82
 have hu32 := Try.underlying32
 have hu153 := Try.underlying153
 have HP0_ := am hp0
 clear hp0
 have HR0_0 := am hr0_0
 have HC0_0 := am hc0_0
 clear hr0_0 hc0_0
 have HR0_1 := am hr0_1
 have HC0_1 := am hc0_1
 clear hr0_1 hc0_1
 have HR2_0 := am hr2_0
 have HC2_0 := am hc2_0
 clear hr2_0 hc2_0
 have HR2_3 := am hr2_3
 have HC2_3 := am hc2_3
 clear hr2_3 hc2_3
 have HB := am (Below.refl w.heap.size w)
 have H : (if (l2_0.length : Int) > 16 then (impl_prog_insRight.j0 k a1 true l0_0 l0_1 l2_0 a2_1 a2_2 l2_3 a2_4) else ((impl_someAll.f k l2_3).bind fun t564 => (if t564 = true then (if a2_2 = (-1) then (impl_prog_insRight.j0 k a1 false l0_0 l0_1 l2_0 a2_1 a2_2 l2_3 a2_4) else ((impl_isLoc.f a2_2).bind fun t565 => (impl_prog_insRight.j0 k a1 (!t565) l0_0 l0_1 l2_0 a2_1 a2_2 l2_3 a2_4))) else (impl_prog_insRight.j0 k a1 true l0_0 l0_1 l2_0 a2_1 a2_2 l2_3 a2_4)))) = some r := h
 clear h
 have HC4 := am H
 clear H
 go_enter Try.func101, Try.ntmps101
 go_upto_region 1 with (first | ((with_reducible refine gd 5 rfl ?_); refine bX 5 #[.slice A2_0 l2_0.length c2_0, .int .i64 a2_1, .int .i64 a2_2, .slice A2_3 l2_3.length c2_3, .int .i64 a2_4] 80 HB ?_; clear HB; intro gb563 w5 hg hb BK563 GW563 HB; obtain ⟨NB0_563, NB563_0, HP0_⟩ := b3 hg HP0_ hb; clear hb hg))
 (try simp only [Act.put, sa, sz, ss])
 go_cut [31] (fun v31 wc => ∃ (kq : Nat) (x31_3 : Bool), v31 = .bool x31_3 ∧ Aside0 (impl_prog_insRight.j0 kq a1 x31_3 l0_0 l0_1 l2_0 a2_1 a2_2 l2_3 a2_4 = some r) ∧ Aside0 (kq ≤ k) ∧ Aside0 (wc.heap[g0_]? = some (.cells #[(.slice A0_0 l0_0.length c0_0), (.slice A0_1 l0_1.length c0_1)] 158 (0, 0))) ∧ Aside0 (wc.heap[gb563]? = some (.cells #[(.slice A2_0 l2_0.length c2_0), .int .i64 a2_1, .int .i64 a2_2, (.slice A2_3 l2_3.length c2_3), .int .i64 a2_4] 80 (0, 0))) ∧ Aside0 (Below w.heap.size w wc))
 case first => as_aux_lemma =>
  have H := HC4.out
  clear HC4
  refine qG H ?_ ?_ <;> clear H <;> intro c6b0 H
  ·have c6 := of_decide_eq_true c6b0
   have c6b1 : decide (16 < l2_0.length) = true := decide_eq_true (by omega)
   clear c6
   (first | rw [c6b0] | (simp only [i64_w, i32_w]; rw [c6b0]) | skip)
   have H' := am H
   clear H
   have hnb7 := NB563_0.out
   have hnc7 := NB0_563.out
   have hcz8_0 := bk w5 BK563 0
   have hcz8_1 := bk w5 BK563 1
   have hcz8_2 := bk w5 BK563 2
   have hcz8_3 := bk w5 BK563 3
   have hcz8_4 := bk w5 BK563 4
   have hfz8_0 := bf BK563 0
   have hfz8_1 := bf BK563 1
   have hfz8_2 := bf BK563 2
   have hfz8_3 := bf BK563 3
   have hfz8_4 := bf BK563 4
   go_wp2
   go_meet
   case rel => exact ⟨_, (true), dr, H', ⟨lk0⟩, ⟨bp HP0_⟩, ⟨bp BK563⟩, ⟨bw HB⟩⟩
  have c6 := of_decide_eq_false c6b0
  have c6b1 : decide (16 < l2_0.length) = false := decide_eq_false (by omega)
  clear c6
  (first | rw [c6b0] | (simp only [i64_w, i32_w]; rw [c6b0]) | skip)
  refine be H ?_; clear H; intro t564 A9 H
  refine qT H ?_ ?_ <;> clear H <;> intro c10 H <;> subst c10
  ·refine qE H ?_ ?_ <;> clear H
   ·intro c11b0 c11b1 H
    have H' := am H
    clear H
    have hnb12 := NB563_0.out
    have hnc12 := NB0_563.out
    have hcz13_0 := bk w5 BK563 0
    have hcz13_1 := bk w5 BK563 1
    have hcz13_2 := bk w5 BK563 2
    have hcz13_3 := bk w5 BK563 3
    have hcz13_4 := bk w5 BK563 4
    have hfz13_0 := bf BK563 0
    have hfz13_1 := bf BK563 1
    have hfz13_2 := bf BK563 2
    have hfz13_3 := bf BK563 3
    have hfz13_4 := bf BK563 4
    go_wp2_with (first | (go_at_call 141; refine (impl_someAll.calls k _ _ l2_3 true _ (cc (Kd.C_below HR2_3.out HB.out)) HC2_3.out A9.out).mono ?_; rintro e w14 ⟨rfl, hb⟩; replace HP0_ := bb HP0_ hb; replace BK563 := bb BK563 hb; replace HB := bs HB hb; clear hb; have hcz15_0 := bk w14 BK563 0; have hcz15_1 := bk w14 BK563 1; have hcz15_2 := bk w14 BK563 2; have hcz15_3 := bk w14 BK563 3; have hcz15_4 := bk w14 BK563 4; have hfz15_0 := bf BK563 0; have hfz15_1 := bf BK563 1; have hfz15_2 := bf BK563 2; have hfz15_3 := bf BK563 3; have hfz15_4 := bf BK563 4))
    go_meet
    case rel => exact ⟨_, (false), dr, H', ⟨lk0⟩, ⟨bp HP0_⟩, ⟨bp BK563⟩, ⟨bw HB⟩⟩
   intro c11 c11b0 c11b1 H
   refine be H ?_; clear H; intro t565 A16 H
   have H' := am H
   clear H
   have hnb17 := NB563_0.out
   have hnc17 := NB0_563.out
   have hcz18_0 := bk w5 BK563 0
   have hcz18_1 := bk w5 BK563 1
   have hcz18_2 := bk w5 BK563 2
   have hcz18_3 := bk w5 BK563 3
   have hcz18_4 := bk w5 BK563 4
   have hfz18_0 := bf BK563 0
   have hfz18_1 := bf BK563 1
   have hfz18_2 := bf BK563 2
   have hfz18_3 := bf BK563 3
   have hfz18_4 := bf BK563 4
   go_wp2_with (first | (go_at_call 141; refine (impl_someAll.calls k _ _ l2_3 true _ (cc (Kd.C_below HR2_3.out HB.out)) HC2_3.out A9.out).mono ?_; rintro e w19 ⟨rfl, hb⟩; replace HP0_ := bb HP0_ hb; replace BK563 := bb BK563 hb; replace HB := bs HB hb; clear hb; have hcz20_0 := bk w19 BK563 0; have hcz20_1 := bk w19 BK563 1; have hcz20_2 := bk w19 BK563 2; have hcz20_3 := bk w19 BK563 3; have hcz20_4 := bk w19 BK563 4; have hfz20_0 := bf BK563 0; have hfz20_1 := bf BK563 1; have hfz20_2 := bf BK563 2; have hfz20_3 := bf BK563 3; have hfz20_4 := bf BK563 4) | (go_at_call 142; (with_reducible refine (impl_isLoc.calls a2_2 t565 _ A16.out).mono ?_); rintro e w' ⟨rfl, ⟨nd, rfl⟩⟩))
   go_meet
   case rel => exact ⟨_, (!t565), dr, H', ⟨lk0⟩, ⟨bp HP0_⟩, ⟨bp BK563⟩, ⟨bw HB⟩⟩
  have H' := am H
  clear H
  have hnb21 := NB563_0.out
  have hnc21 := NB0_563.out
  have hcz22_0 := bk w5 BK563 0
  have hcz22_1 := bk w5 BK563 1
  have hcz22_2 := bk w5 BK563 2
  have hcz22_3 := bk w5 BK563 3
  have hcz22_4 := bk w5 BK563 4
  have hfz22_0 := bf BK563 0
  have hfz22_1 := bf BK563 1
  have hfz22_2 := bf BK563 2
  have hfz22_3 := bf BK563 3
  have hfz22_4 := bf BK563 4
  go_wp2_with (first | (go_at_call 141; refine (impl_someAll.calls k _ _ l2_3 false _ (cc (Kd.C_below HR2_3.out HB.out)) HC2_3.out A9.out).mono ?_; rintro e w23 ⟨rfl, hb⟩; replace HP0_ := bb HP0_ hb; replace BK563 := bb BK563 hb; replace HB := bs HB hb; clear hb))
  go_meet
  case rel => exact ⟨_, (true), dr, H', ⟨lk0⟩, ⟨bp HP0_⟩, ⟨bp BK563⟩, ⟨bw HB⟩⟩
 clear HC4
 obtain ⟨kq, x31_3, rfl, HA, HJ3, HP0_, BK563, HB⟩ := hcut
 as_aux_lemma =>
 rcases kq with _ | kj3
 ·exact absurd HA.out (by simp [impl_prog_insRight.j0])
 have H := HA.out
 clear HA
 simp only [impl_prog_insRight.j0] at H
 refine qT H ?_ ?_ <;> clear H <;> intro c24 H <;> subst c24
 ·obtain rfl := oi H
  go_wp2
  go_ret
  exact ⟨er, bw HB⟩
 have H' := am H
 clear H
 have hnb25 := NB563_0.out
 have hnc25 := NB0_563.out
 have hcz26_0 := bk wc BK563 0
 have hcz26_1 := bk wc BK563 1
 have hcz26_2 := bk wc BK563 2
 have hcz26_3 := bk wc BK563 3
 have hcz26_4 := bk wc BK563 4
 have hfz26_0 := bf BK563 0
 have hfz26_1 := bf BK563 1
 have hfz26_2 := bf BK563 2
 have hfz26_3 := bf BK563 3
 have hfz26_4 := bf BK563 4
 go_wp2
 go_loopg [35] kj3 (fun kq v35 w' => ∃ (x35_2 : Int), v35 = .int .i64 x35_2 ∧ Aside0 (impl_prog_insRight.l0 kq a1 l2_0 (l2_0.length : Int) x35_2 l0_0 l0_1 l2_0 a2_1 a2_2 l2_3 a2_4 = some r) ∧ Aside0 (kq ≤ kj3) ∧ Aside0 (w'.heap[g0_]? = some (.cells #[(.slice A0_0 l0_0.length c0_0), (.slice A0_1 l0_1.length c0_1)] 158 (0, 0))) ∧ Aside0 (w'.heap[gb563]? = some (.cells #[(.slice A2_0 l2_0.length c2_0), .int .i64 a2_1, .int .i64 a2_2, (.slice A2_3 l2_3.length c2_3), .int .i64 a2_4] 80 (0, 0))) ∧ Aside0 (Below w.heap.size w w'))
 case atStart => exact ⟨(0), dr, H', ⟨Nat.le_refl _⟩, ⟨bp HP0_⟩, ⟨bp BK563⟩, ⟨bw HB⟩⟩
 clear H'
 obtain ⟨x35_2, rfl, HA, HK2, HP0_, BK563, HB⟩ := hrel
 as_aux_lemma =>
 rcases gk with _ | k2
 ·exact absurd HA.out (by simp [impl_prog_insRight.l0])
 have H := HA.out
 clear HA
 simp only [impl_prog_insRight.l0] at H
 refine qI H ?_ ?_ <;> clear H <;> intro c27b0 H
 ·as_aux_lemma =>
  refine iM H ?_; clear H; intro c28b0 H
  refine iM H ?_; clear H; intro c29b0 H
  refine be H ?_; clear H; intro t568 A30 H
  refine qT H ?_ ?_ <;> clear H <;> intro c31 H <;> subst c31
  ·refine be H ?_; clear H; intro t569 A32 H
   have HC33 := am H
   clear H
   have p566 : 0 ≤ (x35_2 : Int) := dt
   have q566 : x35_2 < (l2_0.length : Int) := dt
   obtain ⟨ad566, e566, hx566_0, hx566_1, hx566_2⟩ := at_T84 HR2_0.out x35_2 p566 q566
   cases e566
   replace hx566_0 := cl HB hx566_0
   replace hx566_1 := cl HB hx566_1
   replace hx566_2 := cl HB hx566_2
   replace p566 := eq_true p566
   replace q566 := eq_true q566
   go_upto_if 48 with (first | ((with_reducible refine gd 8 rfl ?_); refine bX 8 #[.int .i64 0, .int .i64 0, .int .i64 0] 84 HB ?_; clear HB; intro gb567 w34 hg hb BK567 GW567 HB; obtain ⟨NB0_567, NB567_0, HP0_⟩ := b3 hg HP0_ hb; obtain ⟨NB563_567, NB567_563, BK563⟩ := b3 hg BK563 hb; clear hb hg; have hnb35 := NB567_0.out; have hnc35 := NB0_567.out; have hnb36 := NB567_563.out; have hnc36 := NB563_567.out; have hcz37 := bK w34 BK567; have hfz37 := bF BK567) | ((with_reducible refine gate_callee (f := 142) rfl ?_); refine goesL_ (some 41) rfl rfl Try.func142 (by kernel_rfl) rfl #[.int .i64 ((rd_T84 l2_0 x35_2).f0)] rfl gl ?_; (with_reducible refine (impl_isLoc.calls ((rd_T84 l2_0 x35_2).f0) true _ A30.out).mono ?_); rintro e w' ⟨rfl, ⟨nd, rfl⟩⟩; refine ⟨_, rfl, ?_⟩) | (go_at_call 143; (with_reducible refine (impl_Val_some.calls ((rd_T84 l2_0 x35_2).f1.f0) ((rd_T84 l2_0 x35_2).f1.f1) t569 _ A32.out).mono ?_); rintro e w38 ⟨rfl, hb⟩; replace HP0_ := bb2 HP0_ hb; replace BK563 := bb2 BK563 hb; replace BK567 := bo #[.int .i64 ((rd_T84 l2_0 x35_2).f0), .int .i64 ((rd_T84 l2_0 x35_2).f1.f0), .int .i64 ((rd_T84 l2_0 x35_2).f1.f1)] BK567 hb; replace HB := bs HB hb; clear hb))
   (try simp only [Act.put, sa, sz, ss])
   have H := HC33.out
   clear HC33
   refine qT H ?_ ?_ <;> clear H <;> intro c39 H <;> subst c39
   ·have H' := am H
    clear H
    go_wp2
    go_roundg k2
    case measure => have := HJ3.out; have := HK2.out; omega
    case rel => exact ⟨(wrap64 (x35_2 + 1)), dr, H', ⟨by have := HJ3.out; have := HK2.out; omega⟩, ⟨bp HP0_⟩, ⟨bp BK563⟩, ⟨bw HB⟩⟩
   obtain rfl := oi H
   go_wp2
   go_ret
   exact ⟨er, bw HB⟩
  obtain rfl := oi H
  have p566 : 0 ≤ (x35_2 : Int) := dt
  have q566 : x35_2 < (l2_0.length : Int) := dt
  obtain ⟨ad566, e566, hx566_0, hx566_1, hx566_2⟩ := at_T84 HR2_0.out x35_2 p566 q566
  cases e566
  replace hx566_0 := cl HB hx566_0
  replace hx566_1 := cl HB hx566_1
  replace hx566_2 := cl HB hx566_2
  replace p566 := eq_true p566
  replace q566 := eq_true q566
  go_wp2_with (first | ((with_reducible refine gd 8 rfl ?_); refine bX 8 #[.int .i64 0, .int .i64 0, .int .i64 0] 84 HB ?_; clear HB; intro gb567 w40 hg hb BK567 GW567 HB; obtain ⟨NB0_567, NB567_0, HP0_⟩ := b3 hg HP0_ hb; obtain ⟨NB563_567, NB567_563, BK563⟩ := b3 hg BK563 hb; clear hb hg; have hnb41 := NB567_0.out; have hnc41 := NB0_567.out; have hnb42 := NB567_563.out; have hnc42 := NB563_567.out; have hcz43 := bK w40 BK567; have hfz43 := bF BK567) | ((with_reducible refine gate_callee (f := 142) rfl ?_); refine goesL_ (some 41) rfl rfl Try.func142 (by kernel_rfl) rfl #[.int .i64 ((rd_T84 l2_0 x35_2).f0)] rfl gl ?_; (with_reducible refine (impl_isLoc.calls ((rd_T84 l2_0 x35_2).f0) false _ A30.out).mono ?_); rintro e w' ⟨rfl, ⟨nd, rfl⟩⟩; refine ⟨_, rfl, ?_⟩))
  go_ret
  exact ⟨er, bw HB⟩
 refine qE H ?_ ?_ <;> clear H
 ·as_aux_lemma =>
  intro c44b0 c44b1 H
  (first | rw [c44b0] | (simp only [i64_w, i32_w]; rw [c44b0]) | skip)
  refine qE H ?_ ?_ <;> clear H
  ·as_aux_lemma =>
   intro c45b0 c45b1 H
   by_cases c46 : (l2_3.length : Int) = 0
   ·rw [if_pos c46] at H
    have c46b0 : ((l2_3.length : Int) == 0) = true := beq_iff_eq.mpr c46
    have c46b1 : ((l2_3.length : Int) != 0) = false := bne_eq_false_iff_eq.mpr c46
    clear c46
    obtain rfl := oi H
    have hnb47 := NB563_0.out
    have hnc47 := NB0_563.out
    have hcz48_0 := bk wr BK563 0
    have hcz48_1 := bk wr BK563 1
    have hcz48_2 := bk wr BK563 2
    have hcz48_3 := bk wr BK563 3
    have hcz48_4 := bk wr BK563 4
    have hfz48_0 := bf BK563 0
    have hfz48_1 := bf BK563 1
    have hfz48_2 := bf BK563 2
    have hfz48_3 := bf BK563 3
    have hfz48_4 := bf BK563 4
    go_wp2
    go_ret
    exact ⟨er, bw HB⟩
   rw [if_neg c46] at H
   have c46b0 : ((l2_3.length : Int) == 0) = false := beq_eq_false_iff_ne.mpr c46
   have c46b1 : ((l2_3.length : Int) != 0) = true := bne_iff_ne.mpr c46
   have c46b2 : ¬ (l2_3 = []) := fun h_ => c46 (by rw [h_]; rfl)
   obtain rfl := oi H
   have hnb49 := NB563_0.out
   have hnc49 := NB0_563.out
   have hcz50_0 := bk wr BK563 0
   have hcz50_1 := bk wr BK563 1
   have hcz50_2 := bk wr BK563 2
   have hcz50_3 := bk wr BK563 3
   have hcz50_4 := bk wr BK563 4
   have hfz50_0 := bf BK563 0
   have hfz50_1 := bf BK563 1
   have hfz50_2 := bf BK563 2
   have hfz50_3 := bf BK563 3
   have hfz50_4 := bf BK563 4
   go_wp2
   go_ret
   exact ⟨er, bw HB⟩
  intro c45 c45b0 c45b1 H
  obtain rfl := oi H
  have hnb51 := NB563_0.out
  have hnc51 := NB0_563.out
  have hcz52_0 := bk wr BK563 0
  have hcz52_1 := bk wr BK563 1
  have hcz52_2 := bk wr BK563 2
  have hcz52_3 := bk wr BK563 3
  have hcz52_4 := bk wr BK563 4
  have hfz52_0 := bf BK563 0
  have hfz52_1 := bf BK563 1
  have hfz52_2 := bf BK563 2
  have hfz52_3 := bf BK563 3
  have hfz52_4 := bf BK563 4
  go_wp2
  go_ret
  exact ⟨er, bw HB⟩
 intro c44 c44b0 c44b1 H
 (first | rw [c44b0] | (simp only [i64_w, i32_w]; rw [c44b0]) | skip)
 refine qE H ?_ ?_ <;> clear H
 ·as_aux_lemma =>
  intro c53b0 c53b1 H
  refine qE H ?_ ?_ <;> clear H
  ·intro c54b0 c54b1 H
   obtain rfl := oi H
   have hnb55 := NB563_0.out
   have hnc55 := NB0_563.out
   have hcz56_0 := bk wr BK563 0
   have hcz56_1 := bk wr BK563 1
   have hcz56_2 := bk wr BK563 2
   have hcz56_3 := bk wr BK563 3
   have hcz56_4 := bk wr BK563 4
   have hfz56_0 := bf BK563 0
   have hfz56_1 := bf BK563 1
   have hfz56_2 := bf BK563 2
   have hfz56_3 := bf BK563 3
   have hfz56_4 := bf BK563 4
   go_wp2
   go_ret
   exact ⟨er, bw HB⟩
  intro c54 c54b0 c54b1 H
  by_cases c57 : (l2_3.length : Int) = 1
  ·rw [if_pos c57] at H
   have c57b0 : ((l2_3.length : Int) == 1) = true := beq_iff_eq.mpr c57
   have c57b1 : ((l2_3.length : Int) != 1) = false := bne_eq_false_iff_eq.mpr c57
   clear c57
   obtain rfl := oi H
   have hnb58 := NB563_0.out
   have hnc58 := NB0_563.out
   have hcz59_0 := bk wr BK563 0
   have hcz59_1 := bk wr BK563 1
   have hcz59_2 := bk wr BK563 2
   have hcz59_3 := bk wr BK563 3
   have hcz59_4 := bk wr BK563 4
   have hfz59_0 := bf BK563 0
   have hfz59_1 := bf BK563 1
   have hfz59_2 := bf BK563 2
   have hfz59_3 := bf BK563 3
   have hfz59_4 := bf BK563 4
   go_wp2
   go_ret
   exact ⟨er, bw HB⟩
  rw [if_neg c57] at H
  have c57b0 : ((l2_3.length : Int) == 1) = false := beq_eq_false_iff_ne.mpr c57
  have c57b1 : ((l2_3.length : Int) != 1) = true := bne_iff_ne.mpr c57
  obtain rfl := oi H
  have hnb60 := NB563_0.out
  have hnc60 := NB0_563.out
  have hcz61_0 := bk wr BK563 0
  have hcz61_1 := bk wr BK563 1
  have hcz61_2 := bk wr BK563 2
  have hcz61_3 := bk wr BK563 3
  have hcz61_4 := bk wr BK563 4
  have hfz61_0 := bf BK563 0
  have hfz61_1 := bf BK563 1
  have hfz61_2 := bf BK563 2
  have hfz61_3 := bf BK563 3
  have hfz61_4 := bf BK563 4
  go_wp2
  go_ret
  exact ⟨er, bw HB⟩
 intro c53 c53b0 c53b1 H
 refine qE H ?_ ?_ <;> clear H
 ·as_aux_lemma =>
  intro c62b0 c62b1 H
  refine qE H ?_ ?_ <;> clear H
  ·as_aux_lemma =>
   intro c63b0 c63b1 H
   by_cases c64 : (l2_3.length : Int) = 1
   ·rw [if_pos c64] at H
    have c64b0 : ((l2_3.length : Int) == 1) = true := beq_iff_eq.mpr c64
    have c64b1 : ((l2_3.length : Int) != 1) = false := bne_eq_false_iff_eq.mpr c64
    clear c64
    refine qE H ?_ ?_ <;> clear H
    ·intro c65b0 c65b1 H
     obtain rfl := oi H
     have hnb66 := NB563_0.out
     have hnc66 := NB0_563.out
     have hcz67_0 := bk wr BK563 0
     have hcz67_1 := bk wr BK563 1
     have hcz67_2 := bk wr BK563 2
     have hcz67_3 := bk wr BK563 3
     have hcz67_4 := bk wr BK563 4
     have hfz67_0 := bf BK563 0
     have hfz67_1 := bf BK563 1
     have hfz67_2 := bf BK563 2
     have hfz67_3 := bf BK563 3
     have hfz67_4 := bf BK563 4
     go_wp2
     go_ret
     exact ⟨er, bw HB⟩
    intro c65 c65b0 c65b1 H
    obtain rfl := oi H
    have hnb68 := NB563_0.out
    have hnc68 := NB0_563.out
    have hcz69_0 := bk wr BK563 0
    have hcz69_1 := bk wr BK563 1
    have hcz69_2 := bk wr BK563 2
    have hcz69_3 := bk wr BK563 3
    have hcz69_4 := bk wr BK563 4
    have hfz69_0 := bf BK563 0
    have hfz69_1 := bf BK563 1
    have hfz69_2 := bf BK563 2
    have hfz69_3 := bf BK563 3
    have hfz69_4 := bf BK563 4
    go_wp2
    go_ret
    exact ⟨er, bw HB⟩
   rw [if_neg c64] at H
   have c64b0 : ((l2_3.length : Int) == 1) = false := beq_eq_false_iff_ne.mpr c64
   have c64b1 : ((l2_3.length : Int) != 1) = true := bne_iff_ne.mpr c64
   obtain rfl := oi H
   have hnb70 := NB563_0.out
   have hnc70 := NB0_563.out
   have hcz71_0 := bk wr BK563 0
   have hcz71_1 := bk wr BK563 1
   have hcz71_2 := bk wr BK563 2
   have hcz71_3 := bk wr BK563 3
   have hcz71_4 := bk wr BK563 4
   have hfz71_0 := bf BK563 0
   have hfz71_1 := bf BK563 1
   have hfz71_2 := bf BK563 2
   have hfz71_3 := bf BK563 3
   have hfz71_4 := bf BK563 4
   go_wp2
   go_ret
   exact ⟨er, bw HB⟩
  intro c63 c63b0 c63b1 H
  obtain rfl := oi H
  have hnb72 := NB563_0.out
  have hnc72 := NB0_563.out
  have hcz73_0 := bk wr BK563 0
  have hcz73_1 := bk wr BK563 1
  have hcz73_2 := bk wr BK563 2
  have hcz73_3 := bk wr BK563 3
  have hcz73_4 := bk wr BK563 4
  have hfz73_0 := bf BK563 0
  have hfz73_1 := bf BK563 1
  have hfz73_2 := bf BK563 2
  have hfz73_3 := bf BK563 3
  have hfz73_4 := bf BK563 4
  go_wp2
  go_ret
  exact ⟨er, bw HB⟩
 intro c62 c62b0 c62b1 H
 refine qE H ?_ ?_ <;> clear H
 ·as_aux_lemma =>
  intro c74b0 c74b1 H
  refine qE H ?_ ?_ <;> clear H
  ·as_aux_lemma =>
   intro c75b0 c75b1 H
   by_cases c76 : (l2_3.length : Int) = 0
   ·rw [if_pos c76] at H
    have c76b0 : ((l2_3.length : Int) == 0) = true := beq_iff_eq.mpr c76
    have c76b1 : ((l2_3.length : Int) != 0) = false := bne_eq_false_iff_eq.mpr c76
    clear c76
    refine be H ?_; clear H; intro t570 A77 H
    obtain rfl := oi H
    have hnb78 := NB563_0.out
    have hnc78 := NB0_563.out
    have hcz79_0 := bk wr BK563 0
    have hcz79_1 := bk wr BK563 1
    have hcz79_2 := bk wr BK563 2
    have hcz79_3 := bk wr BK563 3
    have hcz79_4 := bk wr BK563 4
    have hfz79_0 := bf BK563 0
    have hfz79_1 := bf BK563 1
    have hfz79_2 := bf BK563 2
    have hfz79_3 := bf BK563 3
    have hfz79_4 := bf BK563 4
    go_wp2_with (first | (go_at_call 144; refine (impl_prog_place.calls g0_ A0_0 c0_0 l0_0 A0_1 c0_1 l0_1 a1 a2_4 t570 _ (bp HP0_) (cc (Kd.C_below HR0_0.out HB.out)) HC0_0.out (cc (Kd.C_below HR0_1.out HB.out)) HC0_1.out A77.out).mono ?_; rintro e w80 ⟨rfl, hb⟩; replace HP0_ := bb HP0_ hb; replace BK563 := bb BK563 hb; replace HB := bs HB hb; clear hb))
    go_ret
    exact ⟨er, bw HB⟩
   rw [if_neg c76] at H
   have c76b0 : ((l2_3.length : Int) == 0) = false := beq_eq_false_iff_ne.mpr c76
   have c76b1 : ((l2_3.length : Int) != 0) = true := bne_iff_ne.mpr c76
   have c76b2 : ¬ (l2_3 = []) := fun h_ => c76 (by rw [h_]; rfl)
   obtain rfl := oi H
   have hnb81 := NB563_0.out
   have hnc81 := NB0_563.out
   have hcz82_0 := bk wr BK563 0
   have hcz82_1 := bk wr BK563 1
   have hcz82_2 := bk wr BK563 2
   have hcz82_3 := bk wr BK563 3
   have hcz82_4 := bk wr BK563 4
   have hfz82_0 := bf BK563 0
   have hfz82_1 := bf BK563 1
   have hfz82_2 := bf BK563 2
   have hfz82_3 := bf BK563 3
   have hfz82_4 := bf BK563 4
   go_wp2
   go_ret
   exact ⟨er, bw HB⟩
  intro c75 c75b0 c75b1 H
  obtain rfl := oi H
  have hnb83 := NB563_0.out
  have hnc83 := NB0_563.out
  have hcz84_0 := bk wr BK563 0
  have hcz84_1 := bk wr BK563 1
  have hcz84_2 := bk wr BK563 2
  have hcz84_3 := bk wr BK563 3
  have hcz84_4 := bk wr BK563 4
  have hfz84_0 := bf BK563 0
  have hfz84_1 := bf BK563 1
  have hfz84_2 := bf BK563 2
  have hfz84_3 := bf BK563 3
  have hfz84_4 := bf BK563 4
  go_wp2
  go_ret
  exact ⟨er, bw HB⟩
 intro c74 c74b0 c74b1 H
 refine qE H ?_ ?_ <;> clear H
 ·as_aux_lemma =>
  intro c85b0 c85b1 H
  refine qE H ?_ ?_ <;> clear H
  ·as_aux_lemma =>
   intro c86b0 c86b1 H
   by_cases c87 : (l2_3.length : Int) = 1
   ·rw [if_pos c87] at H
    have c87b0 : ((l2_3.length : Int) == 1) = true := beq_iff_eq.mpr c87
    have c87b1 : ((l2_3.length : Int) != 1) = false := bne_eq_false_iff_eq.mpr c87
    clear c87
    refine be H ?_; clear H; intro t571 A88 H
    obtain rfl := oi H
    have hnb89 := NB563_0.out
    have hnc89 := NB0_563.out
    have hcz90_0 := bk wr BK563 0
    have hcz90_1 := bk wr BK563 1
    have hcz90_2 := bk wr BK563 2
    have hcz90_3 := bk wr BK563 3
    have hcz90_4 := bk wr BK563 4
    have hfz90_0 := bf BK563 0
    have hfz90_1 := bf BK563 1
    have hfz90_2 := bf BK563 2
    have hfz90_3 := bf BK563 3
    have hfz90_4 := bf BK563 4
    go_wp2_with (first | (go_at_call 144; refine (impl_prog_place.calls g0_ A0_0 c0_0 l0_0 A0_1 c0_1 l0_1 a1 a2_4 t571 _ (bp HP0_) (cc (Kd.C_below HR0_0.out HB.out)) HC0_0.out (cc (Kd.C_below HR0_1.out HB.out)) HC0_1.out A88.out).mono ?_; rintro e w91 ⟨rfl, hb⟩; replace HP0_ := bb HP0_ hb; replace BK563 := bb BK563 hb; replace HB := bs HB hb; clear hb))
    go_ret
    exact ⟨er, bw HB⟩
   rw [if_neg c87] at H
   have c87b0 : ((l2_3.length : Int) == 1) = false := beq_eq_false_iff_ne.mpr c87
   have c87b1 : ((l2_3.length : Int) != 1) = true := bne_iff_ne.mpr c87
   obtain rfl := oi H
   have hnb92 := NB563_0.out
   have hnc92 := NB0_563.out
   have hcz93_0 := bk wr BK563 0
   have hcz93_1 := bk wr BK563 1
   have hcz93_2 := bk wr BK563 2
   have hcz93_3 := bk wr BK563 3
   have hcz93_4 := bk wr BK563 4
   have hfz93_0 := bf BK563 0
   have hfz93_1 := bf BK563 1
   have hfz93_2 := bf BK563 2
   have hfz93_3 := bf BK563 3
   have hfz93_4 := bf BK563 4
   go_wp2
   go_ret
   exact ⟨er, bw HB⟩
  intro c86 c86b0 c86b1 H
  obtain rfl := oi H
  have hnb94 := NB563_0.out
  have hnc94 := NB0_563.out
  have hcz95_0 := bk wr BK563 0
  have hcz95_1 := bk wr BK563 1
  have hcz95_2 := bk wr BK563 2
  have hcz95_3 := bk wr BK563 3
  have hcz95_4 := bk wr BK563 4
  have hfz95_0 := bf BK563 0
  have hfz95_1 := bf BK563 1
  have hfz95_2 := bf BK563 2
  have hfz95_3 := bf BK563 3
  have hfz95_4 := bf BK563 4
  go_wp2
  go_ret
  exact ⟨er, bw HB⟩
 intro c85 c85b0 c85b1 H
 refine qE H ?_ ?_ <;> clear H
 ·as_aux_lemma =>
  intro c96b0 c96b1 H
  refine be H ?_; clear H; intro t572 A97 H
  refine qT H ?_ ?_ <;> clear H <;> intro c98 H <;> subst c98
  ·as_aux_lemma =>
   refine iM H ?_; clear H; intro c99b0 H
   refine iM H ?_; clear H; intro c100b0 H
   obtain rfl := oi H
   have hnb101 := NB563_0.out
   have hnc101 := NB0_563.out
   have hcz102_0 := bk wr BK563 0
   have hcz102_1 := bk wr BK563 1
   have hcz102_2 := bk wr BK563 2
   have hcz102_3 := bk wr BK563 3
   have hcz102_4 := bk wr BK563 4
   have hfz102_0 := bf BK563 0
   have hfz102_1 := bf BK563 1
   have hfz102_2 := bf BK563 2
   have hfz102_3 := bf BK563 3
   have hfz102_4 := bf BK563 4
   try go_wp2
   replace HP0_ := am (blk_drew HP0_.out)
   replace BK563 := am (blk_drew BK563.out)
   replace HB := am (below_drew1 HB.out)
   have p573 : 0 ≤ (a2_4 : Int) := dt
   have q573 : a2_4 < (l0_0.length : Int) := dt
   obtain ⟨ad573, A573_2, c573_2, e573, hx573_0, hx573_1, hx573_2, hl573_2, hi573_2⟩ := at_T121 HR0_0.out a2_4 p573 q573
   have hw573_2 := hx573_2
   have hw573_1 := hx573_1
   have hw573_0 := hx573_0
   cases e573
   replace hx573_0 := cl HB hx573_0
   replace hx573_1 := cl HB hx573_1
   replace hx573_2 := cl HB hx573_2
   have HR573_2 := am hi573_2
   have HC573_2 := am hl573_2
   clear hi573_2 hl573_2
   replace p573 := eq_true p573
   replace q573 := eq_true q573
   refine start_ (n := 22) (S := fun w' => w'.cell? ⟨g0_, 0, none⟩ = some (.slice (some ad573) l0_0.length c0_0) ∧ w'.cell? ⟨g0_, 1, none⟩ = some (.slice A0_1 l0_1.length c0_1) ∧ w'.cell? ⟨gb563, 0, none⟩ = some (.slice A2_0 l2_0.length c2_0) ∧ w'.cell? ⟨gb563, 1, none⟩ = some (.int .i64 a2_1) ∧ w'.cell? ⟨gb563, 2, none⟩ = some (.int .i64 a2_2) ∧ w'.cell? ⟨gb563, 3, none⟩ = some (.slice A2_3 l2_3.length c2_3) ∧ w'.cell? ⟨gb563, 4, none⟩ = some (.int .i64 a2_4) ∧ w'.cell? (ad573.add ((a2_4).toNat * 3)) = some (.int .i64 ((rd_T121 l0_0 a2_4).f0)) ∧ w'.cell? ⟨(ad573.add ((a2_4).toNat * 3)).block, (ad573.add ((a2_4).toNat * 3)).off + 1, none⟩ = some (.int .i64 ((rd_T121 l0_0 a2_4).f1)) ∧ w'.cell? ⟨(ad573.add ((a2_4).toNat * 3)).block, (ad573.add ((a2_4).toNat * 3)).off + 2, none⟩ = some (.slice A573_2 ((rd_T121 l0_0 a2_4).f2).length c573_2)) (ds := []) (bv 22 0) (by kernel_rfl) rfl (by kernel_rfl) ⟨bc HP0_ 0, bc HP0_ 1, bc BK563 0, bc BK563 1, bc BK563 2, bc BK563 3, bc BK563 4, (cq HB hw573_0), (cq HB hw573_1), (cq HB hw573_2)⟩ (fun hHeld => ?_); refine with_tabW impl_prog_insRight.tab22 impl_prog_insRight.bits22 (fun HT_ HW_ => ?_)
   generalize wr.drew = w103 at HP0_ BK563 HB HR573_2 hx573_0 hx573_1 hx573_2 hHeld ⊢
   refine pu 0 140 22 1 HT_ ?_
   refine pu 1 141 22 3 HT_ ?_
   refine pu 2 142 22 7 HT_ ?_
   refine pu 4 144 22 23 HT_ ?_
   refine tk 3 143 22 31 HT_ HW_ hHeld ?_
   refine tk 5 145 22 63 HT_ HW_ hHeld ?_
   refine on 6 (some 146) 22 127 HT_ fun K hK => ?_
   refine goes_ Try.func95 (by kernel_rfl) rfl #[.agg #[.slice (some ad573) l0_0.length c0_0], .int .i64 a2_4] (by rfl) rfl rfl gl ?_
   with_reducible refine (impl_hasFunc.calls _ _ l0_0 a2_4 true _ ?side1 ?side2 A97.out).mono ?_
   (case side1 => exact cc (Kd.C_below HR0_0.out HB.out))
   (case side2 => exact HC0_0.out)
   rintro e w104 ⟨rfl, hb⟩
   refine ⟨_, rfl, ?_⟩
   replace HP0_ := bb HP0_ hb
   replace BK563 := bb BK563 hb
   replace HB := am (below_step (bw HB) hb)
   clear hb
   refine hK.out _ _ ⟨bc HP0_ 0, bc HP0_ 1, bc BK563 0, bc BK563 1, bc BK563 2, bc BK563 3, bc BK563 4, (cq HB hw573_0), (cq HB hw573_1), (cq HB hw573_2)⟩ (fun hHeld => ?_)
   clear hK K
   refine nm (some 146) ?_
   refine pu 7 147 22 255 HT_ ?_
   refine pu 8 148 22 511 HT_ ?_
   refine pu 9 149 22 1023 HT_ ?_
   refine pu 10 150 22 2047 HT_ ?_
   refine pu 11 151 22 4095 HT_ ?_
   refine pu 12 152 22 8191 HT_ ?_
   refine pu 14 154 22 24575 HT_ ?_
   refine tk 13 153 22 32767 HT_ HW_ hHeld ?_
   refine tk 15 155 22 65535 HT_ HW_ hHeld ?_
   refine pu 16 156 22 131071 HT_ ?_
   refine pu 17 157 22 262143 HT_ ?_
   refine tk 18 158 22 524287 HT_ HW_ hHeld ?_
   refine pu 19 159 22 1048575 HT_ ?_
   refine pu 20 160 22 2097151 HT_ ?_
   refine pu 21 6 22 4194303 HT_ ?_
   refine done_ (done_of HT_.out (by kernel_rfl)) ?_
   try go_wp2
   go_ret
   exact ⟨er, bw HB⟩
  obtain rfl := oi H
  have hnb105 := NB563_0.out
  have hnc105 := NB0_563.out
  have hcz106_0 := bk wr BK563 0
  have hcz106_1 := bk wr BK563 1
  have hcz106_2 := bk wr BK563 2
  have hcz106_3 := bk wr BK563 3
  have hcz106_4 := bk wr BK563 4
  have hfz106_0 := bf BK563 0
  have hfz106_1 := bf BK563 1
  have hfz106_2 := bf BK563 2
  have hfz106_3 := bf BK563 3
  have hfz106_4 := bf BK563 4
  try go_wp2
  replace HP0_ := am (blk_drew HP0_.out)
  replace BK563 := am (blk_drew BK563.out)
  replace HB := am (below_drew1 HB.out)
  refine start_ (n := 22) (S := fun w' => w'.cell? ⟨g0_, 0, none⟩ = some (.slice A0_0 l0_0.length c0_0) ∧ w'.cell? ⟨g0_, 1, none⟩ = some (.slice A0_1 l0_1.length c0_1) ∧ w'.cell? ⟨gb563, 0, none⟩ = some (.slice A2_0 l2_0.length c2_0) ∧ w'.cell? ⟨gb563, 1, none⟩ = some (.int .i64 a2_1) ∧ w'.cell? ⟨gb563, 2, none⟩ = some (.int .i64 a2_2) ∧ w'.cell? ⟨gb563, 3, none⟩ = some (.slice A2_3 l2_3.length c2_3) ∧ w'.cell? ⟨gb563, 4, none⟩ = some (.int .i64 a2_4)) (ds := []) (bv 22 0) (by kernel_rfl) rfl (by kernel_rfl) ⟨bc HP0_ 0, bc HP0_ 1, bc BK563 0, bc BK563 1, bc BK563 2, bc BK563 3, bc BK563 4⟩ (fun hHeld => ?_); refine with_tabW impl_prog_insRight.tab22 impl_prog_insRight.bits22 (fun HT_ HW_ => ?_)
  generalize wr.drew = w107 at HP0_ BK563 HB hHeld ⊢
  refine pu 0 140 22 1 HT_ ?_
  refine pu 1 141 22 3 HT_ ?_
  refine pu 2 142 22 7 HT_ ?_
  refine pu 4 144 22 23 HT_ ?_
  refine tk 3 143 22 31 HT_ HW_ hHeld ?_
  refine tk 5 145 22 63 HT_ HW_ hHeld ?_
  refine on 6 (some 146) 22 127 HT_ fun K hK => ?_
  refine goes_ Try.func95 (by kernel_rfl) rfl #[.agg #[.slice A0_0 l0_0.length c0_0], .int .i64 a2_4] (by rfl) rfl rfl gl ?_
  with_reducible refine (impl_hasFunc.calls _ _ l0_0 a2_4 false _ ?side1 ?side2 A97.out).mono ?_
  (case side1 => exact cc (Kd.C_below HR0_0.out HB.out))
  (case side2 => exact HC0_0.out)
  rintro e w108 ⟨rfl, hb⟩
  refine ⟨_, rfl, ?_⟩
  replace HP0_ := bb HP0_ hb
  replace BK563 := bb BK563 hb
  replace HB := am (below_step (bw HB) hb)
  clear hb
  refine hK.out _ _ ⟨bc HP0_ 0, bc HP0_ 1, bc BK563 0, bc BK563 1, bc BK563 2, bc BK563 3, bc BK563 4⟩ (fun hHeld => ?_)
  clear hK K
  refine nm (some 146) ?_
  refine pu 7 147 22 255 HT_ ?_
  refine pn 8 148 22 511 HT_ ?_
  refine pn 9 149 22 1023 HT_ ?_
  refine pn 10 150 22 2047 HT_ ?_
  refine pn 11 151 22 4095 HT_ ?_
  refine pn 12 152 22 8191 HT_ ?_
  refine pn 13 153 22 16383 HT_ ?_
  refine pn 14 154 22 32767 HT_ ?_
  refine pn 15 155 22 65535 HT_ ?_
  refine pn 16 156 22 131071 HT_ ?_
  refine pn 17 157 22 262143 HT_ ?_
  refine pn 18 158 22 524287 HT_ ?_
  refine pn 19 159 22 1048575 HT_ ?_
  refine pu 20 160 22 2097151 HT_ ?_
  refine pu 21 6 22 4194303 HT_ ?_
  refine done_ (done_of HT_.out (by kernel_rfl)) ?_
  try go_wp2
  go_ret
  exact ⟨er, bw HB⟩
 intro c96 c96b0 c96b1 H
 have HC109 := am H
 clear H
 have hnb110 := NB563_0.out
 have hnc110 := NB0_563.out
 have hcz111_0 := bk wr BK563 0
 have hcz111_1 := bk wr BK563 1
 have hcz111_2 := bk wr BK563 2
 have hcz111_3 := bk wr BK563 3
 have hcz111_4 := bk wr BK563 4
 have hfz111_0 := bf BK563 0
 have hfz111_1 := bf BK563 1
 have hfz111_2 := bf BK563 2
 have hfz111_3 := bf BK563 3
 have hfz111_4 := bf BK563 4
 go_upto_region 23 with (fail)
 go_cut [161] (fun v161 wc => ∃ (kq : Nat) (x161_108 : Bool), v161 = .bool x161_108 ∧ Aside0 (impl_prog_insRight.j2 kq (l2_3.length : Int) (a2_2 == (-1)) x161_108 l0_0 l0_1 l2_0 a2_1 a2_2 l2_3 a2_4 = some r) ∧ Aside0 (kq ≤ k2) ∧ Aside0 (wc.heap[g0_]? = some (.cells #[(.slice A0_0 l0_0.length c0_0), (.slice A0_1 l0_1.length c0_1)] 158 (0, 0))) ∧ Aside0 (wc.heap[gb563]? = some (.cells #[(.slice A2_0 l2_0.length c2_0), .int .i64 a2_1, .int .i64 a2_2, (.slice A2_3 l2_3.length c2_3), .int .i64 a2_4] 80 (0, 0))) ∧ Aside0 (Below w.heap.size w wc))
 case first => as_aux_lemma =>
  have H := HC109.out
  clear HC109
  refine qE H ?_ ?_ <;> clear H
  ·intro c112b0 c112b1 H
   (first | rw [c112b0] | (simp only [i64_w, i32_w]; rw [c112b0]) | skip)
   have H' := am H
   clear H
   have hnb113 := NB563_0.out
   have hnc113 := NB0_563.out
   have hcz114_0 := bk wr BK563 0
   have hcz114_1 := bk wr BK563 1
   have hcz114_2 := bk wr BK563 2
   have hcz114_3 := bk wr BK563 3
   have hcz114_4 := bk wr BK563 4
   have hfz114_0 := bf BK563 0
   have hfz114_1 := bf BK563 1
   have hfz114_2 := bf BK563 2
   have hfz114_3 := bf BK563 3
   have hfz114_4 := bf BK563 4
   go_wp2
   go_meet
   case rel => exact ⟨_, (true), dr, H', ⟨lk2 HJ3 HK2⟩, ⟨bp HP0_⟩, ⟨bp BK563⟩, ⟨bw HB⟩⟩
  intro c112 c112b0 c112b1 H
  (first | rw [c112b0] | (simp only [i64_w, i32_w]; rw [c112b0]) | skip)
  refine qE H ?_ ?_ <;> clear H
  ·intro c115b0 c115b1 H
   have H' := am H
   clear H
   have hnb116 := NB563_0.out
   have hnc116 := NB0_563.out
   have hcz117_0 := bk wr BK563 0
   have hcz117_1 := bk wr BK563 1
   have hcz117_2 := bk wr BK563 2
   have hcz117_3 := bk wr BK563 3
   have hcz117_4 := bk wr BK563 4
   have hfz117_0 := bf BK563 0
   have hfz117_1 := bf BK563 1
   have hfz117_2 := bf BK563 2
   have hfz117_3 := bf BK563 3
   have hfz117_4 := bf BK563 4
   go_wp2
   go_meet
   case rel => exact ⟨_, (true), dr, H', ⟨lk2 HJ3 HK2⟩, ⟨bp HP0_⟩, ⟨bp BK563⟩, ⟨bw HB⟩⟩
  intro c115 c115b0 c115b1 H
  have H' := am H
  clear H
  have hnb118 := NB563_0.out
  have hnc118 := NB0_563.out
  have hcz119_0 := bk wr BK563 0
  have hcz119_1 := bk wr BK563 1
  have hcz119_2 := bk wr BK563 2
  have hcz119_3 := bk wr BK563 3
  have hcz119_4 := bk wr BK563 4
  have hfz119_0 := bf BK563 0
  have hfz119_1 := bf BK563 1
  have hfz119_2 := bf BK563 2
  have hfz119_3 := bf BK563 3
  have hfz119_4 := bf BK563 4
  go_wp2
  go_meet
  case rel => exact ⟨_, ((a2_1 == 33)), dr, H', ⟨lk2 HJ3 HK2⟩, ⟨bp HP0_⟩, ⟨bp BK563⟩, ⟨bw HB⟩⟩
 clear HC109
 obtain ⟨kq, x161_108, rfl, HA, HJ108, HP0_, BK563, HB⟩ := hcut
 as_aux_lemma =>
 rcases kq with _ | kj108
 ·exact absurd HA.out (by simp [impl_prog_insRight.j2])
 have H := HA.out
 clear HA
 simp only [impl_prog_insRight.j2] at H
 refine qT H ?_ ?_ <;> clear H <;> intro c120 H <;> subst c120
 ·as_aux_lemma =>
  by_cases c121 : (a2_2 == (-1)) = true
  ·as_aux_lemma =>
   rw [if_pos c121] at H
   have c121b0 : (a2_2 == (-1)) = true := c121
   (try (have c121b1 : decide (a2_2 = (-1)) = true := by simpa using c121))
   (try (have c121b2 : (a2_2 == (-1)) = true := by simpa using c121))
   clear c121
   refine be H ?_; clear H; intro t574 A122 H
   by_cases c123 : (l2_3.length : Int) = t574
   ·as_aux_lemma =>
    rw [if_pos c123] at H
    have c123b0 : ((l2_3.length : Int) == t574) = true := beq_iff_eq.mpr c123
    have c123b1 : ((l2_3.length : Int) != t574) = false := bne_eq_false_iff_eq.mpr c123
    clear c123
    obtain rfl := oi H
    try go_wp2
    replace HP0_ := am (blk_drew HP0_.out)
    replace BK563 := am (blk_drew BK563.out)
    replace HB := am (below_drew1 HB.out)
    refine start_ (n := 19) (S := fun w' => w'.cell? ⟨g0_, 0, none⟩ = some (.slice A0_0 l0_0.length c0_0) ∧ w'.cell? ⟨g0_, 1, none⟩ = some (.slice A0_1 l0_1.length c0_1) ∧ w'.cell? ⟨gb563, 0, none⟩ = some (.slice A2_0 l2_0.length c2_0) ∧ w'.cell? ⟨gb563, 1, none⟩ = some (.int .i64 a2_1) ∧ w'.cell? ⟨gb563, 2, none⟩ = some (.int .i64 a2_2) ∧ w'.cell? ⟨gb563, 3, none⟩ = some (.slice A2_3 l2_3.length c2_3) ∧ w'.cell? ⟨gb563, 4, none⟩ = some (.int .i64 a2_4)) (ds := []) (bv 19 0) (by kernel_rfl) rfl (by kernel_rfl) ⟨bc HP0_ 0, bc HP0_ 1, bc BK563 0, bc BK563 1, bc BK563 2, bc BK563 3, bc BK563 4⟩ (fun hHeld => ?_); refine with_tabW impl_prog_insRight.tab24 impl_prog_insRight.bits24 (fun HT_ HW_ => ?_)
    generalize wc.drew = w124 at HP0_ BK563 HB hHeld ⊢
    refine pu 0 175 19 1 HT_ ?_
    refine pu 1 176 19 3 HT_ ?_
    refine pu 2 177 19 7 HT_ ?_
    refine pu 3 178 19 15 HT_ ?_
    refine pu 4 179 19 31 HT_ ?_
    refine pu 5 180 19 63 HT_ ?_
    refine pu 7 182 19 191 HT_ ?_
    refine tk 6 181 19 255 HT_ HW_ hHeld ?_
    refine tk 8 183 19 511 HT_ HW_ hHeld ?_
    refine pu 9 184 19 1023 HT_ ?_
    refine on 10 (some 185) 19 2047 HT_ fun K hK => ?_
    refine goes_ Try.func103 (by kernel_rfl) rfl #[.agg #[.slice A0_0 l0_0.length c0_0], .agg #[.int .i64 a2_1, .int .i64 0]] (by rfl) rfl rfl gl ?_
    with_reducible refine (impl_Takes.calls kj108 _ _ l0_0 a2_1 0 t574 _ ?side1 ?side2 A122.out).mono ?_
    (case side1 => exact cc (Kd.C_below HR0_0.out HB.out))
    (case side2 => exact HC0_0.out)
    rintro e w125 ⟨rfl, hb⟩
    refine ⟨_, rfl, ?_⟩
    replace HP0_ := bb HP0_ hb
    replace BK563 := bb BK563 hb
    replace HB := am (below_step (bw HB) hb)
    clear hb
    refine hK.out _ _ ⟨bc HP0_ 0, bc HP0_ 1, bc BK563 0, bc BK563 1, bc BK563 2, bc BK563 3, bc BK563 4⟩ (fun hHeld => ?_)
    clear hK K
    refine nm (some 185) ?_
    refine pu 11 186 19 4095 HT_ ?_
    refine pu 12 187 19 8191 HT_ ?_
    refine pu 13 188 19 16383 HT_ ?_
    refine pu 14 189 19 32767 HT_ ?_
    refine tk 15 190 19 65535 HT_ HW_ hHeld ?_
    refine pu 16 191 19 131071 HT_ ?_
    refine pu 17 192 19 262143 HT_ ?_
    refine pu 18 6 19 524287 HT_ ?_
    refine done_ (done_of HT_.out (by kernel_rfl)) ?_
    try go_wp2
    go_ret
    exact ⟨er, bw HB⟩
   rw [if_neg c123] at H
   have c123b0 : ((l2_3.length : Int) == t574) = false := beq_eq_false_iff_ne.mpr c123
   have c123b1 : ((l2_3.length : Int) != t574) = true := bne_iff_ne.mpr c123
   obtain rfl := oi H
   try go_wp2
   replace HP0_ := am (blk_drew HP0_.out)
   replace BK563 := am (blk_drew BK563.out)
   replace HB := am (below_drew1 HB.out)
   refine start_ (n := 19) (S := fun w' => w'.cell? ⟨g0_, 0, none⟩ = some (.slice A0_0 l0_0.length c0_0) ∧ w'.cell? ⟨g0_, 1, none⟩ = some (.slice A0_1 l0_1.length c0_1) ∧ w'.cell? ⟨gb563, 0, none⟩ = some (.slice A2_0 l2_0.length c2_0) ∧ w'.cell? ⟨gb563, 1, none⟩ = some (.int .i64 a2_1) ∧ w'.cell? ⟨gb563, 2, none⟩ = some (.int .i64 a2_2) ∧ w'.cell? ⟨gb563, 3, none⟩ = some (.slice A2_3 l2_3.length c2_3) ∧ w'.cell? ⟨gb563, 4, none⟩ = some (.int .i64 a2_4)) (ds := []) (bv 19 0) (by kernel_rfl) rfl (by kernel_rfl) ⟨bc HP0_ 0, bc HP0_ 1, bc BK563 0, bc BK563 1, bc BK563 2, bc BK563 3, bc BK563 4⟩ (fun hHeld => ?_); refine with_tabW impl_prog_insRight.tab24 impl_prog_insRight.bits24 (fun HT_ HW_ => ?_)
   generalize wc.drew = w126 at HP0_ BK563 HB hHeld ⊢
   refine pu 0 175 19 1 HT_ ?_
   refine pu 1 176 19 3 HT_ ?_
   refine pu 2 177 19 7 HT_ ?_
   refine pu 3 178 19 15 HT_ ?_
   refine pu 4 179 19 31 HT_ ?_
   refine pu 5 180 19 63 HT_ ?_
   refine pu 7 182 19 191 HT_ ?_
   refine tk 6 181 19 255 HT_ HW_ hHeld ?_
   refine tk 8 183 19 511 HT_ HW_ hHeld ?_
   refine pu 9 184 19 1023 HT_ ?_
   refine on 10 (some 185) 19 2047 HT_ fun K hK => ?_
   refine goes_ Try.func103 (by kernel_rfl) rfl #[.agg #[.slice A0_0 l0_0.length c0_0], .agg #[.int .i64 a2_1, .int .i64 0]] (by rfl) rfl rfl gl ?_
   with_reducible refine (impl_Takes.calls kj108 _ _ l0_0 a2_1 0 t574 _ ?side1 ?side2 A122.out).mono ?_
   (case side1 => exact cc (Kd.C_below HR0_0.out HB.out))
   (case side2 => exact HC0_0.out)
   rintro e w127 ⟨rfl, hb⟩
   refine ⟨_, rfl, ?_⟩
   replace HP0_ := bb HP0_ hb
   replace BK563 := bb BK563 hb
   replace HB := am (below_step (bw HB) hb)
   clear hb
   refine hK.out _ _ ⟨bc HP0_ 0, bc HP0_ 1, bc BK563 0, bc BK563 1, bc BK563 2, bc BK563 3, bc BK563 4⟩ (fun hHeld => ?_)
   clear hK K
   refine nm (some 185) ?_
   refine pu 11 186 19 4095 HT_ ?_
   refine pu 12 187 19 8191 HT_ ?_
   refine pu 13 188 19 16383 HT_ ?_
   refine pn 14 189 19 32767 HT_ ?_
   refine pn 15 190 19 65535 HT_ ?_
   refine pn 16 191 19 131071 HT_ ?_
   refine pu 17 192 19 262143 HT_ ?_
   refine pu 18 6 19 524287 HT_ ?_
   refine done_ (done_of HT_.out (by kernel_rfl)) ?_
   try go_wp2
   go_ret
   exact ⟨er, bw HB⟩
  rw [if_neg c121] at H
  have c121b0 : (a2_2 == (-1)) = false := by simpa using c121
  (try (have c121b1 : decide (a2_2 = (-1)) = false := by simpa using c121))
  (try (have c121b2 : (a2_2 == (-1)) = false := by simpa using c121))
  (try (have c121b3 : ¬ (a2_2 = (-1)) := by simpa using c121))
  clear c121
  obtain rfl := oi H
  try go_wp2
  replace HP0_ := am (blk_drew HP0_.out)
  replace BK563 := am (blk_drew BK563.out)
  replace HB := am (below_drew1 HB.out)
  refine start_ (n := 19) (S := fun w' => True) (ds := []) (bv 19 0) (by kernel_rfl) rfl (by kernel_rfl) trivial (fun hHeld => ?_); refine with_tabW impl_prog_insRight.tab24 impl_prog_insRight.bits24 (fun HT_ HW_ => ?_)
  generalize wc.drew = w128 at HP0_ BK563 HB hHeld ⊢
  refine pu 0 175 19 1 HT_ ?_
  refine pu 1 176 19 3 HT_ ?_
  refine pn 2 177 19 7 HT_ ?_
  refine pn 3 178 19 15 HT_ ?_
  refine pn 4 179 19 31 HT_ ?_
  refine pn 5 180 19 63 HT_ ?_
  refine pn 6 181 19 127 HT_ ?_
  refine pn 7 182 19 255 HT_ ?_
  refine pn 8 183 19 511 HT_ ?_
  refine pn 9 184 19 1023 HT_ ?_
  refine pn 10 185 19 2047 HT_ ?_
  refine pn 11 186 19 4095 HT_ ?_
  refine pu 12 187 19 8191 HT_ ?_
  refine pu 13 188 19 16383 HT_ ?_
  refine pn 14 189 19 32767 HT_ ?_
  refine pn 15 190 19 65535 HT_ ?_
  refine pn 16 191 19 131071 HT_ ?_
  refine pu 17 192 19 262143 HT_ ?_
  refine pu 18 6 19 524287 HT_ ?_
  refine done_ (done_of HT_.out (by kernel_rfl)) ?_
  try go_wp2
  go_ret
  exact ⟨er, bw HB⟩
 have HC129 := am H
 clear H
 go_upto_region 25 with (fail)
 go_cut [193] (fun v193 wc => ∃ (kq : Nat) (x193_128 : Bool), v193 = .bool x193_128 ∧ Aside0 (impl_prog_insRight.j3 kq (l2_3.length : Int) x193_128 l0_0 l0_1 l2_0 a2_1 a2_2 l2_3 a2_4 = some r) ∧ Aside0 (kq ≤ kj108) ∧ Aside0 (wc.heap[g0_]? = some (.cells #[(.slice A0_0 l0_0.length c0_0), (.slice A0_1 l0_1.length c0_1)] 158 (0, 0))) ∧ Aside0 (wc.heap[gb563]? = some (.cells #[(.slice A2_0 l2_0.length c2_0), .int .i64 a2_1, .int .i64 a2_2, (.slice A2_3 l2_3.length c2_3), .int .i64 a2_4] 80 (0, 0))) ∧ Aside0 (Below w.heap.size w wc))
 case first => as_aux_lemma =>
  have H := HC129.out
  clear HC129
  refine be H ?_; clear H; intro t575 A130 H
  refine qT H ?_ ?_ <;> clear H <;> intro c131 H <;> subst c131
  ·have H' := am H
   clear H
   have hnb132 := NB563_0.out
   have hnc132 := NB0_563.out
   have hcz133_0 := bk wc BK563 0
   have hcz133_1 := bk wc BK563 1
   have hcz133_2 := bk wc BK563 2
   have hcz133_3 := bk wc BK563 3
   have hcz133_4 := bk wc BK563 4
   have hfz133_0 := bf BK563 0
   have hfz133_1 := bf BK563 1
   have hfz133_2 := bf BK563 2
   have hfz133_3 := bf BK563 3
   have hfz133_4 := bf BK563 4
   go_wp2_with (first | ((with_reducible refine gate_callee (f := 145) rfl ?_); refine goesL_ (some 196) rfl rfl Try.func145 (by kernel_rfl) rfl #[.int .i64 a2_1] rfl gl ?_; (with_reducible refine (impl_isArith.calls a2_1 true _ A130.out).mono ?_); rintro e w' ⟨rfl, ⟨nd, rfl⟩⟩; refine ⟨_, rfl, ?_⟩))
   go_meet
   case rel => exact ⟨_, (true), dr, H', ⟨lk3 HJ3 HK2 HJ108⟩, ⟨bp HP0_⟩, ⟨bp BK563⟩, ⟨bw HB⟩⟩
  refine qE H ?_ ?_ <;> clear H
  ·intro c134b0 c134b1 H
   (first | rw [c134b0] | (simp only [i64_w, i32_w]; rw [c134b0]) | skip)
   have H' := am H
   clear H
   have hnb135 := NB563_0.out
   have hnc135 := NB0_563.out
   have hcz136_0 := bk wc BK563 0
   have hcz136_1 := bk wc BK563 1
   have hcz136_2 := bk wc BK563 2
   have hcz136_3 := bk wc BK563 3
   have hcz136_4 := bk wc BK563 4
   have hfz136_0 := bf BK563 0
   have hfz136_1 := bf BK563 1
   have hfz136_2 := bf BK563 2
   have hfz136_3 := bf BK563 3
   have hfz136_4 := bf BK563 4
   go_wp2_with (first | ((with_reducible refine gate_callee (f := 145) rfl ?_); refine goesL_ (some 196) rfl rfl Try.func145 (by kernel_rfl) rfl #[.int .i64 a2_1] rfl gl ?_; (with_reducible refine (impl_isArith.calls a2_1 false _ A130.out).mono ?_); rintro e w' ⟨rfl, ⟨nd, rfl⟩⟩; refine ⟨_, rfl, ?_⟩))
   go_meet
   case rel => exact ⟨_, (true), dr, H', ⟨lk3 HJ3 HK2 HJ108⟩, ⟨bp HP0_⟩, ⟨bp BK563⟩, ⟨bw HB⟩⟩
  intro c134 c134b0 c134b1 H
  (first | rw [c134b0] | (simp only [i64_w, i32_w]; rw [c134b0]) | skip)
  refine qE H ?_ ?_ <;> clear H
  ·intro c137b0 c137b1 H
   have H' := am H
   clear H
   have hnb138 := NB563_0.out
   have hnc138 := NB0_563.out
   have hcz139_0 := bk wc BK563 0
   have hcz139_1 := bk wc BK563 1
   have hcz139_2 := bk wc BK563 2
   have hcz139_3 := bk wc BK563 3
   have hcz139_4 := bk wc BK563 4
   have hfz139_0 := bf BK563 0
   have hfz139_1 := bf BK563 1
   have hfz139_2 := bf BK563 2
   have hfz139_3 := bf BK563 3
   have hfz139_4 := bf BK563 4
   go_wp2_with (first | ((with_reducible refine gate_callee (f := 145) rfl ?_); refine goesL_ (some 196) rfl rfl Try.func145 (by kernel_rfl) rfl #[.int .i64 a2_1] rfl gl ?_; (with_reducible refine (impl_isArith.calls a2_1 false _ A130.out).mono ?_); rintro e w' ⟨rfl, ⟨nd, rfl⟩⟩; refine ⟨_, rfl, ?_⟩))
   go_meet
   case rel => exact ⟨_, (true), dr, H', ⟨lk3 HJ3 HK2 HJ108⟩, ⟨bp HP0_⟩, ⟨bp BK563⟩, ⟨bw HB⟩⟩
  intro c137 c137b0 c137b1 H
  have H' := am H
  clear H
  have hnb140 := NB563_0.out
  have hnc140 := NB0_563.out
  have hcz141_0 := bk wc BK563 0
  have hcz141_1 := bk wc BK563 1
  have hcz141_2 := bk wc BK563 2
  have hcz141_3 := bk wc BK563 3
  have hcz141_4 := bk wc BK563 4
  have hfz141_0 := bf BK563 0
  have hfz141_1 := bf BK563 1
  have hfz141_2 := bf BK563 2
  have hfz141_3 := bf BK563 3
  have hfz141_4 := bf BK563 4
  go_wp2_with (first | ((with_reducible refine gate_callee (f := 145) rfl ?_); refine goesL_ (some 196) rfl rfl Try.func145 (by kernel_rfl) rfl #[.int .i64 a2_1] rfl gl ?_; (with_reducible refine (impl_isArith.calls a2_1 false _ A130.out).mono ?_); rintro e w' ⟨rfl, ⟨nd, rfl⟩⟩; refine ⟨_, rfl, ?_⟩))
  go_meet
  case rel => exact ⟨_, ((a2_1 == 37)), dr, H', ⟨lk3 HJ3 HK2 HJ108⟩, ⟨bp HP0_⟩, ⟨bp BK563⟩, ⟨bw HB⟩⟩
 clear HC129
 obtain ⟨kq, x193_128, rfl, HA, HJ128, HP0_, BK563, HB⟩ := hcut
 as_aux_lemma =>
 rcases kq with _ | kj128
 ·exact absurd HA.out (by simp [impl_prog_insRight.j3])
 have H := HA.out
 clear HA
 simp only [impl_prog_insRight.j3] at H
 refine qT H ?_ ?_ <;> clear H <;> intro c142 H <;> subst c142
 ·as_aux_lemma =>
  refine be H ?_; clear H; intro t576 A143 H
  by_cases c144 : (l2_3.length : Int) = t576
  ·as_aux_lemma =>
   rw [if_pos c144] at H
   have c144b0 : ((l2_3.length : Int) == t576) = true := beq_iff_eq.mpr c144
   have c144b1 : ((l2_3.length : Int) != t576) = false := bne_eq_false_iff_eq.mpr c144
   clear c144
   obtain rfl := oi H
   try go_wp2
   replace HP0_ := am (blk_drew HP0_.out)
   replace BK563 := am (blk_drew BK563.out)
   replace HB := am (below_drew1 HB.out)
   refine start_ (n := 16) (S := fun w' => w'.cell? ⟨g0_, 0, none⟩ = some (.slice A0_0 l0_0.length c0_0) ∧ w'.cell? ⟨g0_, 1, none⟩ = some (.slice A0_1 l0_1.length c0_1) ∧ w'.cell? ⟨gb563, 0, none⟩ = some (.slice A2_0 l2_0.length c2_0) ∧ w'.cell? ⟨gb563, 1, none⟩ = some (.int .i64 a2_1) ∧ w'.cell? ⟨gb563, 2, none⟩ = some (.int .i64 a2_2) ∧ w'.cell? ⟨gb563, 3, none⟩ = some (.slice A2_3 l2_3.length c2_3) ∧ w'.cell? ⟨gb563, 4, none⟩ = some (.int .i64 a2_4)) (ds := []) (bv 16 0) (by kernel_rfl) rfl (by kernel_rfl) ⟨bc HP0_ 0, bc HP0_ 1, bc BK563 0, bc BK563 1, bc BK563 2, bc BK563 3, bc BK563 4⟩ (fun hHeld => ?_); refine with_tabW impl_prog_insRight.tab26 impl_prog_insRight.bits26 (fun HT_ HW_ => ?_)
   generalize wc.drew = w145 at HP0_ BK563 HB hHeld ⊢
   refine pu 0 212 16 1 HT_ ?_
   refine pu 1 213 16 3 HT_ ?_
   refine pu 2 214 16 7 HT_ ?_
   refine pu 3 215 16 15 HT_ ?_
   refine pu 5 217 16 47 HT_ ?_
   refine tk 4 216 16 63 HT_ HW_ hHeld ?_
   refine tk 6 218 16 127 HT_ HW_ hHeld ?_
   refine pu 7 219 16 255 HT_ ?_
   refine on 8 (some 220) 16 511 HT_ fun K hK => ?_
   refine goes_ Try.func103 (by kernel_rfl) rfl #[.agg #[.slice A0_0 l0_0.length c0_0], .agg #[.int .i64 a2_1, .int .i64 0]] (by rfl) rfl rfl gl ?_
   with_reducible refine (impl_Takes.calls kj128 _ _ l0_0 a2_1 0 t576 _ ?side1 ?side2 A143.out).mono ?_
   (case side1 => exact cc (Kd.C_below HR0_0.out HB.out))
   (case side2 => exact HC0_0.out)
   rintro e w146 ⟨rfl, hb⟩
   refine ⟨_, rfl, ?_⟩
   replace HP0_ := bb HP0_ hb
   replace BK563 := bb BK563 hb
   replace HB := am (below_step (bw HB) hb)
   clear hb
   refine hK.out _ _ ⟨bc HP0_ 0, bc HP0_ 1, bc BK563 0, bc BK563 1, bc BK563 2, bc BK563 3, bc BK563 4⟩ (fun hHeld => ?_)
   clear hK K
   refine nm (some 220) ?_
   refine pu 9 221 16 1023 HT_ ?_
   refine pu 10 222 16 2047 HT_ ?_
   refine pu 11 223 16 4095 HT_ ?_
   refine tk 12 224 16 8191 HT_ HW_ hHeld ?_
   refine pu 13 225 16 16383 HT_ ?_
   refine pu 14 226 16 32767 HT_ ?_
   refine pu 15 6 16 65535 HT_ ?_
   refine done_ (done_of HT_.out (by kernel_rfl)) ?_
   try go_wp2
   go_ret
   exact ⟨er, bw HB⟩
  rw [if_neg c144] at H
  have c144b0 : ((l2_3.length : Int) == t576) = false := beq_eq_false_iff_ne.mpr c144
  have c144b1 : ((l2_3.length : Int) != t576) = true := bne_iff_ne.mpr c144
  obtain rfl := oi H
  try go_wp2
  replace HP0_ := am (blk_drew HP0_.out)
  replace BK563 := am (blk_drew BK563.out)
  replace HB := am (below_drew1 HB.out)
  refine start_ (n := 16) (S := fun w' => w'.cell? ⟨g0_, 0, none⟩ = some (.slice A0_0 l0_0.length c0_0) ∧ w'.cell? ⟨g0_, 1, none⟩ = some (.slice A0_1 l0_1.length c0_1) ∧ w'.cell? ⟨gb563, 0, none⟩ = some (.slice A2_0 l2_0.length c2_0) ∧ w'.cell? ⟨gb563, 1, none⟩ = some (.int .i64 a2_1) ∧ w'.cell? ⟨gb563, 2, none⟩ = some (.int .i64 a2_2) ∧ w'.cell? ⟨gb563, 3, none⟩ = some (.slice A2_3 l2_3.length c2_3) ∧ w'.cell? ⟨gb563, 4, none⟩ = some (.int .i64 a2_4)) (ds := []) (bv 16 0) (by kernel_rfl) rfl (by kernel_rfl) ⟨bc HP0_ 0, bc HP0_ 1, bc BK563 0, bc BK563 1, bc BK563 2, bc BK563 3, bc BK563 4⟩ (fun hHeld => ?_); refine with_tabW impl_prog_insRight.tab26 impl_prog_insRight.bits26 (fun HT_ HW_ => ?_)
  generalize wc.drew = w147 at HP0_ BK563 HB hHeld ⊢
  refine pu 0 212 16 1 HT_ ?_
  refine pu 1 213 16 3 HT_ ?_
  refine pu 2 214 16 7 HT_ ?_
  refine pu 3 215 16 15 HT_ ?_
  refine pu 5 217 16 47 HT_ ?_
  refine tk 4 216 16 63 HT_ HW_ hHeld ?_
  refine tk 6 218 16 127 HT_ HW_ hHeld ?_
  refine pu 7 219 16 255 HT_ ?_
  refine on 8 (some 220) 16 511 HT_ fun K hK => ?_
  refine goes_ Try.func103 (by kernel_rfl) rfl #[.agg #[.slice A0_0 l0_0.length c0_0], .agg #[.int .i64 a2_1, .int .i64 0]] (by rfl) rfl rfl gl ?_
  with_reducible refine (impl_Takes.calls kj128 _ _ l0_0 a2_1 0 t576 _ ?side1 ?side2 A143.out).mono ?_
  (case side1 => exact cc (Kd.C_below HR0_0.out HB.out))
  (case side2 => exact HC0_0.out)
  rintro e w148 ⟨rfl, hb⟩
  refine ⟨_, rfl, ?_⟩
  replace HP0_ := bb HP0_ hb
  replace BK563 := bb BK563 hb
  replace HB := am (below_step (bw HB) hb)
  clear hb
  refine hK.out _ _ ⟨bc HP0_ 0, bc HP0_ 1, bc BK563 0, bc BK563 1, bc BK563 2, bc BK563 3, bc BK563 4⟩ (fun hHeld => ?_)
  clear hK K
  refine nm (some 220) ?_
  refine pu 9 221 16 1023 HT_ ?_
  refine pu 10 222 16 2047 HT_ ?_
  refine pn 11 223 16 4095 HT_ ?_
  refine pn 12 224 16 8191 HT_ ?_
  refine pn 13 225 16 16383 HT_ ?_
  refine pu 14 226 16 32767 HT_ ?_
  refine pu 15 6 16 65535 HT_ ?_
  refine done_ (done_of HT_.out (by kernel_rfl)) ?_
  try go_wp2
  go_ret
  exact ⟨er, bw HB⟩
 obtain rfl := oi H
 go_wp2
 go_ret
 exact ⟨er, bw HB⟩

end Go.Proofs.Ytkhpiicijkhpkaa.QFnExactAsmBytes
