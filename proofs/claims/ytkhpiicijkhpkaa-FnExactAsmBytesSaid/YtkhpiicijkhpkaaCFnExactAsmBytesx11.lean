import Derived.Test.YtkhpiicijkhpkaaCFnExactAsmBytesx0
import Derived.Test.YtkhpiicijkhpkaaCFnExactAsmBytesx5
import Derived.Test.YtkhpiicijkhpkaaCFnExactAsmBytesx6
import Derived.Test.YtkhpiicijkhpkaaCFnExactAsmBytesx9
import Derived.Test.YtkhpiicijkhpkaaCFnExactAsmBytesx10
namespace Go.Proofs.Ytkhpiicijkhpkaa.QFnExactAsmBytes
open Go.RowKit Go.Proofs.YtkhpiicijkhpkaaW
open PrintWords PrintLast PrintMore PrintShort PrintIsh
attribute [local go_sem] max2_int min2_int max_two min_two max_three min_three max_four min_four
set_option linter.unusedVariables false
set_option maxHeartbeats 8000000
set_option maxRecDepth 100000
set_option linter.unusedSimpArgs false

mutual
def spec_l10Ins.j0 : Nat → Int → Bool → List (S121) → List (S84) → Int → Int → List (S82) → Int → Option (Bool)
 | 0, _, _, _, _, _, _, _, _ => none
 | k + 1, x1, x19, x256000, x257000, x257001, x257002, x257003, x257004 => if x19 = true then (some false) else (spec_l10Ins.l0 k x1 0 x256000 x257000 x257001 x257002 x257003 x257004)
def spec_l10Ins.l0 : Nat → Int → Int → List (S121) → List (S84) → Int → Int → List (S82) → Int → Option (Bool)
 | 0, _, _, _, _, _, _, _, _ => none
 | k + 1, x1, x7, x256000, x257000, x257001, x257002, x257003, x257004 => if x7 < (x257000.length : Int) then (if 0 ≤ x7 then ((spec_l10Loc.f ((rd_T84 x257000 x7).f0)).bind fun t258 => (if t258 = true then ((spec_l10Some.f ((rd_T84 x257000 x7).f1.f0) ((rd_T84 x257000 x7).f1.f1)).bind fun t260 => (if t260 = true then (spec_l10Ins.l0 k x1 (wrap64 (x7 + 1)) x256000 x257000 x257001 x257002 x257003 x257004) else (some false))) else (some false))) else (none)) else (spec_l10Ins.l1 k x1 0 x256000 x257000 x257001 x257002 x257003 x257004)
def spec_l10Ins.l1 : Nat → Int → Int → List (S121) → List (S84) → Int → Int → List (S82) → Int → Option (Bool)
 | 0, _, _, _, _, _, _, _, _ => none
 | k + 1, x1, x8, x256000, x257000, x257001, x257002, x257003, x257004 => if x8 < (x257003.length : Int) then (if 0 ≤ x8 then ((spec_l10Some.f ((rd_T82 x257003 x8).f0) ((rd_T82 x257003 x8).f1)).bind fun t262 => (if t262 = true then (spec_l10Ins.l1 k x1 (wrap64 (x8 + 1)) x256000 x257000 x257001 x257002 x257003 x257004) else (some false))) else (none)) else (if x257001 = 0 then (if x257002 = (-1) then (if (x257003.length : Int) = 0 then (some (x257004 == 0)) else (some false)) else (some false)) else (if x257001 = 1 then ((spec_l10Loc.f x257002).bind fun t263 => (if t263 = true then (if (x257003.length : Int) = 1 then (some (x257004 == 0)) else (some false)) else (some false))) else (if x257001 = 3 then (if x257002 = (-1) then (if (x257003.length : Int) = 1 then (if x257004 = 1 then (some true) else (some (x257004 == 2))) else (some false)) else (some false)) else ((spec_l03Binary.f x257001).bind fun t264 => (if t264 = true then (spec_l10Ins.j3 k x1 (x257003.length : Int) true x256000 x257000 x257001 x257002 x257003 x257004) else ((spec_l03Unary.f x257001).bind fun t265 => (if t265 = true then (spec_l10Ins.j3 k x1 (x257003.length : Int) true x256000 x257000 x257001 x257002 x257003 x257004) else (if x257001 = 34 then (spec_l10Ins.j3 k x1 (x257003.length : Int) true x256000 x257000 x257001 x257002 x257003 x257004) else (if x257001 = 35 then (spec_l10Ins.j3 k x1 (x257003.length : Int) true x256000 x257000 x257001 x257002 x257003 x257004) else (spec_l10Ins.j3 k x1 (x257003.length : Int) (x257001 == 37) x256000 x257000 x257001 x257002 x257003 x257004))))))))))
def spec_l10Ins.j3 : Nat → Int → Int → Bool → List (S121) → List (S84) → Int → Int → List (S82) → Int → Option (Bool)
 | 0, _, _, _, _, _, _, _, _, _ => none
 | k + 1, x1, x9, x115, x256000, x257000, x257001, x257002, x257003, x257004 => if x115 = true then (if x257002 = (-1) then ((spec_Takes.f k x256000 x257001 0).bind fun t266 => (if x9 = t266 then (some (x257004 == 0)) else (some false))) else ((spec_l10Loc.f x257002).bind fun t267 => (if t267 = true then ((spec_Takes.f k x256000 x257001 0).bind fun t268 => (if x9 = t268 then (some (x257004 == 0)) else (some false))) else (some false)))) else (if x257001 = 36 then (spec_l10Ins.j4 k x1 x9 true x256000 x257000 x257001 x257002 x257003 x257004) else (if x257001 = 38 then (spec_l10Ins.j4 k x1 x9 true x256000 x257000 x257001 x257002 x257003 x257004) else (spec_l10Ins.j4 k x1 x9 (x257001 == 33) x256000 x257000 x257001 x257002 x257003 x257004)))
def spec_l10Ins.j4 : Nat → Int → Int → Bool → List (S121) → List (S84) → Int → Int → List (S82) → Int → Option (Bool)
 | 0, _, _, _, _, _, _, _, _, _ => none
 | k + 1, x1, x9, x161, x256000, x257000, x257001, x257002, x257003, x257004 => if x161 = true then (if x257002 = (-1) then ((spec_Takes.f k x256000 x257001 0).bind fun t269 => (if x9 = t269 then (some (x257004 == 0)) else (some false))) else (some false)) else (if x257001 = 30 then (if x257002 = (-1) then ((spec_Takes.f k x256000 x257001 0).bind fun t270 => (if x9 = t270 then (if x257004 ≥ 0 then (if 0 ≤ x1 then (if x1 < (x256000.length : Int) then (some (decide (x257004 < (((rd_T121 x256000 x1).f2).length : Int)))) else (none)) else (none)) else (some false)) else (some false))) else (some false)) else (if x257001 = 31 then (if x257002 = (-1) then ((spec_Takes.f k x256000 x257001 0).bind fun t272 => (if x9 = t272 then (if x257004 ≥ 0 then (if 0 ≤ x1 then (if x1 < (x256000.length : Int) then (some (decide (x257004 < (((rd_T121 x256000 x1).f2).length : Int)))) else (none)) else (none)) else (some false)) else (some false))) else (some false)) else (if x257001 = 32 then (if x257002 = (-1) then (if x257004 ≥ 0 then (if x257004 < (x256000.length : Int) then (if 0 ≤ x257004 then (some (x9 == ((rd_T121 x256000 x257004).f0))) else (none)) else (some false)) else (some false)) else ((spec_l10Loc.f x257002).bind fun t275 => (if t275 = true then (if x257004 ≥ 0 then (if x257004 < (x256000.length : Int) then (if 0 ≤ x257004 then (some (x9 == ((rd_T121 x256000 x257004).f0))) else (none)) else (some false)) else (some false)) else (some false)))) else (some false))))
end
def spec_l10Ins.f (k : Nat) (l0_0 : List (S121)) (a1 : Int) (l2_0 : List (S84)) (a2_1 : Int) (a2_2 : Int) (l2_3 : List (S82)) (a2_4 : Int) : Option (Bool) := if (l2_0.length : Int) > 16 then (spec_l10Ins.j0 k a1 true l0_0 l2_0 a2_1 a2_2 l2_3 a2_4) else (spec_l10Ins.j0 k a1 (decide ((l2_3.length : Int) > 16)) l0_0 l2_0 a2_1 a2_2 l2_3 a2_4)
def spec_l10Ins.T25 : Bool × List (List Nat × List Nat) := (true, [([], []), ([0], [0]), ([1], [1]), ([2], [2]), ([3], [3]), ([3], [3]), ([3], [3]), ([6, 3], [3, 6]), ([7, 3], [3, 7]), ([5, 8, 3, 3], [3, 5, 8]), ([4, 9, 3], [3, 4, 9]), ([3, 10], [3, 10]), ([11, 9], [11]), ([12], [12]), ([13, 12], [12, 13]), ([14, 12], [12, 14]), ([12, 15], [12, 15]), ([16, 12], [16]), ([17], [17]), ([18, 17], [17, 18]), ([17], [17]), ([20, 17], [17, 20]), ([17], [17]), ([21, 22, 17], [17, 21, 22]), ([23, 17], [17, 23]), ([24, 17], [17, 24]), ([25, 17], [17, 25]), ([19, 26, 17], [17, 19, 26]), ([17, 27], [17, 27]), ([28, 17, 0, 1, 2, 3, 4, 5, 6, 7, 8, 9, 10, 11, 12, 13, 14, 15, 16, 17, 18, 19, 20, 21, 22, 23, 24, 25, 26, 27, 28], [28])])
def spec_l10Ins.B25 : List Nat := [0, 1, 3, 7, 15, 15, 15, 79, 207, 495, 1023, 2047, 4095, 8191, 16383, 32767, 65535, 131071, 262143, 524287, 262143, 1310719, 262143, 7602175, 15990783, 32767999, 66322431, 134217727, 268435455, 536870911]
theorem spec_l10Ins.tab25 : rtab .any (opsOf Try.f85 25) = spec_l10Ins.T25 := by kernel_rfl
theorem spec_l10Ins.bits25 : waitsOk spec_l10Ins.T25.2 spec_l10Ins.B25 = true := by kernel_rfl
theorem spec_l10Ins.calls (k : Nat) (A0_0 : Option Addr) (c0_0 : Nat) (l0_0 : List (S121)) (a1 : Int) (A2_0 : Option Addr) (c2_0 : Nat) (l2_0 : List (S84)) (a2_1 : Int) (a2_2 : Int) (A2_3 : Option Addr) (c2_3 : Nat) (l2_3 : List (S82)) (a2_4 : Int) (r : Bool) (w : World) (hr0_0 : Kd.C k121 w A0_0 l0_0.length l0_0) (hc0_0 : l0_0.length ≤ c0_0) (hr2_0 : Kd.C k84 w A2_0 l2_0.length l2_0) (hc2_0 : l2_0.length ≤ c2_0) (hr2_3 : Kd.C k82 w A2_3 l2_3.length l2_3) (hc2_3 : l2_3.length ≤ c2_3) (h : spec_l10Ins.f k l0_0 a1 l2_0 a2_1 a2_2 l2_3 a2_4 = some r) :
  Calls Try.prog 85 #[.agg #[.slice A0_0 l0_0.length c0_0], .int .i64 a1, .agg #[.slice A2_0 l2_0.length c2_0, .int .i64 a2_1, .int .i64 a2_2, .slice A2_3 l2_3.length c2_3, .int .i64 a2_4]] w fun e w' => e = .returned (.bool r) ∧ Below w.heap.size w w' := by
 have hu32 := Try.underlying32
 have hu80 := Try.underlying80
 have hu82 := Try.underlying82
 have hu153 := Try.underlying153
 have HR0_0 := am hr0_0
 have HC0_0 := am hc0_0
 clear hr0_0 hc0_0
 have HR2_0 := am hr2_0
 have HC2_0 := am hc2_0
 clear hr2_0 hc2_0
 have HR2_3 := am hr2_3
 have HC2_3 := am hc2_3
 clear hr2_3 hc2_3
 have HB := am (Below.refl w.heap.size w)
 have H : (if (l2_0.length : Int) > 16 then (spec_l10Ins.j0 k a1 true l0_0 l2_0 a2_1 a2_2 l2_3 a2_4) else (spec_l10Ins.j0 k a1 (decide ((l2_3.length : Int) > 16)) l0_0 l2_0 a2_1 a2_2 l2_3 a2_4)) = some r := h
 clear h
 have HC4 := am H
 clear H
 go_enter Try.func85, Try.ntmps85
 go_upto_region 1 with (first | ((with_reducible refine gate_dst (N := 3) rfl ?_); (try (refine gate_guard (by rfl) ?_; dsimp only)); refine box_event ?hg (N := 3) ?hd (cs := #[.slice A0_0 l0_0.length c0_0]) (t := 32) ?hr ?_; (case hd => rfl); (case hg => rfl); (case hr => exact gs); intro gb255 hg w5 hbox hb; have BK255 := am (hbox); have GW255 := gw hg HB; replace HB := bs HB hb; clear hb hbox hg) | ((with_reducible refine gate_dst (N := 5) rfl ?_); (try (refine gate_guard (by rfl) ?_; dsimp only)); refine box_event ?hg (N := 5) ?hd (cs := #[.slice A2_0 l2_0.length c2_0, .int .i64 a2_1, .int .i64 a2_2, .slice A2_3 l2_3.length c2_3, .int .i64 a2_4]) (t := 80) ?hr ?_; (case hd => rfl); (case hg => rfl); (case hr => exact gs); intro gb256 hg w6 hbox hb; have BK256 := am (hbox); have GW256 := gw hg HB; replace HB := bs HB hb; obtain ⟨NB255_256, NB256_255, BK255⟩ := b3 hg BK255 hb; clear hb hbox hg))
 (try simp only [Act.put, sa, sz, ss])
 go_cut [19] (fun v19 wc => ∃ (kq : Nat) (x19_3 : Bool), v19 = .bool x19_3 ∧ Aside0 (spec_l10Ins.j0 kq a1 x19_3 l0_0 l2_0 a2_1 a2_2 l2_3 a2_4 = some r) ∧ Aside0 (kq ≤ k) ∧ Aside0 (wc.heap[gb255]? = some (.cells #[(.slice A0_0 l0_0.length c0_0)] 32 (0, 0))) ∧ Aside0 (wc.heap[gb256]? = some (.cells #[(.slice A2_0 l2_0.length c2_0), .int .i64 a2_1, .int .i64 a2_2, (.slice A2_3 l2_3.length c2_3), .int .i64 a2_4] 80 (0, 0))) ∧ Aside0 (Below w.heap.size w wc))
 case first => as_aux_lemma =>
  have H := HC4.out
  clear HC4
  refine qG H ?_ ?_ <;> clear H <;> intro c7b0 H
  ·have c7 := of_decide_eq_true c7b0
   have c7b1 : decide (16 < l2_0.length) = true := decide_eq_true (by omega)
   clear c7
   (first | rw [c7b0] | (simp only [i64_w, i32_w]; rw [c7b0]) | skip)
   have H' := am H
   clear H
   have hnb8 := NB256_255.out
   have hnc8 := NB255_256.out
   have hcz9_0 := bk w6 BK256 0
   have hcz9_1 := bk w6 BK256 1
   have hcz9_2 := bk w6 BK256 2
   have hcz9_3 := bk w6 BK256 3
   have hcz9_4 := bk w6 BK256 4
   have hfz9_0 := bf BK256 0
   have hfz9_1 := bf BK256 1
   have hfz9_2 := bf BK256 2
   have hfz9_3 := bf BK256 3
   have hfz9_4 := bf BK256 4
   go_wp2
   go_meet
   case rel => exact ⟨_, (true), dr, H', ⟨lk0⟩, ⟨bp BK255⟩, ⟨bp BK256⟩, ⟨bw HB⟩⟩
  have c7 := of_decide_eq_false c7b0
  have c7b1 : decide (16 < l2_0.length) = false := decide_eq_false (by omega)
  clear c7
  (first | rw [c7b0] | (simp only [i64_w, i32_w]; rw [c7b0]) | skip)
  have H' := am H
  clear H
  have hnb10 := NB256_255.out
  have hnc10 := NB255_256.out
  have hcz11_0 := bk w6 BK256 0
  have hcz11_1 := bk w6 BK256 1
  have hcz11_2 := bk w6 BK256 2
  have hcz11_3 := bk w6 BK256 3
  have hcz11_4 := bk w6 BK256 4
  have hfz11_0 := bf BK256 0
  have hfz11_1 := bf BK256 1
  have hfz11_2 := bf BK256 2
  have hfz11_3 := bf BK256 3
  have hfz11_4 := bf BK256 4
  go_wp2
  go_meet
  case rel => exact ⟨_, (decide ((l2_3.length : Int) > 16)), dr, H', ⟨lk0⟩, ⟨bp BK255⟩, ⟨bp BK256⟩, ⟨bw HB⟩⟩
 clear HC4
 obtain ⟨kq, x19_3, rfl, HA, HJ3, BK255, BK256, HB⟩ := hcut
 as_aux_lemma =>
 rcases kq with _ | kj3
 ·exact absurd HA.out (by simp [spec_l10Ins.j0])
 have H := HA.out
 clear HA
 simp only [spec_l10Ins.j0] at H
 refine qT H ?_ ?_ <;> clear H <;> intro c12 H <;> subst c12
 ·obtain rfl := oi H
  go_wp2
  go_ret
  exact ⟨er, bw HB⟩
 have H' := am H
 clear H
 go_wp2
 go_loopg [7] kj3 (fun kq v7 w' => ∃ (x7_2 : Int), v7 = .int .i64 x7_2 ∧ Aside0 (spec_l10Ins.l0 kq a1 x7_2 l0_0 l2_0 a2_1 a2_2 l2_3 a2_4 = some r) ∧ Aside0 (kq ≤ kj3) ∧ Aside0 (w'.heap[gb255]? = some (.cells #[(.slice A0_0 l0_0.length c0_0)] 32 (0, 0))) ∧ Aside0 (w'.heap[gb256]? = some (.cells #[(.slice A2_0 l2_0.length c2_0), .int .i64 a2_1, .int .i64 a2_2, (.slice A2_3 l2_3.length c2_3), .int .i64 a2_4] 80 (0, 0))) ∧ Aside0 (Below w.heap.size w w'))
 case atStart => exact ⟨(0), dr, H', ⟨Nat.le_refl _⟩, ⟨bp BK255⟩, ⟨bp BK256⟩, ⟨bw HB⟩⟩
 clear H'
 obtain ⟨x7_2, rfl, HA, HK2, BK255, BK256, HB⟩ := hrel
 as_aux_lemma =>
 rcases gk with _ | k2
 ·exact absurd HA.out (by simp [spec_l10Ins.l0])
 have H := HA.out
 clear HA
 simp only [spec_l10Ins.l0] at H
 by_cases c13 : x7_2 < (l2_0.length : Int)
 ·as_aux_lemma =>
  rw [if_pos c13] at H
  have c13b0 := decide_eq_true c13
  clear c13
  refine iM H ?_; clear H; intro c14b0 H
  refine be H ?_; clear H; intro t258 A15 H
  refine qT H ?_ ?_ <;> clear H <;> intro c16 H <;> subst c16
  ·refine be H ?_; clear H; intro t260 A17 H
   have HC18 := am H
   clear H
   have hnb19 := NB256_255.out
   have hnc19 := NB255_256.out
   have hcz20_0 := bk wr BK256 0
   have hcz20_1 := bk wr BK256 1
   have hcz20_2 := bk wr BK256 2
   have hcz20_3 := bk wr BK256 3
   have hcz20_4 := bk wr BK256 4
   have hfz20_0 := bf BK256 0
   have hfz20_1 := bf BK256 1
   have hfz20_2 := bf BK256 2
   have hfz20_3 := bf BK256 3
   have hfz20_4 := bf BK256 4
   have p257 : 0 ≤ (x7_2 : Int) := dt
   have q257 : x7_2 < (l2_0.length : Int) := dt
   obtain ⟨ad257, e257, hx257_0, hx257_1, hx257_2⟩ := at_T84 HR2_0.out x7_2 p257 q257
   cases e257
   replace hx257_0 := cl HB hx257_0
   replace hx257_1 := cl HB hx257_1
   replace hx257_2 := cl HB hx257_2
   replace p257 := eq_true p257
   replace q257 := eq_true q257
   go_upto_if 44 with (first | ((with_reducible refine gate_callee (f := 129) rfl ?_); refine goesL_ (some 33) rfl rfl Try.func129 (by kernel_rfl) rfl #[.int .i64 ((rd_T84 l2_0 x7_2).f0)] rfl gl ?_; (with_reducible refine (spec_l10Loc.calls ((rd_T84 l2_0 x7_2).f0) true _ A15.out).mono ?_); rintro e w' ⟨rfl, ⟨nd, rfl⟩⟩; refine ⟨_, rfl, ?_⟩; have p259 : 0 ≤ (x7_2 : Int) := dt; have q259 : x7_2 < (l2_0.length : Int) := dt; obtain ⟨ad259, e259, hx259_0, hx259_1, hx259_2⟩ := at_T84 HR2_0.out x7_2 p259 q259; obtain rfl : ad257 = ad259 := (by injection e259); replace hx259_0 := cl HB hx259_0; replace hx259_1 := cl HB hx259_1; replace hx259_2 := cl HB hx259_2; replace p259 := eq_true p259; replace q259 := eq_true q259) | (go_at_call 130; (with_reducible refine (spec_l10Some.calls ((rd_T84 l2_0 x7_2).f1.f0) ((rd_T84 l2_0 x7_2).f1.f1) t260 _ A17.out).mono ?_); rintro e w21 ⟨rfl, hb⟩; replace BK255 := bb BK255 hb; replace BK256 := bb BK256 hb; replace HB := bs HB hb; clear hb))
   (try simp only [Act.put, sa, sz, ss])
   have H := HC18.out
   clear HC18
   refine qT H ?_ ?_ <;> clear H <;> intro c22 H <;> subst c22
   ·have H' := am H
    clear H
    go_wp2
    go_roundg k2
    case measure => have := HJ3.out; have := HK2.out; omega
    case rel => exact ⟨(wrap64 (x7_2 + 1)), dr, H', ⟨by have := HJ3.out; have := HK2.out; omega⟩, ⟨bp BK255⟩, ⟨bp BK256⟩, ⟨bw HB⟩⟩
   obtain rfl := oi H
   go_wp2
   go_ret
   exact ⟨er, bw HB⟩
  obtain rfl := oi H
  have hnb23 := NB256_255.out
  have hnc23 := NB255_256.out
  have hcz24_0 := bk wr BK256 0
  have hcz24_1 := bk wr BK256 1
  have hcz24_2 := bk wr BK256 2
  have hcz24_3 := bk wr BK256 3
  have hcz24_4 := bk wr BK256 4
  have hfz24_0 := bf BK256 0
  have hfz24_1 := bf BK256 1
  have hfz24_2 := bf BK256 2
  have hfz24_3 := bf BK256 3
  have hfz24_4 := bf BK256 4
  have p257 : 0 ≤ (x7_2 : Int) := dt
  have q257 : x7_2 < (l2_0.length : Int) := dt
  obtain ⟨ad257, e257, hx257_0, hx257_1, hx257_2⟩ := at_T84 HR2_0.out x7_2 p257 q257
  cases e257
  replace hx257_0 := cl HB hx257_0
  replace hx257_1 := cl HB hx257_1
  replace hx257_2 := cl HB hx257_2
  replace p257 := eq_true p257
  replace q257 := eq_true q257
  go_wp2_with (first | ((with_reducible refine gate_callee (f := 129) rfl ?_); refine goesL_ (some 33) rfl rfl Try.func129 (by kernel_rfl) rfl #[.int .i64 ((rd_T84 l2_0 x7_2).f0)] rfl gl ?_; (with_reducible refine (spec_l10Loc.calls ((rd_T84 l2_0 x7_2).f0) false _ A15.out).mono ?_); rintro e w' ⟨rfl, ⟨nd, rfl⟩⟩; refine ⟨_, rfl, ?_⟩))
  go_ret
  exact ⟨er, bw HB⟩
 rw [if_neg c13] at H
 have c13b0 := decide_eq_false c13
 clear c13
 have H' := am H
 clear H
 have hnb25 := NB256_255.out
 have hnc25 := NB255_256.out
 have hcz26_0 := bk wr BK256 0
 have hcz26_1 := bk wr BK256 1
 have hcz26_2 := bk wr BK256 2
 have hcz26_3 := bk wr BK256 3
 have hcz26_4 := bk wr BK256 4
 have hfz26_0 := bf BK256 0
 have hfz26_1 := bf BK256 1
 have hfz26_2 := bf BK256 2
 have hfz26_3 := bf BK256 3
 have hfz26_4 := bf BK256 4
 go_wp2
 go_loopg [8] k2 (fun kq v8 w' => ∃ (x8_3 : Int), v8 = .int .i64 x8_3 ∧ Aside0 (spec_l10Ins.l1 kq a1 x8_3 l0_0 l2_0 a2_1 a2_2 l2_3 a2_4 = some r) ∧ Aside0 (kq ≤ k2) ∧ Aside0 (w'.heap[gb255]? = some (.cells #[(.slice A0_0 l0_0.length c0_0)] 32 (0, 0))) ∧ Aside0 (w'.heap[gb256]? = some (.cells #[(.slice A2_0 l2_0.length c2_0), .int .i64 a2_1, .int .i64 a2_2, (.slice A2_3 l2_3.length c2_3), .int .i64 a2_4] 80 (0, 0))) ∧ Aside0 (Below w.heap.size w w'))
 case atStart => exact ⟨(0), dr, H', ⟨Nat.le_refl _⟩, ⟨bp BK255⟩, ⟨bp BK256⟩, ⟨bw HB⟩⟩
 clear H'
 obtain ⟨x8_3, rfl, HA, HK3, BK255, BK256, HB⟩ := hrel
 as_aux_lemma =>
 rcases gk with _ | k3
 ·exact absurd HA.out (by simp [spec_l10Ins.l1])
 have H := HA.out
 clear HA
 simp only [spec_l10Ins.l1] at H
 by_cases c27 : x8_3 < (l2_3.length : Int)
 ·as_aux_lemma =>
  rw [if_pos c27] at H
  have c27b0 := decide_eq_true c27
  clear c27
  (first | rw [c27b0] | (simp only [i64_w, i32_w]; rw [c27b0]) | skip)
  refine iM H ?_; clear H; intro c28b0 H
  refine be H ?_; clear H; intro t262 A29 H
  have HC30 := am H
  clear H
  have hnb31 := NB256_255.out
  have hnc31 := NB255_256.out
  have hcz32_0 := bk wr BK256 0
  have hcz32_1 := bk wr BK256 1
  have hcz32_2 := bk wr BK256 2
  have hcz32_3 := bk wr BK256 3
  have hcz32_4 := bk wr BK256 4
  have hfz32_0 := bf BK256 0
  have hfz32_1 := bf BK256 1
  have hfz32_2 := bf BK256 2
  have hfz32_3 := bf BK256 3
  have hfz32_4 := bf BK256 4
  have p261 : 0 ≤ (x8_3 : Int) := dt
  have q261 : x8_3 < (l2_3.length : Int) := dt
  obtain ⟨ad261, e261, hx261_0, hx261_1⟩ := at_T82 HR2_3.out x8_3 p261 q261
  cases e261
  replace hx261_0 := cl HB hx261_0
  replace hx261_1 := cl HB hx261_1
  replace p261 := eq_true p261
  replace q261 := eq_true q261
  go_upto_if 58 with (first | ((with_reducible refine gate_callee (f := 130) rfl ?_); refine goesL_ (some 57) rfl rfl Try.func130 (by kernel_rfl) rfl #[.agg #[.int .i64 ((rd_T82 l2_3 x8_3).f0), .int .i64 ((rd_T82 l2_3 x8_3).f1)]] rfl gl ?_; (with_reducible refine (spec_l10Some.calls ((rd_T82 l2_3 x8_3).f0) ((rd_T82 l2_3 x8_3).f1) t262 _ A29.out).mono ?_); rintro e w33 ⟨rfl, hb⟩; refine ⟨_, rfl, ?_⟩; replace BK255 := bb BK255 hb; replace BK256 := bb BK256 hb; replace HB := bs HB hb; clear hb))
  (try simp only [Act.put, sa, sz, ss])
  have H := HC30.out
  clear HC30
  refine qT H ?_ ?_ <;> clear H <;> intro c34 H <;> subst c34
  ·have H' := am H
   clear H
   go_wp2
   go_roundg k3
   case measure => have := HJ3.out; have := HK2.out; have := HK3.out; omega
   case rel => exact ⟨(wrap64 (x8_3 + 1)), dr, H', ⟨by have := HJ3.out; have := HK2.out; have := HK3.out; omega⟩, ⟨bp BK255⟩, ⟨bp BK256⟩, ⟨bw HB⟩⟩
  obtain rfl := oi H
  go_wp2
  go_ret
  exact ⟨er, bw HB⟩
 rw [if_neg c27] at H
 have c27b0 := decide_eq_false c27
 clear c27
 (first | rw [c27b0] | (simp only [i64_w, i32_w]; rw [c27b0]) | skip)
 refine qE H ?_ ?_ <;> clear H
 ·as_aux_lemma =>
  intro c35b0 c35b1 H
  (first | rw [c35b0] | (simp only [i64_w, i32_w]; rw [c35b0]) | skip)
  refine qE H ?_ ?_ <;> clear H
  ·as_aux_lemma =>
   intro c36b0 c36b1 H
   by_cases c37 : (l2_3.length : Int) = 0
   ·rw [if_pos c37] at H
    have c37b0 : ((l2_3.length : Int) == 0) = true := beq_iff_eq.mpr c37
    have c37b1 : ((l2_3.length : Int) != 0) = false := bne_eq_false_iff_eq.mpr c37
    clear c37
    obtain rfl := oi H
    have hnb38 := NB256_255.out
    have hnc38 := NB255_256.out
    have hcz39_0 := bk wr BK256 0
    have hcz39_1 := bk wr BK256 1
    have hcz39_2 := bk wr BK256 2
    have hcz39_3 := bk wr BK256 3
    have hcz39_4 := bk wr BK256 4
    have hfz39_0 := bf BK256 0
    have hfz39_1 := bf BK256 1
    have hfz39_2 := bf BK256 2
    have hfz39_3 := bf BK256 3
    have hfz39_4 := bf BK256 4
    go_wp2
    go_ret
    exact ⟨er, bw HB⟩
   rw [if_neg c37] at H
   have c37b0 : ((l2_3.length : Int) == 0) = false := beq_eq_false_iff_ne.mpr c37
   have c37b1 : ((l2_3.length : Int) != 0) = true := bne_iff_ne.mpr c37
   have c37b2 : ¬ (l2_3 = []) := fun h_ => c37 (by rw [h_]; rfl)
   obtain rfl := oi H
   have hnb40 := NB256_255.out
   have hnc40 := NB255_256.out
   have hcz41_0 := bk wr BK256 0
   have hcz41_1 := bk wr BK256 1
   have hcz41_2 := bk wr BK256 2
   have hcz41_3 := bk wr BK256 3
   have hcz41_4 := bk wr BK256 4
   have hfz41_0 := bf BK256 0
   have hfz41_1 := bf BK256 1
   have hfz41_2 := bf BK256 2
   have hfz41_3 := bf BK256 3
   have hfz41_4 := bf BK256 4
   go_wp2
   go_ret
   exact ⟨er, bw HB⟩
  intro c36 c36b0 c36b1 H
  obtain rfl := oi H
  have hnb42 := NB256_255.out
  have hnc42 := NB255_256.out
  have hcz43_0 := bk wr BK256 0
  have hcz43_1 := bk wr BK256 1
  have hcz43_2 := bk wr BK256 2
  have hcz43_3 := bk wr BK256 3
  have hcz43_4 := bk wr BK256 4
  have hfz43_0 := bf BK256 0
  have hfz43_1 := bf BK256 1
  have hfz43_2 := bf BK256 2
  have hfz43_3 := bf BK256 3
  have hfz43_4 := bf BK256 4
  go_wp2
  go_ret
  exact ⟨er, bw HB⟩
 intro c35 c35b0 c35b1 H
 (first | rw [c35b0] | (simp only [i64_w, i32_w]; rw [c35b0]) | skip)
 refine qE H ?_ ?_ <;> clear H
 ·as_aux_lemma =>
  intro c44b0 c44b1 H
  refine be H ?_; clear H; intro t263 A45 H
  refine qT H ?_ ?_ <;> clear H <;> intro c46 H <;> subst c46
  ·as_aux_lemma =>
   by_cases c47 : (l2_3.length : Int) = 1
   ·rw [if_pos c47] at H
    have c47b0 : ((l2_3.length : Int) == 1) = true := beq_iff_eq.mpr c47
    have c47b1 : ((l2_3.length : Int) != 1) = false := bne_eq_false_iff_eq.mpr c47
    clear c47
    obtain rfl := oi H
    have hnb48 := NB256_255.out
    have hnc48 := NB255_256.out
    have hcz49_0 := bk wr BK256 0
    have hcz49_1 := bk wr BK256 1
    have hcz49_2 := bk wr BK256 2
    have hcz49_3 := bk wr BK256 3
    have hcz49_4 := bk wr BK256 4
    have hfz49_0 := bf BK256 0
    have hfz49_1 := bf BK256 1
    have hfz49_2 := bf BK256 2
    have hfz49_3 := bf BK256 3
    have hfz49_4 := bf BK256 4
    go_wp2_with (first | ((with_reducible refine gate_callee (f := 129) rfl ?_); refine goesL_ (some 84) rfl rfl Try.func129 (by kernel_rfl) rfl #[.int .i64 a2_2] rfl gl ?_; (with_reducible refine (spec_l10Loc.calls a2_2 true _ A45.out).mono ?_); rintro e w' ⟨rfl, ⟨nd, rfl⟩⟩; refine ⟨_, rfl, ?_⟩))
    go_ret
    exact ⟨er, bw HB⟩
   rw [if_neg c47] at H
   have c47b0 : ((l2_3.length : Int) == 1) = false := beq_eq_false_iff_ne.mpr c47
   have c47b1 : ((l2_3.length : Int) != 1) = true := bne_iff_ne.mpr c47
   obtain rfl := oi H
   have hnb50 := NB256_255.out
   have hnc50 := NB255_256.out
   have hcz51_0 := bk wr BK256 0
   have hcz51_1 := bk wr BK256 1
   have hcz51_2 := bk wr BK256 2
   have hcz51_3 := bk wr BK256 3
   have hcz51_4 := bk wr BK256 4
   have hfz51_0 := bf BK256 0
   have hfz51_1 := bf BK256 1
   have hfz51_2 := bf BK256 2
   have hfz51_3 := bf BK256 3
   have hfz51_4 := bf BK256 4
   go_wp2_with (first | ((with_reducible refine gate_callee (f := 129) rfl ?_); refine goesL_ (some 84) rfl rfl Try.func129 (by kernel_rfl) rfl #[.int .i64 a2_2] rfl gl ?_; (with_reducible refine (spec_l10Loc.calls a2_2 true _ A45.out).mono ?_); rintro e w' ⟨rfl, ⟨nd, rfl⟩⟩; refine ⟨_, rfl, ?_⟩))
   go_ret
   exact ⟨er, bw HB⟩
  obtain rfl := oi H
  have hnb52 := NB256_255.out
  have hnc52 := NB255_256.out
  have hcz53_0 := bk wr BK256 0
  have hcz53_1 := bk wr BK256 1
  have hcz53_2 := bk wr BK256 2
  have hcz53_3 := bk wr BK256 3
  have hcz53_4 := bk wr BK256 4
  have hfz53_0 := bf BK256 0
  have hfz53_1 := bf BK256 1
  have hfz53_2 := bf BK256 2
  have hfz53_3 := bf BK256 3
  have hfz53_4 := bf BK256 4
  go_wp2_with (first | ((with_reducible refine gate_callee (f := 129) rfl ?_); refine goesL_ (some 84) rfl rfl Try.func129 (by kernel_rfl) rfl #[.int .i64 a2_2] rfl gl ?_; (with_reducible refine (spec_l10Loc.calls a2_2 false _ A45.out).mono ?_); rintro e w' ⟨rfl, ⟨nd, rfl⟩⟩; refine ⟨_, rfl, ?_⟩))
  go_ret
  exact ⟨er, bw HB⟩
 intro c44 c44b0 c44b1 H
 refine qE H ?_ ?_ <;> clear H
 ·as_aux_lemma =>
  intro c54b0 c54b1 H
  refine qE H ?_ ?_ <;> clear H
  ·as_aux_lemma =>
   intro c55b0 c55b1 H
   by_cases c56 : (l2_3.length : Int) = 1
   ·rw [if_pos c56] at H
    have c56b0 : ((l2_3.length : Int) == 1) = true := beq_iff_eq.mpr c56
    have c56b1 : ((l2_3.length : Int) != 1) = false := bne_eq_false_iff_eq.mpr c56
    clear c56
    refine qE H ?_ ?_ <;> clear H
    ·intro c57b0 c57b1 H
     obtain rfl := oi H
     have hnb58 := NB256_255.out
     have hnc58 := NB255_256.out
     have hcz59_0 := bk wr BK256 0
     have hcz59_1 := bk wr BK256 1
     have hcz59_2 := bk wr BK256 2
     have hcz59_3 := bk wr BK256 3
     have hcz59_4 := bk wr BK256 4
     have hfz59_0 := bf BK256 0
     have hfz59_1 := bf BK256 1
     have hfz59_2 := bf BK256 2
     have hfz59_3 := bf BK256 3
     have hfz59_4 := bf BK256 4
     go_wp2
     go_ret
     exact ⟨er, bw HB⟩
    intro c57 c57b0 c57b1 H
    obtain rfl := oi H
    have hnb60 := NB256_255.out
    have hnc60 := NB255_256.out
    have hcz61_0 := bk wr BK256 0
    have hcz61_1 := bk wr BK256 1
    have hcz61_2 := bk wr BK256 2
    have hcz61_3 := bk wr BK256 3
    have hcz61_4 := bk wr BK256 4
    have hfz61_0 := bf BK256 0
    have hfz61_1 := bf BK256 1
    have hfz61_2 := bf BK256 2
    have hfz61_3 := bf BK256 3
    have hfz61_4 := bf BK256 4
    go_wp2
    go_ret
    exact ⟨er, bw HB⟩
   rw [if_neg c56] at H
   have c56b0 : ((l2_3.length : Int) == 1) = false := beq_eq_false_iff_ne.mpr c56
   have c56b1 : ((l2_3.length : Int) != 1) = true := bne_iff_ne.mpr c56
   obtain rfl := oi H
   have hnb62 := NB256_255.out
   have hnc62 := NB255_256.out
   have hcz63_0 := bk wr BK256 0
   have hcz63_1 := bk wr BK256 1
   have hcz63_2 := bk wr BK256 2
   have hcz63_3 := bk wr BK256 3
   have hcz63_4 := bk wr BK256 4
   have hfz63_0 := bf BK256 0
   have hfz63_1 := bf BK256 1
   have hfz63_2 := bf BK256 2
   have hfz63_3 := bf BK256 3
   have hfz63_4 := bf BK256 4
   go_wp2
   go_ret
   exact ⟨er, bw HB⟩
  intro c55 c55b0 c55b1 H
  obtain rfl := oi H
  have hnb64 := NB256_255.out
  have hnc64 := NB255_256.out
  have hcz65_0 := bk wr BK256 0
  have hcz65_1 := bk wr BK256 1
  have hcz65_2 := bk wr BK256 2
  have hcz65_3 := bk wr BK256 3
  have hcz65_4 := bk wr BK256 4
  have hfz65_0 := bf BK256 0
  have hfz65_1 := bf BK256 1
  have hfz65_2 := bf BK256 2
  have hfz65_3 := bf BK256 3
  have hfz65_4 := bf BK256 4
  go_wp2
  go_ret
  exact ⟨er, bw HB⟩
 intro c54 c54b0 c54b1 H
 have HC66 := am H
 clear H
 have hnb67 := NB256_255.out
 have hnc67 := NB255_256.out
 have hcz68_0 := bk wr BK256 0
 have hcz68_1 := bk wr BK256 1
 have hcz68_2 := bk wr BK256 2
 have hcz68_3 := bk wr BK256 3
 have hcz68_4 := bk wr BK256 4
 have hfz68_0 := bf BK256 0
 have hfz68_1 := bf BK256 1
 have hfz68_2 := bf BK256 2
 have hfz68_3 := bf BK256 3
 have hfz68_4 := bf BK256 4
 go_upto_region 20 with (fail)
 go_cut [115] (fun v115 wc => ∃ (kq : Nat) (x115_65 : Bool), v115 = .bool x115_65 ∧ Aside0 (spec_l10Ins.j3 kq a1 (l2_3.length : Int) x115_65 l0_0 l2_0 a2_1 a2_2 l2_3 a2_4 = some r) ∧ Aside0 (kq ≤ k3) ∧ Aside0 (wc.heap[gb255]? = some (.cells #[(.slice A0_0 l0_0.length c0_0)] 32 (0, 0))) ∧ Aside0 (wc.heap[gb256]? = some (.cells #[(.slice A2_0 l2_0.length c2_0), .int .i64 a2_1, .int .i64 a2_2, (.slice A2_3 l2_3.length c2_3), .int .i64 a2_4] 80 (0, 0))) ∧ Aside0 (Below w.heap.size w wc))
 case first => as_aux_lemma =>
  have H := HC66.out
  clear HC66
  refine be H ?_; clear H; intro t264 A69 H
  refine qT H ?_ ?_ <;> clear H <;> intro c70 H <;> subst c70
  ·have H' := am H
   clear H
   have hnb71 := NB256_255.out
   have hnc71 := NB255_256.out
   have hcz72_0 := bk wr BK256 0
   have hcz72_1 := bk wr BK256 1
   have hcz72_2 := bk wr BK256 2
   have hcz72_3 := bk wr BK256 3
   have hcz72_4 := bk wr BK256 4
   have hfz72_0 := bf BK256 0
   have hfz72_1 := bf BK256 1
   have hfz72_2 := bf BK256 2
   have hfz72_3 := bf BK256 3
   have hfz72_4 := bf BK256 4
   go_wp2_with (first | ((with_reducible refine gate_callee (f := 131) rfl ?_); refine goesL_ (some 118) rfl rfl Try.func131 (by kernel_rfl) rfl #[.int .i64 a2_1] rfl gl ?_; (with_reducible refine (spec_l03Binary.calls a2_1 true _ A69.out).mono ?_); rintro e w' ⟨rfl, ⟨nd, rfl⟩⟩; refine ⟨_, rfl, ?_⟩))
   go_meet
   case rel => exact ⟨_, (true), dr, H', ⟨lk3 HJ3 HK2 HK3⟩, ⟨bp BK255⟩, ⟨bp BK256⟩, ⟨bw HB⟩⟩
  refine be H ?_; clear H; intro t265 A73 H
  refine qT H ?_ ?_ <;> clear H <;> intro c74 H <;> subst c74
  ·have H' := am H
   clear H
   have hnb75 := NB256_255.out
   have hnc75 := NB255_256.out
   have hcz76_0 := bk wr BK256 0
   have hcz76_1 := bk wr BK256 1
   have hcz76_2 := bk wr BK256 2
   have hcz76_3 := bk wr BK256 3
   have hcz76_4 := bk wr BK256 4
   have hfz76_0 := bf BK256 0
   have hfz76_1 := bf BK256 1
   have hfz76_2 := bf BK256 2
   have hfz76_3 := bf BK256 3
   have hfz76_4 := bf BK256 4
   go_wp2_with (first | ((with_reducible refine gate_callee (f := 131) rfl ?_); refine goesL_ (some 118) rfl rfl Try.func131 (by kernel_rfl) rfl #[.int .i64 a2_1] rfl gl ?_; (with_reducible refine (spec_l03Binary.calls a2_1 false _ A69.out).mono ?_); rintro e w' ⟨rfl, ⟨nd, rfl⟩⟩; refine ⟨_, rfl, ?_⟩) | (go_at_call 132; (with_reducible refine (spec_l03Unary.calls a2_1 true _ A73.out).mono ?_); rintro e w' ⟨rfl, ⟨nd, rfl⟩⟩))
   go_meet
   case rel => exact ⟨_, (true), dr, H', ⟨lk3 HJ3 HK2 HK3⟩, ⟨bp BK255⟩, ⟨bp BK256⟩, ⟨bw HB⟩⟩
  refine qE H ?_ ?_ <;> clear H
  ·intro c77b0 c77b1 H
   (first | rw [c77b0] | (simp only [i64_w, i32_w]; rw [c77b0]) | skip)
   have H' := am H
   clear H
   have hnb78 := NB256_255.out
   have hnc78 := NB255_256.out
   have hcz79_0 := bk wr BK256 0
   have hcz79_1 := bk wr BK256 1
   have hcz79_2 := bk wr BK256 2
   have hcz79_3 := bk wr BK256 3
   have hcz79_4 := bk wr BK256 4
   have hfz79_0 := bf BK256 0
   have hfz79_1 := bf BK256 1
   have hfz79_2 := bf BK256 2
   have hfz79_3 := bf BK256 3
   have hfz79_4 := bf BK256 4
   go_wp2_with (first | ((with_reducible refine gate_callee (f := 131) rfl ?_); refine goesL_ (some 118) rfl rfl Try.func131 (by kernel_rfl) rfl #[.int .i64 a2_1] rfl gl ?_; (with_reducible refine (spec_l03Binary.calls a2_1 false _ A69.out).mono ?_); rintro e w' ⟨rfl, ⟨nd, rfl⟩⟩; refine ⟨_, rfl, ?_⟩) | (go_at_call 132; (with_reducible refine (spec_l03Unary.calls a2_1 false _ A73.out).mono ?_); rintro e w' ⟨rfl, ⟨nd, rfl⟩⟩))
   go_meet
   case rel => exact ⟨_, (true), dr, H', ⟨lk3 HJ3 HK2 HK3⟩, ⟨bp BK255⟩, ⟨bp BK256⟩, ⟨bw HB⟩⟩
  intro c77 c77b0 c77b1 H
  (first | rw [c77b0] | (simp only [i64_w, i32_w]; rw [c77b0]) | skip)
  refine qE H ?_ ?_ <;> clear H
  ·intro c80b0 c80b1 H
   have H' := am H
   clear H
   have hnb81 := NB256_255.out
   have hnc81 := NB255_256.out
   have hcz82_0 := bk wr BK256 0
   have hcz82_1 := bk wr BK256 1
   have hcz82_2 := bk wr BK256 2
   have hcz82_3 := bk wr BK256 3
   have hcz82_4 := bk wr BK256 4
   have hfz82_0 := bf BK256 0
   have hfz82_1 := bf BK256 1
   have hfz82_2 := bf BK256 2
   have hfz82_3 := bf BK256 3
   have hfz82_4 := bf BK256 4
   go_wp2_with (first | ((with_reducible refine gate_callee (f := 131) rfl ?_); refine goesL_ (some 118) rfl rfl Try.func131 (by kernel_rfl) rfl #[.int .i64 a2_1] rfl gl ?_; (with_reducible refine (spec_l03Binary.calls a2_1 false _ A69.out).mono ?_); rintro e w' ⟨rfl, ⟨nd, rfl⟩⟩; refine ⟨_, rfl, ?_⟩) | (go_at_call 132; (with_reducible refine (spec_l03Unary.calls a2_1 false _ A73.out).mono ?_); rintro e w' ⟨rfl, ⟨nd, rfl⟩⟩))
   go_meet
   case rel => exact ⟨_, (true), dr, H', ⟨lk3 HJ3 HK2 HK3⟩, ⟨bp BK255⟩, ⟨bp BK256⟩, ⟨bw HB⟩⟩
  intro c80 c80b0 c80b1 H
  have H' := am H
  clear H
  have hnb83 := NB256_255.out
  have hnc83 := NB255_256.out
  have hcz84_0 := bk wr BK256 0
  have hcz84_1 := bk wr BK256 1
  have hcz84_2 := bk wr BK256 2
  have hcz84_3 := bk wr BK256 3
  have hcz84_4 := bk wr BK256 4
  have hfz84_0 := bf BK256 0
  have hfz84_1 := bf BK256 1
  have hfz84_2 := bf BK256 2
  have hfz84_3 := bf BK256 3
  have hfz84_4 := bf BK256 4
  go_wp2_with (first | ((with_reducible refine gate_callee (f := 131) rfl ?_); refine goesL_ (some 118) rfl rfl Try.func131 (by kernel_rfl) rfl #[.int .i64 a2_1] rfl gl ?_; (with_reducible refine (spec_l03Binary.calls a2_1 false _ A69.out).mono ?_); rintro e w' ⟨rfl, ⟨nd, rfl⟩⟩; refine ⟨_, rfl, ?_⟩) | (go_at_call 132; (with_reducible refine (spec_l03Unary.calls a2_1 false _ A73.out).mono ?_); rintro e w' ⟨rfl, ⟨nd, rfl⟩⟩))
  go_meet
  case rel => exact ⟨_, ((a2_1 == 37)), dr, H', ⟨lk3 HJ3 HK2 HK3⟩, ⟨bp BK255⟩, ⟨bp BK256⟩, ⟨bw HB⟩⟩
 clear HC66
 obtain ⟨kq, x115_65, rfl, HA, HJ65, BK255, BK256, HB⟩ := hcut
 as_aux_lemma =>
 rcases kq with _ | kj65
 ·exact absurd HA.out (by simp [spec_l10Ins.j3])
 have H := HA.out
 clear HA
 simp only [spec_l10Ins.j3] at H
 refine qT H ?_ ?_ <;> clear H <;> intro c85 H <;> subst c85
 ·as_aux_lemma =>
  refine qE H ?_ ?_ <;> clear H
  ·as_aux_lemma =>
   intro c86b0 c86b1 H
   refine be H ?_; clear H; intro t266 A87 H
   by_cases c88 : (l2_3.length : Int) = t266
   ·rw [if_pos c88] at H
    have c88b0 : ((l2_3.length : Int) == t266) = true := beq_iff_eq.mpr c88
    have c88b1 : ((l2_3.length : Int) != t266) = false := bne_eq_false_iff_eq.mpr c88
    clear c88
    obtain rfl := oi H
    have hnb89 := NB256_255.out
    have hnc89 := NB255_256.out
    have hcz90_0 := bk wc BK256 0
    have hcz90_1 := bk wc BK256 1
    have hcz90_2 := bk wc BK256 2
    have hcz90_3 := bk wc BK256 3
    have hcz90_4 := bk wc BK256 4
    have hfz90_0 := bf BK256 0
    have hfz90_1 := bf BK256 1
    have hfz90_2 := bf BK256 2
    have hfz90_3 := bf BK256 3
    have hfz90_4 := bf BK256 4
    have hcz91 := bK wc BK255
    have hfz91 := bF BK255
    go_wp2_with (first | (go_at_call 127; refine (spec_Takes.calls kj65 _ _ l0_0 a2_1 0 t266 _ (cc (Kd.C_below HR0_0.out HB.out)) HC0_0.out A87.out).mono ?_; rintro e w92 ⟨rfl, hb⟩; replace BK255 := bb BK255 hb; replace BK256 := bb BK256 hb; replace HB := bs HB hb; clear hb; have hcz93_0 := bk w92 BK256 0; have hcz93_1 := bk w92 BK256 1; have hcz93_2 := bk w92 BK256 2; have hcz93_3 := bk w92 BK256 3; have hcz93_4 := bk w92 BK256 4; have hfz93_0 := bf BK256 0; have hfz93_1 := bf BK256 1; have hfz93_2 := bf BK256 2; have hfz93_3 := bf BK256 3; have hfz93_4 := bf BK256 4))
    go_ret
    exact ⟨er, bw HB⟩
   rw [if_neg c88] at H
   have c88b0 : ((l2_3.length : Int) == t266) = false := beq_eq_false_iff_ne.mpr c88
   have c88b1 : ((l2_3.length : Int) != t266) = true := bne_iff_ne.mpr c88
   obtain rfl := oi H
   have hnb94 := NB256_255.out
   have hnc94 := NB255_256.out
   have hcz95_0 := bk wc BK256 0
   have hcz95_1 := bk wc BK256 1
   have hcz95_2 := bk wc BK256 2
   have hcz95_3 := bk wc BK256 3
   have hcz95_4 := bk wc BK256 4
   have hfz95_0 := bf BK256 0
   have hfz95_1 := bf BK256 1
   have hfz95_2 := bf BK256 2
   have hfz95_3 := bf BK256 3
   have hfz95_4 := bf BK256 4
   have hcz96 := bK wc BK255
   have hfz96 := bF BK255
   go_wp2_with (first | (go_at_call 127; refine (spec_Takes.calls kj65 _ _ l0_0 a2_1 0 t266 _ (cc (Kd.C_below HR0_0.out HB.out)) HC0_0.out A87.out).mono ?_; rintro e w97 ⟨rfl, hb⟩; replace BK255 := bb BK255 hb; replace BK256 := bb BK256 hb; replace HB := bs HB hb; clear hb))
   go_ret
   exact ⟨er, bw HB⟩
  intro c86 c86b0 c86b1 H
  refine be H ?_; clear H; intro t267 A98 H
  refine qT H ?_ ?_ <;> clear H <;> intro c99 H <;> subst c99
  ·as_aux_lemma =>
   refine be H ?_; clear H; intro t268 A100 H
   by_cases c101 : (l2_3.length : Int) = t268
   ·rw [if_pos c101] at H
    have c101b0 : ((l2_3.length : Int) == t268) = true := beq_iff_eq.mpr c101
    have c101b1 : ((l2_3.length : Int) != t268) = false := bne_eq_false_iff_eq.mpr c101
    clear c101
    obtain rfl := oi H
    have hnb102 := NB256_255.out
    have hnc102 := NB255_256.out
    have hcz103_0 := bk wc BK256 0
    have hcz103_1 := bk wc BK256 1
    have hcz103_2 := bk wc BK256 2
    have hcz103_3 := bk wc BK256 3
    have hcz103_4 := bk wc BK256 4
    have hfz103_0 := bf BK256 0
    have hfz103_1 := bf BK256 1
    have hfz103_2 := bf BK256 2
    have hfz103_3 := bf BK256 3
    have hfz103_4 := bf BK256 4
    go_wp2_with (first | (go_at_call 129; (with_reducible refine (spec_l10Loc.calls a2_2 true _ A98.out).mono ?_); rintro e w' ⟨rfl, ⟨nd, rfl⟩⟩; have hcz104 := bK wc BK255; have hfz104 := bF BK255) | (go_at_call 127; refine (spec_Takes.calls kj65 _ _ l0_0 a2_1 0 t268 _ (cc (Kd.C_below HR0_0.out (bw HB))) HC0_0.out A100.out).mono ?_; rintro e w105 ⟨rfl, hb⟩; replace BK255 := bb BK255 hb; replace BK256 := bb BK256 hb; replace HB := bs HB hb; clear hb; have hcz106_0 := bk w105 BK256 0; have hcz106_1 := bk w105 BK256 1; have hcz106_2 := bk w105 BK256 2; have hcz106_3 := bk w105 BK256 3; have hcz106_4 := bk w105 BK256 4; have hfz106_0 := bf BK256 0; have hfz106_1 := bf BK256 1; have hfz106_2 := bf BK256 2; have hfz106_3 := bf BK256 3; have hfz106_4 := bf BK256 4))
    go_ret
    exact ⟨er, bw HB⟩
   rw [if_neg c101] at H
   have c101b0 : ((l2_3.length : Int) == t268) = false := beq_eq_false_iff_ne.mpr c101
   have c101b1 : ((l2_3.length : Int) != t268) = true := bne_iff_ne.mpr c101
   obtain rfl := oi H
   have hnb107 := NB256_255.out
   have hnc107 := NB255_256.out
   have hcz108_0 := bk wc BK256 0
   have hcz108_1 := bk wc BK256 1
   have hcz108_2 := bk wc BK256 2
   have hcz108_3 := bk wc BK256 3
   have hcz108_4 := bk wc BK256 4
   have hfz108_0 := bf BK256 0
   have hfz108_1 := bf BK256 1
   have hfz108_2 := bf BK256 2
   have hfz108_3 := bf BK256 3
   have hfz108_4 := bf BK256 4
   go_wp2_with (first | (go_at_call 129; (with_reducible refine (spec_l10Loc.calls a2_2 true _ A98.out).mono ?_); rintro e w' ⟨rfl, ⟨nd, rfl⟩⟩; have hcz109 := bK wc BK255; have hfz109 := bF BK255) | (go_at_call 127; refine (spec_Takes.calls kj65 _ _ l0_0 a2_1 0 t268 _ (cc (Kd.C_below HR0_0.out (bw HB))) HC0_0.out A100.out).mono ?_; rintro e w110 ⟨rfl, hb⟩; replace BK255 := bb BK255 hb; replace BK256 := bb BK256 hb; replace HB := bs HB hb; clear hb))
   go_ret
   exact ⟨er, bw HB⟩
  obtain rfl := oi H
  have hnb111 := NB256_255.out
  have hnc111 := NB255_256.out
  have hcz112_0 := bk wc BK256 0
  have hcz112_1 := bk wc BK256 1
  have hcz112_2 := bk wc BK256 2
  have hcz112_3 := bk wc BK256 3
  have hcz112_4 := bk wc BK256 4
  have hfz112_0 := bf BK256 0
  have hfz112_1 := bf BK256 1
  have hfz112_2 := bf BK256 2
  have hfz112_3 := bf BK256 3
  have hfz112_4 := bf BK256 4
  go_wp2_with (first | (go_at_call 129; (with_reducible refine (spec_l10Loc.calls a2_2 false _ A98.out).mono ?_); rintro e w' ⟨rfl, ⟨nd, rfl⟩⟩))
  go_ret
  exact ⟨er, bw HB⟩
 have HC113 := am H
 clear H
 go_upto_region 22 with (fail)
 go_cut [161] (fun v161 wc => ∃ (kq : Nat) (x161_112 : Bool), v161 = .bool x161_112 ∧ Aside0 (spec_l10Ins.j4 kq a1 (l2_3.length : Int) x161_112 l0_0 l2_0 a2_1 a2_2 l2_3 a2_4 = some r) ∧ Aside0 (kq ≤ kj65) ∧ Aside0 (wc.heap[gb255]? = some (.cells #[(.slice A0_0 l0_0.length c0_0)] 32 (0, 0))) ∧ Aside0 (wc.heap[gb256]? = some (.cells #[(.slice A2_0 l2_0.length c2_0), .int .i64 a2_1, .int .i64 a2_2, (.slice A2_3 l2_3.length c2_3), .int .i64 a2_4] 80 (0, 0))) ∧ Aside0 (Below w.heap.size w wc))
 case first => as_aux_lemma =>
  have H := HC113.out
  clear HC113
  refine qE H ?_ ?_ <;> clear H
  ·intro c114b0 c114b1 H
   (first | rw [c114b0] | (simp only [i64_w, i32_w]; rw [c114b0]) | skip)
   have H' := am H
   clear H
   have hnb115 := NB256_255.out
   have hnc115 := NB255_256.out
   have hcz116_0 := bk wc BK256 0
   have hcz116_1 := bk wc BK256 1
   have hcz116_2 := bk wc BK256 2
   have hcz116_3 := bk wc BK256 3
   have hcz116_4 := bk wc BK256 4
   have hfz116_0 := bf BK256 0
   have hfz116_1 := bf BK256 1
   have hfz116_2 := bf BK256 2
   have hfz116_3 := bf BK256 3
   have hfz116_4 := bf BK256 4
   go_wp2
   go_meet
   case rel => exact ⟨_, (true), dr, H', ⟨lk4 HJ3 HK2 HK3 HJ65⟩, ⟨bp BK255⟩, ⟨bp BK256⟩, ⟨bw HB⟩⟩
  intro c114 c114b0 c114b1 H
  (first | rw [c114b0] | (simp only [i64_w, i32_w]; rw [c114b0]) | skip)
  refine qE H ?_ ?_ <;> clear H
  ·intro c117b0 c117b1 H
   have H' := am H
   clear H
   have hnb118 := NB256_255.out
   have hnc118 := NB255_256.out
   have hcz119_0 := bk wc BK256 0
   have hcz119_1 := bk wc BK256 1
   have hcz119_2 := bk wc BK256 2
   have hcz119_3 := bk wc BK256 3
   have hcz119_4 := bk wc BK256 4
   have hfz119_0 := bf BK256 0
   have hfz119_1 := bf BK256 1
   have hfz119_2 := bf BK256 2
   have hfz119_3 := bf BK256 3
   have hfz119_4 := bf BK256 4
   go_wp2
   go_meet
   case rel => exact ⟨_, (true), dr, H', ⟨lk4 HJ3 HK2 HK3 HJ65⟩, ⟨bp BK255⟩, ⟨bp BK256⟩, ⟨bw HB⟩⟩
  intro c117 c117b0 c117b1 H
  have H' := am H
  clear H
  have hnb120 := NB256_255.out
  have hnc120 := NB255_256.out
  have hcz121_0 := bk wc BK256 0
  have hcz121_1 := bk wc BK256 1
  have hcz121_2 := bk wc BK256 2
  have hcz121_3 := bk wc BK256 3
  have hcz121_4 := bk wc BK256 4
  have hfz121_0 := bf BK256 0
  have hfz121_1 := bf BK256 1
  have hfz121_2 := bf BK256 2
  have hfz121_3 := bf BK256 3
  have hfz121_4 := bf BK256 4
  go_wp2
  go_meet
  case rel => exact ⟨_, ((a2_1 == 33)), dr, H', ⟨lk4 HJ3 HK2 HK3 HJ65⟩, ⟨bp BK255⟩, ⟨bp BK256⟩, ⟨bw HB⟩⟩
 clear HC113
 obtain ⟨kq, x161_112, rfl, HA, HJ112, BK255, BK256, HB⟩ := hcut
 as_aux_lemma =>
 rcases kq with _ | kj112
 ·exact absurd HA.out (by simp [spec_l10Ins.j4])
 have H := HA.out
 clear HA
 simp only [spec_l10Ins.j4] at H
 refine qT H ?_ ?_ <;> clear H <;> intro c122 H <;> subst c122
 ·as_aux_lemma =>
  refine qE H ?_ ?_ <;> clear H
  ·as_aux_lemma =>
   intro c123b0 c123b1 H
   refine be H ?_; clear H; intro t269 A124 H
   by_cases c125 : (l2_3.length : Int) = t269
   ·rw [if_pos c125] at H
    have c125b0 : ((l2_3.length : Int) == t269) = true := beq_iff_eq.mpr c125
    have c125b1 : ((l2_3.length : Int) != t269) = false := bne_eq_false_iff_eq.mpr c125
    clear c125
    obtain rfl := oi H
    have hnb126 := NB256_255.out
    have hnc126 := NB255_256.out
    have hcz127_0 := bk wc BK256 0
    have hcz127_1 := bk wc BK256 1
    have hcz127_2 := bk wc BK256 2
    have hcz127_3 := bk wc BK256 3
    have hcz127_4 := bk wc BK256 4
    have hfz127_0 := bf BK256 0
    have hfz127_1 := bf BK256 1
    have hfz127_2 := bf BK256 2
    have hfz127_3 := bf BK256 3
    have hfz127_4 := bf BK256 4
    have hcz128 := bK wc BK255
    have hfz128 := bF BK255
    go_wp2_with (first | (go_at_call 127; refine (spec_Takes.calls kj112 _ _ l0_0 a2_1 0 t269 _ (cc (Kd.C_below HR0_0.out HB.out)) HC0_0.out A124.out).mono ?_; rintro e w129 ⟨rfl, hb⟩; replace BK255 := bb BK255 hb; replace BK256 := bb BK256 hb; replace HB := bs HB hb; clear hb; have hcz130_0 := bk w129 BK256 0; have hcz130_1 := bk w129 BK256 1; have hcz130_2 := bk w129 BK256 2; have hcz130_3 := bk w129 BK256 3; have hcz130_4 := bk w129 BK256 4; have hfz130_0 := bf BK256 0; have hfz130_1 := bf BK256 1; have hfz130_2 := bf BK256 2; have hfz130_3 := bf BK256 3; have hfz130_4 := bf BK256 4))
    go_ret
    exact ⟨er, bw HB⟩
   rw [if_neg c125] at H
   have c125b0 : ((l2_3.length : Int) == t269) = false := beq_eq_false_iff_ne.mpr c125
   have c125b1 : ((l2_3.length : Int) != t269) = true := bne_iff_ne.mpr c125
   obtain rfl := oi H
   have hnb131 := NB256_255.out
   have hnc131 := NB255_256.out
   have hcz132_0 := bk wc BK256 0
   have hcz132_1 := bk wc BK256 1
   have hcz132_2 := bk wc BK256 2
   have hcz132_3 := bk wc BK256 3
   have hcz132_4 := bk wc BK256 4
   have hfz132_0 := bf BK256 0
   have hfz132_1 := bf BK256 1
   have hfz132_2 := bf BK256 2
   have hfz132_3 := bf BK256 3
   have hfz132_4 := bf BK256 4
   have hcz133 := bK wc BK255
   have hfz133 := bF BK255
   go_wp2_with (first | (go_at_call 127; refine (spec_Takes.calls kj112 _ _ l0_0 a2_1 0 t269 _ (cc (Kd.C_below HR0_0.out HB.out)) HC0_0.out A124.out).mono ?_; rintro e w134 ⟨rfl, hb⟩; replace BK255 := bb BK255 hb; replace BK256 := bb BK256 hb; replace HB := bs HB hb; clear hb))
   go_ret
   exact ⟨er, bw HB⟩
  intro c123 c123b0 c123b1 H
  obtain rfl := oi H
  have hnb135 := NB256_255.out
  have hnc135 := NB255_256.out
  have hcz136_0 := bk wc BK256 0
  have hcz136_1 := bk wc BK256 1
  have hcz136_2 := bk wc BK256 2
  have hcz136_3 := bk wc BK256 3
  have hcz136_4 := bk wc BK256 4
  have hfz136_0 := bf BK256 0
  have hfz136_1 := bf BK256 1
  have hfz136_2 := bf BK256 2
  have hfz136_3 := bf BK256 3
  have hfz136_4 := bf BK256 4
  go_wp2
  go_ret
  exact ⟨er, bw HB⟩
 refine qE H ?_ ?_ <;> clear H
 ·as_aux_lemma =>
  intro c137b0 c137b1 H
  refine qE H ?_ ?_ <;> clear H
  ·as_aux_lemma =>
   intro c138b0 c138b1 H
   refine be H ?_; clear H; intro t270 A139 H
   by_cases c140 : (l2_3.length : Int) = t270
   ·as_aux_lemma =>
    rw [if_pos c140] at H
    have c140b0 : ((l2_3.length : Int) == t270) = true := beq_iff_eq.mpr c140
    have c140b1 : ((l2_3.length : Int) != t270) = false := bne_eq_false_iff_eq.mpr c140
    clear c140
    refine qL H ?_ ?_ <;> clear H <;> intro c141b0 H
    ·as_aux_lemma =>
     refine iM H ?_; clear H; intro c142b0 H
     refine iM H ?_; clear H; intro c143b0 H
     obtain rfl := oi H
     have hnb144 := NB256_255.out
     have hnc144 := NB255_256.out
     have hcz145_0 := bk wc BK256 0
     have hcz145_1 := bk wc BK256 1
     have hcz145_2 := bk wc BK256 2
     have hcz145_3 := bk wc BK256 3
     have hcz145_4 := bk wc BK256 4
     have hfz145_0 := bf BK256 0
     have hfz145_1 := bf BK256 1
     have hfz145_2 := bf BK256 2
     have hfz145_3 := bf BK256 3
     have hfz145_4 := bf BK256 4
     try go_wp2
     replace BK255 := am (blk_drew BK255.out)
     replace BK256 := am (blk_drew BK256.out)
     replace HB := am (below_drew1 HB.out)
     have p271 : 0 ≤ (a1 : Int) := dt
     have q271 : a1 < (l0_0.length : Int) := dt
     obtain ⟨ad271, A271_2, c271_2, e271, hx271_0, hx271_1, hx271_2, hl271_2, hi271_2⟩ := at_T121 HR0_0.out a1 p271 q271
     have hw271_2 := hx271_2
     have hw271_1 := hx271_1
     have hw271_0 := hx271_0
     cases e271
     replace hx271_0 := cl HB hx271_0
     replace hx271_1 := cl HB hx271_1
     replace hx271_2 := cl HB hx271_2
     have HR271_2 := am hi271_2
     have HC271_2 := am hl271_2
     clear hi271_2 hl271_2
     replace p271 := eq_true p271
     replace q271 := eq_true q271
     refine start_ (n := 30) (S := fun w' => w'.cell? ⟨gb256, 0, none⟩ = some (.slice A2_0 l2_0.length c2_0) ∧ w'.cell? ⟨gb256, 1, none⟩ = some (.int .i64 a2_1) ∧ w'.cell? ⟨gb256, 2, none⟩ = some (.int .i64 a2_2) ∧ w'.cell? ⟨gb256, 3, none⟩ = some (.slice A2_3 l2_3.length c2_3) ∧ w'.cell? ⟨gb256, 4, none⟩ = some (.int .i64 a2_4) ∧ w'.cell? ⟨gb255, 0, none⟩ = some (.slice (some ad271) l0_0.length c0_0) ∧ w'.cell? (ad271.add ((a1).toNat * 3)) = some (.int .i64 ((rd_T121 l0_0 a1).f0)) ∧ w'.cell? ⟨(ad271.add ((a1).toNat * 3)).block, (ad271.add ((a1).toNat * 3)).off + 1, none⟩ = some (.int .i64 ((rd_T121 l0_0 a1).f1)) ∧ w'.cell? ⟨(ad271.add ((a1).toNat * 3)).block, (ad271.add ((a1).toNat * 3)).off + 2, none⟩ = some (.slice A271_2 ((rd_T121 l0_0 a1).f2).length c271_2)) (ds := []) (bv 30 0) (by kernel_rfl) rfl (by kernel_rfl) ⟨bc BK256 0, bc BK256 1, bc BK256 2, bc BK256 3, bc BK256 4, bc BK255 0, (cq HB hw271_0), (cq HB hw271_1), (cq HB hw271_2)⟩ (fun hHeld => ?_); refine with_tabW spec_l10Ins.tab25 spec_l10Ins.bits25 (fun HT_ HW_ => ?_)
     generalize wc.drew = w146 at BK255 BK256 HB HR271_2 hx271_0 hx271_1 hx271_2 hHeld ⊢
     refine pu 0 201 30 1 HT_ ?_
     refine tk 1 202 30 3 HT_ HW_ hHeld ?_
     refine pu 2 203 30 7 HT_ ?_
     refine pu 3 204 30 15 HT_ ?_
     refine pu 4 205 30 31 HT_ ?_
     refine pu 6 207 30 95 HT_ ?_
     refine tk 5 206 30 127 HT_ HW_ hHeld ?_
     refine tk 7 208 30 255 HT_ HW_ hHeld ?_
     refine pu 8 209 30 511 HT_ ?_
     refine on 9 (some 210) 30 1023 HT_ fun K hK => ?_
     refine goes_ Try.func127 (by kernel_rfl) rfl #[.agg #[.slice (some ad271) l0_0.length c0_0], .agg #[.int .i64 a2_1, .int .i64 0]] (by rfl) rfl rfl gl ?_
     with_reducible refine (spec_Takes.calls kj112 _ _ l0_0 a2_1 0 t270 _ ?side1 ?side2 A139.out).mono ?_
     (case side1 => exact cc (Kd.C_below HR0_0.out HB.out))
     (case side2 => exact HC0_0.out)
     rintro e w147 ⟨rfl, hb⟩
     refine ⟨_, rfl, ?_⟩
     replace BK255 := bb BK255 hb
     replace BK256 := bb BK256 hb
     replace HB := am (below_step (bw HB) hb)
     clear hb
     refine hK.out _ _ ⟨bc BK256 0, bc BK256 1, bc BK256 2, bc BK256 3, bc BK256 4, bc BK255 0, (cq HB hw271_0), (cq HB hw271_1), (cq HB hw271_2)⟩ (fun hHeld => ?_)
     clear hK K
     refine nm (some 210) ?_
     refine pu 10 211 30 2047 HT_ ?_
     refine pu 11 212 30 4095 HT_ ?_
     refine pu 12 213 30 8191 HT_ ?_
     refine pu 13 214 30 16383 HT_ ?_
     refine tk 14 215 30 32767 HT_ HW_ hHeld ?_
     refine pu 15 216 30 65535 HT_ ?_
     refine pu 16 217 30 131071 HT_ ?_
     refine pu 17 218 30 262143 HT_ ?_
     refine pu 18 219 30 524287 HT_ ?_
     refine pu 20 221 30 1572863 HT_ ?_
     refine pu 22 223 30 5767167 HT_ ?_
     refine tk 19 220 30 6291455 HT_ HW_ hHeld ?_
     refine tk 21 222 30 8388607 HT_ HW_ hHeld ?_
     refine pu 23 224 30 16777215 HT_ ?_
     refine pu 24 225 30 33554431 HT_ ?_
     refine tk 25 226 30 67108863 HT_ HW_ hHeld ?_
     refine pu 26 227 30 134217727 HT_ ?_
     refine pu 27 228 30 268435455 HT_ ?_
     refine pu 28 229 30 536870911 HT_ ?_
     refine pu 29 6 30 1073741823 HT_ ?_
     refine done_ (done_of HT_.out (by kernel_rfl)) ?_
     try go_wp2
     go_ret
     exact ⟨er, bw HB⟩
    obtain rfl := oi H
    have hnb148 := NB256_255.out
    have hnc148 := NB255_256.out
    have hcz149_0 := bk wc BK256 0
    have hcz149_1 := bk wc BK256 1
    have hcz149_2 := bk wc BK256 2
    have hcz149_3 := bk wc BK256 3
    have hcz149_4 := bk wc BK256 4
    have hfz149_0 := bf BK256 0
    have hfz149_1 := bf BK256 1
    have hfz149_2 := bf BK256 2
    have hfz149_3 := bf BK256 3
    have hfz149_4 := bf BK256 4
    try go_wp2
    replace BK255 := am (blk_drew BK255.out)
    replace BK256 := am (blk_drew BK256.out)
    replace HB := am (below_drew1 HB.out)
    refine start_ (n := 30) (S := fun w' => w'.cell? ⟨gb256, 0, none⟩ = some (.slice A2_0 l2_0.length c2_0) ∧ w'.cell? ⟨gb256, 1, none⟩ = some (.int .i64 a2_1) ∧ w'.cell? ⟨gb256, 2, none⟩ = some (.int .i64 a2_2) ∧ w'.cell? ⟨gb256, 3, none⟩ = some (.slice A2_3 l2_3.length c2_3) ∧ w'.cell? ⟨gb256, 4, none⟩ = some (.int .i64 a2_4) ∧ w'.cell? ⟨gb255, 0, none⟩ = some (.slice A0_0 l0_0.length c0_0)) (ds := []) (bv 30 0) (by kernel_rfl) rfl (by kernel_rfl) ⟨bc BK256 0, bc BK256 1, bc BK256 2, bc BK256 3, bc BK256 4, bc BK255 0⟩ (fun hHeld => ?_); refine with_tabW spec_l10Ins.tab25 spec_l10Ins.bits25 (fun HT_ HW_ => ?_)
    generalize wc.drew = w150 at BK255 BK256 HB hHeld ⊢
    refine pu 0 201 30 1 HT_ ?_
    refine tk 1 202 30 3 HT_ HW_ hHeld ?_
    refine pu 2 203 30 7 HT_ ?_
    refine pu 3 204 30 15 HT_ ?_
    refine pu 4 205 30 31 HT_ ?_
    refine pu 6 207 30 95 HT_ ?_
    refine tk 5 206 30 127 HT_ HW_ hHeld ?_
    refine tk 7 208 30 255 HT_ HW_ hHeld ?_
    refine pu 8 209 30 511 HT_ ?_
    refine on 9 (some 210) 30 1023 HT_ fun K hK => ?_
    refine goes_ Try.func127 (by kernel_rfl) rfl #[.agg #[.slice A0_0 l0_0.length c0_0], .agg #[.int .i64 a2_1, .int .i64 0]] (by rfl) rfl rfl gl ?_
    with_reducible refine (spec_Takes.calls kj112 _ _ l0_0 a2_1 0 t270 _ ?side1 ?side2 A139.out).mono ?_
    (case side1 => exact cc (Kd.C_below HR0_0.out HB.out))
    (case side2 => exact HC0_0.out)
    rintro e w151 ⟨rfl, hb⟩
    refine ⟨_, rfl, ?_⟩
    replace BK255 := bb BK255 hb
    replace BK256 := bb BK256 hb
    replace HB := am (below_step (bw HB) hb)
    clear hb
    refine hK.out _ _ ⟨bc BK256 0, bc BK256 1, bc BK256 2, bc BK256 3, bc BK256 4, bc BK255 0⟩ (fun hHeld => ?_)
    clear hK K
    refine nm (some 210) ?_
    refine pu 10 211 30 2047 HT_ ?_
    refine pu 11 212 30 4095 HT_ ?_
    refine pu 12 213 30 8191 HT_ ?_
    refine pu 13 214 30 16383 HT_ ?_
    refine tk 14 215 30 32767 HT_ HW_ hHeld ?_
    refine pu 15 216 30 65535 HT_ ?_
    refine pu 16 217 30 131071 HT_ ?_
    refine pu 17 218 30 262143 HT_ ?_
    refine pn 18 219 30 524287 HT_ ?_
    refine pn 19 220 30 1048575 HT_ ?_
    refine pn 20 221 30 2097151 HT_ ?_
    refine pn 21 222 30 4194303 HT_ ?_
    refine pn 22 223 30 8388607 HT_ ?_
    refine pn 23 224 30 16777215 HT_ ?_
    refine pn 24 225 30 33554431 HT_ ?_
    refine pn 25 226 30 67108863 HT_ ?_
    refine pn 26 227 30 134217727 HT_ ?_
    refine pn 27 228 30 268435455 HT_ ?_
    refine pu 28 229 30 536870911 HT_ ?_
    refine pu 29 6 30 1073741823 HT_ ?_
    refine done_ (done_of HT_.out (by kernel_rfl)) ?_
    try go_wp2
    go_ret
    exact ⟨er, bw HB⟩
   rw [if_neg c140] at H
   have c140b0 : ((l2_3.length : Int) == t270) = false := beq_eq_false_iff_ne.mpr c140
   have c140b1 : ((l2_3.length : Int) != t270) = true := bne_iff_ne.mpr c140
   obtain rfl := oi H
   have hnb152 := NB256_255.out
   have hnc152 := NB255_256.out
   have hcz153_0 := bk wc BK256 0
   have hcz153_1 := bk wc BK256 1
   have hcz153_2 := bk wc BK256 2
   have hcz153_3 := bk wc BK256 3
   have hcz153_4 := bk wc BK256 4
   have hfz153_0 := bf BK256 0
   have hfz153_1 := bf BK256 1
   have hfz153_2 := bf BK256 2
   have hfz153_3 := bf BK256 3
   have hfz153_4 := bf BK256 4
   try go_wp2
   replace BK255 := am (blk_drew BK255.out)
   replace BK256 := am (blk_drew BK256.out)
   replace HB := am (below_drew1 HB.out)
   refine start_ (n := 30) (S := fun w' => w'.cell? ⟨gb256, 0, none⟩ = some (.slice A2_0 l2_0.length c2_0) ∧ w'.cell? ⟨gb256, 1, none⟩ = some (.int .i64 a2_1) ∧ w'.cell? ⟨gb256, 2, none⟩ = some (.int .i64 a2_2) ∧ w'.cell? ⟨gb256, 3, none⟩ = some (.slice A2_3 l2_3.length c2_3) ∧ w'.cell? ⟨gb256, 4, none⟩ = some (.int .i64 a2_4) ∧ w'.cell? ⟨gb255, 0, none⟩ = some (.slice A0_0 l0_0.length c0_0)) (ds := []) (bv 30 0) (by kernel_rfl) rfl (by kernel_rfl) ⟨bc BK256 0, bc BK256 1, bc BK256 2, bc BK256 3, bc BK256 4, bc BK255 0⟩ (fun hHeld => ?_); refine with_tabW spec_l10Ins.tab25 spec_l10Ins.bits25 (fun HT_ HW_ => ?_)
   generalize wc.drew = w154 at BK255 BK256 HB hHeld ⊢
   refine pu 0 201 30 1 HT_ ?_
   refine tk 1 202 30 3 HT_ HW_ hHeld ?_
   refine pu 2 203 30 7 HT_ ?_
   refine pu 3 204 30 15 HT_ ?_
   refine pu 4 205 30 31 HT_ ?_
   refine pu 6 207 30 95 HT_ ?_
   refine tk 5 206 30 127 HT_ HW_ hHeld ?_
   refine tk 7 208 30 255 HT_ HW_ hHeld ?_
   refine pu 8 209 30 511 HT_ ?_
   refine on 9 (some 210) 30 1023 HT_ fun K hK => ?_
   refine goes_ Try.func127 (by kernel_rfl) rfl #[.agg #[.slice A0_0 l0_0.length c0_0], .agg #[.int .i64 a2_1, .int .i64 0]] (by rfl) rfl rfl gl ?_
   with_reducible refine (spec_Takes.calls kj112 _ _ l0_0 a2_1 0 t270 _ ?side1 ?side2 A139.out).mono ?_
   (case side1 => exact cc (Kd.C_below HR0_0.out HB.out))
   (case side2 => exact HC0_0.out)
   rintro e w155 ⟨rfl, hb⟩
   refine ⟨_, rfl, ?_⟩
   replace BK255 := bb BK255 hb
   replace BK256 := bb BK256 hb
   replace HB := am (below_step (bw HB) hb)
   clear hb
   refine hK.out _ _ ⟨bc BK256 0, bc BK256 1, bc BK256 2, bc BK256 3, bc BK256 4, bc BK255 0⟩ (fun hHeld => ?_)
   clear hK K
   refine nm (some 210) ?_
   refine pu 10 211 30 2047 HT_ ?_
   refine pu 11 212 30 4095 HT_ ?_
   refine pu 12 213 30 8191 HT_ ?_
   refine pn 13 214 30 16383 HT_ ?_
   refine pn 14 215 30 32767 HT_ ?_
   refine pn 15 216 30 65535 HT_ ?_
   refine pu 16 217 30 131071 HT_ ?_
   refine pu 17 218 30 262143 HT_ ?_
   refine pn 18 219 30 524287 HT_ ?_
   refine pn 19 220 30 1048575 HT_ ?_
   refine pn 20 221 30 2097151 HT_ ?_
   refine pn 21 222 30 4194303 HT_ ?_
   refine pn 22 223 30 8388607 HT_ ?_
   refine pn 23 224 30 16777215 HT_ ?_
   refine pn 24 225 30 33554431 HT_ ?_
   refine pn 25 226 30 67108863 HT_ ?_
   refine pn 26 227 30 134217727 HT_ ?_
   refine pn 27 228 30 268435455 HT_ ?_
   refine pu 28 229 30 536870911 HT_ ?_
   refine pu 29 6 30 1073741823 HT_ ?_
   refine done_ (done_of HT_.out (by kernel_rfl)) ?_
   try go_wp2
   go_ret
   exact ⟨er, bw HB⟩
  intro c138 c138b0 c138b1 H
  obtain rfl := oi H
  have hnb156 := NB256_255.out
  have hnc156 := NB255_256.out
  have hcz157_0 := bk wc BK256 0
  have hcz157_1 := bk wc BK256 1
  have hcz157_2 := bk wc BK256 2
  have hcz157_3 := bk wc BK256 3
  have hcz157_4 := bk wc BK256 4
  have hfz157_0 := bf BK256 0
  have hfz157_1 := bf BK256 1
  have hfz157_2 := bf BK256 2
  have hfz157_3 := bf BK256 3
  have hfz157_4 := bf BK256 4
  try go_wp2
  replace BK255 := am (blk_drew BK255.out)
  replace BK256 := am (blk_drew BK256.out)
  replace HB := am (below_drew1 HB.out)
  refine start_ (n := 30) (S := fun w' => w'.cell? ⟨gb256, 0, none⟩ = some (.slice A2_0 l2_0.length c2_0) ∧ w'.cell? ⟨gb256, 1, none⟩ = some (.int .i64 a2_1) ∧ w'.cell? ⟨gb256, 2, none⟩ = some (.int .i64 a2_2) ∧ w'.cell? ⟨gb256, 3, none⟩ = some (.slice A2_3 l2_3.length c2_3) ∧ w'.cell? ⟨gb256, 4, none⟩ = some (.int .i64 a2_4)) (ds := []) (bv 30 0) (by kernel_rfl) rfl (by kernel_rfl) ⟨bc BK256 0, bc BK256 1, bc BK256 2, bc BK256 3, bc BK256 4⟩ (fun hHeld => ?_); refine with_tabW spec_l10Ins.tab25 spec_l10Ins.bits25 (fun HT_ HW_ => ?_)
  generalize wc.drew = w158 at BK255 BK256 HB hHeld ⊢
  refine pu 0 201 30 1 HT_ ?_
  refine tk 1 202 30 3 HT_ HW_ hHeld ?_
  refine pu 2 203 30 7 HT_ ?_
  refine pu 3 204 30 15 HT_ ?_
  refine pn 4 205 30 31 HT_ ?_
  refine pn 5 206 30 63 HT_ ?_
  refine pn 6 207 30 127 HT_ ?_
  refine pn 7 208 30 255 HT_ ?_
  refine pn 8 209 30 511 HT_ ?_
  refine pn 9 210 30 1023 HT_ ?_
  refine pn 10 211 30 2047 HT_ ?_
  refine pu 11 212 30 4095 HT_ ?_
  refine pu 12 213 30 8191 HT_ ?_
  refine pn 13 214 30 16383 HT_ ?_
  refine pn 14 215 30 32767 HT_ ?_
  refine pn 15 216 30 65535 HT_ ?_
  refine pu 16 217 30 131071 HT_ ?_
  refine pu 17 218 30 262143 HT_ ?_
  refine pn 18 219 30 524287 HT_ ?_
  refine pn 19 220 30 1048575 HT_ ?_
  refine pn 20 221 30 2097151 HT_ ?_
  refine pn 21 222 30 4194303 HT_ ?_
  refine pn 22 223 30 8388607 HT_ ?_
  refine pn 23 224 30 16777215 HT_ ?_
  refine pn 24 225 30 33554431 HT_ ?_
  refine pn 25 226 30 67108863 HT_ ?_
  refine pn 26 227 30 134217727 HT_ ?_
  refine pn 27 228 30 268435455 HT_ ?_
  refine pu 28 229 30 536870911 HT_ ?_
  refine pu 29 6 30 1073741823 HT_ ?_
  refine done_ (done_of HT_.out (by kernel_rfl)) ?_
  try go_wp2
  go_ret
  exact ⟨er, bw HB⟩
 intro c137 c137b0 c137b1 H
 refine qE H ?_ ?_ <;> clear H
 ·as_aux_lemma =>
  intro c159b0 c159b1 H
  refine qE H ?_ ?_ <;> clear H
  ·as_aux_lemma =>
   intro c160b0 c160b1 H
   refine be H ?_; clear H; intro t272 A161 H
   by_cases c162 : (l2_3.length : Int) = t272
   ·as_aux_lemma =>
    rw [if_pos c162] at H
    have c162b0 : ((l2_3.length : Int) == t272) = true := beq_iff_eq.mpr c162
    have c162b1 : ((l2_3.length : Int) != t272) = false := bne_eq_false_iff_eq.mpr c162
    clear c162
    refine qL H ?_ ?_ <;> clear H <;> intro c163b0 H
    ·as_aux_lemma =>
     refine iM H ?_; clear H; intro c164b0 H
     refine iM H ?_; clear H; intro c165b0 H
     obtain rfl := oi H
     have hnb166 := NB256_255.out
     have hnc166 := NB255_256.out
     have hcz167_0 := bk wc BK256 0
     have hcz167_1 := bk wc BK256 1
     have hcz167_2 := bk wc BK256 2
     have hcz167_3 := bk wc BK256 3
     have hcz167_4 := bk wc BK256 4
     have hfz167_0 := bf BK256 0
     have hfz167_1 := bf BK256 1
     have hfz167_2 := bf BK256 2
     have hfz167_3 := bf BK256 3
     have hfz167_4 := bf BK256 4
     try go_wp2
     replace BK255 := am (blk_drew BK255.out)
     replace BK256 := am (blk_drew BK256.out)
     replace HB := am (below_drew1 HB.out)
     have p273 : 0 ≤ (a1 : Int) := dt
     have q273 : a1 < (l0_0.length : Int) := dt
     obtain ⟨ad273, A273_2, c273_2, e273, hx273_0, hx273_1, hx273_2, hl273_2, hi273_2⟩ := at_T121 HR0_0.out a1 p273 q273
     have hw273_2 := hx273_2
     have hw273_1 := hx273_1
     have hw273_0 := hx273_0
     cases e273
     replace hx273_0 := cl HB hx273_0
     replace hx273_1 := cl HB hx273_1
     replace hx273_2 := cl HB hx273_2
     have HR273_2 := am hi273_2
     have HC273_2 := am hl273_2
     clear hi273_2 hl273_2
     replace p273 := eq_true p273
     replace q273 := eq_true q273
     refine start_ (n := 30) (S := fun w' => w'.cell? ⟨gb256, 0, none⟩ = some (.slice A2_0 l2_0.length c2_0) ∧ w'.cell? ⟨gb256, 1, none⟩ = some (.int .i64 a2_1) ∧ w'.cell? ⟨gb256, 2, none⟩ = some (.int .i64 a2_2) ∧ w'.cell? ⟨gb256, 3, none⟩ = some (.slice A2_3 l2_3.length c2_3) ∧ w'.cell? ⟨gb256, 4, none⟩ = some (.int .i64 a2_4) ∧ w'.cell? ⟨gb255, 0, none⟩ = some (.slice (some ad273) l0_0.length c0_0) ∧ w'.cell? (ad273.add ((a1).toNat * 3)) = some (.int .i64 ((rd_T121 l0_0 a1).f0)) ∧ w'.cell? ⟨(ad273.add ((a1).toNat * 3)).block, (ad273.add ((a1).toNat * 3)).off + 1, none⟩ = some (.int .i64 ((rd_T121 l0_0 a1).f1)) ∧ w'.cell? ⟨(ad273.add ((a1).toNat * 3)).block, (ad273.add ((a1).toNat * 3)).off + 2, none⟩ = some (.slice A273_2 ((rd_T121 l0_0 a1).f2).length c273_2)) (ds := []) (bv 30 0) (by kernel_rfl) rfl (by kernel_rfl) ⟨bc BK256 0, bc BK256 1, bc BK256 2, bc BK256 3, bc BK256 4, bc BK255 0, (cq HB hw273_0), (cq HB hw273_1), (cq HB hw273_2)⟩ (fun hHeld => ?_); refine with_tabW spec_l10Ins.tab25 spec_l10Ins.bits25 (fun HT_ HW_ => ?_)
     generalize wc.drew = w168 at BK255 BK256 HB HR273_2 hx273_0 hx273_1 hx273_2 hHeld ⊢
     refine pu 0 201 30 1 HT_ ?_
     refine tk 1 202 30 3 HT_ HW_ hHeld ?_
     refine pu 2 203 30 7 HT_ ?_
     refine pu 3 204 30 15 HT_ ?_
     refine pu 4 205 30 31 HT_ ?_
     refine pu 6 207 30 95 HT_ ?_
     refine tk 5 206 30 127 HT_ HW_ hHeld ?_
     refine tk 7 208 30 255 HT_ HW_ hHeld ?_
     refine pu 8 209 30 511 HT_ ?_
     refine on 9 (some 210) 30 1023 HT_ fun K hK => ?_
     refine goes_ Try.func127 (by kernel_rfl) rfl #[.agg #[.slice (some ad273) l0_0.length c0_0], .agg #[.int .i64 a2_1, .int .i64 0]] (by rfl) rfl rfl gl ?_
     with_reducible refine (spec_Takes.calls kj112 _ _ l0_0 a2_1 0 t272 _ ?side1 ?side2 A161.out).mono ?_
     (case side1 => exact cc (Kd.C_below HR0_0.out HB.out))
     (case side2 => exact HC0_0.out)
     rintro e w169 ⟨rfl, hb⟩
     refine ⟨_, rfl, ?_⟩
     replace BK255 := bb BK255 hb
     replace BK256 := bb BK256 hb
     replace HB := am (below_step (bw HB) hb)
     clear hb
     refine hK.out _ _ ⟨bc BK256 0, bc BK256 1, bc BK256 2, bc BK256 3, bc BK256 4, bc BK255 0, (cq HB hw273_0), (cq HB hw273_1), (cq HB hw273_2)⟩ (fun hHeld => ?_)
     clear hK K
     refine nm (some 210) ?_
     refine pu 10 211 30 2047 HT_ ?_
     refine pu 11 212 30 4095 HT_ ?_
     refine pu 12 213 30 8191 HT_ ?_
     refine pu 13 214 30 16383 HT_ ?_
     refine tk 14 215 30 32767 HT_ HW_ hHeld ?_
     refine pu 15 216 30 65535 HT_ ?_
     refine pu 16 217 30 131071 HT_ ?_
     refine pu 17 218 30 262143 HT_ ?_
     refine pu 18 219 30 524287 HT_ ?_
     refine pu 20 221 30 1572863 HT_ ?_
     refine pu 22 223 30 5767167 HT_ ?_
     refine tk 19 220 30 6291455 HT_ HW_ hHeld ?_
     refine tk 21 222 30 8388607 HT_ HW_ hHeld ?_
     refine pu 23 224 30 16777215 HT_ ?_
     refine pu 24 225 30 33554431 HT_ ?_
     refine tk 25 226 30 67108863 HT_ HW_ hHeld ?_
     refine pu 26 227 30 134217727 HT_ ?_
     refine pu 27 228 30 268435455 HT_ ?_
     refine pu 28 229 30 536870911 HT_ ?_
     refine pu 29 6 30 1073741823 HT_ ?_
     refine done_ (done_of HT_.out (by kernel_rfl)) ?_
     try go_wp2
     go_ret
     exact ⟨er, bw HB⟩
    obtain rfl := oi H
    have hnb170 := NB256_255.out
    have hnc170 := NB255_256.out
    have hcz171_0 := bk wc BK256 0
    have hcz171_1 := bk wc BK256 1
    have hcz171_2 := bk wc BK256 2
    have hcz171_3 := bk wc BK256 3
    have hcz171_4 := bk wc BK256 4
    have hfz171_0 := bf BK256 0
    have hfz171_1 := bf BK256 1
    have hfz171_2 := bf BK256 2
    have hfz171_3 := bf BK256 3
    have hfz171_4 := bf BK256 4
    try go_wp2
    replace BK255 := am (blk_drew BK255.out)
    replace BK256 := am (blk_drew BK256.out)
    replace HB := am (below_drew1 HB.out)
    refine start_ (n := 30) (S := fun w' => w'.cell? ⟨gb256, 0, none⟩ = some (.slice A2_0 l2_0.length c2_0) ∧ w'.cell? ⟨gb256, 1, none⟩ = some (.int .i64 a2_1) ∧ w'.cell? ⟨gb256, 2, none⟩ = some (.int .i64 a2_2) ∧ w'.cell? ⟨gb256, 3, none⟩ = some (.slice A2_3 l2_3.length c2_3) ∧ w'.cell? ⟨gb256, 4, none⟩ = some (.int .i64 a2_4) ∧ w'.cell? ⟨gb255, 0, none⟩ = some (.slice A0_0 l0_0.length c0_0)) (ds := []) (bv 30 0) (by kernel_rfl) rfl (by kernel_rfl) ⟨bc BK256 0, bc BK256 1, bc BK256 2, bc BK256 3, bc BK256 4, bc BK255 0⟩ (fun hHeld => ?_); refine with_tabW spec_l10Ins.tab25 spec_l10Ins.bits25 (fun HT_ HW_ => ?_)
    generalize wc.drew = w172 at BK255 BK256 HB hHeld ⊢
    refine pu 0 201 30 1 HT_ ?_
    refine tk 1 202 30 3 HT_ HW_ hHeld ?_
    refine pu 2 203 30 7 HT_ ?_
    refine pu 3 204 30 15 HT_ ?_
    refine pu 4 205 30 31 HT_ ?_
    refine pu 6 207 30 95 HT_ ?_
    refine tk 5 206 30 127 HT_ HW_ hHeld ?_
    refine tk 7 208 30 255 HT_ HW_ hHeld ?_
    refine pu 8 209 30 511 HT_ ?_
    refine on 9 (some 210) 30 1023 HT_ fun K hK => ?_
    refine goes_ Try.func127 (by kernel_rfl) rfl #[.agg #[.slice A0_0 l0_0.length c0_0], .agg #[.int .i64 a2_1, .int .i64 0]] (by rfl) rfl rfl gl ?_
    with_reducible refine (spec_Takes.calls kj112 _ _ l0_0 a2_1 0 t272 _ ?side1 ?side2 A161.out).mono ?_
    (case side1 => exact cc (Kd.C_below HR0_0.out HB.out))
    (case side2 => exact HC0_0.out)
    rintro e w173 ⟨rfl, hb⟩
    refine ⟨_, rfl, ?_⟩
    replace BK255 := bb BK255 hb
    replace BK256 := bb BK256 hb
    replace HB := am (below_step (bw HB) hb)
    clear hb
    refine hK.out _ _ ⟨bc BK256 0, bc BK256 1, bc BK256 2, bc BK256 3, bc BK256 4, bc BK255 0⟩ (fun hHeld => ?_)
    clear hK K
    refine nm (some 210) ?_
    refine pu 10 211 30 2047 HT_ ?_
    refine pu 11 212 30 4095 HT_ ?_
    refine pu 12 213 30 8191 HT_ ?_
    refine pu 13 214 30 16383 HT_ ?_
    refine tk 14 215 30 32767 HT_ HW_ hHeld ?_
    refine pu 15 216 30 65535 HT_ ?_
    refine pu 16 217 30 131071 HT_ ?_
    refine pu 17 218 30 262143 HT_ ?_
    refine pn 18 219 30 524287 HT_ ?_
    refine pn 19 220 30 1048575 HT_ ?_
    refine pn 20 221 30 2097151 HT_ ?_
    refine pn 21 222 30 4194303 HT_ ?_
    refine pn 22 223 30 8388607 HT_ ?_
    refine pn 23 224 30 16777215 HT_ ?_
    refine pn 24 225 30 33554431 HT_ ?_
    refine pn 25 226 30 67108863 HT_ ?_
    refine pn 26 227 30 134217727 HT_ ?_
    refine pn 27 228 30 268435455 HT_ ?_
    refine pu 28 229 30 536870911 HT_ ?_
    refine pu 29 6 30 1073741823 HT_ ?_
    refine done_ (done_of HT_.out (by kernel_rfl)) ?_
    try go_wp2
    go_ret
    exact ⟨er, bw HB⟩
   rw [if_neg c162] at H
   have c162b0 : ((l2_3.length : Int) == t272) = false := beq_eq_false_iff_ne.mpr c162
   have c162b1 : ((l2_3.length : Int) != t272) = true := bne_iff_ne.mpr c162
   obtain rfl := oi H
   have hnb174 := NB256_255.out
   have hnc174 := NB255_256.out
   have hcz175_0 := bk wc BK256 0
   have hcz175_1 := bk wc BK256 1
   have hcz175_2 := bk wc BK256 2
   have hcz175_3 := bk wc BK256 3
   have hcz175_4 := bk wc BK256 4
   have hfz175_0 := bf BK256 0
   have hfz175_1 := bf BK256 1
   have hfz175_2 := bf BK256 2
   have hfz175_3 := bf BK256 3
   have hfz175_4 := bf BK256 4
   try go_wp2
   replace BK255 := am (blk_drew BK255.out)
   replace BK256 := am (blk_drew BK256.out)
   replace HB := am (below_drew1 HB.out)
   refine start_ (n := 30) (S := fun w' => w'.cell? ⟨gb256, 0, none⟩ = some (.slice A2_0 l2_0.length c2_0) ∧ w'.cell? ⟨gb256, 1, none⟩ = some (.int .i64 a2_1) ∧ w'.cell? ⟨gb256, 2, none⟩ = some (.int .i64 a2_2) ∧ w'.cell? ⟨gb256, 3, none⟩ = some (.slice A2_3 l2_3.length c2_3) ∧ w'.cell? ⟨gb256, 4, none⟩ = some (.int .i64 a2_4) ∧ w'.cell? ⟨gb255, 0, none⟩ = some (.slice A0_0 l0_0.length c0_0)) (ds := []) (bv 30 0) (by kernel_rfl) rfl (by kernel_rfl) ⟨bc BK256 0, bc BK256 1, bc BK256 2, bc BK256 3, bc BK256 4, bc BK255 0⟩ (fun hHeld => ?_); refine with_tabW spec_l10Ins.tab25 spec_l10Ins.bits25 (fun HT_ HW_ => ?_)
   generalize wc.drew = w176 at BK255 BK256 HB hHeld ⊢
   refine pu 0 201 30 1 HT_ ?_
   refine tk 1 202 30 3 HT_ HW_ hHeld ?_
   refine pu 2 203 30 7 HT_ ?_
   refine pu 3 204 30 15 HT_ ?_
   refine pu 4 205 30 31 HT_ ?_
   refine pu 6 207 30 95 HT_ ?_
   refine tk 5 206 30 127 HT_ HW_ hHeld ?_
   refine tk 7 208 30 255 HT_ HW_ hHeld ?_
   refine pu 8 209 30 511 HT_ ?_
   refine on 9 (some 210) 30 1023 HT_ fun K hK => ?_
   refine goes_ Try.func127 (by kernel_rfl) rfl #[.agg #[.slice A0_0 l0_0.length c0_0], .agg #[.int .i64 a2_1, .int .i64 0]] (by rfl) rfl rfl gl ?_
   with_reducible refine (spec_Takes.calls kj112 _ _ l0_0 a2_1 0 t272 _ ?side1 ?side2 A161.out).mono ?_
   (case side1 => exact cc (Kd.C_below HR0_0.out HB.out))
   (case side2 => exact HC0_0.out)
   rintro e w177 ⟨rfl, hb⟩
   refine ⟨_, rfl, ?_⟩
   replace BK255 := bb BK255 hb
   replace BK256 := bb BK256 hb
   replace HB := am (below_step (bw HB) hb)
   clear hb
   refine hK.out _ _ ⟨bc BK256 0, bc BK256 1, bc BK256 2, bc BK256 3, bc BK256 4, bc BK255 0⟩ (fun hHeld => ?_)
   clear hK K
   refine nm (some 210) ?_
   refine pu 10 211 30 2047 HT_ ?_
   refine pu 11 212 30 4095 HT_ ?_
   refine pu 12 213 30 8191 HT_ ?_
   refine pn 13 214 30 16383 HT_ ?_
   refine pn 14 215 30 32767 HT_ ?_
   refine pn 15 216 30 65535 HT_ ?_
   refine pu 16 217 30 131071 HT_ ?_
   refine pu 17 218 30 262143 HT_ ?_
   refine pn 18 219 30 524287 HT_ ?_
   refine pn 19 220 30 1048575 HT_ ?_
   refine pn 20 221 30 2097151 HT_ ?_
   refine pn 21 222 30 4194303 HT_ ?_
   refine pn 22 223 30 8388607 HT_ ?_
   refine pn 23 224 30 16777215 HT_ ?_
   refine pn 24 225 30 33554431 HT_ ?_
   refine pn 25 226 30 67108863 HT_ ?_
   refine pn 26 227 30 134217727 HT_ ?_
   refine pn 27 228 30 268435455 HT_ ?_
   refine pu 28 229 30 536870911 HT_ ?_
   refine pu 29 6 30 1073741823 HT_ ?_
   refine done_ (done_of HT_.out (by kernel_rfl)) ?_
   try go_wp2
   go_ret
   exact ⟨er, bw HB⟩
  intro c160 c160b0 c160b1 H
  obtain rfl := oi H
  have hnb178 := NB256_255.out
  have hnc178 := NB255_256.out
  have hcz179_0 := bk wc BK256 0
  have hcz179_1 := bk wc BK256 1
  have hcz179_2 := bk wc BK256 2
  have hcz179_3 := bk wc BK256 3
  have hcz179_4 := bk wc BK256 4
  have hfz179_0 := bf BK256 0
  have hfz179_1 := bf BK256 1
  have hfz179_2 := bf BK256 2
  have hfz179_3 := bf BK256 3
  have hfz179_4 := bf BK256 4
  try go_wp2
  replace BK255 := am (blk_drew BK255.out)
  replace BK256 := am (blk_drew BK256.out)
  replace HB := am (below_drew1 HB.out)
  refine start_ (n := 30) (S := fun w' => w'.cell? ⟨gb256, 0, none⟩ = some (.slice A2_0 l2_0.length c2_0) ∧ w'.cell? ⟨gb256, 1, none⟩ = some (.int .i64 a2_1) ∧ w'.cell? ⟨gb256, 2, none⟩ = some (.int .i64 a2_2) ∧ w'.cell? ⟨gb256, 3, none⟩ = some (.slice A2_3 l2_3.length c2_3) ∧ w'.cell? ⟨gb256, 4, none⟩ = some (.int .i64 a2_4)) (ds := []) (bv 30 0) (by kernel_rfl) rfl (by kernel_rfl) ⟨bc BK256 0, bc BK256 1, bc BK256 2, bc BK256 3, bc BK256 4⟩ (fun hHeld => ?_); refine with_tabW spec_l10Ins.tab25 spec_l10Ins.bits25 (fun HT_ HW_ => ?_)
  generalize wc.drew = w180 at BK255 BK256 HB hHeld ⊢
  refine pu 0 201 30 1 HT_ ?_
  refine tk 1 202 30 3 HT_ HW_ hHeld ?_
  refine pu 2 203 30 7 HT_ ?_
  refine pu 3 204 30 15 HT_ ?_
  refine pn 4 205 30 31 HT_ ?_
  refine pn 5 206 30 63 HT_ ?_
  refine pn 6 207 30 127 HT_ ?_
  refine pn 7 208 30 255 HT_ ?_
  refine pn 8 209 30 511 HT_ ?_
  refine pn 9 210 30 1023 HT_ ?_
  refine pn 10 211 30 2047 HT_ ?_
  refine pu 11 212 30 4095 HT_ ?_
  refine pu 12 213 30 8191 HT_ ?_
  refine pn 13 214 30 16383 HT_ ?_
  refine pn 14 215 30 32767 HT_ ?_
  refine pn 15 216 30 65535 HT_ ?_
  refine pu 16 217 30 131071 HT_ ?_
  refine pu 17 218 30 262143 HT_ ?_
  refine pn 18 219 30 524287 HT_ ?_
  refine pn 19 220 30 1048575 HT_ ?_
  refine pn 20 221 30 2097151 HT_ ?_
  refine pn 21 222 30 4194303 HT_ ?_
  refine pn 22 223 30 8388607 HT_ ?_
  refine pn 23 224 30 16777215 HT_ ?_
  refine pn 24 225 30 33554431 HT_ ?_
  refine pn 25 226 30 67108863 HT_ ?_
  refine pn 26 227 30 134217727 HT_ ?_
  refine pn 27 228 30 268435455 HT_ ?_
  refine pu 28 229 30 536870911 HT_ ?_
  refine pu 29 6 30 1073741823 HT_ ?_
  refine done_ (done_of HT_.out (by kernel_rfl)) ?_
  try go_wp2
  go_ret
  exact ⟨er, bw HB⟩
 intro c159 c159b0 c159b1 H
 refine qE H ?_ ?_ <;> clear H
 ·as_aux_lemma =>
  intro c181b0 c181b1 H
  refine qE H ?_ ?_ <;> clear H
  ·as_aux_lemma =>
   intro c182b0 c182b1 H
   refine qL H ?_ ?_ <;> clear H <;> intro c183b0 H
   ·as_aux_lemma =>
    refine qI H ?_ ?_ <;> clear H <;> intro c184b0 H
    ·refine iM H ?_; clear H; intro c185b0 H
     obtain rfl := oi H
     have hnb186 := NB256_255.out
     have hnc186 := NB255_256.out
     have hcz187_0 := bk wc BK256 0
     have hcz187_1 := bk wc BK256 1
     have hcz187_2 := bk wc BK256 2
     have hcz187_3 := bk wc BK256 3
     have hcz187_4 := bk wc BK256 4
     have hfz187_0 := bf BK256 0
     have hfz187_1 := bf BK256 1
     have hfz187_2 := bf BK256 2
     have hfz187_3 := bf BK256 3
     have hfz187_4 := bf BK256 4
     have hcz188 := bK wc BK255
     have hfz188 := bF BK255
     have p274 : 0 ≤ (a2_4 : Int) := dt
     have q274 : a2_4 < (l0_0.length : Int) := dt
     obtain ⟨ad274, A274_2, c274_2, e274, hx274_0, hx274_1, hx274_2, hl274_2, hi274_2⟩ := at_T121 HR0_0.out a2_4 p274 q274
     cases e274
     replace hx274_0 := cl HB hx274_0
     replace hx274_1 := cl HB hx274_1
     replace hx274_2 := cl HB hx274_2
     have HR274_2 := am hi274_2
     have HC274_2 := am hl274_2
     clear hi274_2 hl274_2
     replace p274 := eq_true p274
     replace q274 := eq_true q274
     go_wp2
     go_ret
     exact ⟨er, bw HB⟩
    obtain rfl := oi H
    have hnb189 := NB256_255.out
    have hnc189 := NB255_256.out
    have hcz190_0 := bk wc BK256 0
    have hcz190_1 := bk wc BK256 1
    have hcz190_2 := bk wc BK256 2
    have hcz190_3 := bk wc BK256 3
    have hcz190_4 := bk wc BK256 4
    have hfz190_0 := bf BK256 0
    have hfz190_1 := bf BK256 1
    have hfz190_2 := bf BK256 2
    have hfz190_3 := bf BK256 3
    have hfz190_4 := bf BK256 4
    have hcz191 := bK wc BK255
    have hfz191 := bF BK255
    go_wp2
    go_ret
    exact ⟨er, bw HB⟩
   obtain rfl := oi H
   have hnb192 := NB256_255.out
   have hnc192 := NB255_256.out
   have hcz193_0 := bk wc BK256 0
   have hcz193_1 := bk wc BK256 1
   have hcz193_2 := bk wc BK256 2
   have hcz193_3 := bk wc BK256 3
   have hcz193_4 := bk wc BK256 4
   have hfz193_0 := bf BK256 0
   have hfz193_1 := bf BK256 1
   have hfz193_2 := bf BK256 2
   have hfz193_3 := bf BK256 3
   have hfz193_4 := bf BK256 4
   go_wp2
   go_ret
   exact ⟨er, bw HB⟩
  intro c182 c182b0 c182b1 H
  refine be H ?_; clear H; intro t275 A194 H
  refine qT H ?_ ?_ <;> clear H <;> intro c195 H <;> subst c195
  ·as_aux_lemma =>
   refine qL H ?_ ?_ <;> clear H <;> intro c196b0 H
   ·refine qI H ?_ ?_ <;> clear H <;> intro c197b0 H
    ·refine iM H ?_; clear H; intro c198b0 H
     obtain rfl := oi H
     have hnb199 := NB256_255.out
     have hnc199 := NB255_256.out
     have hcz200_0 := bk wc BK256 0
     have hcz200_1 := bk wc BK256 1
     have hcz200_2 := bk wc BK256 2
     have hcz200_3 := bk wc BK256 3
     have hcz200_4 := bk wc BK256 4
     have hfz200_0 := bf BK256 0
     have hfz200_1 := bf BK256 1
     have hfz200_2 := bf BK256 2
     have hfz200_3 := bf BK256 3
     have hfz200_4 := bf BK256 4
     go_wp2_with (first | (go_at_call 129; (with_reducible refine (spec_l10Loc.calls a2_2 true _ A194.out).mono ?_); rintro e w' ⟨rfl, ⟨nd, rfl⟩⟩; have hcz201 := bK wc BK255; have hfz201 := bF BK255; have p276 : 0 ≤ (a2_4 : Int) := dt; have q276 : a2_4 < (l0_0.length : Int) := dt; obtain ⟨ad276, A276_2, c276_2, e276, hx276_0, hx276_1, hx276_2, hl276_2, hi276_2⟩ := at_T121 HR0_0.out a2_4 p276 q276; cases e276; replace hx276_0 := cl HB hx276_0; replace hx276_1 := cl HB hx276_1; replace hx276_2 := cl HB hx276_2; have HR276_2 := am hi276_2; have HC276_2 := am hl276_2; clear hi276_2 hl276_2; replace p276 := eq_true p276; replace q276 := eq_true q276))
     go_ret
     exact ⟨er, bw HB⟩
    obtain rfl := oi H
    have hnb202 := NB256_255.out
    have hnc202 := NB255_256.out
    have hcz203_0 := bk wc BK256 0
    have hcz203_1 := bk wc BK256 1
    have hcz203_2 := bk wc BK256 2
    have hcz203_3 := bk wc BK256 3
    have hcz203_4 := bk wc BK256 4
    have hfz203_0 := bf BK256 0
    have hfz203_1 := bf BK256 1
    have hfz203_2 := bf BK256 2
    have hfz203_3 := bf BK256 3
    have hfz203_4 := bf BK256 4
    go_wp2_with (first | (go_at_call 129; (with_reducible refine (spec_l10Loc.calls a2_2 true _ A194.out).mono ?_); rintro e w' ⟨rfl, ⟨nd, rfl⟩⟩; have hcz204 := bK wc BK255; have hfz204 := bF BK255))
    go_ret
    exact ⟨er, bw HB⟩
   obtain rfl := oi H
   have hnb205 := NB256_255.out
   have hnc205 := NB255_256.out
   have hcz206_0 := bk wc BK256 0
   have hcz206_1 := bk wc BK256 1
   have hcz206_2 := bk wc BK256 2
   have hcz206_3 := bk wc BK256 3
   have hcz206_4 := bk wc BK256 4
   have hfz206_0 := bf BK256 0
   have hfz206_1 := bf BK256 1
   have hfz206_2 := bf BK256 2
   have hfz206_3 := bf BK256 3
   have hfz206_4 := bf BK256 4
   go_wp2_with (first | (go_at_call 129; (with_reducible refine (spec_l10Loc.calls a2_2 true _ A194.out).mono ?_); rintro e w' ⟨rfl, ⟨nd, rfl⟩⟩))
   go_ret
   exact ⟨er, bw HB⟩
  obtain rfl := oi H
  have hnb207 := NB256_255.out
  have hnc207 := NB255_256.out
  have hcz208_0 := bk wc BK256 0
  have hcz208_1 := bk wc BK256 1
  have hcz208_2 := bk wc BK256 2
  have hcz208_3 := bk wc BK256 3
  have hcz208_4 := bk wc BK256 4
  have hfz208_0 := bf BK256 0
  have hfz208_1 := bf BK256 1
  have hfz208_2 := bf BK256 2
  have hfz208_3 := bf BK256 3
  have hfz208_4 := bf BK256 4
  go_wp2_with (first | (go_at_call 129; (with_reducible refine (spec_l10Loc.calls a2_2 false _ A194.out).mono ?_); rintro e w' ⟨rfl, ⟨nd, rfl⟩⟩))
  go_ret
  exact ⟨er, bw HB⟩
 intro c181 c181b0 c181b1 H
 obtain rfl := oi H
 have hnb209 := NB256_255.out
 have hnc209 := NB255_256.out
 have hcz210_0 := bk wc BK256 0
 have hcz210_1 := bk wc BK256 1
 have hcz210_2 := bk wc BK256 2
 have hcz210_3 := bk wc BK256 3
 have hcz210_4 := bk wc BK256 4
 have hfz210_0 := bf BK256 0
 have hfz210_1 := bf BK256 1
 have hfz210_2 := bf BK256 2
 have hfz210_3 := bf BK256 3
 have hfz210_4 := bf BK256 4
 go_wp2
 go_ret
 exact ⟨er, bw HB⟩

end Go.Proofs.Ytkhpiicijkhpkaa.QFnExactAsmBytes
