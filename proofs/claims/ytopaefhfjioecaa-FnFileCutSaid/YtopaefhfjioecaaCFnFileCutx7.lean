import Derived.Test.YtopaefhfjioecaaCFnFileCutx0
import Derived.Test.YtopaefhfjioecaaCFnFileCutx6
namespace Go.Proofs.Ytopaefhfjioecaa.QFnFileCut
open Go.RowKit Go.Proofs.YtopaefhfjioecaaW
open PrintWords PrintLast PrintMore PrintShort
attribute [local go_sem] max2_int min2_int max_two min_two max_three min_three max_four min_four   -- for this text's walks alone
set_option linter.unusedVariables false
set_option maxHeartbeats 8000000
set_option maxRecDepth 100000
set_option linter.unusedSimpArgs false

def spec_l01Src_n.f (s0_0 : List Int) (s0_1 : Int) (s0_2 : Int) (s0_3 : Int) (a1 : Int) : Option (Int × Int × Int × Int) := if a1 ≤ 1 then (some (0, s0_1, s0_2, s0_3)) else (if s0_1 < (s0_0.length : Int) then (if 0 ≤ s0_1 then (if (IntKind.u64.wrap (a1)) = 0 then (none) else (some (wrap64 (Int.tmod (IntKind.u64.wrap ((IntKind.u64.wrap (rd s0_0 s0_1)) + ((Go.bits .xor .u64 (Go.bits .xor .u64 (Go.bits .xor .u64 s0_2 (IntKind.u64.wrap (s0_2 * 8192))) ((Go.bits .xor .u64 s0_2 (IntKind.u64.wrap (s0_2 * 8192))) / 128)) (IntKind.u64.wrap ((Go.bits .xor .u64 (Go.bits .xor .u64 s0_2 (IntKind.u64.wrap (s0_2 * 8192))) ((Go.bits .xor .u64 s0_2 (IntKind.u64.wrap (s0_2 * 8192))) / 128)) * 131072))) / 1048576))) (IntKind.u64.wrap (a1))), wrap64 (s0_1 + 1), Go.bits .xor .u64 (Go.bits .xor .u64 (Go.bits .xor .u64 s0_2 (IntKind.u64.wrap (s0_2 * 8192))) ((Go.bits .xor .u64 s0_2 (IntKind.u64.wrap (s0_2 * 8192))) / 128)) (IntKind.u64.wrap ((Go.bits .xor .u64 (Go.bits .xor .u64 s0_2 (IntKind.u64.wrap (s0_2 * 8192))) ((Go.bits .xor .u64 s0_2 (IntKind.u64.wrap (s0_2 * 8192))) / 128)) * 131072)), s0_3))) else (none)) else (if (IntKind.u64.wrap (a1)) = 0 then (none) else (some (wrap64 (Int.tmod (IntKind.u64.wrap (0 + ((Go.bits .xor .u64 (Go.bits .xor .u64 (Go.bits .xor .u64 s0_2 (IntKind.u64.wrap (s0_2 * 8192))) ((Go.bits .xor .u64 s0_2 (IntKind.u64.wrap (s0_2 * 8192))) / 128)) (IntKind.u64.wrap ((Go.bits .xor .u64 (Go.bits .xor .u64 s0_2 (IntKind.u64.wrap (s0_2 * 8192))) ((Go.bits .xor .u64 s0_2 (IntKind.u64.wrap (s0_2 * 8192))) / 128)) * 131072))) / 1048576))) (IntKind.u64.wrap (a1))), s0_1, Go.bits .xor .u64 (Go.bits .xor .u64 (Go.bits .xor .u64 s0_2 (IntKind.u64.wrap (s0_2 * 8192))) ((Go.bits .xor .u64 s0_2 (IntKind.u64.wrap (s0_2 * 8192))) / 128)) (IntKind.u64.wrap ((Go.bits .xor .u64 (Go.bits .xor .u64 s0_2 (IntKind.u64.wrap (s0_2 * 8192))) ((Go.bits .xor .u64 s0_2 (IntKind.u64.wrap (s0_2 * 8192))) / 128)) * 131072)), s0_3))))
def spec_l01Src_n.T4 : Bool × List (List Nat × List Nat) := (true, [([], []), ([0], [0]), ([1], [1]), ([2], [2]), ([], []), ([4], [4]), ([5], [5]), ([6], [6]), ([7], [7]), ([3, 8], [3, 8])])
def spec_l01Src_n.B4 : List Nat := [0, 1, 3, 7, 0, 16, 48, 112, 240, 511]
theorem spec_l01Src_n.tab4 : rtab .any (opsOf Try.f56 4) = spec_l01Src_n.T4 := by kernel_rfl
theorem spec_l01Src_n.bits4 : waitsOk spec_l01Src_n.T4.2 spec_l01Src_n.B4 = true := by kernel_rfl
def spec_l01Src_n.T5 : Bool × List (List Nat × List Nat) := (true, [([], []), ([0], [0]), ([1], [1]), ([2], [2]), ([], []), ([4], [4]), ([5], [5]), ([6], [6]), ([3, 7], [3, 7]), ([8], [8]), ([9], [9]), ([10, 0, 1, 2, 3, 4, 5, 6, 7, 8, 9, 10], [10])])
def spec_l01Src_n.B5 : List Nat := [0, 1, 3, 7, 0, 16, 48, 112, 255, 511, 1023, 2047]
theorem spec_l01Src_n.tab5 : rtab .any (opsOf Try.f56 5) = spec_l01Src_n.T5 := by kernel_rfl
theorem spec_l01Src_n.bits5 : waitsOk spec_l01Src_n.T5.2 spec_l01Src_n.B5 = true := by kernel_rfl
def spec_l01Src_n.T7 : Bool × List (List Nat × List Nat) := (true, [([], []), ([], []), ([1], [1]), ([2], [2]), ([3], [3]), ([], []), ([5], [5]), ([6], [6]), ([7], [7]), ([8], [8]), ([4, 9], [4, 9]), ([0, 0, 1, 2, 3, 4, 5, 6, 7, 8, 9, 10], [0]), ([11, 0, 1, 2, 3, 4, 5, 6, 7, 8, 9, 10], [11]), ([12, 10, 0, 1, 2, 3, 4, 5, 6, 7, 8, 9, 10], [10, 12])])
def spec_l01Src_n.B7 : List Nat := [0, 0, 2, 6, 14, 0, 32, 96, 224, 480, 1022, 2047, 4095, 8191]
theorem spec_l01Src_n.tab7 : rtab .any (opsOf Try.f56 7) = spec_l01Src_n.T7 := by kernel_rfl
theorem spec_l01Src_n.bits7 : waitsOk spec_l01Src_n.T7.2 spec_l01Src_n.B7 = true := by kernel_rfl
def spec_l01Src_n.T8 : Bool × List (List Nat × List Nat) := (true, [([], []), ([], []), ([1], [1]), ([2], [2]), ([3], [3]), ([], []), ([5], [5]), ([6], [6]), ([7], [7]), ([8], [8]), ([4, 9], [4, 9]), ([0, 0, 1, 2, 3, 4, 5, 6, 7, 8, 9, 10], [0]), ([11, 0, 1, 2, 3, 4, 5, 6, 7, 8, 9, 10], [11]), ([12, 10, 0, 1, 2, 3, 4, 5, 6, 7, 8, 9, 10], [10, 12])])
def spec_l01Src_n.B8 : List Nat := [0, 0, 2, 6, 14, 0, 32, 96, 224, 480, 1022, 2047, 4095, 8191]
theorem spec_l01Src_n.tab8 : rtab .any (opsOf Try.f56 8) = spec_l01Src_n.T8 := by kernel_rfl
theorem spec_l01Src_n.bits8 : waitsOk spec_l01Src_n.T8.2 spec_l01Src_n.B8 = true := by kernel_rfl
def spec_l01Src_n.T9 : Bool × List (List Nat × List Nat) := (true, [([], []), ([], []), ([1], [1]), ([2], [2]), ([3], [3]), ([], []), ([5], [5]), ([6], [6]), ([7], [7]), ([8], [8]), ([4, 9], [4, 9]), ([0, 0, 1, 2, 3, 4, 5, 6, 7, 8, 9, 10], [0]), ([11, 0, 1, 2, 3, 4, 5, 6, 7, 8, 9, 10], [11]), ([12, 10, 0, 1, 2, 3, 4, 5, 6, 7, 8, 9, 10], [10, 12])])
def spec_l01Src_n.B9 : List Nat := [0, 0, 2, 6, 14, 0, 32, 96, 224, 480, 1022, 2047, 4095, 8191]
theorem spec_l01Src_n.tab9 : rtab .any (opsOf Try.f56 9) = spec_l01Src_n.T9 := by kernel_rfl
theorem spec_l01Src_n.bits9 : waitsOk spec_l01Src_n.T9.2 spec_l01Src_n.B9 = true := by kernel_rfl
theorem spec_l01Src_n.calls (g : Nat) (s0_0 : List Int) (s0_1 : Int) (s0_2 : Int) (s0_3 : Int) (a1 : Int) (r1 : Int) (r2 : Int) (r3 : Int) (r4 : Int) (w0 w : World) (hI : IsS106 w0 w g s0_0 s0_1 s0_2 s0_3) (hB : Below w0.heap.size w0 w) (h : spec_l01Src_n.f s0_0 s0_1 s0_2 s0_3 a1 = some (r1, r2, r3, r4)) :
  Calls Try.prog 56 #[.pointer (some ⟨g, 0, none⟩), .int .i64 a1] w fun e w' => e = .returned (.int .i64 r1) ∧ IsS106 w0 w' g s0_0 r2 r3 r4 ∧ Below w0.heap.size w0 w' ∧ KeepBut w w' g none := by
 have HI0 := am hI
 have HK := am (KeepBut.refl w g none)
 have HL := am hB.size
 clear hI
 have HW0 := am hB.size
 have HB := am hB
 clear hB
 have H : (if a1 ≤ 1 then (some (0, s0_1, s0_2, s0_3)) else (if s0_1 < (s0_0.length : Int) then (if 0 ≤ s0_1 then (if (IntKind.u64.wrap (a1)) = 0 then (none) else (some (wrap64 (Int.tmod (IntKind.u64.wrap ((IntKind.u64.wrap (rd s0_0 s0_1)) + ((Go.bits .xor .u64 (Go.bits .xor .u64 (Go.bits .xor .u64 s0_2 (IntKind.u64.wrap (s0_2 * 8192))) ((Go.bits .xor .u64 s0_2 (IntKind.u64.wrap (s0_2 * 8192))) / 128)) (IntKind.u64.wrap ((Go.bits .xor .u64 (Go.bits .xor .u64 s0_2 (IntKind.u64.wrap (s0_2 * 8192))) ((Go.bits .xor .u64 s0_2 (IntKind.u64.wrap (s0_2 * 8192))) / 128)) * 131072))) / 1048576))) (IntKind.u64.wrap (a1))), wrap64 (s0_1 + 1), Go.bits .xor .u64 (Go.bits .xor .u64 (Go.bits .xor .u64 s0_2 (IntKind.u64.wrap (s0_2 * 8192))) ((Go.bits .xor .u64 s0_2 (IntKind.u64.wrap (s0_2 * 8192))) / 128)) (IntKind.u64.wrap ((Go.bits .xor .u64 (Go.bits .xor .u64 s0_2 (IntKind.u64.wrap (s0_2 * 8192))) ((Go.bits .xor .u64 s0_2 (IntKind.u64.wrap (s0_2 * 8192))) / 128)) * 131072)), s0_3))) else (none)) else (if (IntKind.u64.wrap (a1)) = 0 then (none) else (some (wrap64 (Int.tmod (IntKind.u64.wrap (0 + ((Go.bits .xor .u64 (Go.bits .xor .u64 (Go.bits .xor .u64 s0_2 (IntKind.u64.wrap (s0_2 * 8192))) ((Go.bits .xor .u64 s0_2 (IntKind.u64.wrap (s0_2 * 8192))) / 128)) (IntKind.u64.wrap ((Go.bits .xor .u64 (Go.bits .xor .u64 s0_2 (IntKind.u64.wrap (s0_2 * 8192))) ((Go.bits .xor .u64 s0_2 (IntKind.u64.wrap (s0_2 * 8192))) / 128)) * 131072))) / 1048576))) (IntKind.u64.wrap (a1))), s0_1, Go.bits .xor .u64 (Go.bits .xor .u64 (Go.bits .xor .u64 s0_2 (IntKind.u64.wrap (s0_2 * 8192))) ((Go.bits .xor .u64 s0_2 (IntKind.u64.wrap (s0_2 * 8192))) / 128)) (IntKind.u64.wrap ((Go.bits .xor .u64 (Go.bits .xor .u64 s0_2 (IntKind.u64.wrap (s0_2 * 8192))) ((Go.bits .xor .u64 s0_2 (IntKind.u64.wrap (s0_2 * 8192))) / 128)) * 131072)), s0_3))))) = some (r1, r2, r3, r4) := h
 clear h
 refine qI H ?_ ?_ <;> clear H <;> intro c3b0 H
 ·simp only [Option.some.injEq, Prod.mk.injEq] at H
  obtain ⟨rfl, rfl, rfl, rfl⟩ := H
  go_enter Try.func56, Try.ntmps56
  go_wp2
  go_ret
  exact ⟨er, by repeat (first | (with_reducible first | exact HI0.out | apply IsS106.alloc | apply IsS106.drewN | apply IsS106.drew | apply IsS106.set_1 | apply IsS106.set_2 | apply IsS106.set_3) | exact HI0.out), by repeat (first | (with_reducible first | exact HB.out | apply below_alloc | apply pw_below_drewN | apply below_drew1 | refine below_set ?_ (IsS106.ge HI0.out)) | exact HB.out), by repeat (first | (with_reducible first | exact HK.out | apply KeepBut.set_ | apply keep_drewN | apply keep_drew | apply keep_alloc) | exact HK.out)⟩
 refine qI H ?_ ?_ <;> clear H <;> intro c4b0 H
 ·refine iM H ?_; clear H; intro c5b0 H
  by_cases c6 : (IntKind.u64.wrap (a1)) = 0
  ·rw [if_pos c6] at H
   exact absurd H (by simp)
  rw [if_neg c6] at H
  have c6b0 := eqF c6
  have c6b1 := neT c6
  simp only [Option.some.injEq, Prod.mk.injEq] at H
  obtain ⟨rfl, rfl, rfl, rfl⟩ := H
  go_enter Try.func56, Try.ntmps56
  try go_wp2
  obtain ⟨ASz7_0, cSz7_0, HGz7, hgz7, HSz7_0⟩ := HI0.out
  have BSz7 := am HGz7
  have GE0 := am hgz7
  clear HGz7 hgz7 HI0
  replace BSz7 := am (blk_drew BSz7.out)
  replace HK := am (keep_drew HK.out)
  replace HB := am (below_drew1 HB.out)
  refine start_ (n := 10) (S := fun w' => w'.cell? ⟨g, 0, none⟩ = some (.slice ASz7_0 s0_0.length cSz7_0) ∧ w'.cell? ⟨g, 1, none⟩ = some (.int .i64 s0_1) ∧ w'.cell? ⟨g, 2, none⟩ = some (.int .u64 s0_2) ∧ w'.cell? ⟨g, 3, none⟩ = some (.int .i64 s0_3)) (ds := []) (bv 10 0) (by kernel_rfl) rfl (by kernel_rfl) ⟨bc BSz7 0, bc BSz7 1, bc BSz7 2, bc BSz7 3⟩ (fun hHeld => ?_); refine with_tabW spec_l01Src_n.tab4 spec_l01Src_n.bits4 (fun HT_ HW_ => ?_)
  generalize w.drew = w8 at BSz7 HK HB hHeld ⊢
  refine pu 0 8 10 1 HT_ ?_
  refine pu 1 9 10 3 HT_ ?_
  refine pu 2 10 10 7 HT_ ?_
  refine pu 4 12 10 23 HT_ ?_
  refine pu 5 13 10 55 HT_ ?_
  refine pu 6 14 10 119 HT_ ?_
  refine tk 3 11 10 127 HT_ HW_ hHeld ?_
  refine tk 7 15 10 255 HT_ HW_ hHeld ?_
  refine pu 8 16 10 511 HT_ ?_
  refine pu 9 17 10 1023 HT_ ?_
  refine done_ (done_of HT_.out (by kernel_rfl)) ?_
  have HI0 := am (show IsS106 w0 w8 g s0_0 s0_1 s0_2 s0_3 from ⟨_, _, BSz7.out, GE0.out, HSz7_0⟩)
  clear BSz7 GE0 HSz7_0
  try go_wp2
  obtain ⟨ASz9_0, cSz9_0, HGz9, hgz9, HSz9_0⟩ := HI0.out
  have BSz9 := am HGz9
  have GE0 := am hgz9
  clear HGz9 hgz9 HI0
  replace BSz9 := am (blk_drew BSz9.out)
  replace HK := am (keep_drew HK.out)
  replace HB := am (below_drew1 HB.out)
  have p234 : 0 ≤ (s0_1 : Int) := of_decide_eq_true as1
  have q234 : s0_1 < (s0_0.length : Int) := of_decide_eq_true as1
  obtain ⟨ad234, e234, hx234_0⟩ := Kd.at_int HSz9_0 s0_1 p234 q234
  have hw234_0 := hx234_0
  cases e234
  replace hx234_0 := pw_cell_below HB.out hx234_0
  replace p234 := eq_true p234
  replace q234 := eq_true q234
  refine start_ (n := 12) (S := fun w' => w'.cell? ⟨g, 0, none⟩ = some (.slice (some ad234) s0_0.length cSz9_0) ∧ w'.cell? ⟨g, 1, none⟩ = some (.int .i64 s0_1) ∧ w'.cell? ⟨g, 2, none⟩ = some (.int .u64 s0_2) ∧ w'.cell? ⟨g, 3, none⟩ = some (.int .i64 s0_3) ∧ w'.cell? (ad234.add (s0_1).toNat) = some (.int .u8 (rd s0_0 s0_1))) (ds := []) (bv 12 0) (by kernel_rfl) rfl (by kernel_rfl) ⟨bc BSz9 0, bc BSz9 1, bc BSz9 2, bc BSz9 3, ((HB.out.cell (World.block_lt_of_cell? w0 _ hw234_0)).trans hw234_0)⟩ (fun hHeld => ?_); refine with_tabW spec_l01Src_n.tab5 spec_l01Src_n.bits5 (fun HT_ HW_ => ?_)
  generalize w8.drew = w10 at BSz9 HK HB hx234_0 hHeld ⊢
  refine pu 0 18 12 1 HT_ ?_
  refine pu 1 19 12 3 HT_ ?_
  refine pu 2 20 12 7 HT_ ?_
  refine pu 4 22 12 23 HT_ ?_
  refine pu 5 23 12 55 HT_ ?_
  refine pu 6 24 12 119 HT_ ?_
  refine tk 3 21 12 127 HT_ HW_ hHeld ?_
  refine tk 7 25 12 255 HT_ HW_ hHeld ?_
  refine pu 8 26 12 511 HT_ ?_
  refine tk 9 27 12 1023 HT_ HW_ hHeld ?_
  refine pu 10 28 12 2047 HT_ ?_
  refine pu 11 5 12 4095 HT_ ?_
  refine done_ (done_of HT_.out (by kernel_rfl)) ?_
  have HI0 := am (show IsS106 w0 w10 g s0_0 s0_1 s0_2 s0_3 from ⟨_, _, BSz9.out, GE0.out, HSz9_0⟩)
  clear BSz9 GE0 HSz9_0
  obtain ⟨ASz11_0, cSz11_0, HGz11, hgz11, HSz11_0⟩ := HI0.out
  have hcz11_0 := cellS106_0 HGz11
  have hcz11_1 := cellS106_1 HGz11
  have hcz11_2 := cellS106_2 HGz11
  have hcz11_3 := cellS106_3 HGz11
  have hfz11_1 := blk_frozen HGz11 1
  have hfz11_2 := blk_frozen HGz11 2
  have hfz11_3 := blk_frozen HGz11 3
  clear HGz11 hgz11
  try go_wp2
  replace HK : Aside0 (KeepBut w (w10.setCell ⟨g, 1, none⟩ (.int .i64 (wrap64 (s0_1 + 1)))) g none) := ⟨by repeat (first | (with_reducible first | exact HK.out | apply KeepBut.set_ | apply keep_drewN | apply keep_drew | apply keep_alloc) | exact HK.out)⟩
  replace HB : Aside0 (Below w0.heap.size w0 (w10.setCell ⟨g, 1, none⟩ (.int .i64 (wrap64 (s0_1 + 1))))) := ⟨by repeat (first | (with_reducible first | exact HB.out | apply below_alloc | apply pw_below_drewN | apply below_drew1 | refine below_set ?_ (IsS106.ge HI0.out)) | exact HB.out)⟩
  replace HI0 : Aside0 (IsS106 w0 (w10.setCell ⟨g, 1, none⟩ (.int .i64 (wrap64 (s0_1 + 1)))) g s0_0 (wrap64 (s0_1 + 1)) s0_2 s0_3) := ⟨by repeat (first | (with_reducible first | exact HI0.out | apply IsS106.alloc | apply IsS106.drewN | apply IsS106.drew | apply IsS106.set_1 | apply IsS106.set_2 | apply IsS106.set_3) | exact HI0.out)⟩
  generalize (w10.setCell ⟨g, 1, none⟩ (.int .i64 (wrap64 (s0_1 + 1)))) = w12 at HI0 HK HB ⊢
  obtain ⟨ASz13_0, cSz13_0, HGz13, hgz13, HSz13_0⟩ := HI0.out
  have BSz13 := am HGz13
  have GE0 := am hgz13
  clear HGz13 hgz13 HI0
  replace BSz13 := am (blk_drew BSz13.out)
  replace HK := am (keep_drew HK.out)
  replace HB := am (below_drew1 HB.out)
  refine start_ (n := 14) (S := fun w' => w'.cell? ⟨g, 0, none⟩ = some (.slice ASz13_0 s0_0.length cSz13_0) ∧ w'.cell? ⟨g, 1, none⟩ = some (.int .i64 (wrap64 (s0_1 + 1))) ∧ w'.cell? ⟨g, 2, none⟩ = some (.int .u64 s0_2) ∧ w'.cell? ⟨g, 3, none⟩ = some (.int .i64 s0_3)) (ds := [13]) (bv 14 0) (by kernel_rfl) rfl (by kernel_rfl) ⟨bc BSz13 0, bc BSz13 1, bc BSz13 2, bc BSz13 3⟩ (fun hHeld => ?_); refine with_tabW spec_l01Src_n.tab7 spec_l01Src_n.bits7 (fun HT_ HW_ => ?_)
  generalize w12.drew = w14 at BSz13 HK HB hHeld ⊢
  refine pu 0 37 14 1 HT_ ?_
  refine pu 1 38 14 3 HT_ ?_
  refine pu 2 39 14 7 HT_ ?_
  refine pu 3 40 14 15 HT_ ?_
  refine pu 5 42 14 47 HT_ ?_
  refine pu 6 43 14 111 HT_ ?_
  refine pu 7 44 14 239 HT_ ?_
  refine tk 4 41 14 255 HT_ HW_ hHeld ?_
  refine tk 8 45 14 511 HT_ HW_ hHeld ?_
  refine pu 9 46 14 1023 HT_ ?_
  refine pu 10 47 14 2047 HT_ ?_
  refine pu 11 48 14 4095 HT_ ?_
  refine pu 12 49 14 8191 HT_ ?_
  refine last_ (i := 13) (N := none) (bv 14 16383) rfl rfl (one_of HT_.out (by kernel_rfl)) (by decide) (fun K hK => ?_)
  have hs15 := bk w14 BSz13 2
  have hfs15 := bf BSz13 2
  refine skip_ (w1 := ?_) (by rfl) rfl ?_ ?_
  rotate_left
  ·go_simp
   rfl
  refine hK.out _ _ ?_
  clear hK K
  refine done_ (done_of HT_.out (by kernel_rfl)) ?_
  replace BSz13 : Aside0 ((w14.setCell ⟨g, 2, none⟩ (.int .u64 (Go.bits .xor .u64 s0_2 (IntKind.u64.wrap (s0_2 * 8192))))).heap[g]? = some (.cells #[.slice ASz13_0 s0_0.length cSz13_0, .int .i64 (wrap64 (s0_1 + 1)), .int .u64 (Go.bits .xor .u64 s0_2 (IntKind.u64.wrap (s0_2 * 8192))), .int .i64 s0_3] 106 (0, 0))) := ⟨by (with_reducible repeat (first | apply dN | apply dW | apply dA)); refine blk_put (cs := #[.slice ASz13_0 s0_0.length cSz13_0, .int .i64 (wrap64 (s0_1 + 1)), .int .u64 s0_2, .int .i64 s0_3]) ?_ 2 _ rfl; exact bp BSz13⟩
  replace HK : Aside0 (KeepBut w (w14.setCell ⟨g, 2, none⟩ (.int .u64 (Go.bits .xor .u64 s0_2 (IntKind.u64.wrap (s0_2 * 8192))))) g none) := ⟨by repeat (first | (with_reducible first | exact HK.out | apply KeepBut.set_ | apply keep_drewN | apply keep_drew | apply keep_alloc | refine keep_far ?_ GW0.out _) | exact HK.out)⟩
  replace HB : Aside0 (Below w0.heap.size w0 (w14.setCell ⟨g, 2, none⟩ (.int .u64 (Go.bits .xor .u64 s0_2 (IntKind.u64.wrap (s0_2 * 8192)))))) := ⟨bw HB⟩
  generalize (w14.setCell ⟨g, 2, none⟩ (.int .u64 (Go.bits .xor .u64 s0_2 (IntKind.u64.wrap (s0_2 * 8192))))) = w16 at BSz13 HK HB ⊢
  have HI0 := am (show IsS106 w0 w16 g s0_0 (wrap64 (s0_1 + 1)) (Go.bits .xor .u64 s0_2 (IntKind.u64.wrap (s0_2 * 8192))) s0_3 from ⟨_, _, BSz13.out, GE0.out, HSz13_0⟩)
  clear BSz13 GE0 HSz13_0
  try go_wp2
  obtain ⟨ASz17_0, cSz17_0, HGz17, hgz17, HSz17_0⟩ := HI0.out
  have BSz17 := am HGz17
  have GE0 := am hgz17
  clear HGz17 hgz17 HI0
  replace BSz17 := am (blk_drew BSz17.out)
  replace HK := am (keep_drew HK.out)
  replace HB := am (below_drew1 HB.out)
  refine start_ (n := 14) (S := fun w' => w'.cell? ⟨g, 0, none⟩ = some (.slice ASz17_0 s0_0.length cSz17_0) ∧ w'.cell? ⟨g, 1, none⟩ = some (.int .i64 (wrap64 (s0_1 + 1))) ∧ w'.cell? ⟨g, 2, none⟩ = some (.int .u64 (Go.bits .xor .u64 s0_2 (IntKind.u64.wrap (s0_2 * 8192)))) ∧ w'.cell? ⟨g, 3, none⟩ = some (.int .i64 s0_3)) (ds := [13]) (bv 14 0) (by kernel_rfl) rfl (by kernel_rfl) ⟨bc BSz17 0, bc BSz17 1, bc BSz17 2, bc BSz17 3⟩ (fun hHeld => ?_); refine with_tabW spec_l01Src_n.tab8 spec_l01Src_n.bits8 (fun HT_ HW_ => ?_)
  generalize w16.drew = w18 at BSz17 HK HB hHeld ⊢
  refine pu 0 50 14 1 HT_ ?_
  refine pu 1 51 14 3 HT_ ?_
  refine pu 2 52 14 7 HT_ ?_
  refine pu 3 53 14 15 HT_ ?_
  refine pu 5 55 14 47 HT_ ?_
  refine pu 6 56 14 111 HT_ ?_
  refine pu 7 57 14 239 HT_ ?_
  refine tk 4 54 14 255 HT_ HW_ hHeld ?_
  refine tk 8 58 14 511 HT_ HW_ hHeld ?_
  refine pu 9 59 14 1023 HT_ ?_
  refine pu 10 60 14 2047 HT_ ?_
  refine pu 11 61 14 4095 HT_ ?_
  refine pu 12 62 14 8191 HT_ ?_
  refine last_ (i := 13) (N := none) (bv 14 16383) rfl rfl (one_of HT_.out (by kernel_rfl)) (by decide) (fun K hK => ?_)
  have hs19 := bk w18 BSz17 2
  have hfs19 := bf BSz17 2
  refine skip_ (w1 := ?_) (by rfl) rfl ?_ ?_
  rotate_left
  ·go_simp
   rfl
  refine hK.out _ _ ?_
  clear hK K
  refine done_ (done_of HT_.out (by kernel_rfl)) ?_
  replace BSz17 : Aside0 ((w18.setCell ⟨g, 2, none⟩ (.int .u64 (Go.bits .xor .u64 (Go.bits .xor .u64 s0_2 (IntKind.u64.wrap (s0_2 * 8192))) ((Go.bits .xor .u64 s0_2 (IntKind.u64.wrap (s0_2 * 8192))) / 128)))).heap[g]? = some (.cells #[.slice ASz17_0 s0_0.length cSz17_0, .int .i64 (wrap64 (s0_1 + 1)), .int .u64 (Go.bits .xor .u64 (Go.bits .xor .u64 s0_2 (IntKind.u64.wrap (s0_2 * 8192))) ((Go.bits .xor .u64 s0_2 (IntKind.u64.wrap (s0_2 * 8192))) / 128)), .int .i64 s0_3] 106 (0, 0))) := ⟨by (with_reducible repeat (first | apply dN | apply dW | apply dA)); refine blk_put (cs := #[.slice ASz17_0 s0_0.length cSz17_0, .int .i64 (wrap64 (s0_1 + 1)), .int .u64 (Go.bits .xor .u64 s0_2 (IntKind.u64.wrap (s0_2 * 8192))), .int .i64 s0_3]) ?_ 2 _ rfl; exact bp BSz17⟩
  replace HK : Aside0 (KeepBut w (w18.setCell ⟨g, 2, none⟩ (.int .u64 (Go.bits .xor .u64 (Go.bits .xor .u64 s0_2 (IntKind.u64.wrap (s0_2 * 8192))) ((Go.bits .xor .u64 s0_2 (IntKind.u64.wrap (s0_2 * 8192))) / 128)))) g none) := ⟨by repeat (first | (with_reducible first | exact HK.out | apply KeepBut.set_ | apply keep_drewN | apply keep_drew | apply keep_alloc | refine keep_far ?_ GW0.out _) | exact HK.out)⟩
  replace HB : Aside0 (Below w0.heap.size w0 (w18.setCell ⟨g, 2, none⟩ (.int .u64 (Go.bits .xor .u64 (Go.bits .xor .u64 s0_2 (IntKind.u64.wrap (s0_2 * 8192))) ((Go.bits .xor .u64 s0_2 (IntKind.u64.wrap (s0_2 * 8192))) / 128))))) := ⟨bw HB⟩
  generalize (w18.setCell ⟨g, 2, none⟩ (.int .u64 (Go.bits .xor .u64 (Go.bits .xor .u64 s0_2 (IntKind.u64.wrap (s0_2 * 8192))) ((Go.bits .xor .u64 s0_2 (IntKind.u64.wrap (s0_2 * 8192))) / 128)))) = w20 at BSz17 HK HB ⊢
  have HI0 := am (show IsS106 w0 w20 g s0_0 (wrap64 (s0_1 + 1)) (Go.bits .xor .u64 (Go.bits .xor .u64 s0_2 (IntKind.u64.wrap (s0_2 * 8192))) ((Go.bits .xor .u64 s0_2 (IntKind.u64.wrap (s0_2 * 8192))) / 128)) s0_3 from ⟨_, _, BSz17.out, GE0.out, HSz17_0⟩)
  clear BSz17 GE0 HSz17_0
  try go_wp2
  obtain ⟨ASz21_0, cSz21_0, HGz21, hgz21, HSz21_0⟩ := HI0.out
  have BSz21 := am HGz21
  have GE0 := am hgz21
  clear HGz21 hgz21 HI0
  replace BSz21 := am (blk_drew BSz21.out)
  replace HK := am (keep_drew HK.out)
  replace HB := am (below_drew1 HB.out)
  refine start_ (n := 14) (S := fun w' => w'.cell? ⟨g, 0, none⟩ = some (.slice ASz21_0 s0_0.length cSz21_0) ∧ w'.cell? ⟨g, 1, none⟩ = some (.int .i64 (wrap64 (s0_1 + 1))) ∧ w'.cell? ⟨g, 2, none⟩ = some (.int .u64 (Go.bits .xor .u64 (Go.bits .xor .u64 s0_2 (IntKind.u64.wrap (s0_2 * 8192))) ((Go.bits .xor .u64 s0_2 (IntKind.u64.wrap (s0_2 * 8192))) / 128))) ∧ w'.cell? ⟨g, 3, none⟩ = some (.int .i64 s0_3)) (ds := [13]) (bv 14 0) (by kernel_rfl) rfl (by kernel_rfl) ⟨bc BSz21 0, bc BSz21 1, bc BSz21 2, bc BSz21 3⟩ (fun hHeld => ?_); refine with_tabW spec_l01Src_n.tab9 spec_l01Src_n.bits9 (fun HT_ HW_ => ?_)
  generalize w20.drew = w22 at BSz21 HK HB hHeld ⊢
  refine pu 0 63 14 1 HT_ ?_
  refine pu 1 64 14 3 HT_ ?_
  refine pu 2 65 14 7 HT_ ?_
  refine pu 3 66 14 15 HT_ ?_
  refine pu 5 68 14 47 HT_ ?_
  refine pu 6 69 14 111 HT_ ?_
  refine pu 7 70 14 239 HT_ ?_
  refine tk 4 67 14 255 HT_ HW_ hHeld ?_
  refine tk 8 71 14 511 HT_ HW_ hHeld ?_
  refine pu 9 72 14 1023 HT_ ?_
  refine pu 10 73 14 2047 HT_ ?_
  refine pu 11 74 14 4095 HT_ ?_
  refine pu 12 75 14 8191 HT_ ?_
  refine last_ (i := 13) (N := none) (bv 14 16383) rfl rfl (one_of HT_.out (by kernel_rfl)) (by decide) (fun K hK => ?_)
  have hs23 := bk w22 BSz21 2
  have hfs23 := bf BSz21 2
  refine skip_ (w1 := ?_) (by rfl) rfl ?_ ?_
  rotate_left
  ·go_simp
   rfl
  refine hK.out _ _ ?_
  clear hK K
  refine done_ (done_of HT_.out (by kernel_rfl)) ?_
  replace BSz21 : Aside0 ((w22.setCell ⟨g, 2, none⟩ (.int .u64 (Go.bits .xor .u64 (Go.bits .xor .u64 (Go.bits .xor .u64 s0_2 (IntKind.u64.wrap (s0_2 * 8192))) ((Go.bits .xor .u64 s0_2 (IntKind.u64.wrap (s0_2 * 8192))) / 128)) (IntKind.u64.wrap ((Go.bits .xor .u64 (Go.bits .xor .u64 s0_2 (IntKind.u64.wrap (s0_2 * 8192))) ((Go.bits .xor .u64 s0_2 (IntKind.u64.wrap (s0_2 * 8192))) / 128)) * 131072))))).heap[g]? = some (.cells #[.slice ASz21_0 s0_0.length cSz21_0, .int .i64 (wrap64 (s0_1 + 1)), .int .u64 (Go.bits .xor .u64 (Go.bits .xor .u64 (Go.bits .xor .u64 s0_2 (IntKind.u64.wrap (s0_2 * 8192))) ((Go.bits .xor .u64 s0_2 (IntKind.u64.wrap (s0_2 * 8192))) / 128)) (IntKind.u64.wrap ((Go.bits .xor .u64 (Go.bits .xor .u64 s0_2 (IntKind.u64.wrap (s0_2 * 8192))) ((Go.bits .xor .u64 s0_2 (IntKind.u64.wrap (s0_2 * 8192))) / 128)) * 131072))), .int .i64 s0_3] 106 (0, 0))) := ⟨by (with_reducible repeat (first | apply dN | apply dW | apply dA)); refine blk_put (cs := #[.slice ASz21_0 s0_0.length cSz21_0, .int .i64 (wrap64 (s0_1 + 1)), .int .u64 (Go.bits .xor .u64 (Go.bits .xor .u64 s0_2 (IntKind.u64.wrap (s0_2 * 8192))) ((Go.bits .xor .u64 s0_2 (IntKind.u64.wrap (s0_2 * 8192))) / 128)), .int .i64 s0_3]) ?_ 2 _ rfl; exact bp BSz21⟩
  replace HK : Aside0 (KeepBut w (w22.setCell ⟨g, 2, none⟩ (.int .u64 (Go.bits .xor .u64 (Go.bits .xor .u64 (Go.bits .xor .u64 s0_2 (IntKind.u64.wrap (s0_2 * 8192))) ((Go.bits .xor .u64 s0_2 (IntKind.u64.wrap (s0_2 * 8192))) / 128)) (IntKind.u64.wrap ((Go.bits .xor .u64 (Go.bits .xor .u64 s0_2 (IntKind.u64.wrap (s0_2 * 8192))) ((Go.bits .xor .u64 s0_2 (IntKind.u64.wrap (s0_2 * 8192))) / 128)) * 131072))))) g none) := ⟨by repeat (first | (with_reducible first | exact HK.out | apply KeepBut.set_ | apply keep_drewN | apply keep_drew | apply keep_alloc | refine keep_far ?_ GW0.out _) | exact HK.out)⟩
  replace HB : Aside0 (Below w0.heap.size w0 (w22.setCell ⟨g, 2, none⟩ (.int .u64 (Go.bits .xor .u64 (Go.bits .xor .u64 (Go.bits .xor .u64 s0_2 (IntKind.u64.wrap (s0_2 * 8192))) ((Go.bits .xor .u64 s0_2 (IntKind.u64.wrap (s0_2 * 8192))) / 128)) (IntKind.u64.wrap ((Go.bits .xor .u64 (Go.bits .xor .u64 s0_2 (IntKind.u64.wrap (s0_2 * 8192))) ((Go.bits .xor .u64 s0_2 (IntKind.u64.wrap (s0_2 * 8192))) / 128)) * 131072)))))) := ⟨bw HB⟩
  generalize (w22.setCell ⟨g, 2, none⟩ (.int .u64 (Go.bits .xor .u64 (Go.bits .xor .u64 (Go.bits .xor .u64 s0_2 (IntKind.u64.wrap (s0_2 * 8192))) ((Go.bits .xor .u64 s0_2 (IntKind.u64.wrap (s0_2 * 8192))) / 128)) (IntKind.u64.wrap ((Go.bits .xor .u64 (Go.bits .xor .u64 s0_2 (IntKind.u64.wrap (s0_2 * 8192))) ((Go.bits .xor .u64 s0_2 (IntKind.u64.wrap (s0_2 * 8192))) / 128)) * 131072))))) = w24 at BSz21 HK HB ⊢
  have HI0 := am (show IsS106 w0 w24 g s0_0 (wrap64 (s0_1 + 1)) (Go.bits .xor .u64 (Go.bits .xor .u64 (Go.bits .xor .u64 s0_2 (IntKind.u64.wrap (s0_2 * 8192))) ((Go.bits .xor .u64 s0_2 (IntKind.u64.wrap (s0_2 * 8192))) / 128)) (IntKind.u64.wrap ((Go.bits .xor .u64 (Go.bits .xor .u64 s0_2 (IntKind.u64.wrap (s0_2 * 8192))) ((Go.bits .xor .u64 s0_2 (IntKind.u64.wrap (s0_2 * 8192))) / 128)) * 131072))) s0_3 from ⟨_, _, BSz21.out, GE0.out, HSz21_0⟩)
  clear BSz21 GE0 HSz21_0
  obtain ⟨ASz25_0, cSz25_0, HGz25, hgz25, HSz25_0⟩ := HI0.out
  have hcz25_0 := cellS106_0 HGz25
  have hcz25_1 := cellS106_1 HGz25
  have hcz25_2 := cellS106_2 HGz25
  have hcz25_3 := cellS106_3 HGz25
  have hfz25_1 := blk_frozen HGz25 1
  have hfz25_2 := blk_frozen HGz25 2
  have hfz25_3 := blk_frozen HGz25 3
  clear HGz25 hgz25
  try go_wp2
  go_ret
  exact ⟨er, by repeat (first | (with_reducible first | exact HI0.out | apply IsS106.alloc | apply IsS106.drewN | apply IsS106.drew | apply IsS106.set_1 | apply IsS106.set_2 | apply IsS106.set_3) | exact HI0.out), by repeat (first | (with_reducible first | exact HB.out | apply below_alloc | apply pw_below_drewN | apply below_drew1 | refine below_set ?_ (IsS106.ge HI0.out)) | exact HB.out), by repeat (first | (with_reducible first | exact HK.out | apply KeepBut.set_ | apply keep_drewN | apply keep_drew | apply keep_alloc) | exact HK.out)⟩
 by_cases c26 : (IntKind.u64.wrap (a1)) = 0
 ·rw [if_pos c26] at H
  exact absurd H (by simp)
 rw [if_neg c26] at H
 have c26b0 := eqF c26
 have c26b1 := neT c26
 simp only [Option.some.injEq, Prod.mk.injEq] at H
 obtain ⟨rfl, rfl, rfl, rfl⟩ := H
 go_enter Try.func56, Try.ntmps56
 try go_wp2
 obtain ⟨ASz27_0, cSz27_0, HGz27, hgz27, HSz27_0⟩ := HI0.out
 have BSz27 := am HGz27
 have GE0 := am hgz27
 clear HGz27 hgz27 HI0
 replace BSz27 := am (blk_drew BSz27.out)
 replace HK := am (keep_drew HK.out)
 replace HB := am (below_drew1 HB.out)
 refine start_ (n := 10) (S := fun w' => w'.cell? ⟨g, 0, none⟩ = some (.slice ASz27_0 s0_0.length cSz27_0) ∧ w'.cell? ⟨g, 1, none⟩ = some (.int .i64 s0_1) ∧ w'.cell? ⟨g, 2, none⟩ = some (.int .u64 s0_2) ∧ w'.cell? ⟨g, 3, none⟩ = some (.int .i64 s0_3)) (ds := []) (bv 10 0) (by kernel_rfl) rfl (by kernel_rfl) ⟨bc BSz27 0, bc BSz27 1, bc BSz27 2, bc BSz27 3⟩ (fun hHeld => ?_); refine with_tabW spec_l01Src_n.tab4 spec_l01Src_n.bits4 (fun HT_ HW_ => ?_)
 generalize w.drew = w28 at BSz27 HK HB hHeld ⊢
 refine pu 0 8 10 1 HT_ ?_
 refine pu 1 9 10 3 HT_ ?_
 refine pu 2 10 10 7 HT_ ?_
 refine pu 4 12 10 23 HT_ ?_
 refine pu 5 13 10 55 HT_ ?_
 refine pu 6 14 10 119 HT_ ?_
 refine tk 3 11 10 127 HT_ HW_ hHeld ?_
 refine tk 7 15 10 255 HT_ HW_ hHeld ?_
 refine pu 8 16 10 511 HT_ ?_
 refine pu 9 17 10 1023 HT_ ?_
 refine done_ (done_of HT_.out (by kernel_rfl)) ?_
 have HI0 := am (show IsS106 w0 w28 g s0_0 s0_1 s0_2 s0_3 from ⟨_, _, BSz27.out, GE0.out, HSz27_0⟩)
 clear BSz27 GE0 HSz27_0
 try go_wp2
 obtain ⟨ASz29_0, cSz29_0, HGz29, hgz29, HSz29_0⟩ := HI0.out
 have BSz29 := am HGz29
 have GE0 := am hgz29
 clear HGz29 hgz29 HI0
 replace BSz29 := am (blk_drew BSz29.out)
 replace HK := am (keep_drew HK.out)
 replace HB := am (below_drew1 HB.out)
 refine start_ (n := 14) (S := fun w' => w'.cell? ⟨g, 0, none⟩ = some (.slice ASz29_0 s0_0.length cSz29_0) ∧ w'.cell? ⟨g, 1, none⟩ = some (.int .i64 s0_1) ∧ w'.cell? ⟨g, 2, none⟩ = some (.int .u64 s0_2) ∧ w'.cell? ⟨g, 3, none⟩ = some (.int .i64 s0_3)) (ds := [13]) (bv 14 0) (by kernel_rfl) rfl (by kernel_rfl) ⟨bc BSz29 0, bc BSz29 1, bc BSz29 2, bc BSz29 3⟩ (fun hHeld => ?_); refine with_tabW spec_l01Src_n.tab7 spec_l01Src_n.bits7 (fun HT_ HW_ => ?_)
 generalize w28.drew = w30 at BSz29 HK HB hHeld ⊢
 refine pu 0 37 14 1 HT_ ?_
 refine pu 1 38 14 3 HT_ ?_
 refine pu 2 39 14 7 HT_ ?_
 refine pu 3 40 14 15 HT_ ?_
 refine pu 5 42 14 47 HT_ ?_
 refine pu 6 43 14 111 HT_ ?_
 refine pu 7 44 14 239 HT_ ?_
 refine tk 4 41 14 255 HT_ HW_ hHeld ?_
 refine tk 8 45 14 511 HT_ HW_ hHeld ?_
 refine pu 9 46 14 1023 HT_ ?_
 refine pu 10 47 14 2047 HT_ ?_
 refine pu 11 48 14 4095 HT_ ?_
 refine pu 12 49 14 8191 HT_ ?_
 refine last_ (i := 13) (N := none) (bv 14 16383) rfl rfl (one_of HT_.out (by kernel_rfl)) (by decide) (fun K hK => ?_)
 have hs31 := bk w30 BSz29 2
 have hfs31 := bf BSz29 2
 refine skip_ (w1 := ?_) (by rfl) rfl ?_ ?_
 rotate_left
 ·go_simp
  rfl
 refine hK.out _ _ ?_
 clear hK K
 refine done_ (done_of HT_.out (by kernel_rfl)) ?_
 replace BSz29 : Aside0 ((w30.setCell ⟨g, 2, none⟩ (.int .u64 (Go.bits .xor .u64 s0_2 (IntKind.u64.wrap (s0_2 * 8192))))).heap[g]? = some (.cells #[.slice ASz29_0 s0_0.length cSz29_0, .int .i64 s0_1, .int .u64 (Go.bits .xor .u64 s0_2 (IntKind.u64.wrap (s0_2 * 8192))), .int .i64 s0_3] 106 (0, 0))) := ⟨by (with_reducible repeat (first | apply dN | apply dW | apply dA)); refine blk_put (cs := #[.slice ASz29_0 s0_0.length cSz29_0, .int .i64 s0_1, .int .u64 s0_2, .int .i64 s0_3]) ?_ 2 _ rfl; exact bp BSz29⟩
 replace HK : Aside0 (KeepBut w (w30.setCell ⟨g, 2, none⟩ (.int .u64 (Go.bits .xor .u64 s0_2 (IntKind.u64.wrap (s0_2 * 8192))))) g none) := ⟨by repeat (first | (with_reducible first | exact HK.out | apply KeepBut.set_ | apply keep_drewN | apply keep_drew | apply keep_alloc | refine keep_far ?_ GW0.out _) | exact HK.out)⟩
 replace HB : Aside0 (Below w0.heap.size w0 (w30.setCell ⟨g, 2, none⟩ (.int .u64 (Go.bits .xor .u64 s0_2 (IntKind.u64.wrap (s0_2 * 8192)))))) := ⟨bw HB⟩
 generalize (w30.setCell ⟨g, 2, none⟩ (.int .u64 (Go.bits .xor .u64 s0_2 (IntKind.u64.wrap (s0_2 * 8192))))) = w32 at BSz29 HK HB ⊢
 have HI0 := am (show IsS106 w0 w32 g s0_0 s0_1 (Go.bits .xor .u64 s0_2 (IntKind.u64.wrap (s0_2 * 8192))) s0_3 from ⟨_, _, BSz29.out, GE0.out, HSz29_0⟩)
 clear BSz29 GE0 HSz29_0
 try go_wp2
 obtain ⟨ASz33_0, cSz33_0, HGz33, hgz33, HSz33_0⟩ := HI0.out
 have BSz33 := am HGz33
 have GE0 := am hgz33
 clear HGz33 hgz33 HI0
 replace BSz33 := am (blk_drew BSz33.out)
 replace HK := am (keep_drew HK.out)
 replace HB := am (below_drew1 HB.out)
 refine start_ (n := 14) (S := fun w' => w'.cell? ⟨g, 0, none⟩ = some (.slice ASz33_0 s0_0.length cSz33_0) ∧ w'.cell? ⟨g, 1, none⟩ = some (.int .i64 s0_1) ∧ w'.cell? ⟨g, 2, none⟩ = some (.int .u64 (Go.bits .xor .u64 s0_2 (IntKind.u64.wrap (s0_2 * 8192)))) ∧ w'.cell? ⟨g, 3, none⟩ = some (.int .i64 s0_3)) (ds := [13]) (bv 14 0) (by kernel_rfl) rfl (by kernel_rfl) ⟨bc BSz33 0, bc BSz33 1, bc BSz33 2, bc BSz33 3⟩ (fun hHeld => ?_); refine with_tabW spec_l01Src_n.tab8 spec_l01Src_n.bits8 (fun HT_ HW_ => ?_)
 generalize w32.drew = w34 at BSz33 HK HB hHeld ⊢
 refine pu 0 50 14 1 HT_ ?_
 refine pu 1 51 14 3 HT_ ?_
 refine pu 2 52 14 7 HT_ ?_
 refine pu 3 53 14 15 HT_ ?_
 refine pu 5 55 14 47 HT_ ?_
 refine pu 6 56 14 111 HT_ ?_
 refine pu 7 57 14 239 HT_ ?_
 refine tk 4 54 14 255 HT_ HW_ hHeld ?_
 refine tk 8 58 14 511 HT_ HW_ hHeld ?_
 refine pu 9 59 14 1023 HT_ ?_
 refine pu 10 60 14 2047 HT_ ?_
 refine pu 11 61 14 4095 HT_ ?_
 refine pu 12 62 14 8191 HT_ ?_
 refine last_ (i := 13) (N := none) (bv 14 16383) rfl rfl (one_of HT_.out (by kernel_rfl)) (by decide) (fun K hK => ?_)
 have hs35 := bk w34 BSz33 2
 have hfs35 := bf BSz33 2
 refine skip_ (w1 := ?_) (by rfl) rfl ?_ ?_
 rotate_left
 ·go_simp
  rfl
 refine hK.out _ _ ?_
 clear hK K
 refine done_ (done_of HT_.out (by kernel_rfl)) ?_
 replace BSz33 : Aside0 ((w34.setCell ⟨g, 2, none⟩ (.int .u64 (Go.bits .xor .u64 (Go.bits .xor .u64 s0_2 (IntKind.u64.wrap (s0_2 * 8192))) ((Go.bits .xor .u64 s0_2 (IntKind.u64.wrap (s0_2 * 8192))) / 128)))).heap[g]? = some (.cells #[.slice ASz33_0 s0_0.length cSz33_0, .int .i64 s0_1, .int .u64 (Go.bits .xor .u64 (Go.bits .xor .u64 s0_2 (IntKind.u64.wrap (s0_2 * 8192))) ((Go.bits .xor .u64 s0_2 (IntKind.u64.wrap (s0_2 * 8192))) / 128)), .int .i64 s0_3] 106 (0, 0))) := ⟨by (with_reducible repeat (first | apply dN | apply dW | apply dA)); refine blk_put (cs := #[.slice ASz33_0 s0_0.length cSz33_0, .int .i64 s0_1, .int .u64 (Go.bits .xor .u64 s0_2 (IntKind.u64.wrap (s0_2 * 8192))), .int .i64 s0_3]) ?_ 2 _ rfl; exact bp BSz33⟩
 replace HK : Aside0 (KeepBut w (w34.setCell ⟨g, 2, none⟩ (.int .u64 (Go.bits .xor .u64 (Go.bits .xor .u64 s0_2 (IntKind.u64.wrap (s0_2 * 8192))) ((Go.bits .xor .u64 s0_2 (IntKind.u64.wrap (s0_2 * 8192))) / 128)))) g none) := ⟨by repeat (first | (with_reducible first | exact HK.out | apply KeepBut.set_ | apply keep_drewN | apply keep_drew | apply keep_alloc | refine keep_far ?_ GW0.out _) | exact HK.out)⟩
 replace HB : Aside0 (Below w0.heap.size w0 (w34.setCell ⟨g, 2, none⟩ (.int .u64 (Go.bits .xor .u64 (Go.bits .xor .u64 s0_2 (IntKind.u64.wrap (s0_2 * 8192))) ((Go.bits .xor .u64 s0_2 (IntKind.u64.wrap (s0_2 * 8192))) / 128))))) := ⟨bw HB⟩
 generalize (w34.setCell ⟨g, 2, none⟩ (.int .u64 (Go.bits .xor .u64 (Go.bits .xor .u64 s0_2 (IntKind.u64.wrap (s0_2 * 8192))) ((Go.bits .xor .u64 s0_2 (IntKind.u64.wrap (s0_2 * 8192))) / 128)))) = w36 at BSz33 HK HB ⊢
 have HI0 := am (show IsS106 w0 w36 g s0_0 s0_1 (Go.bits .xor .u64 (Go.bits .xor .u64 s0_2 (IntKind.u64.wrap (s0_2 * 8192))) ((Go.bits .xor .u64 s0_2 (IntKind.u64.wrap (s0_2 * 8192))) / 128)) s0_3 from ⟨_, _, BSz33.out, GE0.out, HSz33_0⟩)
 clear BSz33 GE0 HSz33_0
 try go_wp2
 obtain ⟨ASz37_0, cSz37_0, HGz37, hgz37, HSz37_0⟩ := HI0.out
 have BSz37 := am HGz37
 have GE0 := am hgz37
 clear HGz37 hgz37 HI0
 replace BSz37 := am (blk_drew BSz37.out)
 replace HK := am (keep_drew HK.out)
 replace HB := am (below_drew1 HB.out)
 refine start_ (n := 14) (S := fun w' => w'.cell? ⟨g, 0, none⟩ = some (.slice ASz37_0 s0_0.length cSz37_0) ∧ w'.cell? ⟨g, 1, none⟩ = some (.int .i64 s0_1) ∧ w'.cell? ⟨g, 2, none⟩ = some (.int .u64 (Go.bits .xor .u64 (Go.bits .xor .u64 s0_2 (IntKind.u64.wrap (s0_2 * 8192))) ((Go.bits .xor .u64 s0_2 (IntKind.u64.wrap (s0_2 * 8192))) / 128))) ∧ w'.cell? ⟨g, 3, none⟩ = some (.int .i64 s0_3)) (ds := [13]) (bv 14 0) (by kernel_rfl) rfl (by kernel_rfl) ⟨bc BSz37 0, bc BSz37 1, bc BSz37 2, bc BSz37 3⟩ (fun hHeld => ?_); refine with_tabW spec_l01Src_n.tab9 spec_l01Src_n.bits9 (fun HT_ HW_ => ?_)
 generalize w36.drew = w38 at BSz37 HK HB hHeld ⊢
 refine pu 0 63 14 1 HT_ ?_
 refine pu 1 64 14 3 HT_ ?_
 refine pu 2 65 14 7 HT_ ?_
 refine pu 3 66 14 15 HT_ ?_
 refine pu 5 68 14 47 HT_ ?_
 refine pu 6 69 14 111 HT_ ?_
 refine pu 7 70 14 239 HT_ ?_
 refine tk 4 67 14 255 HT_ HW_ hHeld ?_
 refine tk 8 71 14 511 HT_ HW_ hHeld ?_
 refine pu 9 72 14 1023 HT_ ?_
 refine pu 10 73 14 2047 HT_ ?_
 refine pu 11 74 14 4095 HT_ ?_
 refine pu 12 75 14 8191 HT_ ?_
 refine last_ (i := 13) (N := none) (bv 14 16383) rfl rfl (one_of HT_.out (by kernel_rfl)) (by decide) (fun K hK => ?_)
 have hs39 := bk w38 BSz37 2
 have hfs39 := bf BSz37 2
 refine skip_ (w1 := ?_) (by rfl) rfl ?_ ?_
 rotate_left
 ·go_simp
  rfl
 refine hK.out _ _ ?_
 clear hK K
 refine done_ (done_of HT_.out (by kernel_rfl)) ?_
 replace BSz37 : Aside0 ((w38.setCell ⟨g, 2, none⟩ (.int .u64 (Go.bits .xor .u64 (Go.bits .xor .u64 (Go.bits .xor .u64 s0_2 (IntKind.u64.wrap (s0_2 * 8192))) ((Go.bits .xor .u64 s0_2 (IntKind.u64.wrap (s0_2 * 8192))) / 128)) (IntKind.u64.wrap ((Go.bits .xor .u64 (Go.bits .xor .u64 s0_2 (IntKind.u64.wrap (s0_2 * 8192))) ((Go.bits .xor .u64 s0_2 (IntKind.u64.wrap (s0_2 * 8192))) / 128)) * 131072))))).heap[g]? = some (.cells #[.slice ASz37_0 s0_0.length cSz37_0, .int .i64 s0_1, .int .u64 (Go.bits .xor .u64 (Go.bits .xor .u64 (Go.bits .xor .u64 s0_2 (IntKind.u64.wrap (s0_2 * 8192))) ((Go.bits .xor .u64 s0_2 (IntKind.u64.wrap (s0_2 * 8192))) / 128)) (IntKind.u64.wrap ((Go.bits .xor .u64 (Go.bits .xor .u64 s0_2 (IntKind.u64.wrap (s0_2 * 8192))) ((Go.bits .xor .u64 s0_2 (IntKind.u64.wrap (s0_2 * 8192))) / 128)) * 131072))), .int .i64 s0_3] 106 (0, 0))) := ⟨by (with_reducible repeat (first | apply dN | apply dW | apply dA)); refine blk_put (cs := #[.slice ASz37_0 s0_0.length cSz37_0, .int .i64 s0_1, .int .u64 (Go.bits .xor .u64 (Go.bits .xor .u64 s0_2 (IntKind.u64.wrap (s0_2 * 8192))) ((Go.bits .xor .u64 s0_2 (IntKind.u64.wrap (s0_2 * 8192))) / 128)), .int .i64 s0_3]) ?_ 2 _ rfl; exact bp BSz37⟩
 replace HK : Aside0 (KeepBut w (w38.setCell ⟨g, 2, none⟩ (.int .u64 (Go.bits .xor .u64 (Go.bits .xor .u64 (Go.bits .xor .u64 s0_2 (IntKind.u64.wrap (s0_2 * 8192))) ((Go.bits .xor .u64 s0_2 (IntKind.u64.wrap (s0_2 * 8192))) / 128)) (IntKind.u64.wrap ((Go.bits .xor .u64 (Go.bits .xor .u64 s0_2 (IntKind.u64.wrap (s0_2 * 8192))) ((Go.bits .xor .u64 s0_2 (IntKind.u64.wrap (s0_2 * 8192))) / 128)) * 131072))))) g none) := ⟨by repeat (first | (with_reducible first | exact HK.out | apply KeepBut.set_ | apply keep_drewN | apply keep_drew | apply keep_alloc | refine keep_far ?_ GW0.out _) | exact HK.out)⟩
 replace HB : Aside0 (Below w0.heap.size w0 (w38.setCell ⟨g, 2, none⟩ (.int .u64 (Go.bits .xor .u64 (Go.bits .xor .u64 (Go.bits .xor .u64 s0_2 (IntKind.u64.wrap (s0_2 * 8192))) ((Go.bits .xor .u64 s0_2 (IntKind.u64.wrap (s0_2 * 8192))) / 128)) (IntKind.u64.wrap ((Go.bits .xor .u64 (Go.bits .xor .u64 s0_2 (IntKind.u64.wrap (s0_2 * 8192))) ((Go.bits .xor .u64 s0_2 (IntKind.u64.wrap (s0_2 * 8192))) / 128)) * 131072)))))) := ⟨bw HB⟩
 generalize (w38.setCell ⟨g, 2, none⟩ (.int .u64 (Go.bits .xor .u64 (Go.bits .xor .u64 (Go.bits .xor .u64 s0_2 (IntKind.u64.wrap (s0_2 * 8192))) ((Go.bits .xor .u64 s0_2 (IntKind.u64.wrap (s0_2 * 8192))) / 128)) (IntKind.u64.wrap ((Go.bits .xor .u64 (Go.bits .xor .u64 s0_2 (IntKind.u64.wrap (s0_2 * 8192))) ((Go.bits .xor .u64 s0_2 (IntKind.u64.wrap (s0_2 * 8192))) / 128)) * 131072))))) = w40 at BSz37 HK HB ⊢
 have HI0 := am (show IsS106 w0 w40 g s0_0 s0_1 (Go.bits .xor .u64 (Go.bits .xor .u64 (Go.bits .xor .u64 s0_2 (IntKind.u64.wrap (s0_2 * 8192))) ((Go.bits .xor .u64 s0_2 (IntKind.u64.wrap (s0_2 * 8192))) / 128)) (IntKind.u64.wrap ((Go.bits .xor .u64 (Go.bits .xor .u64 s0_2 (IntKind.u64.wrap (s0_2 * 8192))) ((Go.bits .xor .u64 s0_2 (IntKind.u64.wrap (s0_2 * 8192))) / 128)) * 131072))) s0_3 from ⟨_, _, BSz37.out, GE0.out, HSz37_0⟩)
 clear BSz37 GE0 HSz37_0
 obtain ⟨ASz41_0, cSz41_0, HGz41, hgz41, HSz41_0⟩ := HI0.out
 have hcz41_0 := cellS106_0 HGz41
 have hcz41_1 := cellS106_1 HGz41
 have hcz41_2 := cellS106_2 HGz41
 have hcz41_3 := cellS106_3 HGz41
 have hfz41_1 := blk_frozen HGz41 1
 have hfz41_2 := blk_frozen HGz41 2
 have hfz41_3 := blk_frozen HGz41 3
 clear HGz41 hgz41
 try go_wp2
 go_ret
 exact ⟨er, by repeat (first | (with_reducible first | exact HI0.out | apply IsS106.alloc | apply IsS106.drewN | apply IsS106.drew | apply IsS106.set_1 | apply IsS106.set_2 | apply IsS106.set_3) | exact HI0.out), by repeat (first | (with_reducible first | exact HB.out | apply below_alloc | apply pw_below_drewN | apply below_drew1 | refine below_set ?_ (IsS106.ge HI0.out)) | exact HB.out), by repeat (first | (with_reducible first | exact HK.out | apply KeepBut.set_ | apply keep_drewN | apply keep_drew | apply keep_alloc) | exact HK.out)⟩

end Go.Proofs.Ytopaefhfjioecaa.QFnFileCut
