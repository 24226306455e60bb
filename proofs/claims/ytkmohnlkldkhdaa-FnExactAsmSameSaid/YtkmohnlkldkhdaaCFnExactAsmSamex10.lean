import Derived.Test.YtkmohnlkldkhdaaCFnExactAsmSamex0
import Derived.Test.YtkmohnlkldkhdaaCFnExactAsmSamex8
import Derived.Test.YtkmohnlkldkhdaaCFnExactAsmSamex9
namespace Go.Proofs.Ytkmohnlkldkhdaa.QFnExactAsmSame
open Go.RowKit Go.Proofs.YtkmohnlkldkhdaaW
open PrintWords PrintLast PrintMore PrintShort PrintIsh
attribute [local go_sem] max2_int min2_int max_two min_two max_three min_three max_four min_four   -- for this text's walks alone
set_option linter.unusedVariables false
set_option maxHeartbeats 8000000
set_option maxRecDepth 100000
set_option linter.unusedSimpArgs false

def laws_eqValSS.l0 : Nat → List (List (S130)) → List (List (S130)) → Int → Option (Bool)
 | 0, _, _, _ => none
 | k + 1, x0, x1, x5 => if x5 < (x0.length : Int) then (if 0 ≤ x5 then (if x5 < (x1.length : Int) then ((laws_eqValS.f k (rd_L9 x0 x5) (rd_L9 x1 x5)).bind fun t229 => (if t229 = true then (laws_eqValSS.l0 k x0 x1 (wrap64 (x5 + 1))) else (some false))) else (none)) else (none)) else (some true)
def laws_eqValSS.f (k : Nat) (l0 : List (List (S130))) (l1 : List (List (S130))) : Option (Bool) := if (l0.length : Int) = (l1.length : Int) then (laws_eqValSS.l0 k l0 l1 0) else (some false)
theorem laws_eqValSS.mono_l : ∀ k, (∀ y0 y1 y2, LeO (laws_eqValSS.l0 k y0 y1 y2) (laws_eqValSS.l0 (k + 1) y0 y1 y2))
 | 0 => fun _ _ _ r h => by simp [laws_eqValSS.l0] at h
 | k + 1 => by
  have ih0 := laws_eqValSS.mono_l k
  ·intro y0 y1 y2
   unfold laws_eqValSS.l0
   repeat' first
   | (with_reducible exact ih0 _ _ _)
   | (with_reducible exact laws_eqValS.mono _ _ _)
   | (with_reducible exact LeO.refl _)
   | (with_reducible exact LeO.none _)
   | (with_reducible refine LeO.ite ?_ ?_)
   | (with_reducible refine LeO.bind ?_ (fun _ => ?_))
theorem laws_eqValSS.mono : ∀ a0 a1 k, LeO (laws_eqValSS.f k a0 a1) (laws_eqValSS.f (k + 1) a0 a1) := by
 intro a0 a1 k
 have ih0 := laws_eqValSS.mono_l k
 unfold laws_eqValSS.f
 repeat' first
   | (with_reducible exact ih0 _ _ _)
   | (with_reducible exact laws_eqValS.mono _ _ _)
   | (with_reducible exact LeO.refl _)
   | (with_reducible exact LeO.none _)
   | (with_reducible refine LeO.ite ?_ ?_)
   | (with_reducible refine LeO.bind ?_ (fun _ => ?_))
def laws_eqValSS.T6 : Bool × List (List Nat × List Nat) := (true, [([], []), ([], []), ([0, 1], [0, 1]), ([2], [2]), ([], []), ([], []), ([4, 5], [4, 5]), ([6], [6]), ([3, 7], [3, 7]), ([8], [8])])
def laws_eqValSS.B6 : List Nat := [0, 0, 3, 7, 0, 0, 48, 112, 255, 511]
theorem laws_eqValSS.tab6 : rtab .any (opsOf Try.f97 6) = laws_eqValSS.T6 := by kernel_rfl
theorem laws_eqValSS.bits6 : waitsOk laws_eqValSS.T6.2 laws_eqValSS.B6 = true := by kernel_rfl
theorem laws_eqValSS.calls (k : Nat) (A0 : Option Addr) (c0 : Nat) (l0 : List (List (S130))) (A1 : Option Addr) (c1 : Nat) (l1 : List (List (S130))) (r : Bool) (w : World) (hr0 : Kd.C (Kd.slice 130 k130) w A0 l0.length l0) (hc0 : l0.length ≤ c0) (hr1 : Kd.C (Kd.slice 130 k130) w A1 l1.length l1) (hc1 : l1.length ≤ c1) (h : laws_eqValSS.f k l0 l1 = some r) :
  Calls Try.prog 97 #[.slice A0 l0.length c0, .slice A1 l1.length c1] w fun e w' => e = .returned (.bool r) ∧ Below w.heap.size w w' := by
 have HR0 := am hr0
 have HC0 := am hc0
 clear hr0 hc0
 have HR1 := am hr1
 have HC1 := am hc1
 clear hr1 hc1
 have HB := am (Below.refl w.heap.size w)
 have H : (if (l0.length : Int) = (l1.length : Int) then (laws_eqValSS.l0 k l0 l1 0) else (some false)) = some r := h
 clear h
 by_cases c3 : (l0.length : Int) = (l1.length : Int)
 ·rw [if_pos c3] at H
  have c3b0 : ((l0.length : Int) == (l1.length : Int)) = true := beq_iff_eq.mpr c3
  have c3b1 : ((l0.length : Int) != (l1.length : Int)) = false := bne_eq_false_iff_eq.mpr c3
  have c3b2 : (l0.length == l1.length) = true := by first | simpa using c3 | (simp at c3 ⊢; omega)
  clear c3
  have H' := am H
  clear H
  go_enter Try.func97, Try.ntmps97
  go_wp2
  go_loopg [5] k (fun kq v5 w' => ∃ (x5_1 : Int), v5 = .int .i64 x5_1 ∧ Aside0 (laws_eqValSS.l0 kq l0 l1 x5_1 = some r) ∧ Aside0 (kq ≤ k) ∧ Aside0 (Below w.heap.size w w'))
  case atStart => exact ⟨(0), dr, H', ⟨Nat.le_refl _⟩, ⟨bw HB⟩⟩
  case round =>
   clear H'
   (try clear c1); (try clear p2); (try clear c3); (try clear c3b0); (try clear c3b1); (try clear c3b2)
   obtain ⟨x5_1, rfl, HA, HK1, HB⟩ := hrel
   cases gk with
   | zero => exact absurd HA.out (by simp [laws_eqValSS.l0])
   | succ k1 =>
    have H := HA.out
    clear HA
    simp only [laws_eqValSS.l0] at H
    by_cases c4 : x5_1 < (l0.length : Int)
    ·rw [if_pos c4] at H
     have c4b0 := decide_eq_true c4
     clear c4
     by_cases c5 : 0 ≤ x5_1
     ·rw [if_pos c5] at H
      have c5b0 := decide_eq_true c5
      clear c5
      by_cases c6 : x5_1 < (l1.length : Int)
      ·rw [if_pos c6] at H
       have c6b0 := decide_eq_true c6
       clear c6
       replace H := Option.bind_eq_some_iff.mp H
       obtain ⟨t229, A70, H⟩ := H
       replace H : (if t229 = true then (laws_eqValSS.l0 k1 l0 l1 (wrap64 (x5_1 + 1))) else (some false)) = some r := H
       have A7 := am A70
       clear A70
       by_cases c8 : t229 = true
       ·subst c8
        have H1 : (laws_eqValSS.l0 k1 l0 l1 (wrap64 (x5_1 + 1))) = some r := by rw [if_pos rfl] at H; exact H
        clear H
        have H := H1
        clear H1
        have H' := am H
        clear H
        try go_wp2
        have n0_ := am (below_drew1 HB.out)
        clear HB
        have HB := n0_
        clear n0_
        have p227 : 0 ≤ (x5_1 : Int) := of_decide_eq_true as1
        have q227 : x5_1 < (l0.length : Int) := of_decide_eq_true as1
        obtain ⟨ad227, A227_0, c227_0, e227, hx227_0, hl227_0, hi227_0⟩ := at_L9 HR0.out x5_1 p227 q227
        have hw227_0 := hx227_0
        cases e227
        replace hx227_0 := (HB.out.cell (World.block_lt_of_cell? w _ hx227_0)).trans hx227_0
        have HR227_0 := am hi227_0
        have HC227_0 := am hl227_0
        clear hi227_0 hl227_0
        replace p227 := eq_true p227
        replace q227 := eq_true q227
        have p228 : 0 ≤ (x5_1 : Int) := of_decide_eq_true as1
        have q228 : x5_1 < (l1.length : Int) := of_decide_eq_true as1
        obtain ⟨ad228, A228_0, c228_0, e228, hx228_0, hl228_0, hi228_0⟩ := at_L9 HR1.out x5_1 p228 q228
        have hw228_0 := hx228_0
        cases e228
        replace hx228_0 := (HB.out.cell (World.block_lt_of_cell? w _ hx228_0)).trans hx228_0
        have HR228_0 := am hi228_0
        have HC228_0 := am hl228_0
        clear hi228_0 hl228_0
        replace p228 := eq_true p228
        replace q228 := eq_true q228
        refine start_ (n := 10) (S := fun w' => w'.cell? (ad227.add (x5_1).toNat) = some (.slice A227_0 (rd_L9 l0 x5_1).length c227_0) ∧ w'.cell? (ad228.add (x5_1).toNat) = some (.slice A228_0 (rd_L9 l1 x5_1).length c228_0)) (ds := []) #[false, false, false, false, false, false, false, false, false, false] (by kernel_rfl) rfl rfl ⟨((HB.out.cell (World.block_lt_of_cell? _ _ hw227_0)).trans hw227_0), ((HB.out.cell (World.block_lt_of_cell? _ _ hw228_0)).trans hw228_0)⟩ (fun hHeld => ?_); refine with_tabW laws_eqValSS.tab6 laws_eqValSS.bits6 (fun HT_ HW_ => ?_)
        generalize wr.drew = w9 at HB HR227_0 HR228_0 hx227_0 hx228_0 hHeld ⊢
        refine pure_ (i := 0) (N := some 17) (v := ?_) (a' := ?_) #[true, false, false, false, false, false, false, false, false, false] rfl rfl (any_of HT_.out (by kernel_rfl)) (fun _ _ _ h => h) (Or.inl ⟨by rfl, ?_⟩) ?_ ?_
        rotate_left
        ·intro w'
         go_simp
         with_reducible rfl
        rotate_left
        ·simp only [Act.put, sa, sz, ss, i64_w, i32_w]
         rfl
        refine pure_ (i := 1) (N := some 18) (v := ?_) (a' := ?_) #[true, true, false, false, false, false, false, false, false, false] rfl rfl (any_of HT_.out (by kernel_rfl)) (fun _ _ _ h => h) (Or.inl ⟨by rfl, ?_⟩) ?_ ?_
        rotate_left
        ·intro w'
         go_simp
         with_reducible rfl
        rotate_left
        ·simp only [Act.put, sa, sz, ss, i64_w, i32_w]
         rfl
        refine pure_ (i := 2) (N := some 19) (v := ?_) (a' := ?_) #[true, true, true, false, false, false, false, false, false, false] rfl rfl (any_of HT_.out (by kernel_rfl)) (fun _ _ _ h => h) (Or.inl ⟨by rfl, ?_⟩) ?_ ?_
        rotate_left
        ·intro w'
         go_simp
         with_reducible rfl
        rotate_left
        ·simp only [Act.put, sa, sz, ss, i64_w, i32_w]
         rfl
        refine pure_ (i := 4) (N := some 21) (v := ?_) (a' := ?_) #[true, true, true, false, true, false, false, false, false, false] rfl rfl (any_of HT_.out (by kernel_rfl)) (fun _ _ _ h => h) (Or.inl ⟨by rfl, ?_⟩) ?_ ?_
        rotate_left
        ·intro w'
         go_simp
         with_reducible rfl
        rotate_left
        ·simp only [Act.put, sa, sz, ss, i64_w, i32_w]
         rfl
        refine pure_ (i := 5) (N := some 22) (v := ?_) (a' := ?_) #[true, true, true, false, true, true, false, false, false, false] rfl rfl (any_of HT_.out (by kernel_rfl)) (fun _ _ _ h => h) (Or.inl ⟨by rfl, ?_⟩) ?_ ?_
        rotate_left
        ·intro w'
         go_simp
         with_reducible rfl
        rotate_left
        ·simp only [Act.put, sa, sz, ss, i64_w, i32_w]
         rfl
        refine pure_ (i := 6) (N := some 23) (v := ?_) (a' := ?_) #[true, true, true, false, true, true, true, false, false, false] rfl rfl (any_of HT_.out (by kernel_rfl)) (fun _ _ _ h => h) (Or.inl ⟨by rfl, ?_⟩) ?_ ?_
        rotate_left
        ·intro w'
         go_simp
         with_reducible rfl
        rotate_left
        ·simp only [Act.put, sa, sz, ss, i64_w, i32_w]
         rfl
        refine take_ (i := 3) (N := some 20) (v := ?_) (a' := ?_) #[true, true, true, true, true, true, true, false, false, false] rfl rfl (take_ofW HT_.out HW_.out (by kernel_rfl)) (fun _ _ _ h => h) (Or.inl ⟨by rfl, ?_⟩) hHeld ?_ ?_
        rotate_left
        ·rintro w' ⟨s0, s1⟩
         go_simp
         with_reducible rfl
        rotate_left
        ·simp only [Act.put, sa, sz, ss, i64_w, i32_w]
         rfl
        refine take_ (i := 7) (N := some 24) (v := ?_) (a' := ?_) #[true, true, true, true, true, true, true, true, false, false] rfl rfl (take_ofW HT_.out HW_.out (by kernel_rfl)) (fun _ _ _ h => h) (Or.inl ⟨by rfl, ?_⟩) hHeld ?_ ?_
        rotate_left
        ·rintro w' ⟨s0, s1⟩
         go_simp
         with_reducible rfl
        rotate_left
        ·simp only [Act.put, sa, sz, ss, i64_w, i32_w]
         rfl
        refine one_ (i := 8) (N := some 25) #[true, true, true, true, true, true, true, true, true, false] rfl rfl (one_of HT_.out (by kernel_rfl)) (by decide) (fun K hK => ?_)
        refine goes_ Try.func113 (by kernel_rfl) rfl #[.slice A227_0 (rd_L9 l0 x5_1).length c227_0, .slice A228_0 (rd_L9 l1 x5_1).length c228_0] (by rfl) rfl rfl gl ?_
        with_reducible refine (laws_eqValS.calls k1 _ _ (rd_L9 l0 x5_1) _ _ (rd_L9 l1 x5_1) true _ ?side1 ?side2 ?side3 ?side4 A7.out).mono ?_
        (case side1 => exact cc (Kd.C_below HR227_0.out HB.out))
        (case side2 => exact HC227_0.out)
        (case side3 => exact cc (Kd.C_below HR228_0.out HB.out))
        (case side4 => exact HC228_0.out)
        rintro e w10 ⟨rfl, hb⟩
        refine ⟨_, rfl, ?_⟩
        have n0_ := am (below_step (bw HB) hb)
        clear HB
        have HB := n0_
        clear n0_
        (try clear hb)
        (try clear hb2)
        (try clear hk)
        (try clear hi)
        refine hK.out _ _ ⟨((HB.out.cell (World.block_lt_of_cell? _ _ hw227_0)).trans hw227_0), ((HB.out.cell (World.block_lt_of_cell? _ _ hw228_0)).trans hw228_0)⟩ (fun hHeld => ?_)
        clear hK K
        refine norm_ (a' := ?_) ?_ ?_
        rotate_left
        ·show Act.put _ (some 25) _ = _
         simp only [Act.put, sa, sz, ss, i64_w, i32_w]
         rfl
        refine pure_ (i := 9) (N := some 26) (v := ?_) (a' := ?_) #[true, true, true, true, true, true, true, true, true, true] rfl rfl (any_of HT_.out (by kernel_rfl)) (fun _ _ _ h => h) (Or.inl ⟨by rfl, ?_⟩) ?_ ?_
        rotate_left
        ·intro w'
         go_simp
         with_reducible rfl
        rotate_left
        ·simp only [Act.put, sa, sz, ss, i64_w, i32_w]
         rfl
        refine done_ (done_of HT_.out (by kernel_rfl)) ?_
        try go_wp2
        go_roundg k1
        case measure => have := HK1.out; omega
        case rel => exact ⟨(wrap64 (x5_1 + 1)), dr, H', ⟨by have := HK1.out; omega⟩, ⟨bw HB⟩⟩
       ·replace c8 := Bool.eq_false_iff.mpr c8
        subst c8
        have H1 : (some false) = some r := by rw [if_neg (show ¬ (false = true) by decide)] at H; exact H
        clear H
        have H := H1
        clear H1
        obtain rfl := Option.some.inj H
        try go_wp2
        have n0_ := am (below_drew1 HB.out)
        clear HB
        have HB := n0_
        clear n0_
        have p227 : 0 ≤ (x5_1 : Int) := of_decide_eq_true as1
        have q227 : x5_1 < (l0.length : Int) := of_decide_eq_true as1
        obtain ⟨ad227, A227_0, c227_0, e227, hx227_0, hl227_0, hi227_0⟩ := at_L9 HR0.out x5_1 p227 q227
        have hw227_0 := hx227_0
        cases e227
        replace hx227_0 := (HB.out.cell (World.block_lt_of_cell? w _ hx227_0)).trans hx227_0
        have HR227_0 := am hi227_0
        have HC227_0 := am hl227_0
        clear hi227_0 hl227_0
        replace p227 := eq_true p227
        replace q227 := eq_true q227
        have p228 : 0 ≤ (x5_1 : Int) := of_decide_eq_true as1
        have q228 : x5_1 < (l1.length : Int) := of_decide_eq_true as1
        obtain ⟨ad228, A228_0, c228_0, e228, hx228_0, hl228_0, hi228_0⟩ := at_L9 HR1.out x5_1 p228 q228
        have hw228_0 := hx228_0
        cases e228
        replace hx228_0 := (HB.out.cell (World.block_lt_of_cell? w _ hx228_0)).trans hx228_0
        have HR228_0 := am hi228_0
        have HC228_0 := am hl228_0
        clear hi228_0 hl228_0
        replace p228 := eq_true p228
        replace q228 := eq_true q228
        refine start_ (n := 10) (S := fun w' => w'.cell? (ad227.add (x5_1).toNat) = some (.slice A227_0 (rd_L9 l0 x5_1).length c227_0) ∧ w'.cell? (ad228.add (x5_1).toNat) = some (.slice A228_0 (rd_L9 l1 x5_1).length c228_0)) (ds := []) #[false, false, false, false, false, false, false, false, false, false] (by kernel_rfl) rfl rfl ⟨((HB.out.cell (World.block_lt_of_cell? _ _ hw227_0)).trans hw227_0), ((HB.out.cell (World.block_lt_of_cell? _ _ hw228_0)).trans hw228_0)⟩ (fun hHeld => ?_); refine with_tabW laws_eqValSS.tab6 laws_eqValSS.bits6 (fun HT_ HW_ => ?_)
        generalize wr.drew = w11 at HB HR227_0 HR228_0 hx227_0 hx228_0 hHeld ⊢
        refine pure_ (i := 0) (N := some 17) (v := ?_) (a' := ?_) #[true, false, false, false, false, false, false, false, false, false] rfl rfl (any_of HT_.out (by kernel_rfl)) (fun _ _ _ h => h) (Or.inl ⟨by rfl, ?_⟩) ?_ ?_
        rotate_left
        ·intro w'
         go_simp
         with_reducible rfl
        rotate_left
        ·simp only [Act.put, sa, sz, ss, i64_w, i32_w]
         rfl
        refine pure_ (i := 1) (N := some 18) (v := ?_) (a' := ?_) #[true, true, false, false, false, false, false, false, false, false] rfl rfl (any_of HT_.out (by kernel_rfl)) (fun _ _ _ h => h) (Or.inl ⟨by rfl, ?_⟩) ?_ ?_
        rotate_left
        ·intro w'
         go_simp
         with_reducible rfl
        rotate_left
        ·simp only [Act.put, sa, sz, ss, i64_w, i32_w]
         rfl
        refine pure_ (i := 2) (N := some 19) (v := ?_) (a' := ?_) #[true, true, true, false, false, false, false, false, false, false] rfl rfl (any_of HT_.out (by kernel_rfl)) (fun _ _ _ h => h) (Or.inl ⟨by rfl, ?_⟩) ?_ ?_
        rotate_left
        ·intro w'
         go_simp
         with_reducible rfl
        rotate_left
        ·simp only [Act.put, sa, sz, ss, i64_w, i32_w]
         rfl
        refine pure_ (i := 4) (N := some 21) (v := ?_) (a' := ?_) #[true, true, true, false, true, false, false, false, false, false] rfl rfl (any_of HT_.out (by kernel_rfl)) (fun _ _ _ h => h) (Or.inl ⟨by rfl, ?_⟩) ?_ ?_
        rotate_left
        ·intro w'
         go_simp
         with_reducible rfl
        rotate_left
        ·simp only [Act.put, sa, sz, ss, i64_w, i32_w]
         rfl
        refine pure_ (i := 5) (N := some 22) (v := ?_) (a' := ?_) #[true, true, true, false, true, true, false, false, false, false] rfl rfl (any_of HT_.out (by kernel_rfl)) (fun _ _ _ h => h) (Or.inl ⟨by rfl, ?_⟩) ?_ ?_
        rotate_left
        ·intro w'
         go_simp
         with_reducible rfl
        rotate_left
        ·simp only [Act.put, sa, sz, ss, i64_w, i32_w]
         rfl
        refine pure_ (i := 6) (N := some 23) (v := ?_) (a' := ?_) #[true, true, true, false, true, true, true, false, false, false] rfl rfl (any_of HT_.out (by kernel_rfl)) (fun _ _ _ h => h) (Or.inl ⟨by rfl, ?_⟩) ?_ ?_
        rotate_left
        ·intro w'
         go_simp
         with_reducible rfl
        rotate_left
        ·simp only [Act.put, sa, sz, ss, i64_w, i32_w]
         rfl
        refine take_ (i := 3) (N := some 20) (v := ?_) (a' := ?_) #[true, true, true, true, true, true, true, false, false, false] rfl rfl (take_ofW HT_.out HW_.out (by kernel_rfl)) (fun _ _ _ h => h) (Or.inl ⟨by rfl, ?_⟩) hHeld ?_ ?_
        rotate_left
        ·rintro w' ⟨s0, s1⟩
         go_simp
         with_reducible rfl
        rotate_left
        ·simp only [Act.put, sa, sz, ss, i64_w, i32_w]
         rfl
        refine take_ (i := 7) (N := some 24) (v := ?_) (a' := ?_) #[true, true, true, true, true, true, true, true, false, false] rfl rfl (take_ofW HT_.out HW_.out (by kernel_rfl)) (fun _ _ _ h => h) (Or.inl ⟨by rfl, ?_⟩) hHeld ?_ ?_
        rotate_left
        ·rintro w' ⟨s0, s1⟩
         go_simp
         with_reducible rfl
        rotate_left
        ·simp only [Act.put, sa, sz, ss, i64_w, i32_w]
         rfl
        refine one_ (i := 8) (N := some 25) #[true, true, true, true, true, true, true, true, true, false] rfl rfl (one_of HT_.out (by kernel_rfl)) (by decide) (fun K hK => ?_)
        refine goes_ Try.func113 (by kernel_rfl) rfl #[.slice A227_0 (rd_L9 l0 x5_1).length c227_0, .slice A228_0 (rd_L9 l1 x5_1).length c228_0] (by rfl) rfl rfl gl ?_
        with_reducible refine (laws_eqValS.calls k1 _ _ (rd_L9 l0 x5_1) _ _ (rd_L9 l1 x5_1) false _ ?side1 ?side2 ?side3 ?side4 A7.out).mono ?_
        (case side1 => exact cc (Kd.C_below HR227_0.out HB.out))
        (case side2 => exact HC227_0.out)
        (case side3 => exact cc (Kd.C_below HR228_0.out HB.out))
        (case side4 => exact HC228_0.out)
        rintro e w12 ⟨rfl, hb⟩
        refine ⟨_, rfl, ?_⟩
        have n0_ := am (below_step (bw HB) hb)
        clear HB
        have HB := n0_
        clear n0_
        (try clear hb)
        (try clear hb2)
        (try clear hk)
        (try clear hi)
        refine hK.out _ _ ⟨((HB.out.cell (World.block_lt_of_cell? _ _ hw227_0)).trans hw227_0), ((HB.out.cell (World.block_lt_of_cell? _ _ hw228_0)).trans hw228_0)⟩ (fun hHeld => ?_)
        clear hK K
        refine norm_ (a' := ?_) ?_ ?_
        rotate_left
        ·show Act.put _ (some 25) _ = _
         simp only [Act.put, sa, sz, ss, i64_w, i32_w]
         rfl
        refine pure_ (i := 9) (N := some 26) (v := ?_) (a' := ?_) #[true, true, true, true, true, true, true, true, true, true] rfl rfl (any_of HT_.out (by kernel_rfl)) (fun _ _ _ h => h) (Or.inl ⟨by rfl, ?_⟩) ?_ ?_
        rotate_left
        ·intro w'
         go_simp
         with_reducible rfl
        rotate_left
        ·simp only [Act.put, sa, sz, ss, i64_w, i32_w]
         rfl
        refine done_ (done_of HT_.out (by kernel_rfl)) ?_
        try go_wp2
        go_ret
        exact ⟨er, bw HB⟩
      ·rw [if_neg c6] at H
       exact absurd H (by simp)
     ·rw [if_neg c5] at H
      exact absurd H (by simp)
    ·rw [if_neg c4] at H
     have c4b0 := decide_eq_false c4
     clear c4
     obtain rfl := Option.some.inj H
     go_wp2
     go_ret
     exact ⟨er, bw HB⟩
 ·rw [if_neg c3] at H
  have c3b0 : ((l0.length : Int) == (l1.length : Int)) = false := beq_eq_false_iff_ne.mpr c3
  have c3b1 : ((l0.length : Int) != (l1.length : Int)) = true := bne_iff_ne.mpr c3
  have c3b2 : (l0.length == l1.length) = false := by first | simpa using c3 | (simp at c3 ⊢; omega)
  obtain rfl := Option.some.inj H
  go_enter Try.func97, Try.ntmps97
  go_wp2
  go_ret
  exact ⟨er, bw HB⟩

def laws_eqAsm.f (k : Nat) (a0_0 : Int) (l0_1 : List (S123)) (l0_2 : List (List (S130))) (a1_0 : Int) (l1_1 : List (S123)) (l1_2 : List (List (S130))) : Option (Bool) := if a0_0 = a1_0 then ((laws_eqAsmInsS.f k l0_1 l1_1).bind fun t232 => (if t232 = true then ((laws_eqValSS.f k l0_2 l1_2).bind fun t233 => (if t233 = true then (some true) else (some false))) else (some false))) else (some false)
theorem laws_eqAsm.mono : ∀ a0 a1 a2 a3 a4 a5 k, LeO (laws_eqAsm.f k a0 a1 a2 a3 a4 a5) (laws_eqAsm.f (k + 1) a0 a1 a2 a3 a4 a5) := by
 intro a0 a1 a2 a3 a4 a5 k
 unfold laws_eqAsm.f
 repeat' first
   | (with_reducible exact laws_eqAsmInsS.mono _ _ _)
   | (with_reducible exact laws_eqValSS.mono _ _ _)
   | (with_reducible exact LeO.refl _)
   | (with_reducible exact LeO.none _)
   | (with_reducible refine LeO.ite ?_ ?_)
   | (with_reducible refine LeO.bind ?_ (fun _ => ?_))
theorem laws_eqAsm.calls (k : Nat) (a0_0 : Int) (A0_1 : Option Addr) (c0_1 : Nat) (l0_1 : List (S123)) (A0_2 : Option Addr) (c0_2 : Nat) (l0_2 : List (List (S130))) (a1_0 : Int) (A1_1 : Option Addr) (c1_1 : Nat) (l1_1 : List (S123)) (A1_2 : Option Addr) (c1_2 : Nat) (l1_2 : List (List (S130))) (r : Bool) (w : World) (hr0_1 : Kd.C k123 w A0_1 l0_1.length l0_1) (hc0_1 : l0_1.length ≤ c0_1) (hr0_2 : Kd.C (Kd.slice 130 k130) w A0_2 l0_2.length l0_2) (hc0_2 : l0_2.length ≤ c0_2) (hr1_1 : Kd.C k123 w A1_1 l1_1.length l1_1) (hc1_1 : l1_1.length ≤ c1_1) (hr1_2 : Kd.C (Kd.slice 130 k130) w A1_2 l1_2.length l1_2) (hc1_2 : l1_2.length ≤ c1_2) (h : laws_eqAsm.f k a0_0 l0_1 l0_2 a1_0 l1_1 l1_2 = some r) :
  Calls Try.prog 51 #[.agg #[.int .i64 a0_0, .slice A0_1 l0_1.length c0_1, .slice A0_2 l0_2.length c0_2], .agg #[.int .i64 a1_0, .slice A1_1 l1_1.length c1_1, .slice A1_2 l1_2.length c1_2]] w fun e w' => e = .returned (.bool r) ∧ Below w.heap.size w w' := by
 have hu79 := Try.underlying79
 have HR0_1 := am hr0_1
 have HC0_1 := am hc0_1
 clear hr0_1 hc0_1
 have HR0_2 := am hr0_2
 have HC0_2 := am hc0_2
 clear hr0_2 hc0_2
 have HR1_1 := am hr1_1
 have HC1_1 := am hc1_1
 clear hr1_1 hc1_1
 have HR1_2 := am hr1_2
 have HC1_2 := am hc1_2
 clear hr1_2 hc1_2
 have HB := am (Below.refl w.heap.size w)
 have H : (if a0_0 = a1_0 then ((laws_eqAsmInsS.f k l0_1 l1_1).bind fun t232 => (if t232 = true then ((laws_eqValSS.f k l0_2 l1_2).bind fun t233 => (if t233 = true then (some true) else (some false))) else (some false))) else (some false)) = some r := h
 clear h
 by_cases c3 : a0_0 = a1_0
 ·rw [if_pos c3] at H
  have c3b0 : (a0_0 == a1_0) = true := beq_iff_eq.mpr c3
  have c3b1 : (a0_0 != a1_0) = false := bne_eq_false_iff_eq.mpr c3
  clear c3
  replace H := Option.bind_eq_some_iff.mp H
  obtain ⟨t232, A40, H⟩ := H
  replace H : (if t232 = true then ((laws_eqValSS.f k l0_2 l1_2).bind fun t233 => (if t233 = true then (some true) else (some false))) else (some false)) = some r := H
  have A4 := am A40
  clear A40
  by_cases c5 : t232 = true
  ·subst c5
   have H1 : ((laws_eqValSS.f k l0_2 l1_2).bind fun t233 => (if t233 = true then (some true) else (some false))) = some r := by rw [if_pos rfl] at H; exact H
   clear H
   have H := H1
   clear H1
   replace H := Option.bind_eq_some_iff.mp H
   obtain ⟨t233, A60, H⟩ := H
   replace H : (if t233 = true then (some true) else (some false)) = some r := H
   have A6 := am A60
   clear A60
   by_cases c7 : t233 = true
   ·subst c7
    have H1 : (some true) = some r := by rw [if_pos rfl] at H; exact H
    clear H
    have H := H1
    clear H1
    obtain rfl := Option.some.inj H
    go_enter Try.func51, Try.ntmps51
    go_wp2_with (first | ((with_reducible refine gate_dst (N := 2) rfl ?_); refine box_event ?hg (N := 2) ?hd (cs := #[.int .i64 a0_0, .slice A0_1 l0_1.length c0_1, .slice A0_2 l0_2.length c0_2]) (t := 79) ?hr ?_; (case hd => rfl); (case hg => rfl); (case hr => exact gs); intro gb230 hg w8 hbox hb; have BK230 := am (hbox); have GW230 := am ((by rw [hg]; exact (below_size (bw HB)) : w.heap.size ≤ gb230)); have GE230 := am ((by rw [hg]; exact (below_size (bw HB)) : w.heap.size ≤ gb230)); replace HB := am (below_step (bw HB) hb); clear hb hbox hg) | ((with_reducible refine gate_dst (N := 3) rfl ?_); refine box_event ?hg (N := 3) ?hd (cs := #[.int .i64 a1_0, .slice A1_1 l1_1.length c1_1, .slice A1_2 l1_2.length c1_2]) (t := 79) ?hr ?_; (case hd => rfl); (case hg => rfl); (case hr => exact gs); intro gb231 hg w9 hbox hb; have BK231 := am (hbox); have GW231 := am ((by rw [hg]; exact (below_size (bw HB)) : w.heap.size ≤ gb231)); have GE231 := am ((by rw [hg]; exact (below_size (bw HB)) : w.heap.size ≤ gb231)); replace HB := am (below_step (bw HB) hb); have NB230_231 := am ((by rw [hg]; exact Nat.ne_of_lt (blk_lt (g := gb230) (o := .cells #[.int .i64 a0_0, .slice A0_1 l0_1.length c0_1, .slice A0_2 l0_2.length c0_2] 79 (0, 0)) (bp BK230)) : gb230 ≠ gb231)); have NB231_230 := am ((by rw [hg]; exact Nat.ne_of_gt (blk_lt (g := gb230) (o := .cells #[.int .i64 a0_0, .slice A0_1 l0_1.length c0_1, .slice A0_2 l0_2.length c0_2] 79 (0, 0)) (bp BK230)) : gb231 ≠ gb230)); replace BK230 := am (blk_below (g := gb230) (o := .cells #[.int .i64 a0_0, .slice A0_1 l0_1.length c0_1, .slice A0_2 l0_2.length c0_2] 79 (0, 0)) (bp BK230) hb); clear hb hbox hg; have hnb10 := NB230_231.out; have hnc10 := NB231_230.out; have hcz11_0 : w9.cell? ⟨gb230, 0, none⟩ = some (.int .i64 a0_0) := bc BK230 0; have hcz11_1 : w9.cell? ⟨gb230, 1, none⟩ = some (.slice A0_1 l0_1.length c0_1) := bc BK230 1; have hcz11_2 : w9.cell? ⟨gb230, 2, none⟩ = some (.slice A0_2 l0_2.length c0_2) := bc BK230 2; have hfz11_0 := bf BK230 0; have hfz11_1 := bf BK230 1; have hfz11_2 := bf BK230 2; have hcz12_0 : w9.cell? ⟨gb231, 0, none⟩ = some (.int .i64 a1_0) := bc BK231 0; have hcz12_1 : w9.cell? ⟨gb231, 1, none⟩ = some (.slice A1_1 l1_1.length c1_1) := bc BK231 1; have hcz12_2 : w9.cell? ⟨gb231, 2, none⟩ = some (.slice A1_2 l1_2.length c1_2) := bc BK231 2; have hfz12_0 := bf BK231 0; have hfz12_1 := bf BK231 1; have hfz12_2 := bf BK231 2) | ((with_reducible refine gate_callee (f := 96) rfl ?_); refine goesL_ (some 14) rfl rfl Try.func96 (by kernel_rfl) rfl #[.slice A0_1 l0_1.length c0_1, .slice A1_1 l1_1.length c1_1] rfl gl ?_; (with_reducible refine (laws_eqAsmInsS.calls k _ _ l0_1 _ _ l1_1 true _ ?side1 ?side2 ?side3 ?side4 A4.out).mono ?_); (case side1 => exact cc (Kd.C_below HR0_1.out HB.out)); (case side2 => exact HC0_1.out); (case side3 => exact cc (Kd.C_below HR1_1.out HB.out)); (case side4 => exact HC1_1.out); rintro e w13 ⟨rfl, hb⟩; refine ⟨_, rfl, ?_⟩; replace BK230 := am (blk_below (g := gb230) (o := .cells #[.int .i64 a0_0, .slice A0_1 l0_1.length c0_1, .slice A0_2 l0_2.length c0_2] 79 (0, 0)) (bp BK230) hb); replace BK231 := am (blk_below (g := gb231) (o := .cells #[.int .i64 a1_0, .slice A1_1 l1_1.length c1_1, .slice A1_2 l1_2.length c1_2] 79 (0, 0)) (bp BK231) hb); replace HB := am (below_step (bw HB) hb); (try clear hb); (try clear hb2); (try clear hk); (try clear hi); have hcz14_0 : w13.cell? ⟨gb230, 0, none⟩ = some (.int .i64 a0_0) := bc BK230 0; have hcz14_1 : w13.cell? ⟨gb230, 1, none⟩ = some (.slice A0_1 l0_1.length c0_1) := bc BK230 1; have hcz14_2 : w13.cell? ⟨gb230, 2, none⟩ = some (.slice A0_2 l0_2.length c0_2) := bc BK230 2; have hfz14_0 := bf BK230 0; have hfz14_1 := bf BK230 1; have hfz14_2 := bf BK230 2; have hcz15_0 : w13.cell? ⟨gb231, 0, none⟩ = some (.int .i64 a1_0) := bc BK231 0; have hcz15_1 : w13.cell? ⟨gb231, 1, none⟩ = some (.slice A1_1 l1_1.length c1_1) := bc BK231 1; have hcz15_2 : w13.cell? ⟨gb231, 2, none⟩ = some (.slice A1_2 l1_2.length c1_2) := bc BK231 2; have hfz15_0 := bf BK231 0; have hfz15_1 := bf BK231 1; have hfz15_2 := bf BK231 2) | ((with_reducible refine gate_callee (f := 97) rfl ?_); refine goesL_ (some 20) rfl rfl Try.func97 (by kernel_rfl) rfl #[.slice A0_2 l0_2.length c0_2, .slice A1_2 l1_2.length c1_2] rfl gl ?_; (with_reducible refine (laws_eqValSS.calls k _ _ l0_2 _ _ l1_2 true _ ?side1 ?side2 ?side3 ?side4 A6.out).mono ?_); (case side1 => exact cc (Kd.C_below HR0_2.out HB.out)); (case side2 => exact HC0_2.out); (case side3 => exact cc (Kd.C_below HR1_2.out HB.out)); (case side4 => exact HC1_2.out); rintro e w16 ⟨rfl, hb⟩; refine ⟨_, rfl, ?_⟩; replace BK230 := am (blk_below (g := gb230) (o := .cells #[.int .i64 a0_0, .slice A0_1 l0_1.length c0_1, .slice A0_2 l0_2.length c0_2] 79 (0, 0)) (bp BK230) hb); replace BK231 := am (blk_below (g := gb231) (o := .cells #[.int .i64 a1_0, .slice A1_1 l1_1.length c1_1, .slice A1_2 l1_2.length c1_2] 79 (0, 0)) (bp BK231) hb); replace HB := am (below_step (bw HB) hb); (try clear hb); (try clear hb2); (try clear hk); (try clear hi)))
    go_ret
    exact ⟨er, bw HB⟩
   ·replace c7 := Bool.eq_false_iff.mpr c7
    subst c7
    have H1 : (some false) = some r := by rw [if_neg (show ¬ (false = true) by decide)] at H; exact H
    clear H
    have H := H1
    clear H1
    obtain rfl := Option.some.inj H
    go_enter Try.func51, Try.ntmps51
    go_wp2_with (first | ((with_reducible refine gate_dst (N := 2) rfl ?_); refine box_event ?hg (N := 2) ?hd (cs := #[.int .i64 a0_0, .slice A0_1 l0_1.length c0_1, .slice A0_2 l0_2.length c0_2]) (t := 79) ?hr ?_; (case hd => rfl); (case hg => rfl); (case hr => exact gs); intro gb230 hg w17 hbox hb; have BK230 := am (hbox); have GW230 := am ((by rw [hg]; exact (below_size (bw HB)) : w.heap.size ≤ gb230)); have GE230 := am ((by rw [hg]; exact (below_size (bw HB)) : w.heap.size ≤ gb230)); replace HB := am (below_step (bw HB) hb); clear hb hbox hg) | ((with_reducible refine gate_dst (N := 3) rfl ?_); refine box_event ?hg (N := 3) ?hd (cs := #[.int .i64 a1_0, .slice A1_1 l1_1.length c1_1, .slice A1_2 l1_2.length c1_2]) (t := 79) ?hr ?_; (case hd => rfl); (case hg => rfl); (case hr => exact gs); intro gb231 hg w18 hbox hb; have BK231 := am (hbox); have GW231 := am ((by rw [hg]; exact (below_size (bw HB)) : w.heap.size ≤ gb231)); have GE231 := am ((by rw [hg]; exact (below_size (bw HB)) : w.heap.size ≤ gb231)); replace HB := am (below_step (bw HB) hb); have NB230_231 := am ((by rw [hg]; exact Nat.ne_of_lt (blk_lt (g := gb230) (o := .cells #[.int .i64 a0_0, .slice A0_1 l0_1.length c0_1, .slice A0_2 l0_2.length c0_2] 79 (0, 0)) (bp BK230)) : gb230 ≠ gb231)); have NB231_230 := am ((by rw [hg]; exact Nat.ne_of_gt (blk_lt (g := gb230) (o := .cells #[.int .i64 a0_0, .slice A0_1 l0_1.length c0_1, .slice A0_2 l0_2.length c0_2] 79 (0, 0)) (bp BK230)) : gb231 ≠ gb230)); replace BK230 := am (blk_below (g := gb230) (o := .cells #[.int .i64 a0_0, .slice A0_1 l0_1.length c0_1, .slice A0_2 l0_2.length c0_2] 79 (0, 0)) (bp BK230) hb); clear hb hbox hg; have hnb19 := NB230_231.out; have hnc19 := NB231_230.out; have hcz20_0 : w18.cell? ⟨gb230, 0, none⟩ = some (.int .i64 a0_0) := bc BK230 0; have hcz20_1 : w18.cell? ⟨gb230, 1, none⟩ = some (.slice A0_1 l0_1.length c0_1) := bc BK230 1; have hcz20_2 : w18.cell? ⟨gb230, 2, none⟩ = some (.slice A0_2 l0_2.length c0_2) := bc BK230 2; have hfz20_0 := bf BK230 0; have hfz20_1 := bf BK230 1; have hfz20_2 := bf BK230 2; have hcz21_0 : w18.cell? ⟨gb231, 0, none⟩ = some (.int .i64 a1_0) := bc BK231 0; have hcz21_1 : w18.cell? ⟨gb231, 1, none⟩ = some (.slice A1_1 l1_1.length c1_1) := bc BK231 1; have hcz21_2 : w18.cell? ⟨gb231, 2, none⟩ = some (.slice A1_2 l1_2.length c1_2) := bc BK231 2; have hfz21_0 := bf BK231 0; have hfz21_1 := bf BK231 1; have hfz21_2 := bf BK231 2) | ((with_reducible refine gate_callee (f := 96) rfl ?_); refine goesL_ (some 14) rfl rfl Try.func96 (by kernel_rfl) rfl #[.slice A0_1 l0_1.length c0_1, .slice A1_1 l1_1.length c1_1] rfl gl ?_; (with_reducible refine (laws_eqAsmInsS.calls k _ _ l0_1 _ _ l1_1 true _ ?side1 ?side2 ?side3 ?side4 A4.out).mono ?_); (case side1 => exact cc (Kd.C_below HR0_1.out HB.out)); (case side2 => exact HC0_1.out); (case side3 => exact cc (Kd.C_below HR1_1.out HB.out)); (case side4 => exact HC1_1.out); rintro e w22 ⟨rfl, hb⟩; refine ⟨_, rfl, ?_⟩; replace BK230 := am (blk_below (g := gb230) (o := .cells #[.int .i64 a0_0, .slice A0_1 l0_1.length c0_1, .slice A0_2 l0_2.length c0_2] 79 (0, 0)) (bp BK230) hb); replace BK231 := am (blk_below (g := gb231) (o := .cells #[.int .i64 a1_0, .slice A1_1 l1_1.length c1_1, .slice A1_2 l1_2.length c1_2] 79 (0, 0)) (bp BK231) hb); replace HB := am (below_step (bw HB) hb); (try clear hb); (try clear hb2); (try clear hk); (try clear hi); have hcz23_0 : w22.cell? ⟨gb230, 0, none⟩ = some (.int .i64 a0_0) := bc BK230 0; have hcz23_1 : w22.cell? ⟨gb230, 1, none⟩ = some (.slice A0_1 l0_1.length c0_1) := bc BK230 1; have hcz23_2 : w22.cell? ⟨gb230, 2, none⟩ = some (.slice A0_2 l0_2.length c0_2) := bc BK230 2; have hfz23_0 := bf BK230 0; have hfz23_1 := bf BK230 1; have hfz23_2 := bf BK230 2; have hcz24_0 : w22.cell? ⟨gb231, 0, none⟩ = some (.int .i64 a1_0) := bc BK231 0; have hcz24_1 : w22.cell? ⟨gb231, 1, none⟩ = some (.slice A1_1 l1_1.length c1_1) := bc BK231 1; have hcz24_2 : w22.cell? ⟨gb231, 2, none⟩ = some (.slice A1_2 l1_2.length c1_2) := bc BK231 2; have hfz24_0 := bf BK231 0; have hfz24_1 := bf BK231 1; have hfz24_2 := bf BK231 2) | ((with_reducible refine gate_callee (f := 97) rfl ?_); refine goesL_ (some 20) rfl rfl Try.func97 (by kernel_rfl) rfl #[.slice A0_2 l0_2.length c0_2, .slice A1_2 l1_2.length c1_2] rfl gl ?_; (with_reducible refine (laws_eqValSS.calls k _ _ l0_2 _ _ l1_2 false _ ?side1 ?side2 ?side3 ?side4 A6.out).mono ?_); (case side1 => exact cc (Kd.C_below HR0_2.out HB.out)); (case side2 => exact HC0_2.out); (case side3 => exact cc (Kd.C_below HR1_2.out HB.out)); (case side4 => exact HC1_2.out); rintro e w25 ⟨rfl, hb⟩; refine ⟨_, rfl, ?_⟩; replace BK230 := am (blk_below (g := gb230) (o := .cells #[.int .i64 a0_0, .slice A0_1 l0_1.length c0_1, .slice A0_2 l0_2.length c0_2] 79 (0, 0)) (bp BK230) hb); replace BK231 := am (blk_below (g := gb231) (o := .cells #[.int .i64 a1_0, .slice A1_1 l1_1.length c1_1, .slice A1_2 l1_2.length c1_2] 79 (0, 0)) (bp BK231) hb); replace HB := am (below_step (bw HB) hb); (try clear hb); (try clear hb2); (try clear hk); (try clear hi)))
    go_ret
    exact ⟨er, bw HB⟩
  ·replace c5 := Bool.eq_false_iff.mpr c5
   subst c5
   have H1 : (some false) = some r := by rw [if_neg (show ¬ (false = true) by decide)] at H; exact H
   clear H
   have H := H1
   clear H1
   obtain rfl := Option.some.inj H
   go_enter Try.func51, Try.ntmps51
   go_wp2_with (first | ((with_reducible refine gate_dst (N := 2) rfl ?_); refine box_event ?hg (N := 2) ?hd (cs := #[.int .i64 a0_0, .slice A0_1 l0_1.length c0_1, .slice A0_2 l0_2.length c0_2]) (t := 79) ?hr ?_; (case hd => rfl); (case hg => rfl); (case hr => exact gs); intro gb230 hg w26 hbox hb; have BK230 := am (hbox); have GW230 := am ((by rw [hg]; exact (below_size (bw HB)) : w.heap.size ≤ gb230)); have GE230 := am ((by rw [hg]; exact (below_size (bw HB)) : w.heap.size ≤ gb230)); replace HB := am (below_step (bw HB) hb); clear hb hbox hg) | ((with_reducible refine gate_dst (N := 3) rfl ?_); refine box_event ?hg (N := 3) ?hd (cs := #[.int .i64 a1_0, .slice A1_1 l1_1.length c1_1, .slice A1_2 l1_2.length c1_2]) (t := 79) ?hr ?_; (case hd => rfl); (case hg => rfl); (case hr => exact gs); intro gb231 hg w27 hbox hb; have BK231 := am (hbox); have GW231 := am ((by rw [hg]; exact (below_size (bw HB)) : w.heap.size ≤ gb231)); have GE231 := am ((by rw [hg]; exact (below_size (bw HB)) : w.heap.size ≤ gb231)); replace HB := am (below_step (bw HB) hb); have NB230_231 := am ((by rw [hg]; exact Nat.ne_of_lt (blk_lt (g := gb230) (o := .cells #[.int .i64 a0_0, .slice A0_1 l0_1.length c0_1, .slice A0_2 l0_2.length c0_2] 79 (0, 0)) (bp BK230)) : gb230 ≠ gb231)); have NB231_230 := am ((by rw [hg]; exact Nat.ne_of_gt (blk_lt (g := gb230) (o := .cells #[.int .i64 a0_0, .slice A0_1 l0_1.length c0_1, .slice A0_2 l0_2.length c0_2] 79 (0, 0)) (bp BK230)) : gb231 ≠ gb230)); replace BK230 := am (blk_below (g := gb230) (o := .cells #[.int .i64 a0_0, .slice A0_1 l0_1.length c0_1, .slice A0_2 l0_2.length c0_2] 79 (0, 0)) (bp BK230) hb); clear hb hbox hg; have hnb28 := NB230_231.out; have hnc28 := NB231_230.out; have hcz29_0 : w27.cell? ⟨gb230, 0, none⟩ = some (.int .i64 a0_0) := bc BK230 0; have hcz29_1 : w27.cell? ⟨gb230, 1, none⟩ = some (.slice A0_1 l0_1.length c0_1) := bc BK230 1; have hcz29_2 : w27.cell? ⟨gb230, 2, none⟩ = some (.slice A0_2 l0_2.length c0_2) := bc BK230 2; have hfz29_0 := bf BK230 0; have hfz29_1 := bf BK230 1; have hfz29_2 := bf BK230 2; have hcz30_0 : w27.cell? ⟨gb231, 0, none⟩ = some (.int .i64 a1_0) := bc BK231 0; have hcz30_1 : w27.cell? ⟨gb231, 1, none⟩ = some (.slice A1_1 l1_1.length c1_1) := bc BK231 1; have hcz30_2 : w27.cell? ⟨gb231, 2, none⟩ = some (.slice A1_2 l1_2.length c1_2) := bc BK231 2; have hfz30_0 := bf BK231 0; have hfz30_1 := bf BK231 1; have hfz30_2 := bf BK231 2) | ((with_reducible refine gate_callee (f := 96) rfl ?_); refine goesL_ (some 14) rfl rfl Try.func96 (by kernel_rfl) rfl #[.slice A0_1 l0_1.length c0_1, .slice A1_1 l1_1.length c1_1] rfl gl ?_; (with_reducible refine (laws_eqAsmInsS.calls k _ _ l0_1 _ _ l1_1 false _ ?side1 ?side2 ?side3 ?side4 A4.out).mono ?_); (case side1 => exact cc (Kd.C_below HR0_1.out HB.out)); (case side2 => exact HC0_1.out); (case side3 => exact cc (Kd.C_below HR1_1.out HB.out)); (case side4 => exact HC1_1.out); rintro e w31 ⟨rfl, hb⟩; refine ⟨_, rfl, ?_⟩; replace BK230 := am (blk_below (g := gb230) (o := .cells #[.int .i64 a0_0, .slice A0_1 l0_1.length c0_1, .slice A0_2 l0_2.length c0_2] 79 (0, 0)) (bp BK230) hb); replace BK231 := am (blk_below (g := gb231) (o := .cells #[.int .i64 a1_0, .slice A1_1 l1_1.length c1_1, .slice A1_2 l1_2.length c1_2] 79 (0, 0)) (bp BK231) hb); replace HB := am (below_step (bw HB) hb); (try clear hb); (try clear hb2); (try clear hk); (try clear hi)))
   go_ret
   exact ⟨er, bw HB⟩
 ·rw [if_neg c3] at H
  have c3b0 : (a0_0 == a1_0) = false := beq_eq_false_iff_ne.mpr c3
  have c3b1 : (a0_0 != a1_0) = true := bne_iff_ne.mpr c3
  obtain rfl := Option.some.inj H
  go_enter Try.func51, Try.ntmps51
  go_wp2_with (first | ((with_reducible refine gate_dst (N := 2) rfl ?_); refine box_event ?hg (N := 2) ?hd (cs := #[.int .i64 a0_0, .slice A0_1 l0_1.length c0_1, .slice A0_2 l0_2.length c0_2]) (t := 79) ?hr ?_; (case hd => rfl); (case hg => rfl); (case hr => exact gs); intro gb230 hg w32 hbox hb; have BK230 := am (hbox); have GW230 := am ((by rw [hg]; exact (below_size (bw HB)) : w.heap.size ≤ gb230)); have GE230 := am ((by rw [hg]; exact (below_size (bw HB)) : w.heap.size ≤ gb230)); replace HB := am (below_step (bw HB) hb); clear hb hbox hg) | ((with_reducible refine gate_dst (N := 3) rfl ?_); refine box_event ?hg (N := 3) ?hd (cs := #[.int .i64 a1_0, .slice A1_1 l1_1.length c1_1, .slice A1_2 l1_2.length c1_2]) (t := 79) ?hr ?_; (case hd => rfl); (case hg => rfl); (case hr => exact gs); intro gb231 hg w33 hbox hb; have BK231 := am (hbox); have GW231 := am ((by rw [hg]; exact (below_size (bw HB)) : w.heap.size ≤ gb231)); have GE231 := am ((by rw [hg]; exact (below_size (bw HB)) : w.heap.size ≤ gb231)); replace HB := am (below_step (bw HB) hb); have NB230_231 := am ((by rw [hg]; exact Nat.ne_of_lt (blk_lt (g := gb230) (o := .cells #[.int .i64 a0_0, .slice A0_1 l0_1.length c0_1, .slice A0_2 l0_2.length c0_2] 79 (0, 0)) (bp BK230)) : gb230 ≠ gb231)); have NB231_230 := am ((by rw [hg]; exact Nat.ne_of_gt (blk_lt (g := gb230) (o := .cells #[.int .i64 a0_0, .slice A0_1 l0_1.length c0_1, .slice A0_2 l0_2.length c0_2] 79 (0, 0)) (bp BK230)) : gb231 ≠ gb230)); replace BK230 := am (blk_below (g := gb230) (o := .cells #[.int .i64 a0_0, .slice A0_1 l0_1.length c0_1, .slice A0_2 l0_2.length c0_2] 79 (0, 0)) (bp BK230) hb); clear hb hbox hg; have hnb34 := NB230_231.out; have hnc34 := NB231_230.out; have hcz35_0 : w33.cell? ⟨gb230, 0, none⟩ = some (.int .i64 a0_0) := bc BK230 0; have hcz35_1 : w33.cell? ⟨gb230, 1, none⟩ = some (.slice A0_1 l0_1.length c0_1) := bc BK230 1; have hcz35_2 : w33.cell? ⟨gb230, 2, none⟩ = some (.slice A0_2 l0_2.length c0_2) := bc BK230 2; have hfz35_0 := bf BK230 0; have hfz35_1 := bf BK230 1; have hfz35_2 := bf BK230 2; have hcz36_0 : w33.cell? ⟨gb231, 0, none⟩ = some (.int .i64 a1_0) := bc BK231 0; have hcz36_1 : w33.cell? ⟨gb231, 1, none⟩ = some (.slice A1_1 l1_1.length c1_1) := bc BK231 1; have hcz36_2 : w33.cell? ⟨gb231, 2, none⟩ = some (.slice A1_2 l1_2.length c1_2) := bc BK231 2; have hfz36_0 := bf BK231 0; have hfz36_1 := bf BK231 1; have hfz36_2 := bf BK231 2))
  go_ret
  exact ⟨er, bw HB⟩

end Go.Proofs.Ytkmohnlkldkhdaa.QFnExactAsmSame
