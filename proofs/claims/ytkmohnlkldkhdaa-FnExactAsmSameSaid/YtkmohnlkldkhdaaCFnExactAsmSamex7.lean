import Derived.Test.YtkmohnlkldkhdaaCFnExactAsmSamex0
import Derived.Test.YtkmohnlkldkhdaaCFnExactAsmSamex2
import Derived.Test.YtkmohnlkldkhdaaCFnExactAsmSamex6
namespace Go.Proofs.Ytkmohnlkldkhdaa.QFnExactAsmSame
open Go.RowKit Go.Proofs.YtkmohnlkldkhdaaW
open PrintWords PrintLast PrintMore PrintShort PrintIsh
attribute [local go_sem] max2_int min2_int max_two min_two max_three min_three max_four min_four   -- for this text's walks alone
set_option linter.unusedVariables false
set_option maxHeartbeats 8000000
set_option maxRecDepth 100000
set_option linter.unusedSimpArgs false

attribute [local go_sem high] eqA154
def impl_Mov.l0 : Nat → List (S154) → List (S154) → Int → Int → Option (Bool)
 | 0, _, _, _, _ => none
 | k + 1, x0, x1, x12, x13 => if x13 < x12 then (if 0 ≤ x13 then (if x13 < (x0.length : Int) then (if x13 < (x1.length : Int) then (if (!(((rd_T154 x0 x13).f0) == ((rd_T154 x1 x13).f0)) || ((!(((rd_T154 x0 x13).f1.f0) == ((rd_T154 x1 x13).f1.f0)) || (!(((rd_T154 x0 x13).f1.f1) == ((rd_T154 x1 x13).f1.f1)))))) = true then (some false) else (impl_Mov.l0 k x0 x1 x12 (wrap64 (x13 + 1)))) else (none)) else (none)) else (none)) else (some true)
def impl_Mov.f (k : Nat) (l0 : List (S154)) (l1 : List (S154)) : Option (Bool) := if (l0.length : Int) = (l1.length : Int) then (impl_Mov.l0 k l0 l1 (l0.length : Int) 0) else (some false)
theorem impl_Mov.mono_l : ∀ k, (∀ y0 y1 y2 y3, LeO (impl_Mov.l0 k y0 y1 y2 y3) (impl_Mov.l0 (k + 1) y0 y1 y2 y3))
 | 0 => fun _ _ _ _ r h => by simp [impl_Mov.l0] at h
 | k + 1 => by
  have ih0 := impl_Mov.mono_l k
  ·intro y0 y1 y2 y3
   unfold impl_Mov.l0
   repeat' first
   | (with_reducible exact ih0 _ _ _ _)
   | (with_reducible exact LeO.refl _)
   | (with_reducible exact LeO.none _)
   | (with_reducible refine LeO.ite ?_ ?_)
   | (with_reducible refine LeO.bind ?_ (fun _ => ?_))
theorem impl_Mov.mono : ∀ a0 a1 k, LeO (impl_Mov.f k a0 a1) (impl_Mov.f (k + 1) a0 a1) := by
 intro a0 a1 k
 have ih0 := impl_Mov.mono_l k
 unfold impl_Mov.f
 repeat' first
   | (with_reducible exact ih0 _ _ _ _)
   | (with_reducible exact LeO.refl _)
   | (with_reducible exact LeO.none _)
   | (with_reducible refine LeO.ite ?_ ?_)
   | (with_reducible refine LeO.bind ?_ (fun _ => ?_))
theorem impl_Mov.calls (k : Nat) (A0 : Option Addr) (c0 : Nat) (l0 : List (S154)) (A1 : Option Addr) (c1 : Nat) (l1 : List (S154)) (r : Bool) (w : World) (hr0 : Kd.C k154 w A0 l0.length l0) (hc0 : l0.length ≤ c0) (hr1 : Kd.C k154 w A1 l1.length l1) (hc1 : l1.length ≤ c1) (h : impl_Mov.f k l0 l1 = some r) :
  Calls Try.prog 111 #[.slice A0 l0.length c0, .slice A1 l1.length c1] w fun e w' => e = .returned (.bool r) ∧ Drawn0 w w' := by
 have hu154 := Try.underlying154
 have HR0 := am hr0
 have HC0 := am hc0
 clear hr0 hc0
 have HR1 := am hr1
 have HC1 := am hc1
 clear hr1 hc1
 have H : (if (l0.length : Int) = (l1.length : Int) then (impl_Mov.l0 k l0 l1 (l0.length : Int) 0) else (some false)) = some r := h
 clear h
 by_cases c3 : (l0.length : Int) = (l1.length : Int)
 ·rw [if_pos c3] at H
  have c3b0 : ((l0.length : Int) == (l1.length : Int)) = true := beq_iff_eq.mpr c3
  have c3b1 : ((l0.length : Int) != (l1.length : Int)) = false := bne_eq_false_iff_eq.mpr c3
  have c3b2 : (l0.length == l1.length) = true := by first | simpa using c3 | (simp at c3 ⊢; omega)
  clear c3
  have H' := am H
  clear H
  go_enter Try.func111, Try.ntmps111
  go_wp2
  repeat (go_quiet (fail); try go_wp2)
  go_loopg [13] k (fun kq v13 w' => ∃ (x13_1 : Int), v13 = .int .i64 x13_1 ∧ Aside0 (impl_Mov.l0 kq l0 l1 (l0.length : Int) x13_1 = some r) ∧ Aside0 (kq ≤ k) ∧ Drawn0 w w')
  case atStart => exact ⟨(0), dr, H', ⟨Nat.le_refl _⟩, by repeat (first | exact Drawn0.refl _ | apply Drawn0.step)⟩
  case round =>
   clear H'
   (try clear c1); (try clear p2); (try clear c3); (try clear c3b0); (try clear c3b1); (try clear c3b2)
   obtain ⟨x13_1, rfl, HA, HK1, ⟨m1, rfl⟩⟩ := hrel
   cases gk with
   | zero => exact absurd HA.out (by simp [impl_Mov.l0])
   | succ k1 =>
    have H := HA.out
    clear HA
    simp only [impl_Mov.l0] at H
    by_cases c4 : x13_1 < (l0.length : Int)
    ·rw [if_pos c4] at H
     have c4b0 := decide_eq_true c4
     clear c4
     by_cases c5 : 0 ≤ x13_1
     ·rw [if_pos c5] at H
      have c5b0 := decide_eq_true c5
      clear c5
      by_cases c6 : x13_1 < (l0.length : Int)
      ·rw [if_pos c6] at H
       have c6b0 := decide_eq_true c6
       clear c6
       by_cases c7 : x13_1 < (l1.length : Int)
       ·rw [if_pos c7] at H
        have c7b0 := decide_eq_true c7
        clear c7
        by_cases c8 : (!(((rd_T154 l0 x13_1).f0) == ((rd_T154 l1 x13_1).f0)) || ((!(((rd_T154 l0 x13_1).f1.f0) == ((rd_T154 l1 x13_1).f1.f0)) || (!(((rd_T154 l0 x13_1).f1.f1) == ((rd_T154 l1 x13_1).f1.f1)))))) = true
        ·rw [if_pos c8] at H
         have c8b0 : (!(((rd_T154 l0 x13_1).f0) == ((rd_T154 l1 x13_1).f0)) || ((!(((rd_T154 l0 x13_1).f1.f0) == ((rd_T154 l1 x13_1).f1.f0)) || (!(((rd_T154 l0 x13_1).f1.f1) == ((rd_T154 l1 x13_1).f1.f1)))))) = true := c8
         clear c8
         obtain rfl := Option.some.inj H
         have p191 : 0 ≤ (x13_1 : Int) := of_decide_eq_true as1
         have q191 : x13_1 < (l0.length : Int) := of_decide_eq_true as1
         obtain ⟨ad191, e191, hx191_0, hx191_1, hx191_2⟩ := at_T154 HR0.out x13_1 p191 q191
         cases e191
         replace p191 := eq_true p191
         replace q191 := eq_true q191
         have p192 : 0 ≤ (x13_1 : Int) := of_decide_eq_true as1
         have q192 : x13_1 < (l1.length : Int) := of_decide_eq_true as1
         obtain ⟨ad192, e192, hx192_0, hx192_1, hx192_2⟩ := at_T154 HR1.out x13_1 p192 q192
         cases e192
         replace p192 := eq_true p192
         replace q192 := eq_true q192
         go_wp2
         repeat (go_quiet (fail); try go_wp2)
         go_ret
         exact ⟨by first | rfl | (simp; done) | (simp [*]; done), by repeat (first | exact Drawn0.refl _ | apply Drawn0.step)⟩
        ·rw [if_neg c8] at H
         have c8b0 : (!(((rd_T154 l0 x13_1).f0) == ((rd_T154 l1 x13_1).f0)) || ((!(((rd_T154 l0 x13_1).f1.f0) == ((rd_T154 l1 x13_1).f1.f0)) || (!(((rd_T154 l0 x13_1).f1.f1) == ((rd_T154 l1 x13_1).f1.f1)))))) = false := by simpa using c8
         clear c8
         have H' := am H
         clear H
         have p191 : 0 ≤ (x13_1 : Int) := of_decide_eq_true as1
         have q191 : x13_1 < (l0.length : Int) := of_decide_eq_true as1
         obtain ⟨ad191, e191, hx191_0, hx191_1, hx191_2⟩ := at_T154 HR0.out x13_1 p191 q191
         cases e191
         replace p191 := eq_true p191
         replace q191 := eq_true q191
         have p192 : 0 ≤ (x13_1 : Int) := of_decide_eq_true as1
         have q192 : x13_1 < (l1.length : Int) := of_decide_eq_true as1
         obtain ⟨ad192, e192, hx192_0, hx192_1, hx192_2⟩ := at_T154 HR1.out x13_1 p192 q192
         cases e192
         replace p192 := eq_true p192
         replace q192 := eq_true q192
         go_wp2
         repeat (go_quiet (fail); try go_wp2)
         go_roundg k1
         case measure => have := HK1.out; omega
         case rel => exact ⟨(wrap64 (x13_1 + 1)), dr, H', ⟨by have := HK1.out; omega⟩, by repeat (first | exact Drawn0.refl _ | apply Drawn0.step)⟩
       ·rw [if_neg c7] at H
        exact absurd H (by simp)
      ·rw [if_neg c6] at H
       exact absurd H (by simp)
     ·rw [if_neg c5] at H
      exact absurd H (by simp)
    ·rw [if_neg c4] at H
     have c4b0 := decide_eq_false c4
     clear c4
     obtain rfl := Option.some.inj H
     go_wp2
     repeat (go_quiet (fail); try go_wp2)
     go_ret
     exact ⟨by first | rfl | (simp; done) | (simp [*]; done), by repeat (first | exact Drawn0.refl _ | apply Drawn0.step)⟩
 ·rw [if_neg c3] at H
  have c3b0 : ((l0.length : Int) == (l1.length : Int)) = false := beq_eq_false_iff_ne.mpr c3
  have c3b1 : ((l0.length : Int) != (l1.length : Int)) = true := bne_iff_ne.mpr c3
  have c3b2 : (l0.length == l1.length) = false := by first | simpa using c3 | (simp at c3 ⊢; omega)
  obtain rfl := Option.some.inj H
  go_enter Try.func111, Try.ntmps111
  go_wp2
  repeat (go_quiet (fail); try go_wp2)
  go_ret
  exact ⟨by first | rfl | (simp; done) | (simp [*]; done), by repeat (first | exact Drawn0.refl _ | apply Drawn0.step)⟩

def impl_sameIns.f (k : Nat) (l0_0 : List (S154)) (a0_1 : Int) (a0_2 : Int) (l0_3 : List (S130)) (a0_4 : Int) (l1_0 : List (S154)) (a1_1 : Int) (a1_2 : Int) (l1_3 : List (S130)) (a1_4 : Int) : Option (Bool) := (impl_Mov.f k l0_0 l1_0).bind fun t195 => (if t195 = true then (if a0_1 = a1_1 then (if a0_2 = a1_2 then ((impl_Val_95.f k l0_3 l1_3).bind fun t196 => (if t196 = true then (some (a0_4 == a1_4)) else (some false))) else (some false)) else (some false)) else (some false))
theorem impl_sameIns.mono : ∀ a0 a1 a2 a3 a4 a5 a6 a7 a8 a9 k, LeO (impl_sameIns.f k a0 a1 a2 a3 a4 a5 a6 a7 a8 a9) (impl_sameIns.f (k + 1) a0 a1 a2 a3 a4 a5 a6 a7 a8 a9) := by
 intro a0 a1 a2 a3 a4 a5 a6 a7 a8 a9 k
 unfold impl_sameIns.f
 repeat' first
   | (with_reducible exact impl_Mov.mono _ _ _)
   | (with_reducible exact impl_Val_95.mono _ _ _)
   | (with_reducible exact LeO.refl _)
   | (with_reducible exact LeO.none _)
   | (with_reducible refine LeO.ite ?_ ?_)
   | (with_reducible refine LeO.bind ?_ (fun _ => ?_))
theorem impl_sameIns.calls (k : Nat) (A0_0 : Option Addr) (c0_0 : Nat) (l0_0 : List (S154)) (a0_1 : Int) (a0_2 : Int) (A0_3 : Option Addr) (c0_3 : Nat) (l0_3 : List (S130)) (a0_4 : Int) (A1_0 : Option Addr) (c1_0 : Nat) (l1_0 : List (S154)) (a1_1 : Int) (a1_2 : Int) (A1_3 : Option Addr) (c1_3 : Nat) (l1_3 : List (S130)) (a1_4 : Int) (r : Bool) (w : World) (hr0_0 : Kd.C k154 w A0_0 l0_0.length l0_0) (hc0_0 : l0_0.length ≤ c0_0) (hr0_3 : Kd.C k130 w A0_3 l0_3.length l0_3) (hc0_3 : l0_3.length ≤ c0_3) (hr1_0 : Kd.C k154 w A1_0 l1_0.length l1_0) (hc1_0 : l1_0.length ≤ c1_0) (hr1_3 : Kd.C k130 w A1_3 l1_3.length l1_3) (hc1_3 : l1_3.length ≤ c1_3) (h : impl_sameIns.f k l0_0 a0_1 a0_2 l0_3 a0_4 l1_0 a1_1 a1_2 l1_3 a1_4 = some r) :
  Calls Try.prog 93 #[.agg #[.slice A0_0 l0_0.length c0_0, .int .i64 a0_1, .int .i64 a0_2, .slice A0_3 l0_3.length c0_3, .int .i64 a0_4], .agg #[.slice A1_0 l1_0.length c1_0, .int .i64 a1_1, .int .i64 a1_2, .slice A1_3 l1_3.length c1_3, .int .i64 a1_4]] w fun e w' => e = .returned (.bool r) ∧ Below w.heap.size w w' := by
 have hu123 := Try.underlying123
 have HR0_0 := am hr0_0
 have HC0_0 := am hc0_0
 clear hr0_0 hc0_0
 have HR0_3 := am hr0_3
 have HC0_3 := am hc0_3
 clear hr0_3 hc0_3
 have HR1_0 := am hr1_0
 have HC1_0 := am hc1_0
 clear hr1_0 hc1_0
 have HR1_3 := am hr1_3
 have HC1_3 := am hc1_3
 clear hr1_3 hc1_3
 have HB := am (Below.refl w.heap.size w)
 have H : ((impl_Mov.f k l0_0 l1_0).bind fun t195 => (if t195 = true then (if a0_1 = a1_1 then (if a0_2 = a1_2 then ((impl_Val_95.f k l0_3 l1_3).bind fun t196 => (if t196 = true then (some (a0_4 == a1_4)) else (some false))) else (some false)) else (some false)) else (some false))) = some r := h
 clear h
 replace H := Option.bind_eq_some_iff.mp H
 obtain ⟨t195, A30, H⟩ := H
 replace H : (if t195 = true then (if a0_1 = a1_1 then (if a0_2 = a1_2 then ((impl_Val_95.f k l0_3 l1_3).bind fun t196 => (if t196 = true then (some (a0_4 == a1_4)) else (some false))) else (some false)) else (some false)) else (some false)) = some r := H
 have A3 := am A30
 clear A30
 by_cases c4 : t195 = true
 ·subst c4
  have H1 : (if a0_1 = a1_1 then (if a0_2 = a1_2 then ((impl_Val_95.f k l0_3 l1_3).bind fun t196 => (if t196 = true then (some (a0_4 == a1_4)) else (some false))) else (some false)) else (some false)) = some r := by rw [if_pos rfl] at H; exact H
  clear H
  have H := H1
  clear H1
  by_cases c5 : a0_1 = a1_1
  ·rw [if_pos c5] at H
   have c5b0 : (a0_1 == a1_1) = true := beq_iff_eq.mpr c5
   have c5b1 : (a0_1 != a1_1) = false := bne_eq_false_iff_eq.mpr c5
   clear c5
   by_cases c6 : a0_2 = a1_2
   ·rw [if_pos c6] at H
    have c6b0 : (a0_2 == a1_2) = true := beq_iff_eq.mpr c6
    have c6b1 : (a0_2 != a1_2) = false := bne_eq_false_iff_eq.mpr c6
    clear c6
    replace H := Option.bind_eq_some_iff.mp H
    obtain ⟨t196, A70, H⟩ := H
    replace H : (if t196 = true then (some (a0_4 == a1_4)) else (some false)) = some r := H
    have A7 := am A70
    clear A70
    by_cases c8 : t196 = true
    ·subst c8
     have H1 : (some (a0_4 == a1_4)) = some r := by rw [if_pos rfl] at H; exact H
     clear H
     have H := H1
     clear H1
     obtain rfl := Option.some.inj H
     go_enter Try.func93, Try.ntmps93
     go_wp2_with (first | ((with_reducible refine gate_dst (N := 2) rfl ?_); refine box_event ?hg (N := 2) ?hd (cs := #[.slice A0_0 l0_0.length c0_0, .int .i64 a0_1, .int .i64 a0_2, .slice A0_3 l0_3.length c0_3, .int .i64 a0_4]) (t := 123) ?hr ?_; (case hd => rfl); (case hg => rfl); (case hr => exact gs); intro gb193 hg w9 hbox hb; have BK193 := am (hbox); have GW193 := am ((by rw [hg]; exact (below_size (bw HB)) : w.heap.size ≤ gb193)); have GE193 := am ((by rw [hg]; exact (below_size (bw HB)) : w.heap.size ≤ gb193)); replace HB := am (below_step (bw HB) hb); clear hb hbox hg) | ((with_reducible refine gate_dst (N := 3) rfl ?_); refine box_event ?hg (N := 3) ?hd (cs := #[.slice A1_0 l1_0.length c1_0, .int .i64 a1_1, .int .i64 a1_2, .slice A1_3 l1_3.length c1_3, .int .i64 a1_4]) (t := 123) ?hr ?_; (case hd => rfl); (case hg => rfl); (case hr => exact gs); intro gb194 hg w10 hbox hb; have BK194 := am (hbox); have GW194 := am ((by rw [hg]; exact (below_size (bw HB)) : w.heap.size ≤ gb194)); have GE194 := am ((by rw [hg]; exact (below_size (bw HB)) : w.heap.size ≤ gb194)); replace HB := am (below_step (bw HB) hb); have NB193_194 := am ((by rw [hg]; exact Nat.ne_of_lt (blk_lt (g := gb193) (o := .cells #[.slice A0_0 l0_0.length c0_0, .int .i64 a0_1, .int .i64 a0_2, .slice A0_3 l0_3.length c0_3, .int .i64 a0_4] 123 (0, 0)) (bp BK193)) : gb193 ≠ gb194)); have NB194_193 := am ((by rw [hg]; exact Nat.ne_of_gt (blk_lt (g := gb193) (o := .cells #[.slice A0_0 l0_0.length c0_0, .int .i64 a0_1, .int .i64 a0_2, .slice A0_3 l0_3.length c0_3, .int .i64 a0_4] 123 (0, 0)) (bp BK193)) : gb194 ≠ gb193)); replace BK193 := am (blk_below (g := gb193) (o := .cells #[.slice A0_0 l0_0.length c0_0, .int .i64 a0_1, .int .i64 a0_2, .slice A0_3 l0_3.length c0_3, .int .i64 a0_4] 123 (0, 0)) (bp BK193) hb); clear hb hbox hg; have hnb11 := NB193_194.out; have hnc11 := NB194_193.out; have hcz12_0 : w10.cell? ⟨gb193, 0, none⟩ = some (.slice A0_0 l0_0.length c0_0) := bc BK193 0; have hcz12_1 : w10.cell? ⟨gb193, 1, none⟩ = some (.int .i64 a0_1) := bc BK193 1; have hcz12_2 : w10.cell? ⟨gb193, 2, none⟩ = some (.int .i64 a0_2) := bc BK193 2; have hcz12_3 : w10.cell? ⟨gb193, 3, none⟩ = some (.slice A0_3 l0_3.length c0_3) := bc BK193 3; have hcz12_4 : w10.cell? ⟨gb193, 4, none⟩ = some (.int .i64 a0_4) := bc BK193 4; have hfz12_0 := bf BK193 0; have hfz12_1 := bf BK193 1; have hfz12_2 := bf BK193 2; have hfz12_3 := bf BK193 3; have hfz12_4 := bf BK193 4; have hcz13_0 : w10.cell? ⟨gb194, 0, none⟩ = some (.slice A1_0 l1_0.length c1_0) := bc BK194 0; have hcz13_1 : w10.cell? ⟨gb194, 1, none⟩ = some (.int .i64 a1_1) := bc BK194 1; have hcz13_2 : w10.cell? ⟨gb194, 2, none⟩ = some (.int .i64 a1_2) := bc BK194 2; have hcz13_3 : w10.cell? ⟨gb194, 3, none⟩ = some (.slice A1_3 l1_3.length c1_3) := bc BK194 3; have hcz13_4 : w10.cell? ⟨gb194, 4, none⟩ = some (.int .i64 a1_4) := bc BK194 4; have hfz13_0 := bf BK194 0; have hfz13_1 := bf BK194 1; have hfz13_2 := bf BK194 2; have hfz13_3 := bf BK194 3; have hfz13_4 := bf BK194 4) | ((with_reducible refine gate_callee (f := 111) rfl ?_); refine goesL_ (some 9) rfl rfl Try.func111 (by kernel_rfl) rfl #[.slice A0_0 l0_0.length c0_0, .slice A1_0 l1_0.length c1_0] rfl gl ?_; (with_reducible refine (impl_Mov.calls k _ _ l0_0 _ _ l1_0 true _ ?side1 ?side2 ?side3 ?side4 A3.out).mono ?_); (case side1 => exact cc (Kd.C_below HR0_0.out HB.out)); (case side2 => exact HC0_0.out); (case side3 => exact cc (Kd.C_below HR1_0.out HB.out)); (case side4 => exact HC1_0.out); rintro e w' ⟨rfl, ⟨nd, rfl⟩⟩; refine ⟨_, rfl, ?_⟩) | (go_at_call 95; (with_reducible refine (impl_Val_95.calls k _ _ l0_3 _ _ l1_3 true _ ?side1 ?side2 ?side3 ?side4 A7.out).mono ?_); (case side1 => exact cc (Kd.C_below HR0_3.out (bw HB))); (case side2 => exact HC0_3.out); (case side3 => exact cc (Kd.C_below HR1_3.out (bw HB))); (case side4 => exact HC1_3.out); rintro e w' ⟨rfl, ⟨nd, rfl⟩⟩))
     go_ret
     exact ⟨er, bw HB⟩
    ·replace c8 := Bool.eq_false_iff.mpr c8
     subst c8
     have H1 : (some false) = some r := by rw [if_neg (show ¬ (false = true) by decide)] at H; exact H
     clear H
     have H := H1
     clear H1
     obtain rfl := Option.some.inj H
     go_enter Try.func93, Try.ntmps93
     go_wp2_with (first | ((with_reducible refine gate_dst (N := 2) rfl ?_); refine box_event ?hg (N := 2) ?hd (cs := #[.slice A0_0 l0_0.length c0_0, .int .i64 a0_1, .int .i64 a0_2, .slice A0_3 l0_3.length c0_3, .int .i64 a0_4]) (t := 123) ?hr ?_; (case hd => rfl); (case hg => rfl); (case hr => exact gs); intro gb193 hg w14 hbox hb; have BK193 := am (hbox); have GW193 := am ((by rw [hg]; exact (below_size (bw HB)) : w.heap.size ≤ gb193)); have GE193 := am ((by rw [hg]; exact (below_size (bw HB)) : w.heap.size ≤ gb193)); replace HB := am (below_step (bw HB) hb); clear hb hbox hg) | ((with_reducible refine gate_dst (N := 3) rfl ?_); refine box_event ?hg (N := 3) ?hd (cs := #[.slice A1_0 l1_0.length c1_0, .int .i64 a1_1, .int .i64 a1_2, .slice A1_3 l1_3.length c1_3, .int .i64 a1_4]) (t := 123) ?hr ?_; (case hd => rfl); (case hg => rfl); (case hr => exact gs); intro gb194 hg w15 hbox hb; have BK194 := am (hbox); have GW194 := am ((by rw [hg]; exact (below_size (bw HB)) : w.heap.size ≤ gb194)); have GE194 := am ((by rw [hg]; exact (below_size (bw HB)) : w.heap.size ≤ gb194)); replace HB := am (below_step (bw HB) hb); have NB193_194 := am ((by rw [hg]; exact Nat.ne_of_lt (blk_lt (g := gb193) (o := .cells #[.slice A0_0 l0_0.length c0_0, .int .i64 a0_1, .int .i64 a0_2, .slice A0_3 l0_3.length c0_3, .int .i64 a0_4] 123 (0, 0)) (bp BK193)) : gb193 ≠ gb194)); have NB194_193 := am ((by rw [hg]; exact Nat.ne_of_gt (blk_lt (g := gb193) (o := .cells #[.slice A0_0 l0_0.length c0_0, .int .i64 a0_1, .int .i64 a0_2, .slice A0_3 l0_3.length c0_3, .int .i64 a0_4] 123 (0, 0)) (bp BK193)) : gb194 ≠ gb193)); replace BK193 := am (blk_below (g := gb193) (o := .cells #[.slice A0_0 l0_0.length c0_0, .int .i64 a0_1, .int .i64 a0_2, .slice A0_3 l0_3.length c0_3, .int .i64 a0_4] 123 (0, 0)) (bp BK193) hb); clear hb hbox hg; have hnb16 := NB193_194.out; have hnc16 := NB194_193.out; have hcz17_0 : w15.cell? ⟨gb193, 0, none⟩ = some (.slice A0_0 l0_0.length c0_0) := bc BK193 0; have hcz17_1 : w15.cell? ⟨gb193, 1, none⟩ = some (.int .i64 a0_1) := bc BK193 1; have hcz17_2 : w15.cell? ⟨gb193, 2, none⟩ = some (.int .i64 a0_2) := bc BK193 2; have hcz17_3 : w15.cell? ⟨gb193, 3, none⟩ = some (.slice A0_3 l0_3.length c0_3) := bc BK193 3; have hcz17_4 : w15.cell? ⟨gb193, 4, none⟩ = some (.int .i64 a0_4) := bc BK193 4; have hfz17_0 := bf BK193 0; have hfz17_1 := bf BK193 1; have hfz17_2 := bf BK193 2; have hfz17_3 := bf BK193 3; have hfz17_4 := bf BK193 4; have hcz18_0 : w15.cell? ⟨gb194, 0, none⟩ = some (.slice A1_0 l1_0.length c1_0) := bc BK194 0; have hcz18_1 : w15.cell? ⟨gb194, 1, none⟩ = some (.int .i64 a1_1) := bc BK194 1; have hcz18_2 : w15.cell? ⟨gb194, 2, none⟩ = some (.int .i64 a1_2) := bc BK194 2; have hcz18_3 : w15.cell? ⟨gb194, 3, none⟩ = some (.slice A1_3 l1_3.length c1_3) := bc BK194 3; have hcz18_4 : w15.cell? ⟨gb194, 4, none⟩ = some (.int .i64 a1_4) := bc BK194 4; have hfz18_0 := bf BK194 0; have hfz18_1 := bf BK194 1; have hfz18_2 := bf BK194 2; have hfz18_3 := bf BK194 3; have hfz18_4 := bf BK194 4) | ((with_reducible refine gate_callee (f := 111) rfl ?_); refine goesL_ (some 9) rfl rfl Try.func111 (by kernel_rfl) rfl #[.slice A0_0 l0_0.length c0_0, .slice A1_0 l1_0.length c1_0] rfl gl ?_; (with_reducible refine (impl_Mov.calls k _ _ l0_0 _ _ l1_0 true _ ?side1 ?side2 ?side3 ?side4 A3.out).mono ?_); (case side1 => exact cc (Kd.C_below HR0_0.out HB.out)); (case side2 => exact HC0_0.out); (case side3 => exact cc (Kd.C_below HR1_0.out HB.out)); (case side4 => exact HC1_0.out); rintro e w' ⟨rfl, ⟨nd, rfl⟩⟩; refine ⟨_, rfl, ?_⟩) | (go_at_call 95; (with_reducible refine (impl_Val_95.calls k _ _ l0_3 _ _ l1_3 false _ ?side1 ?side2 ?side3 ?side4 A7.out).mono ?_); (case side1 => exact cc (Kd.C_below HR0_3.out (bw HB))); (case side2 => exact HC0_3.out); (case side3 => exact cc (Kd.C_below HR1_3.out (bw HB))); (case side4 => exact HC1_3.out); rintro e w' ⟨rfl, ⟨nd, rfl⟩⟩))
     go_ret
     exact ⟨er, bw HB⟩
   ·rw [if_neg c6] at H
    have c6b0 : (a0_2 == a1_2) = false := beq_eq_false_iff_ne.mpr c6
    have c6b1 : (a0_2 != a1_2) = true := bne_iff_ne.mpr c6
    obtain rfl := Option.some.inj H
    go_enter Try.func93, Try.ntmps93
    go_wp2_with (first | ((with_reducible refine gate_dst (N := 2) rfl ?_); refine box_event ?hg (N := 2) ?hd (cs := #[.slice A0_0 l0_0.length c0_0, .int .i64 a0_1, .int .i64 a0_2, .slice A0_3 l0_3.length c0_3, .int .i64 a0_4]) (t := 123) ?hr ?_; (case hd => rfl); (case hg => rfl); (case hr => exact gs); intro gb193 hg w19 hbox hb; have BK193 := am (hbox); have GW193 := am ((by rw [hg]; exact (below_size (bw HB)) : w.heap.size ≤ gb193)); have GE193 := am ((by rw [hg]; exact (below_size (bw HB)) : w.heap.size ≤ gb193)); replace HB := am (below_step (bw HB) hb); clear hb hbox hg) | ((with_reducible refine gate_dst (N := 3) rfl ?_); refine box_event ?hg (N := 3) ?hd (cs := #[.slice A1_0 l1_0.length c1_0, .int .i64 a1_1, .int .i64 a1_2, .slice A1_3 l1_3.length c1_3, .int .i64 a1_4]) (t := 123) ?hr ?_; (case hd => rfl); (case hg => rfl); (case hr => exact gs); intro gb194 hg w20 hbox hb; have BK194 := am (hbox); have GW194 := am ((by rw [hg]; exact (below_size (bw HB)) : w.heap.size ≤ gb194)); have GE194 := am ((by rw [hg]; exact (below_size (bw HB)) : w.heap.size ≤ gb194)); replace HB := am (below_step (bw HB) hb); have NB193_194 := am ((by rw [hg]; exact Nat.ne_of_lt (blk_lt (g := gb193) (o := .cells #[.slice A0_0 l0_0.length c0_0, .int .i64 a0_1, .int .i64 a0_2, .slice A0_3 l0_3.length c0_3, .int .i64 a0_4] 123 (0, 0)) (bp BK193)) : gb193 ≠ gb194)); have NB194_193 := am ((by rw [hg]; exact Nat.ne_of_gt (blk_lt (g := gb193) (o := .cells #[.slice A0_0 l0_0.length c0_0, .int .i64 a0_1, .int .i64 a0_2, .slice A0_3 l0_3.length c0_3, .int .i64 a0_4] 123 (0, 0)) (bp BK193)) : gb194 ≠ gb193)); replace BK193 := am (blk_below (g := gb193) (o := .cells #[.slice A0_0 l0_0.length c0_0, .int .i64 a0_1, .int .i64 a0_2, .slice A0_3 l0_3.length c0_3, .int .i64 a0_4] 123 (0, 0)) (bp BK193) hb); clear hb hbox hg; have hnb21 := NB193_194.out; have hnc21 := NB194_193.out; have hcz22_0 : w20.cell? ⟨gb193, 0, none⟩ = some (.slice A0_0 l0_0.length c0_0) := bc BK193 0; have hcz22_1 : w20.cell? ⟨gb193, 1, none⟩ = some (.int .i64 a0_1) := bc BK193 1; have hcz22_2 : w20.cell? ⟨gb193, 2, none⟩ = some (.int .i64 a0_2) := bc BK193 2; have hcz22_3 : w20.cell? ⟨gb193, 3, none⟩ = some (.slice A0_3 l0_3.length c0_3) := bc BK193 3; have hcz22_4 : w20.cell? ⟨gb193, 4, none⟩ = some (.int .i64 a0_4) := bc BK193 4; have hfz22_0 := bf BK193 0; have hfz22_1 := bf BK193 1; have hfz22_2 := bf BK193 2; have hfz22_3 := bf BK193 3; have hfz22_4 := bf BK193 4; have hcz23_0 : w20.cell? ⟨gb194, 0, none⟩ = some (.slice A1_0 l1_0.length c1_0) := bc BK194 0; have hcz23_1 : w20.cell? ⟨gb194, 1, none⟩ = some (.int .i64 a1_1) := bc BK194 1; have hcz23_2 : w20.cell? ⟨gb194, 2, none⟩ = some (.int .i64 a1_2) := bc BK194 2; have hcz23_3 : w20.cell? ⟨gb194, 3, none⟩ = some (.slice A1_3 l1_3.length c1_3) := bc BK194 3; have hcz23_4 : w20.cell? ⟨gb194, 4, none⟩ = some (.int .i64 a1_4) := bc BK194 4; have hfz23_0 := bf BK194 0; have hfz23_1 := bf BK194 1; have hfz23_2 := bf BK194 2; have hfz23_3 := bf BK194 3; have hfz23_4 := bf BK194 4) | ((with_reducible refine gate_callee (f := 111) rfl ?_); refine goesL_ (some 9) rfl rfl Try.func111 (by kernel_rfl) rfl #[.slice A0_0 l0_0.length c0_0, .slice A1_0 l1_0.length c1_0] rfl gl ?_; (with_reducible refine (impl_Mov.calls k _ _ l0_0 _ _ l1_0 true _ ?side1 ?side2 ?side3 ?side4 A3.out).mono ?_); (case side1 => exact cc (Kd.C_below HR0_0.out HB.out)); (case side2 => exact HC0_0.out); (case side3 => exact cc (Kd.C_below HR1_0.out HB.out)); (case side4 => exact HC1_0.out); rintro e w' ⟨rfl, ⟨nd, rfl⟩⟩; refine ⟨_, rfl, ?_⟩))
    go_ret
    exact ⟨er, bw HB⟩
  ·rw [if_neg c5] at H
   have c5b0 : (a0_1 == a1_1) = false := beq_eq_false_iff_ne.mpr c5
   have c5b1 : (a0_1 != a1_1) = true := bne_iff_ne.mpr c5
   obtain rfl := Option.some.inj H
   go_enter Try.func93, Try.ntmps93
   go_wp2_with (first | ((with_reducible refine gate_dst (N := 2) rfl ?_); refine box_event ?hg (N := 2) ?hd (cs := #[.slice A0_0 l0_0.length c0_0, .int .i64 a0_1, .int .i64 a0_2, .slice A0_3 l0_3.length c0_3, .int .i64 a0_4]) (t := 123) ?hr ?_; (case hd => rfl); (case hg => rfl); (case hr => exact gs); intro gb193 hg w24 hbox hb; have BK193 := am (hbox); have GW193 := am ((by rw [hg]; exact (below_size (bw HB)) : w.heap.size ≤ gb193)); have GE193 := am ((by rw [hg]; exact (below_size (bw HB)) : w.heap.size ≤ gb193)); replace HB := am (below_step (bw HB) hb); clear hb hbox hg) | ((with_reducible refine gate_dst (N := 3) rfl ?_); refine box_event ?hg (N := 3) ?hd (cs := #[.slice A1_0 l1_0.length c1_0, .int .i64 a1_1, .int .i64 a1_2, .slice A1_3 l1_3.length c1_3, .int .i64 a1_4]) (t := 123) ?hr ?_; (case hd => rfl); (case hg => rfl); (case hr => exact gs); intro gb194 hg w25 hbox hb; have BK194 := am (hbox); have GW194 := am ((by rw [hg]; exact (below_size (bw HB)) : w.heap.size ≤ gb194)); have GE194 := am ((by rw [hg]; exact (below_size (bw HB)) : w.heap.size ≤ gb194)); replace HB := am (below_step (bw HB) hb); have NB193_194 := am ((by rw [hg]; exact Nat.ne_of_lt (blk_lt (g := gb193) (o := .cells #[.slice A0_0 l0_0.length c0_0, .int .i64 a0_1, .int .i64 a0_2, .slice A0_3 l0_3.length c0_3, .int .i64 a0_4] 123 (0, 0)) (bp BK193)) : gb193 ≠ gb194)); have NB194_193 := am ((by rw [hg]; exact Nat.ne_of_gt (blk_lt (g := gb193) (o := .cells #[.slice A0_0 l0_0.length c0_0, .int .i64 a0_1, .int .i64 a0_2, .slice A0_3 l0_3.length c0_3, .int .i64 a0_4] 123 (0, 0)) (bp BK193)) : gb194 ≠ gb193)); replace BK193 := am (blk_below (g := gb193) (o := .cells #[.slice A0_0 l0_0.length c0_0, .int .i64 a0_1, .int .i64 a0_2, .slice A0_3 l0_3.length c0_3, .int .i64 a0_4] 123 (0, 0)) (bp BK193) hb); clear hb hbox hg; have hnb26 := NB193_194.out; have hnc26 := NB194_193.out; have hcz27_0 : w25.cell? ⟨gb193, 0, none⟩ = some (.slice A0_0 l0_0.length c0_0) := bc BK193 0; have hcz27_1 : w25.cell? ⟨gb193, 1, none⟩ = some (.int .i64 a0_1) := bc BK193 1; have hcz27_2 : w25.cell? ⟨gb193, 2, none⟩ = some (.int .i64 a0_2) := bc BK193 2; have hcz27_3 : w25.cell? ⟨gb193, 3, none⟩ = some (.slice A0_3 l0_3.length c0_3) := bc BK193 3; have hcz27_4 : w25.cell? ⟨gb193, 4, none⟩ = some (.int .i64 a0_4) := bc BK193 4; have hfz27_0 := bf BK193 0; have hfz27_1 := bf BK193 1; have hfz27_2 := bf BK193 2; have hfz27_3 := bf BK193 3; have hfz27_4 := bf BK193 4; have hcz28_0 : w25.cell? ⟨gb194, 0, none⟩ = some (.slice A1_0 l1_0.length c1_0) := bc BK194 0; have hcz28_1 : w25.cell? ⟨gb194, 1, none⟩ = some (.int .i64 a1_1) := bc BK194 1; have hcz28_2 : w25.cell? ⟨gb194, 2, none⟩ = some (.int .i64 a1_2) := bc BK194 2; have hcz28_3 : w25.cell? ⟨gb194, 3, none⟩ = some (.slice A1_3 l1_3.length c1_3) := bc BK194 3; have hcz28_4 : w25.cell? ⟨gb194, 4, none⟩ = some (.int .i64 a1_4) := bc BK194 4; have hfz28_0 := bf BK194 0; have hfz28_1 := bf BK194 1; have hfz28_2 := bf BK194 2; have hfz28_3 := bf BK194 3; have hfz28_4 := bf BK194 4) | ((with_reducible refine gate_callee (f := 111) rfl ?_); refine goesL_ (some 9) rfl rfl Try.func111 (by kernel_rfl) rfl #[.slice A0_0 l0_0.length c0_0, .slice A1_0 l1_0.length c1_0] rfl gl ?_; (with_reducible refine (impl_Mov.calls k _ _ l0_0 _ _ l1_0 true _ ?side1 ?side2 ?side3 ?side4 A3.out).mono ?_); (case side1 => exact cc (Kd.C_below HR0_0.out HB.out)); (case side2 => exact HC0_0.out); (case side3 => exact cc (Kd.C_below HR1_0.out HB.out)); (case side4 => exact HC1_0.out); rintro e w' ⟨rfl, ⟨nd, rfl⟩⟩; refine ⟨_, rfl, ?_⟩))
   go_ret
   exact ⟨er, bw HB⟩
 ·replace c4 := Bool.eq_false_iff.mpr c4
  subst c4
  have H1 : (some false) = some r := by rw [if_neg (show ¬ (false = true) by decide)] at H; exact H
  clear H
  have H := H1
  clear H1
  obtain rfl := Option.some.inj H
  go_enter Try.func93, Try.ntmps93
  go_wp2_with (first | ((with_reducible refine gate_dst (N := 2) rfl ?_); refine box_event ?hg (N := 2) ?hd (cs := #[.slice A0_0 l0_0.length c0_0, .int .i64 a0_1, .int .i64 a0_2, .slice A0_3 l0_3.length c0_3, .int .i64 a0_4]) (t := 123) ?hr ?_; (case hd => rfl); (case hg => rfl); (case hr => exact gs); intro gb193 hg w29 hbox hb; have BK193 := am (hbox); have GW193 := am ((by rw [hg]; exact (below_size (bw HB)) : w.heap.size ≤ gb193)); have GE193 := am ((by rw [hg]; exact (below_size (bw HB)) : w.heap.size ≤ gb193)); replace HB := am (below_step (bw HB) hb); clear hb hbox hg) | ((with_reducible refine gate_dst (N := 3) rfl ?_); refine box_event ?hg (N := 3) ?hd (cs := #[.slice A1_0 l1_0.length c1_0, .int .i64 a1_1, .int .i64 a1_2, .slice A1_3 l1_3.length c1_3, .int .i64 a1_4]) (t := 123) ?hr ?_; (case hd => rfl); (case hg => rfl); (case hr => exact gs); intro gb194 hg w30 hbox hb; have BK194 := am (hbox); have GW194 := am ((by rw [hg]; exact (below_size (bw HB)) : w.heap.size ≤ gb194)); have GE194 := am ((by rw [hg]; exact (below_size (bw HB)) : w.heap.size ≤ gb194)); replace HB := am (below_step (bw HB) hb); have NB193_194 := am ((by rw [hg]; exact Nat.ne_of_lt (blk_lt (g := gb193) (o := .cells #[.slice A0_0 l0_0.length c0_0, .int .i64 a0_1, .int .i64 a0_2, .slice A0_3 l0_3.length c0_3, .int .i64 a0_4] 123 (0, 0)) (bp BK193)) : gb193 ≠ gb194)); have NB194_193 := am ((by rw [hg]; exact Nat.ne_of_gt (blk_lt (g := gb193) (o := .cells #[.slice A0_0 l0_0.length c0_0, .int .i64 a0_1, .int .i64 a0_2, .slice A0_3 l0_3.length c0_3, .int .i64 a0_4] 123 (0, 0)) (bp BK193)) : gb194 ≠ gb193)); replace BK193 := am (blk_below (g := gb193) (o := .cells #[.slice A0_0 l0_0.length c0_0, .int .i64 a0_1, .int .i64 a0_2, .slice A0_3 l0_3.length c0_3, .int .i64 a0_4] 123 (0, 0)) (bp BK193) hb); clear hb hbox hg; have hnb31 := NB193_194.out; have hnc31 := NB194_193.out; have hcz32_0 : w30.cell? ⟨gb193, 0, none⟩ = some (.slice A0_0 l0_0.length c0_0) := bc BK193 0; have hcz32_1 : w30.cell? ⟨gb193, 1, none⟩ = some (.int .i64 a0_1) := bc BK193 1; have hcz32_2 : w30.cell? ⟨gb193, 2, none⟩ = some (.int .i64 a0_2) := bc BK193 2; have hcz32_3 : w30.cell? ⟨gb193, 3, none⟩ = some (.slice A0_3 l0_3.length c0_3) := bc BK193 3; have hcz32_4 : w30.cell? ⟨gb193, 4, none⟩ = some (.int .i64 a0_4) := bc BK193 4; have hfz32_0 := bf BK193 0; have hfz32_1 := bf BK193 1; have hfz32_2 := bf BK193 2; have hfz32_3 := bf BK193 3; have hfz32_4 := bf BK193 4; have hcz33_0 : w30.cell? ⟨gb194, 0, none⟩ = some (.slice A1_0 l1_0.length c1_0) := bc BK194 0; have hcz33_1 : w30.cell? ⟨gb194, 1, none⟩ = some (.int .i64 a1_1) := bc BK194 1; have hcz33_2 : w30.cell? ⟨gb194, 2, none⟩ = some (.int .i64 a1_2) := bc BK194 2; have hcz33_3 : w30.cell? ⟨gb194, 3, none⟩ = some (.slice A1_3 l1_3.length c1_3) := bc BK194 3; have hcz33_4 : w30.cell? ⟨gb194, 4, none⟩ = some (.int .i64 a1_4) := bc BK194 4; have hfz33_0 := bf BK194 0; have hfz33_1 := bf BK194 1; have hfz33_2 := bf BK194 2; have hfz33_3 := bf BK194 3; have hfz33_4 := bf BK194 4) | ((with_reducible refine gate_callee (f := 111) rfl ?_); refine goesL_ (some 9) rfl rfl Try.func111 (by kernel_rfl) rfl #[.slice A0_0 l0_0.length c0_0, .slice A1_0 l1_0.length c1_0] rfl gl ?_; (with_reducible refine (impl_Mov.calls k _ _ l0_0 _ _ l1_0 false _ ?side1 ?side2 ?side3 ?side4 A3.out).mono ?_); (case side1 => exact cc (Kd.C_below HR0_0.out HB.out)); (case side2 => exact HC0_0.out); (case side3 => exact cc (Kd.C_below HR1_0.out HB.out)); (case side4 => exact HC1_0.out); rintro e w' ⟨rfl, ⟨nd, rfl⟩⟩; refine ⟨_, rfl, ?_⟩))
  go_ret
  exact ⟨er, bw HB⟩

def impl_Val_94.l0 : Nat → List (List (S130)) → List (List (S130)) → Int → Int → Option (Bool)
 | 0, _, _, _, _ => none
 | k + 1, x1, x15, x16, x17 => if x17 < x16 then (if 0 ≤ x17 then (if x17 < (x15.length : Int) then (if x17 < (x1.length : Int) then ((impl_Val_95.f k (rd_L9 x15 x17) (rd_L9 x1 x17)).bind fun t199 => (if t199 = true then (impl_Val_94.l0 k x1 x15 x16 (wrap64 (x17 + 1))) else (some false))) else (none)) else (none)) else (none)) else (some true)
def impl_Val_94.f (k : Nat) (l0 : List (List (S130))) (l1 : List (List (S130)))  : Option (Bool) := if (l0.length : Int) = (l1.length : Int) then (impl_Val_94.l0 k l1 l0 (l0.length : Int) 0) else (some false)
theorem impl_Val_94.mono_l : ∀ k, (∀ y0 y1 y2 y3, LeO (impl_Val_94.l0 k y0 y1 y2 y3) (impl_Val_94.l0 (k + 1) y0 y1 y2 y3))
 | 0 => fun _ _ _ _ r h => by simp [impl_Val_94.l0] at h
 | k + 1 => by
  have ih0 := impl_Val_94.mono_l k
  ·intro y0 y1 y2 y3
   unfold impl_Val_94.l0
   repeat' first
   | (with_reducible exact ih0 _ _ _ _)
   | (with_reducible exact impl_Val_95.mono _ _ _)
   | (with_reducible exact LeO.refl _)
   | (with_reducible exact LeO.none _)
   | (with_reducible refine LeO.ite ?_ ?_)
   | (with_reducible refine LeO.bind ?_ (fun _ => ?_))
theorem impl_Val_94.mono : ∀ a0 a1 k, LeO (impl_Val_94.f k a0 a1) (impl_Val_94.f (k + 1) a0 a1) := by
 intro a0 a1 k
 have ih0 := impl_Val_94.mono_l k
 unfold impl_Val_94.f
 repeat' first
   | (with_reducible exact ih0 _ _ _ _)
   | (with_reducible exact impl_Val_95.mono _ _ _)
   | (with_reducible exact LeO.refl _)
   | (with_reducible exact LeO.none _)
   | (with_reducible refine LeO.ite ?_ ?_)
   | (with_reducible refine LeO.bind ?_ (fun _ => ?_))
theorem impl_Val_94.calls (k : Nat) (A0 : Option Addr) (c0 : Nat) (l0 : List (List (S130))) (A1 : Option Addr) (c1 : Nat) (l1 : List (List (S130)))  (r : Bool) (w : World) (hr0 : Kd.C (Kd.slice 130 k130) w A0 l0.length l0) (hc0 : l0.length ≤ c0) (hr1 : Kd.C (Kd.slice 130 k130) w A1 l1.length l1) (hc1 : l1.length ≤ c1) (h : impl_Val_94.f k l0 l1 = some r) :
  Calls Try.prog 94 #[.slice A0 l0.length c0, .slice A1 l1.length c1, (.func (.func 95) #[] #[])] w fun e w' => e = .returned (.bool r) ∧ Drawn0 w w' := by
 have HR0 := am hr0
 have HC0 := am hc0
 clear hr0 hc0
 have HR1 := am hr1
 have HC1 := am hc1
 clear hr1 hc1
 have H : (if (l0.length : Int) = (l1.length : Int) then (impl_Val_94.l0 k l1 l0 (l0.length : Int) 0) else (some false)) = some r := h
 clear h
 by_cases c4 : (l0.length : Int) = (l1.length : Int)
 ·rw [if_pos c4] at H
  have c4b0 : ((l0.length : Int) == (l1.length : Int)) = true := beq_iff_eq.mpr c4
  have c4b1 : ((l0.length : Int) != (l1.length : Int)) = false := bne_eq_false_iff_eq.mpr c4
  have c4b2 : (l0.length == l1.length) = true := by first | simpa using c4 | (simp at c4 ⊢; omega)
  clear c4
  have H' := am H
  clear H
  go_enter Try.func94, Try.ntmps94
  go_wp2
  go_loopg [17] k (fun kq v17 w' => ∃ (x17_1 : Int), v17 = .int .i64 x17_1 ∧ Aside0 (impl_Val_94.l0 kq l1 l0 (l0.length : Int) x17_1 = some r) ∧ Aside0 (kq ≤ k) ∧ Drawn0 w w')
  case atStart => exact ⟨(0), dr, H', ⟨Nat.le_refl _⟩, by repeat (first | exact Drawn0.refl _ | apply Drawn0.step)⟩
  case round =>
   clear H'
   (try clear c1); (try clear p2); (try clear c4); (try clear c4b0); (try clear c4b1); (try clear c4b2)
   obtain ⟨x17_1, rfl, HA, HK1, ⟨m1, rfl⟩⟩ := hrel
   cases gk with
   | zero => exact absurd HA.out (by simp [impl_Val_94.l0])
   | succ k1 =>
    have H := HA.out
    clear HA
    simp only [impl_Val_94.l0] at H
    by_cases c5 : x17_1 < (l0.length : Int)
    ·rw [if_pos c5] at H
     have c5b0 := decide_eq_true c5
     clear c5
     by_cases c6 : 0 ≤ x17_1
     ·rw [if_pos c6] at H
      have c6b0 := decide_eq_true c6
      clear c6
      by_cases c7 : x17_1 < (l0.length : Int)
      ·rw [if_pos c7] at H
       have c7b0 := decide_eq_true c7
       clear c7
       by_cases c8 : x17_1 < (l1.length : Int)
       ·rw [if_pos c8] at H
        have c8b0 := decide_eq_true c8
        clear c8
        replace H := Option.bind_eq_some_iff.mp H
        obtain ⟨t199, A90, H⟩ := H
        replace H : (if t199 = true then (impl_Val_94.l0 k1 l1 l0 (l0.length : Int) (wrap64 (x17_1 + 1))) else (some false)) = some r := H
        have A9 := am A90
        clear A90
        by_cases c10 : t199 = true
        ·subst c10
         have H1 : (impl_Val_94.l0 k1 l1 l0 (l0.length : Int) (wrap64 (x17_1 + 1))) = some r := by rw [if_pos rfl] at H; exact H
         clear H
         have H := H1
         clear H1
         have H' := am H
         clear H
         have p197 : 0 ≤ (x17_1 : Int) := of_decide_eq_true as1
         have q197 : x17_1 < (l0.length : Int) := of_decide_eq_true as1
         obtain ⟨ad197, A197_0, c197_0, e197, hx197_0, hl197_0, hi197_0⟩ := at_L9 HR0.out x17_1 p197 q197
         cases e197
         have HR197_0 := am hi197_0
         have HC197_0 := am hl197_0
         clear hi197_0 hl197_0
         replace p197 := eq_true p197
         replace q197 := eq_true q197
         have p198 : 0 ≤ (x17_1 : Int) := of_decide_eq_true as1
         have q198 : x17_1 < (l1.length : Int) := of_decide_eq_true as1
         obtain ⟨ad198, A198_0, c198_0, e198, hx198_0, hl198_0, hi198_0⟩ := at_L9 HR1.out x17_1 p198 q198
         cases e198
         have HR198_0 := am hi198_0
         have HC198_0 := am hl198_0
         clear hi198_0 hl198_0
         replace p198 := eq_true p198
         replace q198 := eq_true q198
         go_wp2_with (first | ((with_reducible refine gate_calleeT (q := .tmp 26) rfl ?_); refine goesT_ (q := .tmp 26) (some 29) rfl rfl Try.func95 (by kernel_rfl) rfl rfl #[.slice A197_0 (rd_L9 l0 x17_1).length c197_0, .slice A198_0 (rd_L9 l1 x17_1).length c198_0] rfl gl ?_; (with_reducible refine (impl_Val_95.calls k1 _ _ (rd_L9 l0 x17_1) _ _ (rd_L9 l1 x17_1) true _ ?side1 ?side2 ?side3 ?side4 A9.out).mono ?_); (case side1 => repeat (first | exact HR197_0.out | (with_reducible refine Kd.C_alloc ?_ _) | (with_reducible refine Kd.C_drewN ?_ _) | (with_reducible refine Kd.C_drew ?_))); (case side2 => exact HC197_0.out); (case side3 => repeat (first | exact HR198_0.out | (with_reducible refine Kd.C_alloc ?_ _) | (with_reducible refine Kd.C_drewN ?_ _) | (with_reducible refine Kd.C_drew ?_))); (case side4 => exact HC198_0.out); rintro e w' ⟨rfl, ⟨nd, rfl⟩⟩; refine ⟨_, rfl, ?_⟩))
         go_roundg k1
         case measure => have := HK1.out; omega
         case rel => exact ⟨(wrap64 (x17_1 + 1)), dr, H', ⟨by have := HK1.out; omega⟩, by repeat (first | exact Drawn0.refl _ | apply Drawn0.step)⟩
        ·replace c10 := Bool.eq_false_iff.mpr c10
         subst c10
         have H1 : (some false) = some r := by rw [if_neg (show ¬ (false = true) by decide)] at H; exact H
         clear H
         have H := H1
         clear H1
         obtain rfl := Option.some.inj H
         have p197 : 0 ≤ (x17_1 : Int) := of_decide_eq_true as1
         have q197 : x17_1 < (l0.length : Int) := of_decide_eq_true as1
         obtain ⟨ad197, A197_0, c197_0, e197, hx197_0, hl197_0, hi197_0⟩ := at_L9 HR0.out x17_1 p197 q197
         cases e197
         have HR197_0 := am hi197_0
         have HC197_0 := am hl197_0
         clear hi197_0 hl197_0
         replace p197 := eq_true p197
         replace q197 := eq_true q197
         have p198 : 0 ≤ (x17_1 : Int) := of_decide_eq_true as1
         have q198 : x17_1 < (l1.length : Int) := of_decide_eq_true as1
         obtain ⟨ad198, A198_0, c198_0, e198, hx198_0, hl198_0, hi198_0⟩ := at_L9 HR1.out x17_1 p198 q198
         cases e198
         have HR198_0 := am hi198_0
         have HC198_0 := am hl198_0
         clear hi198_0 hl198_0
         replace p198 := eq_true p198
         replace q198 := eq_true q198
         go_wp2_with (first | ((with_reducible refine gate_calleeT (q := .tmp 26) rfl ?_); refine goesT_ (q := .tmp 26) (some 29) rfl rfl Try.func95 (by kernel_rfl) rfl rfl #[.slice A197_0 (rd_L9 l0 x17_1).length c197_0, .slice A198_0 (rd_L9 l1 x17_1).length c198_0] rfl gl ?_; (with_reducible refine (impl_Val_95.calls k1 _ _ (rd_L9 l0 x17_1) _ _ (rd_L9 l1 x17_1) false _ ?side1 ?side2 ?side3 ?side4 A9.out).mono ?_); (case side1 => repeat (first | exact HR197_0.out | (with_reducible refine Kd.C_alloc ?_ _) | (with_reducible refine Kd.C_drewN ?_ _) | (with_reducible refine Kd.C_drew ?_))); (case side2 => exact HC197_0.out); (case side3 => repeat (first | exact HR198_0.out | (with_reducible refine Kd.C_alloc ?_ _) | (with_reducible refine Kd.C_drewN ?_ _) | (with_reducible refine Kd.C_drew ?_))); (case side4 => exact HC198_0.out); rintro e w' ⟨rfl, ⟨nd, rfl⟩⟩; refine ⟨_, rfl, ?_⟩))
         go_ret
         exact ⟨by first | rfl | (simp; done) | (simp [*]; done), by repeat (first | exact Drawn0.refl _ | apply Drawn0.step)⟩
       ·rw [if_neg c8] at H
        exact absurd H (by simp)
      ·rw [if_neg c7] at H
       exact absurd H (by simp)
     ·rw [if_neg c6] at H
      exact absurd H (by simp)
    ·rw [if_neg c5] at H
     have c5b0 := decide_eq_false c5
     clear c5
     obtain rfl := Option.some.inj H
     go_wp2
     go_ret
     exact ⟨by first | rfl | (simp; done) | (simp [*]; done), by repeat (first | exact Drawn0.refl _ | apply Drawn0.step)⟩
 ·rw [if_neg c4] at H
  have c4b0 : ((l0.length : Int) == (l1.length : Int)) = false := beq_eq_false_iff_ne.mpr c4
  have c4b1 : ((l0.length : Int) != (l1.length : Int)) = true := bne_iff_ne.mpr c4
  have c4b2 : (l0.length == l1.length) = false := by first | simpa using c4 | (simp at c4 ⊢; omega)
  obtain rfl := Option.some.inj H
  go_enter Try.func94, Try.ntmps94
  go_wp2
  go_ret
  exact ⟨by first | rfl | (simp; done) | (simp [*]; done), by repeat (first | exact Drawn0.refl _ | apply Drawn0.step)⟩

def impl_AsmIns.l0 : Nat → List (S123) → List (S123) → Int → Int → Option (Bool)
 | 0, _, _, _, _ => none
 | k + 1, x1, x15, x16, x17 => if x17 < x16 then (if 0 ≤ x17 then (if x17 < (x15.length : Int) then (if x17 < (x1.length : Int) then ((impl_sameIns.f k ((rd_T123 x15 x17).f0) ((rd_T123 x15 x17).f1) ((rd_T123 x15 x17).f2) ((rd_T123 x15 x17).f3) ((rd_T123 x15 x17).f4) ((rd_T123 x1 x17).f0) ((rd_T123 x1 x17).f1) ((rd_T123 x1 x17).f2) ((rd_T123 x1 x17).f3) ((rd_T123 x1 x17).f4)).bind fun t204 => (if t204 = true then (impl_AsmIns.l0 k x1 x15 x16 (wrap64 (x17 + 1))) else (some false))) else (none)) else (none)) else (none)) else (some true)
def impl_AsmIns.f (k : Nat) (l0 : List (S123)) (l1 : List (S123))  : Option (Bool) := if (l0.length : Int) = (l1.length : Int) then (impl_AsmIns.l0 k l1 l0 (l0.length : Int) 0) else (some false)
theorem impl_AsmIns.mono_l : ∀ k, (∀ y0 y1 y2 y3, LeO (impl_AsmIns.l0 k y0 y1 y2 y3) (impl_AsmIns.l0 (k + 1) y0 y1 y2 y3))
 | 0 => fun _ _ _ _ r h => by simp [impl_AsmIns.l0] at h
 | k + 1 => by
  have ih0 := impl_AsmIns.mono_l k
  ·intro y0 y1 y2 y3
   unfold impl_AsmIns.l0
   repeat' first
   | (with_reducible exact ih0 _ _ _ _)
   | (with_reducible exact impl_sameIns.mono _ _ _ _ _ _ _ _ _ _ _)
   | (with_reducible exact LeO.refl _)
   | (with_reducible exact LeO.none _)
   | (with_reducible refine LeO.ite ?_ ?_)
   | (with_reducible refine LeO.bind ?_ (fun _ => ?_))
theorem impl_AsmIns.mono : ∀ a0 a1 k, LeO (impl_AsmIns.f k a0 a1) (impl_AsmIns.f (k + 1) a0 a1) := by
 intro a0 a1 k
 have ih0 := impl_AsmIns.mono_l k
 unfold impl_AsmIns.f
 repeat' first
   | (with_reducible exact ih0 _ _ _ _)
   | (with_reducible exact impl_sameIns.mono _ _ _ _ _ _ _ _ _ _ _)
   | (with_reducible exact LeO.refl _)
   | (with_reducible exact LeO.none _)
   | (with_reducible refine LeO.ite ?_ ?_)
   | (with_reducible refine LeO.bind ?_ (fun _ => ?_))
theorem impl_AsmIns.calls (k : Nat) (A0 : Option Addr) (c0 : Nat) (l0 : List (S123)) (A1 : Option Addr) (c1 : Nat) (l1 : List (S123))  (r : Bool) (w : World) (hr0 : Kd.C k123 w A0 l0.length l0) (hc0 : l0.length ≤ c0) (hr1 : Kd.C k123 w A1 l1.length l1) (hc1 : l1.length ≤ c1) (h : impl_AsmIns.f k l0 l1 = some r) :
  Calls Try.prog 92 #[.slice A0 l0.length c0, .slice A1 l1.length c1, (.func (.func 93) #[] #[])] w fun e w' => e = .returned (.bool r) ∧ Below w.heap.size w w' := by
 have hu123 := Try.underlying123
 have HR0 := am hr0
 have HC0 := am hc0
 clear hr0 hc0
 have HR1 := am hr1
 have HC1 := am hc1
 clear hr1 hc1
 have HB := am (Below.refl w.heap.size w)
 have H : (if (l0.length : Int) = (l1.length : Int) then (impl_AsmIns.l0 k l1 l0 (l0.length : Int) 0) else (some false)) = some r := h
 clear h
 by_cases c4 : (l0.length : Int) = (l1.length : Int)
 ·rw [if_pos c4] at H
  have c4b0 : ((l0.length : Int) == (l1.length : Int)) = true := beq_iff_eq.mpr c4
  have c4b1 : ((l0.length : Int) != (l1.length : Int)) = false := bne_eq_false_iff_eq.mpr c4
  have c4b2 : (l0.length == l1.length) = true := by first | simpa using c4 | (simp at c4 ⊢; omega)
  clear c4
  have H' := am H
  clear H
  go_enter Try.func92, Try.ntmps92
  go_wp2
  go_loopg [17] k (fun kq v17 w' => ∃ (x17_1 : Int), v17 = .int .i64 x17_1 ∧ Aside0 (impl_AsmIns.l0 kq l1 l0 (l0.length : Int) x17_1 = some r) ∧ Aside0 (kq ≤ k) ∧ Aside0 (Below w.heap.size w w'))
  case atStart => exact ⟨(0), dr, H', ⟨Nat.le_refl _⟩, ⟨bw HB⟩⟩
  case round =>
   clear H'
   (try clear c1); (try clear p2); (try clear c4); (try clear c4b0); (try clear c4b1); (try clear c4b2)
   obtain ⟨x17_1, rfl, HA, HK1, HB⟩ := hrel
   cases gk with
   | zero => exact absurd HA.out (by simp [impl_AsmIns.l0])
   | succ k1 =>
    have H := HA.out
    clear HA
    simp only [impl_AsmIns.l0] at H
    by_cases c5 : x17_1 < (l0.length : Int)
    ·rw [if_pos c5] at H
     have c5b0 := decide_eq_true c5
     clear c5
     by_cases c6 : 0 ≤ x17_1
     ·rw [if_pos c6] at H
      have c6b0 := decide_eq_true c6
      clear c6
      by_cases c7 : x17_1 < (l0.length : Int)
      ·rw [if_pos c7] at H
       have c7b0 := decide_eq_true c7
       clear c7
       by_cases c8 : x17_1 < (l1.length : Int)
       ·rw [if_pos c8] at H
        have c8b0 := decide_eq_true c8
        clear c8
        replace H := Option.bind_eq_some_iff.mp H
        obtain ⟨t204, A90, H⟩ := H
        replace H : (if t204 = true then (impl_AsmIns.l0 k1 l1 l0 (l0.length : Int) (wrap64 (x17_1 + 1))) else (some false)) = some r := H
        have A9 := am A90
        clear A90
        by_cases c10 : t204 = true
        ·subst c10
         have H1 : (impl_AsmIns.l0 k1 l1 l0 (l0.length : Int) (wrap64 (x17_1 + 1))) = some r := by rw [if_pos rfl] at H; exact H
         clear H
         have H := H1
         clear H1
         have H' := am H
         clear H
         have p200 : 0 ≤ (x17_1 : Int) := of_decide_eq_true as1
         have q200 : x17_1 < (l0.length : Int) := of_decide_eq_true as1
         obtain ⟨ad200, A200_0, c200_0, A200_3, c200_3, e200, hx200_0, hx200_1, hx200_2, hx200_3, hx200_4, hl200_0, hi200_0, hl200_3, hi200_3⟩ := at_T123 HR0.out x17_1 p200 q200
         cases e200
         replace hx200_0 := (HB.out.cell (World.block_lt_of_cell? w _ hx200_0)).trans hx200_0
         replace hx200_1 := (HB.out.cell (World.block_lt_of_cell? w _ hx200_1)).trans hx200_1
         replace hx200_2 := (HB.out.cell (World.block_lt_of_cell? w _ hx200_2)).trans hx200_2
         replace hx200_3 := (HB.out.cell (World.block_lt_of_cell? w _ hx200_3)).trans hx200_3
         replace hx200_4 := (HB.out.cell (World.block_lt_of_cell? w _ hx200_4)).trans hx200_4
         have HR200_0 := am hi200_0
         have HC200_0 := am hl200_0
         clear hi200_0 hl200_0
         have HR200_3 := am hi200_3
         have HC200_3 := am hl200_3
         clear hi200_3 hl200_3
         replace p200 := eq_true p200
         replace q200 := eq_true q200
         go_wp2_with (first | ((with_reducible refine gate_dst (N := 8) rfl ?_); refine box_event ?hg (N := 8) ?hd (cs := #[.slice none 0 0, .int .i64 0, .int .i64 0, .slice none 0 0, .int .i64 0]) (t := 123) ?hr ?_; (case hd => rfl); (case hg => rfl); (case hr => exact gs); intro gb201 hg w11 hbox hb; have BK201 := am (hbox); have GW201 := am ((by rw [hg]; exact (below_size (bw HB)) : w.heap.size ≤ gb201)); have GE201 := am ((by rw [hg]; exact (below_size (bw HB)) : w.heap.size ≤ gb201)); replace HB := am (below_step (bw HB) hb); clear hb hbox hg; have hcz12_0 : w11.cell? ⟨gb201, 0, none⟩ = some (.slice none 0 0) := bc BK201 0; have hcz12_1 : w11.cell? ⟨gb201, 1, none⟩ = some (.int .i64 0) := bc BK201 1; have hcz12_2 : w11.cell? ⟨gb201, 2, none⟩ = some (.int .i64 0) := bc BK201 2; have hcz12_3 : w11.cell? ⟨gb201, 3, none⟩ = some (.slice none 0 0) := bc BK201 3; have hcz12_4 : w11.cell? ⟨gb201, 4, none⟩ = some (.int .i64 0) := bc BK201 4; have hfz12_0 := bf BK201 0; have hfz12_1 := bf BK201 1; have hfz12_2 := bf BK201 2; have hfz12_3 := bf BK201 3; have hfz12_4 := bf BK201 4; have p202 : 0 ≤ (x17_1 : Int) := of_decide_eq_true as1; have q202 : x17_1 < (l1.length : Int) := of_decide_eq_true as1; obtain ⟨ad202, A202_0, c202_0, A202_3, c202_3, e202, hx202_0, hx202_1, hx202_2, hx202_3, hx202_4, hl202_0, hi202_0, hl202_3, hi202_3⟩ := at_T123 HR1.out x17_1 p202 q202; cases e202; have hn202_0 : ad202.block ≠ gb201 := Nat.ne_of_lt (Nat.lt_of_lt_of_le (by have := World.block_lt_of_cell? _ _ hx202_0; first | rwa [add_block] at this | exact this) GW201.out); have hn202_1 : ad202.block ≠ gb201 := Nat.ne_of_lt (Nat.lt_of_lt_of_le (by have := World.block_lt_of_cell? _ _ hx202_0; first | rwa [add_block] at this | exact this) GW201.out); have hn202_2 : ad202.block ≠ gb201 := Nat.ne_of_lt (Nat.lt_of_lt_of_le (by have := World.block_lt_of_cell? _ _ hx202_0; first | rwa [add_block] at this | exact this) GW201.out); have hn202_3 : ad202.block ≠ gb201 := Nat.ne_of_lt (Nat.lt_of_lt_of_le (by have := World.block_lt_of_cell? _ _ hx202_0; first | rwa [add_block] at this | exact this) GW201.out); have hn202_4 : ad202.block ≠ gb201 := Nat.ne_of_lt (Nat.lt_of_lt_of_le (by have := World.block_lt_of_cell? _ _ hx202_0; first | rwa [add_block] at this | exact this) GW201.out); replace hx202_0 := (HB.out.cell (World.block_lt_of_cell? w _ hx202_0)).trans hx202_0; replace hx202_1 := (HB.out.cell (World.block_lt_of_cell? w _ hx202_1)).trans hx202_1; replace hx202_2 := (HB.out.cell (World.block_lt_of_cell? w _ hx202_2)).trans hx202_2; replace hx202_3 := (HB.out.cell (World.block_lt_of_cell? w _ hx202_3)).trans hx202_3; replace hx202_4 := (HB.out.cell (World.block_lt_of_cell? w _ hx202_4)).trans hx202_4; have HR202_0 := am hi202_0; have HC202_0 := am hl202_0; clear hi202_0 hl202_0; have HR202_3 := am hi202_3; have HC202_3 := am hl202_3; clear hi202_3 hl202_3; replace hx202_0 := (cell_far (p := ⟨gb201, 0, none⟩) (by first | (rw [add_block]; exact hn202_0) | (show (Addr.add _ _).block ≠ _; rw [add_block]; exact hn202_0) | exact hn202_0) (.slice A200_0 ((rd_T123 l0 x17_1).f0).length c200_0)).trans hx202_0; replace hx202_1 := (cell_far (p := ⟨gb201, 0, none⟩) (by first | (rw [add_block]; exact hn202_0) | (show (Addr.add _ _).block ≠ _; rw [add_block]; exact hn202_0) | exact hn202_0) (.slice A200_0 ((rd_T123 l0 x17_1).f0).length c200_0)).trans hx202_1; replace hx202_2 := (cell_far (p := ⟨gb201, 0, none⟩) (by first | (rw [add_block]; exact hn202_0) | (show (Addr.add _ _).block ≠ _; rw [add_block]; exact hn202_0) | exact hn202_0) (.slice A200_0 ((rd_T123 l0 x17_1).f0).length c200_0)).trans hx202_2; replace hx202_3 := (cell_far (p := ⟨gb201, 0, none⟩) (by first | (rw [add_block]; exact hn202_0) | (show (Addr.add _ _).block ≠ _; rw [add_block]; exact hn202_0) | exact hn202_0) (.slice A200_0 ((rd_T123 l0 x17_1).f0).length c200_0)).trans hx202_3; replace hx202_4 := (cell_far (p := ⟨gb201, 0, none⟩) (by first | (rw [add_block]; exact hn202_0) | (show (Addr.add _ _).block ≠ _; rw [add_block]; exact hn202_0) | exact hn202_0) (.slice A200_0 ((rd_T123 l0 x17_1).f0).length c200_0)).trans hx202_4; replace hx202_0 := (cell_far (p := ⟨gb201, 1, none⟩) (by first | (rw [add_block]; exact hn202_1) | (show (Addr.add _ _).block ≠ _; rw [add_block]; exact hn202_1) | exact hn202_1) (.int .i64 ((rd_T123 l0 x17_1).f1))).trans hx202_0; replace hx202_1 := (cell_far (p := ⟨gb201, 1, none⟩) (by first | (rw [add_block]; exact hn202_1) | (show (Addr.add _ _).block ≠ _; rw [add_block]; exact hn202_1) | exact hn202_1) (.int .i64 ((rd_T123 l0 x17_1).f1))).trans hx202_1; replace hx202_2 := (cell_far (p := ⟨gb201, 1, none⟩) (by first | (rw [add_block]; exact hn202_1) | (show (Addr.add _ _).block ≠ _; rw [add_block]; exact hn202_1) | exact hn202_1) (.int .i64 ((rd_T123 l0 x17_1).f1))).trans hx202_2; replace hx202_3 := (cell_far (p := ⟨gb201, 1, none⟩) (by first | (rw [add_block]; exact hn202_1) | (show (Addr.add _ _).block ≠ _; rw [add_block]; exact hn202_1) | exact hn202_1) (.int .i64 ((rd_T123 l0 x17_1).f1))).trans hx202_3; replace hx202_4 := (cell_far (p := ⟨gb201, 1, none⟩) (by first | (rw [add_block]; exact hn202_1) | (show (Addr.add _ _).block ≠ _; rw [add_block]; exact hn202_1) | exact hn202_1) (.int .i64 ((rd_T123 l0 x17_1).f1))).trans hx202_4; replace hx202_0 := (cell_far (p := ⟨gb201, 2, none⟩) (by first | (rw [add_block]; exact hn202_2) | (show (Addr.add _ _).block ≠ _; rw [add_block]; exact hn202_2) | exact hn202_2) (.int .i64 ((rd_T123 l0 x17_1).f2))).trans hx202_0; replace hx202_1 := (cell_far (p := ⟨gb201, 2, none⟩) (by first | (rw [add_block]; exact hn202_2) | (show (Addr.add _ _).block ≠ _; rw [add_block]; exact hn202_2) | exact hn202_2) (.int .i64 ((rd_T123 l0 x17_1).f2))).trans hx202_1; replace hx202_2 := (cell_far (p := ⟨gb201, 2, none⟩) (by first | (rw [add_block]; exact hn202_2) | (show (Addr.add _ _).block ≠ _; rw [add_block]; exact hn202_2) | exact hn202_2) (.int .i64 ((rd_T123 l0 x17_1).f2))).trans hx202_2; replace hx202_3 := (cell_far (p := ⟨gb201, 2, none⟩) (by first | (rw [add_block]; exact hn202_2) | (show (Addr.add _ _).block ≠ _; rw [add_block]; exact hn202_2) | exact hn202_2) (.int .i64 ((rd_T123 l0 x17_1).f2))).trans hx202_3; replace hx202_4 := (cell_far (p := ⟨gb201, 2, none⟩) (by first | (rw [add_block]; exact hn202_2) | (show (Addr.add _ _).block ≠ _; rw [add_block]; exact hn202_2) | exact hn202_2) (.int .i64 ((rd_T123 l0 x17_1).f2))).trans hx202_4; replace hx202_0 := (cell_far (p := ⟨gb201, 3, none⟩) (by first | (rw [add_block]; exact hn202_3) | (show (Addr.add _ _).block ≠ _; rw [add_block]; exact hn202_3) | exact hn202_3) (.slice A200_3 ((rd_T123 l0 x17_1).f3).length c200_3)).trans hx202_0; replace hx202_1 := (cell_far (p := ⟨gb201, 3, none⟩) (by first | (rw [add_block]; exact hn202_3) | (show (Addr.add _ _).block ≠ _; rw [add_block]; exact hn202_3) | exact hn202_3) (.slice A200_3 ((rd_T123 l0 x17_1).f3).length c200_3)).trans hx202_1; replace hx202_2 := (cell_far (p := ⟨gb201, 3, none⟩) (by first | (rw [add_block]; exact hn202_3) | (show (Addr.add _ _).block ≠ _; rw [add_block]; exact hn202_3) | exact hn202_3) (.slice A200_3 ((rd_T123 l0 x17_1).f3).length c200_3)).trans hx202_2; replace hx202_3 := (cell_far (p := ⟨gb201, 3, none⟩) (by first | (rw [add_block]; exact hn202_3) | (show (Addr.add _ _).block ≠ _; rw [add_block]; exact hn202_3) | exact hn202_3) (.slice A200_3 ((rd_T123 l0 x17_1).f3).length c200_3)).trans hx202_3; replace hx202_4 := (cell_far (p := ⟨gb201, 3, none⟩) (by first | (rw [add_block]; exact hn202_3) | (show (Addr.add _ _).block ≠ _; rw [add_block]; exact hn202_3) | exact hn202_3) (.slice A200_3 ((rd_T123 l0 x17_1).f3).length c200_3)).trans hx202_4; replace hx202_0 := (cell_far (p := ⟨gb201, 4, none⟩) (by first | (rw [add_block]; exact hn202_4) | (show (Addr.add _ _).block ≠ _; rw [add_block]; exact hn202_4) | exact hn202_4) (.int .i64 ((rd_T123 l0 x17_1).f4))).trans hx202_0; replace hx202_1 := (cell_far (p := ⟨gb201, 4, none⟩) (by first | (rw [add_block]; exact hn202_4) | (show (Addr.add _ _).block ≠ _; rw [add_block]; exact hn202_4) | exact hn202_4) (.int .i64 ((rd_T123 l0 x17_1).f4))).trans hx202_1; replace hx202_2 := (cell_far (p := ⟨gb201, 4, none⟩) (by first | (rw [add_block]; exact hn202_4) | (show (Addr.add _ _).block ≠ _; rw [add_block]; exact hn202_4) | exact hn202_4) (.int .i64 ((rd_T123 l0 x17_1).f4))).trans hx202_2; replace hx202_3 := (cell_far (p := ⟨gb201, 4, none⟩) (by first | (rw [add_block]; exact hn202_4) | (show (Addr.add _ _).block ≠ _; rw [add_block]; exact hn202_4) | exact hn202_4) (.int .i64 ((rd_T123 l0 x17_1).f4))).trans hx202_3; replace hx202_4 := (cell_far (p := ⟨gb201, 4, none⟩) (by first | (rw [add_block]; exact hn202_4) | (show (Addr.add _ _).block ≠ _; rw [add_block]; exact hn202_4) | exact hn202_4) (.int .i64 ((rd_T123 l0 x17_1).f4))).trans hx202_4; clear hn202_0; clear hn202_1; clear hn202_2; clear hn202_3; clear hn202_4; replace p202 := eq_true p202; replace q202 := eq_true q202) | ((with_reducible refine gate_dst (N := 9) rfl ?_); refine box_event ?hg (N := 9) ?hd (cs := #[.slice none 0 0, .int .i64 0, .int .i64 0, .slice none 0 0, .int .i64 0]) (t := 123) ?hr ?_; (case hd => rfl); (case hg => rfl); (case hr => exact gs); intro gb203 hg w13 hbox hb; have BK203 := am (hbox); have GW203 := am ((by rw [hg]; exact (below_size (bw HB)) : w.heap.size ≤ gb203)); have GE203 := am ((by rw [hg]; exact (below_size (bw HB)) : w.heap.size ≤ gb203)); replace HB := am (below_step (bw HB) hb); have NB201_203 := am ((by rw [hg]; exact Nat.ne_of_lt (blk_lt (g := gb201) (o := .cells #[.slice A200_0 ((rd_T123 l0 x17_1).f0).length c200_0, .int .i64 ((rd_T123 l0 x17_1).f1), .int .i64 ((rd_T123 l0 x17_1).f2), .slice A200_3 ((rd_T123 l0 x17_1).f3).length c200_3, .int .i64 ((rd_T123 l0 x17_1).f4)] 123 (0, 0)) (by (with_reducible repeat (first | apply dN | apply dW | apply dA)); refine blk_put (cs := #[.slice A200_0 ((rd_T123 l0 x17_1).f0).length c200_0, .int .i64 ((rd_T123 l0 x17_1).f1), .int .i64 ((rd_T123 l0 x17_1).f2), .slice A200_3 ((rd_T123 l0 x17_1).f3).length c200_3, .int .i64 0]) ?_ 4 _ rfl; (with_reducible repeat (first | apply dN | apply dW | apply dA)); refine blk_put (cs := #[.slice A200_0 ((rd_T123 l0 x17_1).f0).length c200_0, .int .i64 ((rd_T123 l0 x17_1).f1), .int .i64 ((rd_T123 l0 x17_1).f2), .slice none 0 0, .int .i64 0]) ?_ 3 _ rfl; (with_reducible repeat (first | apply dN | apply dW | apply dA)); refine blk_put (cs := #[.slice A200_0 ((rd_T123 l0 x17_1).f0).length c200_0, .int .i64 ((rd_T123 l0 x17_1).f1), .int .i64 0, .slice none 0 0, .int .i64 0]) ?_ 2 _ rfl; (with_reducible repeat (first | apply dN | apply dW | apply dA)); refine blk_put (cs := #[.slice A200_0 ((rd_T123 l0 x17_1).f0).length c200_0, .int .i64 0, .int .i64 0, .slice none 0 0, .int .i64 0]) ?_ 1 _ rfl; (with_reducible repeat (first | apply dN | apply dW | apply dA)); refine blk_put (cs := #[.slice none 0 0, .int .i64 0, .int .i64 0, .slice none 0 0, .int .i64 0]) ?_ 0 _ rfl; exact bp BK201)) : gb201 ≠ gb203)); have NB203_201 := am ((by rw [hg]; exact Nat.ne_of_gt (blk_lt (g := gb201) (o := .cells #[.slice A200_0 ((rd_T123 l0 x17_1).f0).length c200_0, .int .i64 ((rd_T123 l0 x17_1).f1), .int .i64 ((rd_T123 l0 x17_1).f2), .slice A200_3 ((rd_T123 l0 x17_1).f3).length c200_3, .int .i64 ((rd_T123 l0 x17_1).f4)] 123 (0, 0)) (by (with_reducible repeat (first | apply dN | apply dW | apply dA)); refine blk_put (cs := #[.slice A200_0 ((rd_T123 l0 x17_1).f0).length c200_0, .int .i64 ((rd_T123 l0 x17_1).f1), .int .i64 ((rd_T123 l0 x17_1).f2), .slice A200_3 ((rd_T123 l0 x17_1).f3).length c200_3, .int .i64 0]) ?_ 4 _ rfl; (with_reducible repeat (first | apply dN | apply dW | apply dA)); refine blk_put (cs := #[.slice A200_0 ((rd_T123 l0 x17_1).f0).length c200_0, .int .i64 ((rd_T123 l0 x17_1).f1), .int .i64 ((rd_T123 l0 x17_1).f2), .slice none 0 0, .int .i64 0]) ?_ 3 _ rfl; (with_reducible repeat (first | apply dN | apply dW | apply dA)); refine blk_put (cs := #[.slice A200_0 ((rd_T123 l0 x17_1).f0).length c200_0, .int .i64 ((rd_T123 l0 x17_1).f1), .int .i64 0, .slice none 0 0, .int .i64 0]) ?_ 2 _ rfl; (with_reducible repeat (first | apply dN | apply dW | apply dA)); refine blk_put (cs := #[.slice A200_0 ((rd_T123 l0 x17_1).f0).length c200_0, .int .i64 0, .int .i64 0, .slice none 0 0, .int .i64 0]) ?_ 1 _ rfl; (with_reducible repeat (first | apply dN | apply dW | apply dA)); refine blk_put (cs := #[.slice none 0 0, .int .i64 0, .int .i64 0, .slice none 0 0, .int .i64 0]) ?_ 0 _ rfl; exact bp BK201)) : gb203 ≠ gb201)); replace BK201 := am (blk_below (g := gb201) (o := .cells #[.slice A200_0 ((rd_T123 l0 x17_1).f0).length c200_0, .int .i64 ((rd_T123 l0 x17_1).f1), .int .i64 ((rd_T123 l0 x17_1).f2), .slice A200_3 ((rd_T123 l0 x17_1).f3).length c200_3, .int .i64 ((rd_T123 l0 x17_1).f4)] 123 (0, 0)) (by (with_reducible repeat (first | apply dN | apply dW | apply dA)); refine blk_put (cs := #[.slice A200_0 ((rd_T123 l0 x17_1).f0).length c200_0, .int .i64 ((rd_T123 l0 x17_1).f1), .int .i64 ((rd_T123 l0 x17_1).f2), .slice A200_3 ((rd_T123 l0 x17_1).f3).length c200_3, .int .i64 0]) ?_ 4 _ rfl; (with_reducible repeat (first | apply dN | apply dW | apply dA)); refine blk_put (cs := #[.slice A200_0 ((rd_T123 l0 x17_1).f0).length c200_0, .int .i64 ((rd_T123 l0 x17_1).f1), .int .i64 ((rd_T123 l0 x17_1).f2), .slice none 0 0, .int .i64 0]) ?_ 3 _ rfl; (with_reducible repeat (first | apply dN | apply dW | apply dA)); refine blk_put (cs := #[.slice A200_0 ((rd_T123 l0 x17_1).f0).length c200_0, .int .i64 ((rd_T123 l0 x17_1).f1), .int .i64 0, .slice none 0 0, .int .i64 0]) ?_ 2 _ rfl; (with_reducible repeat (first | apply dN | apply dW | apply dA)); refine blk_put (cs := #[.slice A200_0 ((rd_T123 l0 x17_1).f0).length c200_0, .int .i64 0, .int .i64 0, .slice none 0 0, .int .i64 0]) ?_ 1 _ rfl; (with_reducible repeat (first | apply dN | apply dW | apply dA)); refine blk_put (cs := #[.slice none 0 0, .int .i64 0, .int .i64 0, .slice none 0 0, .int .i64 0]) ?_ 0 _ rfl; exact bp BK201) hb); clear hb hbox hg; have hnb14 := NB203_201.out; have hnc14 := NB201_203.out; have hcz15_0 : w13.cell? ⟨gb203, 0, none⟩ = some (.slice none 0 0) := bc BK203 0; have hcz15_1 : w13.cell? ⟨gb203, 1, none⟩ = some (.int .i64 0) := bc BK203 1; have hcz15_2 : w13.cell? ⟨gb203, 2, none⟩ = some (.int .i64 0) := bc BK203 2; have hcz15_3 : w13.cell? ⟨gb203, 3, none⟩ = some (.slice none 0 0) := bc BK203 3; have hcz15_4 : w13.cell? ⟨gb203, 4, none⟩ = some (.int .i64 0) := bc BK203 4; have hfz15_0 := bf BK203 0; have hfz15_1 := bf BK203 1; have hfz15_2 := bf BK203 2; have hfz15_3 := bf BK203 3; have hfz15_4 := bf BK203 4; have hcz16_0 : w13.cell? ⟨gb201, 0, none⟩ = some (.slice A200_0 ((rd_T123 l0 x17_1).f0).length c200_0) := bc BK201 0; have hcz16_1 : w13.cell? ⟨gb201, 1, none⟩ = some (.int .i64 ((rd_T123 l0 x17_1).f1)) := bc BK201 1; have hcz16_2 : w13.cell? ⟨gb201, 2, none⟩ = some (.int .i64 ((rd_T123 l0 x17_1).f2)) := bc BK201 2; have hcz16_3 : w13.cell? ⟨gb201, 3, none⟩ = some (.slice A200_3 ((rd_T123 l0 x17_1).f3).length c200_3) := bc BK201 3; have hcz16_4 : w13.cell? ⟨gb201, 4, none⟩ = some (.int .i64 ((rd_T123 l0 x17_1).f4)) := bc BK201 4; have hfz16_0 := bf BK201 0; have hfz16_1 := bf BK201 1; have hfz16_2 := bf BK201 2; have hfz16_3 := bf BK201 3; have hfz16_4 := bf BK201 4) | ((with_reducible refine gate_calleeT (q := .tmp 26) rfl ?_); refine goesT_ (q := .tmp 26) (some 29) rfl rfl Try.func93 (by kernel_rfl) rfl rfl #[.agg #[.slice A200_0 ((rd_T123 l0 x17_1).f0).length c200_0, .int .i64 ((rd_T123 l0 x17_1).f1), .int .i64 ((rd_T123 l0 x17_1).f2), .slice A200_3 ((rd_T123 l0 x17_1).f3).length c200_3, .int .i64 ((rd_T123 l0 x17_1).f4)], .agg #[.slice A202_0 ((rd_T123 l1 x17_1).f0).length c202_0, .int .i64 ((rd_T123 l1 x17_1).f1), .int .i64 ((rd_T123 l1 x17_1).f2), .slice A202_3 ((rd_T123 l1 x17_1).f3).length c202_3, .int .i64 ((rd_T123 l1 x17_1).f4)]] rfl gl ?_; (with_reducible refine (impl_sameIns.calls k1 _ _ ((rd_T123 l0 x17_1).f0) ((rd_T123 l0 x17_1).f1) ((rd_T123 l0 x17_1).f2) _ _ ((rd_T123 l0 x17_1).f3) ((rd_T123 l0 x17_1).f4) _ _ ((rd_T123 l1 x17_1).f0) ((rd_T123 l1 x17_1).f1) ((rd_T123 l1 x17_1).f2) _ _ ((rd_T123 l1 x17_1).f3) ((rd_T123 l1 x17_1).f4) true _ ?side1 ?side2 ?side3 ?side4 ?side5 ?side6 ?side7 ?side8 A9.out).mono ?_); (case side1 => exact Kd.C_below HR200_0.out (bw HB)); (case side2 => exact HC200_0.out); (case side3 => exact Kd.C_below HR200_3.out (bw HB)); (case side4 => exact HC200_3.out); (case side5 => exact Kd.C_below HR202_0.out (bw HB)); (case side6 => exact HC202_0.out); (case side7 => exact Kd.C_below HR202_3.out (bw HB)); (case side8 => exact HC202_3.out); rintro e w17 ⟨rfl, hb⟩; refine ⟨_, rfl, ?_⟩; replace BK201 := am (blk_below (g := gb201) (o := .cells #[.slice A200_0 ((rd_T123 l0 x17_1).f0).length c200_0, .int .i64 ((rd_T123 l0 x17_1).f1), .int .i64 ((rd_T123 l0 x17_1).f2), .slice A200_3 ((rd_T123 l0 x17_1).f3).length c200_3, .int .i64 ((rd_T123 l0 x17_1).f4)] 123 (0, 0)) (by (with_reducible repeat (first | apply dN | apply dW | apply dA)); refine blk_far ?_ NB201_203.out _; (with_reducible repeat (first | apply dN | apply dW | apply dA)); refine blk_far ?_ NB201_203.out _; (with_reducible repeat (first | apply dN | apply dW | apply dA)); refine blk_far ?_ NB201_203.out _; (with_reducible repeat (first | apply dN | apply dW | apply dA)); refine blk_far ?_ NB201_203.out _; (with_reducible repeat (first | apply dN | apply dW | apply dA)); refine blk_far ?_ NB201_203.out _; exact bp BK201) hb); replace BK203 := am (blk_below (g := gb203) (o := .cells #[.slice A202_0 ((rd_T123 l1 x17_1).f0).length c202_0, .int .i64 ((rd_T123 l1 x17_1).f1), .int .i64 ((rd_T123 l1 x17_1).f2), .slice A202_3 ((rd_T123 l1 x17_1).f3).length c202_3, .int .i64 ((rd_T123 l1 x17_1).f4)] 123 (0, 0)) (by (with_reducible repeat (first | apply dN | apply dW | apply dA)); refine blk_put (cs := #[.slice A202_0 ((rd_T123 l1 x17_1).f0).length c202_0, .int .i64 ((rd_T123 l1 x17_1).f1), .int .i64 ((rd_T123 l1 x17_1).f2), .slice A202_3 ((rd_T123 l1 x17_1).f3).length c202_3, .int .i64 0]) ?_ 4 _ rfl; (with_reducible repeat (first | apply dN | apply dW | apply dA)); refine blk_put (cs := #[.slice A202_0 ((rd_T123 l1 x17_1).f0).length c202_0, .int .i64 ((rd_T123 l1 x17_1).f1), .int .i64 ((rd_T123 l1 x17_1).f2), .slice none 0 0, .int .i64 0]) ?_ 3 _ rfl; (with_reducible repeat (first | apply dN | apply dW | apply dA)); refine blk_put (cs := #[.slice A202_0 ((rd_T123 l1 x17_1).f0).length c202_0, .int .i64 ((rd_T123 l1 x17_1).f1), .int .i64 0, .slice none 0 0, .int .i64 0]) ?_ 2 _ rfl; (with_reducible repeat (first | apply dN | apply dW | apply dA)); refine blk_put (cs := #[.slice A202_0 ((rd_T123 l1 x17_1).f0).length c202_0, .int .i64 0, .int .i64 0, .slice none 0 0, .int .i64 0]) ?_ 1 _ rfl; (with_reducible repeat (first | apply dN | apply dW | apply dA)); refine blk_put (cs := #[.slice none 0 0, .int .i64 0, .int .i64 0, .slice none 0 0, .int .i64 0]) ?_ 0 _ rfl; exact bp BK203) hb); replace HB := am (below_step (bw HB) hb); (try clear hb); (try clear hb2); (try clear hk); (try clear hi)))
         go_roundg k1
         case measure => have := HK1.out; omega
         case rel => exact ⟨(wrap64 (x17_1 + 1)), dr, H', ⟨by have := HK1.out; omega⟩, ⟨bw HB⟩⟩
        ·replace c10 := Bool.eq_false_iff.mpr c10
         subst c10
         have H1 : (some false) = some r := by rw [if_neg (show ¬ (false = true) by decide)] at H; exact H
         clear H
         have H := H1
         clear H1
         obtain rfl := Option.some.inj H
         have p200 : 0 ≤ (x17_1 : Int) := of_decide_eq_true as1
         have q200 : x17_1 < (l0.length : Int) := of_decide_eq_true as1
         obtain ⟨ad200, A200_0, c200_0, A200_3, c200_3, e200, hx200_0, hx200_1, hx200_2, hx200_3, hx200_4, hl200_0, hi200_0, hl200_3, hi200_3⟩ := at_T123 HR0.out x17_1 p200 q200
         cases e200
         replace hx200_0 := (HB.out.cell (World.block_lt_of_cell? w _ hx200_0)).trans hx200_0
         replace hx200_1 := (HB.out.cell (World.block_lt_of_cell? w _ hx200_1)).trans hx200_1
         replace hx200_2 := (HB.out.cell (World.block_lt_of_cell? w _ hx200_2)).trans hx200_2
         replace hx200_3 := (HB.out.cell (World.block_lt_of_cell? w _ hx200_3)).trans hx200_3
         replace hx200_4 := (HB.out.cell (World.block_lt_of_cell? w _ hx200_4)).trans hx200_4
         have HR200_0 := am hi200_0
         have HC200_0 := am hl200_0
         clear hi200_0 hl200_0
         have HR200_3 := am hi200_3
         have HC200_3 := am hl200_3
         clear hi200_3 hl200_3
         replace p200 := eq_true p200
         replace q200 := eq_true q200
         go_wp2_with (first | ((with_reducible refine gate_dst (N := 8) rfl ?_); refine box_event ?hg (N := 8) ?hd (cs := #[.slice none 0 0, .int .i64 0, .int .i64 0, .slice none 0 0, .int .i64 0]) (t := 123) ?hr ?_; (case hd => rfl); (case hg => rfl); (case hr => exact gs); intro gb201 hg w18 hbox hb; have BK201 := am (hbox); have GW201 := am ((by rw [hg]; exact (below_size (bw HB)) : w.heap.size ≤ gb201)); have GE201 := am ((by rw [hg]; exact (below_size (bw HB)) : w.heap.size ≤ gb201)); replace HB := am (below_step (bw HB) hb); clear hb hbox hg; have hcz19_0 : w18.cell? ⟨gb201, 0, none⟩ = some (.slice none 0 0) := bc BK201 0; have hcz19_1 : w18.cell? ⟨gb201, 1, none⟩ = some (.int .i64 0) := bc BK201 1; have hcz19_2 : w18.cell? ⟨gb201, 2, none⟩ = some (.int .i64 0) := bc BK201 2; have hcz19_3 : w18.cell? ⟨gb201, 3, none⟩ = some (.slice none 0 0) := bc BK201 3; have hcz19_4 : w18.cell? ⟨gb201, 4, none⟩ = some (.int .i64 0) := bc BK201 4; have hfz19_0 := bf BK201 0; have hfz19_1 := bf BK201 1; have hfz19_2 := bf BK201 2; have hfz19_3 := bf BK201 3; have hfz19_4 := bf BK201 4; have p202 : 0 ≤ (x17_1 : Int) := of_decide_eq_true as1; have q202 : x17_1 < (l1.length : Int) := of_decide_eq_true as1; obtain ⟨ad202, A202_0, c202_0, A202_3, c202_3, e202, hx202_0, hx202_1, hx202_2, hx202_3, hx202_4, hl202_0, hi202_0, hl202_3, hi202_3⟩ := at_T123 HR1.out x17_1 p202 q202; cases e202; have hn202_0 : ad202.block ≠ gb201 := Nat.ne_of_lt (Nat.lt_of_lt_of_le (by have := World.block_lt_of_cell? _ _ hx202_0; first | rwa [add_block] at this | exact this) GW201.out); have hn202_1 : ad202.block ≠ gb201 := Nat.ne_of_lt (Nat.lt_of_lt_of_le (by have := World.block_lt_of_cell? _ _ hx202_0; first | rwa [add_block] at this | exact this) GW201.out); have hn202_2 : ad202.block ≠ gb201 := Nat.ne_of_lt (Nat.lt_of_lt_of_le (by have := World.block_lt_of_cell? _ _ hx202_0; first | rwa [add_block] at this | exact this) GW201.out); have hn202_3 : ad202.block ≠ gb201 := Nat.ne_of_lt (Nat.lt_of_lt_of_le (by have := World.block_lt_of_cell? _ _ hx202_0; first | rwa [add_block] at this | exact this) GW201.out); have hn202_4 : ad202.block ≠ gb201 := Nat.ne_of_lt (Nat.lt_of_lt_of_le (by have := World.block_lt_of_cell? _ _ hx202_0; first | rwa [add_block] at this | exact this) GW201.out); replace hx202_0 := (HB.out.cell (World.block_lt_of_cell? w _ hx202_0)).trans hx202_0; replace hx202_1 := (HB.out.cell (World.block_lt_of_cell? w _ hx202_1)).trans hx202_1; replace hx202_2 := (HB.out.cell (World.block_lt_of_cell? w _ hx202_2)).trans hx202_2; replace hx202_3 := (HB.out.cell (World.block_lt_of_cell? w _ hx202_3)).trans hx202_3; replace hx202_4 := (HB.out.cell (World.block_lt_of_cell? w _ hx202_4)).trans hx202_4; have HR202_0 := am hi202_0; have HC202_0 := am hl202_0; clear hi202_0 hl202_0; have HR202_3 := am hi202_3; have HC202_3 := am hl202_3; clear hi202_3 hl202_3; replace hx202_0 := (cell_far (p := ⟨gb201, 0, none⟩) (by first | (rw [add_block]; exact hn202_0) | (show (Addr.add _ _).block ≠ _; rw [add_block]; exact hn202_0) | exact hn202_0) (.slice A200_0 ((rd_T123 l0 x17_1).f0).length c200_0)).trans hx202_0; replace hx202_1 := (cell_far (p := ⟨gb201, 0, none⟩) (by first | (rw [add_block]; exact hn202_0) | (show (Addr.add _ _).block ≠ _; rw [add_block]; exact hn202_0) | exact hn202_0) (.slice A200_0 ((rd_T123 l0 x17_1).f0).length c200_0)).trans hx202_1; replace hx202_2 := (cell_far (p := ⟨gb201, 0, none⟩) (by first | (rw [add_block]; exact hn202_0) | (show (Addr.add _ _).block ≠ _; rw [add_block]; exact hn202_0) | exact hn202_0) (.slice A200_0 ((rd_T123 l0 x17_1).f0).length c200_0)).trans hx202_2; replace hx202_3 := (cell_far (p := ⟨gb201, 0, none⟩) (by first | (rw [add_block]; exact hn202_0) | (show (Addr.add _ _).block ≠ _; rw [add_block]; exact hn202_0) | exact hn202_0) (.slice A200_0 ((rd_T123 l0 x17_1).f0).length c200_0)).trans hx202_3; replace hx202_4 := (cell_far (p := ⟨gb201, 0, none⟩) (by first | (rw [add_block]; exact hn202_0) | (show (Addr.add _ _).block ≠ _; rw [add_block]; exact hn202_0) | exact hn202_0) (.slice A200_0 ((rd_T123 l0 x17_1).f0).length c200_0)).trans hx202_4; replace hx202_0 := (cell_far (p := ⟨gb201, 1, none⟩) (by first | (rw [add_block]; exact hn202_1) | (show (Addr.add _ _).block ≠ _; rw [add_block]; exact hn202_1) | exact hn202_1) (.int .i64 ((rd_T123 l0 x17_1).f1))).trans hx202_0; replace hx202_1 := (cell_far (p := ⟨gb201, 1, none⟩) (by first | (rw [add_block]; exact hn202_1) | (show (Addr.add _ _).block ≠ _; rw [add_block]; exact hn202_1) | exact hn202_1) (.int .i64 ((rd_T123 l0 x17_1).f1))).trans hx202_1; replace hx202_2 := (cell_far (p := ⟨gb201, 1, none⟩) (by first | (rw [add_block]; exact hn202_1) | (show (Addr.add _ _).block ≠ _; rw [add_block]; exact hn202_1) | exact hn202_1) (.int .i64 ((rd_T123 l0 x17_1).f1))).trans hx202_2; replace hx202_3 := (cell_far (p := ⟨gb201, 1, none⟩) (by first | (rw [add_block]; exact hn202_1) | (show (Addr.add _ _).block ≠ _; rw [add_block]; exact hn202_1) | exact hn202_1) (.int .i64 ((rd_T123 l0 x17_1).f1))).trans hx202_3; replace hx202_4 := (cell_far (p := ⟨gb201, 1, none⟩) (by first | (rw [add_block]; exact hn202_1) | (show (Addr.add _ _).block ≠ _; rw [add_block]; exact hn202_1) | exact hn202_1) (.int .i64 ((rd_T123 l0 x17_1).f1))).trans hx202_4; replace hx202_0 := (cell_far (p := ⟨gb201, 2, none⟩) (by first | (rw [add_block]; exact hn202_2) | (show (Addr.add _ _).block ≠ _; rw [add_block]; exact hn202_2) | exact hn202_2) (.int .i64 ((rd_T123 l0 x17_1).f2))).trans hx202_0; replace hx202_1 := (cell_far (p := ⟨gb201, 2, none⟩) (by first | (rw [add_block]; exact hn202_2) | (show (Addr.add _ _).block ≠ _; rw [add_block]; exact hn202_2) | exact hn202_2) (.int .i64 ((rd_T123 l0 x17_1).f2))).trans hx202_1; replace hx202_2 := (cell_far (p := ⟨gb201, 2, none⟩) (by first | (rw [add_block]; exact hn202_2) | (show (Addr.add _ _).block ≠ _; rw [add_block]; exact hn202_2) | exact hn202_2) (.int .i64 ((rd_T123 l0 x17_1).f2))).trans hx202_2; replace hx202_3 := (cell_far (p := ⟨gb201, 2, none⟩) (by first | (rw [add_block]; exact hn202_2) | (show (Addr.add _ _).block ≠ _; rw [add_block]; exact hn202_2) | exact hn202_2) (.int .i64 ((rd_T123 l0 x17_1).f2))).trans hx202_3; replace hx202_4 := (cell_far (p := ⟨gb201, 2, none⟩) (by first | (rw [add_block]; exact hn202_2) | (show (Addr.add _ _).block ≠ _; rw [add_block]; exact hn202_2) | exact hn202_2) (.int .i64 ((rd_T123 l0 x17_1).f2))).trans hx202_4; replace hx202_0 := (cell_far (p := ⟨gb201, 3, none⟩) (by first | (rw [add_block]; exact hn202_3) | (show (Addr.add _ _).block ≠ _; rw [add_block]; exact hn202_3) | exact hn202_3) (.slice A200_3 ((rd_T123 l0 x17_1).f3).length c200_3)).trans hx202_0; replace hx202_1 := (cell_far (p := ⟨gb201, 3, none⟩) (by first | (rw [add_block]; exact hn202_3) | (show (Addr.add _ _).block ≠ _; rw [add_block]; exact hn202_3) | exact hn202_3) (.slice A200_3 ((rd_T123 l0 x17_1).f3).length c200_3)).trans hx202_1; replace hx202_2 := (cell_far (p := ⟨gb201, 3, none⟩) (by first | (rw [add_block]; exact hn202_3) | (show (Addr.add _ _).block ≠ _; rw [add_block]; exact hn202_3) | exact hn202_3) (.slice A200_3 ((rd_T123 l0 x17_1).f3).length c200_3)).trans hx202_2; replace hx202_3 := (cell_far (p := ⟨gb201, 3, none⟩) (by first | (rw [add_block]; exact hn202_3) | (show (Addr.add _ _).block ≠ _; rw [add_block]; exact hn202_3) | exact hn202_3) (.slice A200_3 ((rd_T123 l0 x17_1).f3).length c200_3)).trans hx202_3; replace hx202_4 := (cell_far (p := ⟨gb201, 3, none⟩) (by first | (rw [add_block]; exact hn202_3) | (show (Addr.add _ _).block ≠ _; rw [add_block]; exact hn202_3) | exact hn202_3) (.slice A200_3 ((rd_T123 l0 x17_1).f3).length c200_3)).trans hx202_4; replace hx202_0 := (cell_far (p := ⟨gb201, 4, none⟩) (by first | (rw [add_block]; exact hn202_4) | (show (Addr.add _ _).block ≠ _; rw [add_block]; exact hn202_4) | exact hn202_4) (.int .i64 ((rd_T123 l0 x17_1).f4))).trans hx202_0; replace hx202_1 := (cell_far (p := ⟨gb201, 4, none⟩) (by first | (rw [add_block]; exact hn202_4) | (show (Addr.add _ _).block ≠ _; rw [add_block]; exact hn202_4) | exact hn202_4) (.int .i64 ((rd_T123 l0 x17_1).f4))).trans hx202_1; replace hx202_2 := (cell_far (p := ⟨gb201, 4, none⟩) (by first | (rw [add_block]; exact hn202_4) | (show (Addr.add _ _).block ≠ _; rw [add_block]; exact hn202_4) | exact hn202_4) (.int .i64 ((rd_T123 l0 x17_1).f4))).trans hx202_2; replace hx202_3 := (cell_far (p := ⟨gb201, 4, none⟩) (by first | (rw [add_block]; exact hn202_4) | (show (Addr.add _ _).block ≠ _; rw [add_block]; exact hn202_4) | exact hn202_4) (.int .i64 ((rd_T123 l0 x17_1).f4))).trans hx202_3; replace hx202_4 := (cell_far (p := ⟨gb201, 4, none⟩) (by first | (rw [add_block]; exact hn202_4) | (show (Addr.add _ _).block ≠ _; rw [add_block]; exact hn202_4) | exact hn202_4) (.int .i64 ((rd_T123 l0 x17_1).f4))).trans hx202_4; clear hn202_0; clear hn202_1; clear hn202_2; clear hn202_3; clear hn202_4; replace p202 := eq_true p202; replace q202 := eq_true q202) | ((with_reducible refine gate_dst (N := 9) rfl ?_); refine box_event ?hg (N := 9) ?hd (cs := #[.slice none 0 0, .int .i64 0, .int .i64 0, .slice none 0 0, .int .i64 0]) (t := 123) ?hr ?_; (case hd => rfl); (case hg => rfl); (case hr => exact gs); intro gb203 hg w20 hbox hb; have BK203 := am (hbox); have GW203 := am ((by rw [hg]; exact (below_size (bw HB)) : w.heap.size ≤ gb203)); have GE203 := am ((by rw [hg]; exact (below_size (bw HB)) : w.heap.size ≤ gb203)); replace HB := am (below_step (bw HB) hb); have NB201_203 := am ((by rw [hg]; exact Nat.ne_of_lt (blk_lt (g := gb201) (o := .cells #[.slice A200_0 ((rd_T123 l0 x17_1).f0).length c200_0, .int .i64 ((rd_T123 l0 x17_1).f1), .int .i64 ((rd_T123 l0 x17_1).f2), .slice A200_3 ((rd_T123 l0 x17_1).f3).length c200_3, .int .i64 ((rd_T123 l0 x17_1).f4)] 123 (0, 0)) (by (with_reducible repeat (first | apply dN | apply dW | apply dA)); refine blk_put (cs := #[.slice A200_0 ((rd_T123 l0 x17_1).f0).length c200_0, .int .i64 ((rd_T123 l0 x17_1).f1), .int .i64 ((rd_T123 l0 x17_1).f2), .slice A200_3 ((rd_T123 l0 x17_1).f3).length c200_3, .int .i64 0]) ?_ 4 _ rfl; (with_reducible repeat (first | apply dN | apply dW | apply dA)); refine blk_put (cs := #[.slice A200_0 ((rd_T123 l0 x17_1).f0).length c200_0, .int .i64 ((rd_T123 l0 x17_1).f1), .int .i64 ((rd_T123 l0 x17_1).f2), .slice none 0 0, .int .i64 0]) ?_ 3 _ rfl; (with_reducible repeat (first | apply dN | apply dW | apply dA)); refine blk_put (cs := #[.slice A200_0 ((rd_T123 l0 x17_1).f0).length c200_0, .int .i64 ((rd_T123 l0 x17_1).f1), .int .i64 0, .slice none 0 0, .int .i64 0]) ?_ 2 _ rfl; (with_reducible repeat (first | apply dN | apply dW | apply dA)); refine blk_put (cs := #[.slice A200_0 ((rd_T123 l0 x17_1).f0).length c200_0, .int .i64 0, .int .i64 0, .slice none 0 0, .int .i64 0]) ?_ 1 _ rfl; (with_reducible repeat (first | apply dN | apply dW | apply dA)); refine blk_put (cs := #[.slice none 0 0, .int .i64 0, .int .i64 0, .slice none 0 0, .int .i64 0]) ?_ 0 _ rfl; exact bp BK201)) : gb201 ≠ gb203)); have NB203_201 := am ((by rw [hg]; exact Nat.ne_of_gt (blk_lt (g := gb201) (o := .cells #[.slice A200_0 ((rd_T123 l0 x17_1).f0).length c200_0, .int .i64 ((rd_T123 l0 x17_1).f1), .int .i64 ((rd_T123 l0 x17_1).f2), .slice A200_3 ((rd_T123 l0 x17_1).f3).length c200_3, .int .i64 ((rd_T123 l0 x17_1).f4)] 123 (0, 0)) (by (with_reducible repeat (first | apply dN | apply dW | apply dA)); refine blk_put (cs := #[.slice A200_0 ((rd_T123 l0 x17_1).f0).length c200_0, .int .i64 ((rd_T123 l0 x17_1).f1), .int .i64 ((rd_T123 l0 x17_1).f2), .slice A200_3 ((rd_T123 l0 x17_1).f3).length c200_3, .int .i64 0]) ?_ 4 _ rfl; (with_reducible repeat (first | apply dN | apply dW | apply dA)); refine blk_put (cs := #[.slice A200_0 ((rd_T123 l0 x17_1).f0).length c200_0, .int .i64 ((rd_T123 l0 x17_1).f1), .int .i64 ((rd_T123 l0 x17_1).f2), .slice none 0 0, .int .i64 0]) ?_ 3 _ rfl; (with_reducible repeat (first | apply dN | apply dW | apply dA)); refine blk_put (cs := #[.slice A200_0 ((rd_T123 l0 x17_1).f0).length c200_0, .int .i64 ((rd_T123 l0 x17_1).f1), .int .i64 0, .slice none 0 0, .int .i64 0]) ?_ 2 _ rfl; (with_reducible repeat (first | apply dN | apply dW | apply dA)); refine blk_put (cs := #[.slice A200_0 ((rd_T123 l0 x17_1).f0).length c200_0, .int .i64 0, .int .i64 0, .slice none 0 0, .int .i64 0]) ?_ 1 _ rfl; (with_reducible repeat (first | apply dN | apply dW | apply dA)); refine blk_put (cs := #[.slice none 0 0, .int .i64 0, .int .i64 0, .slice none 0 0, .int .i64 0]) ?_ 0 _ rfl; exact bp BK201)) : gb203 ≠ gb201)); replace BK201 := am (blk_below (g := gb201) (o := .cells #[.slice A200_0 ((rd_T123 l0 x17_1).f0).length c200_0, .int .i64 ((rd_T123 l0 x17_1).f1), .int .i64 ((rd_T123 l0 x17_1).f2), .slice A200_3 ((rd_T123 l0 x17_1).f3).length c200_3, .int .i64 ((rd_T123 l0 x17_1).f4)] 123 (0, 0)) (by (with_reducible repeat (first | apply dN | apply dW | apply dA)); refine blk_put (cs := #[.slice A200_0 ((rd_T123 l0 x17_1).f0).length c200_0, .int .i64 ((rd_T123 l0 x17_1).f1), .int .i64 ((rd_T123 l0 x17_1).f2), .slice A200_3 ((rd_T123 l0 x17_1).f3).length c200_3, .int .i64 0]) ?_ 4 _ rfl; (with_reducible repeat (first | apply dN | apply dW | apply dA)); refine blk_put (cs := #[.slice A200_0 ((rd_T123 l0 x17_1).f0).length c200_0, .int .i64 ((rd_T123 l0 x17_1).f1), .int .i64 ((rd_T123 l0 x17_1).f2), .slice none 0 0, .int .i64 0]) ?_ 3 _ rfl; (with_reducible repeat (first | apply dN | apply dW | apply dA)); refine blk_put (cs := #[.slice A200_0 ((rd_T123 l0 x17_1).f0).length c200_0, .int .i64 ((rd_T123 l0 x17_1).f1), .int .i64 0, .slice none 0 0, .int .i64 0]) ?_ 2 _ rfl; (with_reducible repeat (first | apply dN | apply dW | apply dA)); refine blk_put (cs := #[.slice A200_0 ((rd_T123 l0 x17_1).f0).length c200_0, .int .i64 0, .int .i64 0, .slice none 0 0, .int .i64 0]) ?_ 1 _ rfl; (with_reducible repeat (first | apply dN | apply dW | apply dA)); refine blk_put (cs := #[.slice none 0 0, .int .i64 0, .int .i64 0, .slice none 0 0, .int .i64 0]) ?_ 0 _ rfl; exact bp BK201) hb); clear hb hbox hg; have hnb21 := NB203_201.out; have hnc21 := NB201_203.out; have hcz22_0 : w20.cell? ⟨gb203, 0, none⟩ = some (.slice none 0 0) := bc BK203 0; have hcz22_1 : w20.cell? ⟨gb203, 1, none⟩ = some (.int .i64 0) := bc BK203 1; have hcz22_2 : w20.cell? ⟨gb203, 2, none⟩ = some (.int .i64 0) := bc BK203 2; have hcz22_3 : w20.cell? ⟨gb203, 3, none⟩ = some (.slice none 0 0) := bc BK203 3; have hcz22_4 : w20.cell? ⟨gb203, 4, none⟩ = some (.int .i64 0) := bc BK203 4; have hfz22_0 := bf BK203 0; have hfz22_1 := bf BK203 1; have hfz22_2 := bf BK203 2; have hfz22_3 := bf BK203 3; have hfz22_4 := bf BK203 4; have hcz23_0 : w20.cell? ⟨gb201, 0, none⟩ = some (.slice A200_0 ((rd_T123 l0 x17_1).f0).length c200_0) := bc BK201 0; have hcz23_1 : w20.cell? ⟨gb201, 1, none⟩ = some (.int .i64 ((rd_T123 l0 x17_1).f1)) := bc BK201 1; have hcz23_2 : w20.cell? ⟨gb201, 2, none⟩ = some (.int .i64 ((rd_T123 l0 x17_1).f2)) := bc BK201 2; have hcz23_3 : w20.cell? ⟨gb201, 3, none⟩ = some (.slice A200_3 ((rd_T123 l0 x17_1).f3).length c200_3) := bc BK201 3; have hcz23_4 : w20.cell? ⟨gb201, 4, none⟩ = some (.int .i64 ((rd_T123 l0 x17_1).f4)) := bc BK201 4; have hfz23_0 := bf BK201 0; have hfz23_1 := bf BK201 1; have hfz23_2 := bf BK201 2; have hfz23_3 := bf BK201 3; have hfz23_4 := bf BK201 4) | ((with_reducible refine gate_calleeT (q := .tmp 26) rfl ?_); refine goesT_ (q := .tmp 26) (some 29) rfl rfl Try.func93 (by kernel_rfl) rfl rfl #[.agg #[.slice A200_0 ((rd_T123 l0 x17_1).f0).length c200_0, .int .i64 ((rd_T123 l0 x17_1).f1), .int .i64 ((rd_T123 l0 x17_1).f2), .slice A200_3 ((rd_T123 l0 x17_1).f3).length c200_3, .int .i64 ((rd_T123 l0 x17_1).f4)], .agg #[.slice A202_0 ((rd_T123 l1 x17_1).f0).length c202_0, .int .i64 ((rd_T123 l1 x17_1).f1), .int .i64 ((rd_T123 l1 x17_1).f2), .slice A202_3 ((rd_T123 l1 x17_1).f3).length c202_3, .int .i64 ((rd_T123 l1 x17_1).f4)]] rfl gl ?_; (with_reducible refine (impl_sameIns.calls k1 _ _ ((rd_T123 l0 x17_1).f0) ((rd_T123 l0 x17_1).f1) ((rd_T123 l0 x17_1).f2) _ _ ((rd_T123 l0 x17_1).f3) ((rd_T123 l0 x17_1).f4) _ _ ((rd_T123 l1 x17_1).f0) ((rd_T123 l1 x17_1).f1) ((rd_T123 l1 x17_1).f2) _ _ ((rd_T123 l1 x17_1).f3) ((rd_T123 l1 x17_1).f4) false _ ?side1 ?side2 ?side3 ?side4 ?side5 ?side6 ?side7 ?side8 A9.out).mono ?_); (case side1 => exact Kd.C_below HR200_0.out (bw HB)); (case side2 => exact HC200_0.out); (case side3 => exact Kd.C_below HR200_3.out (bw HB)); (case side4 => exact HC200_3.out); (case side5 => exact Kd.C_below HR202_0.out (bw HB)); (case side6 => exact HC202_0.out); (case side7 => exact Kd.C_below HR202_3.out (bw HB)); (case side8 => exact HC202_3.out); rintro e w24 ⟨rfl, hb⟩; refine ⟨_, rfl, ?_⟩; replace BK201 := am (blk_below (g := gb201) (o := .cells #[.slice A200_0 ((rd_T123 l0 x17_1).f0).length c200_0, .int .i64 ((rd_T123 l0 x17_1).f1), .int .i64 ((rd_T123 l0 x17_1).f2), .slice A200_3 ((rd_T123 l0 x17_1).f3).length c200_3, .int .i64 ((rd_T123 l0 x17_1).f4)] 123 (0, 0)) (by (with_reducible repeat (first | apply dN | apply dW | apply dA)); refine blk_far ?_ NB201_203.out _; (with_reducible repeat (first | apply dN | apply dW | apply dA)); refine blk_far ?_ NB201_203.out _; (with_reducible repeat (first | apply dN | apply dW | apply dA)); refine blk_far ?_ NB201_203.out _; (with_reducible repeat (first | apply dN | apply dW | apply dA)); refine blk_far ?_ NB201_203.out _; (with_reducible repeat (first | apply dN | apply dW | apply dA)); refine blk_far ?_ NB201_203.out _; exact bp BK201) hb); replace BK203 := am (blk_below (g := gb203) (o := .cells #[.slice A202_0 ((rd_T123 l1 x17_1).f0).length c202_0, .int .i64 ((rd_T123 l1 x17_1).f1), .int .i64 ((rd_T123 l1 x17_1).f2), .slice A202_3 ((rd_T123 l1 x17_1).f3).length c202_3, .int .i64 ((rd_T123 l1 x17_1).f4)] 123 (0, 0)) (by (with_reducible repeat (first | apply dN | apply dW | apply dA)); refine blk_put (cs := #[.slice A202_0 ((rd_T123 l1 x17_1).f0).length c202_0, .int .i64 ((rd_T123 l1 x17_1).f1), .int .i64 ((rd_T123 l1 x17_1).f2), .slice A202_3 ((rd_T123 l1 x17_1).f3).length c202_3, .int .i64 0]) ?_ 4 _ rfl; (with_reducible repeat (first | apply dN | apply dW | apply dA)); refine blk_put (cs := #[.slice A202_0 ((rd_T123 l1 x17_1).f0).length c202_0, .int .i64 ((rd_T123 l1 x17_1).f1), .int .i64 ((rd_T123 l1 x17_1).f2), .slice none 0 0, .int .i64 0]) ?_ 3 _ rfl; (with_reducible repeat (first | apply dN | apply dW | apply dA)); refine blk_put (cs := #[.slice A202_0 ((rd_T123 l1 x17_1).f0).length c202_0, .int .i64 ((rd_T123 l1 x17_1).f1), .int .i64 0, .slice none 0 0, .int .i64 0]) ?_ 2 _ rfl; (with_reducible repeat (first | apply dN | apply dW | apply dA)); refine blk_put (cs := #[.slice A202_0 ((rd_T123 l1 x17_1).f0).length c202_0, .int .i64 0, .int .i64 0, .slice none 0 0, .int .i64 0]) ?_ 1 _ rfl; (with_reducible repeat (first | apply dN | apply dW | apply dA)); refine blk_put (cs := #[.slice none 0 0, .int .i64 0, .int .i64 0, .slice none 0 0, .int .i64 0]) ?_ 0 _ rfl; exact bp BK203) hb); replace HB := am (below_step (bw HB) hb); (try clear hb); (try clear hb2); (try clear hk); (try clear hi)))
         go_ret
         exact ⟨er, bw HB⟩
       ·rw [if_neg c8] at H
        exact absurd H (by simp)
      ·rw [if_neg c7] at H
       exact absurd H (by simp)
     ·rw [if_neg c6] at H
      exact absurd H (by simp)
    ·rw [if_neg c5] at H
     have c5b0 := decide_eq_false c5
     clear c5
     obtain rfl := Option.some.inj H
     go_wp2
     go_ret
     exact ⟨er, bw HB⟩
 ·rw [if_neg c4] at H
  have c4b0 : ((l0.length : Int) == (l1.length : Int)) = false := beq_eq_false_iff_ne.mpr c4
  have c4b1 : ((l0.length : Int) != (l1.length : Int)) = true := bne_iff_ne.mpr c4
  have c4b2 : (l0.length == l1.length) = false := by first | simpa using c4 | (simp at c4 ⊢; omega)
  obtain rfl := Option.some.inj H
  go_enter Try.func92, Try.ntmps92
  go_wp2
  go_ret
  exact ⟨er, bw HB⟩

def impl_AsmSame.f (k : Nat) (a0_0 : Int) (l0_1 : List (S123)) (l0_2 : List (List (S130))) (a1_0 : Int) (l1_1 : List (S123)) (l1_2 : List (List (S130))) : Option (Bool) := if a0_0 = a1_0 then ((impl_AsmIns.f k l0_1 l1_1).bind fun t207 => (if t207 = true then ((impl_Val_94.f k l0_2 l1_2).bind fun t208 => (some t208)) else (some false))) else (some false)
theorem impl_AsmSame.mono : ∀ a0 a1 a2 a3 a4 a5 k, LeO (impl_AsmSame.f k a0 a1 a2 a3 a4 a5) (impl_AsmSame.f (k + 1) a0 a1 a2 a3 a4 a5) := by
 intro a0 a1 a2 a3 a4 a5 k
 unfold impl_AsmSame.f
 repeat' first
   | (with_reducible exact impl_AsmIns.mono _ _ _)
   | (with_reducible exact impl_Val_94.mono _ _ _)
   | (with_reducible exact LeO.refl _)
   | (with_reducible exact LeO.none _)
   | (with_reducible refine LeO.ite ?_ ?_)
   | (with_reducible refine LeO.bind ?_ (fun _ => ?_))
theorem impl_AsmSame.calls (k : Nat) (a0_0 : Int) (A0_1 : Option Addr) (c0_1 : Nat) (l0_1 : List (S123)) (A0_2 : Option Addr) (c0_2 : Nat) (l0_2 : List (List (S130))) (a1_0 : Int) (A1_1 : Option Addr) (c1_1 : Nat) (l1_1 : List (S123)) (A1_2 : Option Addr) (c1_2 : Nat) (l1_2 : List (List (S130))) (r : Bool) (w : World) (hr0_1 : Kd.C k123 w A0_1 l0_1.length l0_1) (hc0_1 : l0_1.length ≤ c0_1) (hr0_2 : Kd.C (Kd.slice 130 k130) w A0_2 l0_2.length l0_2) (hc0_2 : l0_2.length ≤ c0_2) (hr1_1 : Kd.C k123 w A1_1 l1_1.length l1_1) (hc1_1 : l1_1.length ≤ c1_1) (hr1_2 : Kd.C (Kd.slice 130 k130) w A1_2 l1_2.length l1_2) (hc1_2 : l1_2.length ≤ c1_2) (h : impl_AsmSame.f k a0_0 l0_1 l0_2 a1_0 l1_1 l1_2 = some r) :
  Calls Try.prog 50 #[.agg #[.int .i64 a0_0, .slice A0_1 l0_1.length c0_1, .slice A0_2 l0_2.length c0_2], .agg #[.int .i64 a1_0, .slice A1_1 l1_1.length c1_1, .slice A1_2 l1_2.length c1_2]] w fun e w' => e = .returned (.bool r) ∧ Below w.heap.size w w' := by
 have hu79 := Try.underlying79
 have HR0_1 := am hr0_1
 have HC0_1 := am hc0_1
 clear hr0_1 hc0_1
 have HR0_2 := am hr0_2
 have HC0_2 := am hc0_2
 clear hr0_2 hc0_2
 have HR1_1 := am hr1_1
 have HC1_1 := am hc1_1
 clear hr1_1 hc1_1
 have HR1_2 := am hr1_2
 have HC1_2 := am hc1_2
 clear hr1_2 hc1_2
 have HB := am (Below.refl w.heap.size w)
 have H : (if a0_0 = a1_0 then ((impl_AsmIns.f k l0_1 l1_1).bind fun t207 => (if t207 = true then ((impl_Val_94.f k l0_2 l1_2).bind fun t208 => (some t208)) else (some false))) else (some false)) = some r := h
 clear h
 by_cases c3 : a0_0 = a1_0
 ·rw [if_pos c3] at H
  have c3b0 : (a0_0 == a1_0) = true := beq_iff_eq.mpr c3
  have c3b1 : (a0_0 != a1_0) = false := bne_eq_false_iff_eq.mpr c3
  clear c3
  replace H := Option.bind_eq_some_iff.mp H
  obtain ⟨t207, A40, H⟩ := H
  replace H : (if t207 = true then ((impl_Val_94.f k l0_2 l1_2).bind fun t208 => (some t208)) else (some false)) = some r := H
  have A4 := am A40
  clear A40
  by_cases c5 : t207 = true
  ·subst c5
   have H1 : ((impl_Val_94.f k l0_2 l1_2).bind fun t208 => (some t208)) = some r := by rw [if_pos rfl] at H; exact H
   clear H
   have H := H1
   clear H1
   replace H := Option.bind_eq_some_iff.mp H
   obtain ⟨t208, A60, H⟩ := H
   replace H : (some t208) = some r := H
   have A6 := am A60
   clear A60
   obtain rfl := Option.some.inj H
   go_enter Try.func50, Try.ntmps50
   go_wp2_with (first | ((with_reducible refine gate_dst (N := 2) rfl ?_); refine box_event ?hg (N := 2) ?hd (cs := #[.int .i64 a0_0, .slice A0_1 l0_1.length c0_1, .slice A0_2 l0_2.length c0_2]) (t := 79) ?hr ?_; (case hd => rfl); (case hg => rfl); (case hr => exact gs); intro gb205 hg w7 hbox hb; have BK205 := am (hbox); have GW205 := am ((by rw [hg]; exact (below_size (bw HB)) : w.heap.size ≤ gb205)); have GE205 := am ((by rw [hg]; exact (below_size (bw HB)) : w.heap.size ≤ gb205)); replace HB := am (below_step (bw HB) hb); clear hb hbox hg) | ((with_reducible refine gate_dst (N := 3) rfl ?_); refine box_event ?hg (N := 3) ?hd (cs := #[.int .i64 a1_0, .slice A1_1 l1_1.length c1_1, .slice A1_2 l1_2.length c1_2]) (t := 79) ?hr ?_; (case hd => rfl); (case hg => rfl); (case hr => exact gs); intro gb206 hg w8 hbox hb; have BK206 := am (hbox); have GW206 := am ((by rw [hg]; exact (below_size (bw HB)) : w.heap.size ≤ gb206)); have GE206 := am ((by rw [hg]; exact (below_size (bw HB)) : w.heap.size ≤ gb206)); replace HB := am (below_step (bw HB) hb); have NB205_206 := am ((by rw [hg]; exact Nat.ne_of_lt (blk_lt (g := gb205) (o := .cells #[.int .i64 a0_0, .slice A0_1 l0_1.length c0_1, .slice A0_2 l0_2.length c0_2] 79 (0, 0)) (bp BK205)) : gb205 ≠ gb206)); have NB206_205 := am ((by rw [hg]; exact Nat.ne_of_gt (blk_lt (g := gb205) (o := .cells #[.int .i64 a0_0, .slice A0_1 l0_1.length c0_1, .slice A0_2 l0_2.length c0_2] 79 (0, 0)) (bp BK205)) : gb206 ≠ gb205)); replace BK205 := am (blk_below (g := gb205) (o := .cells #[.int .i64 a0_0, .slice A0_1 l0_1.length c0_1, .slice A0_2 l0_2.length c0_2] 79 (0, 0)) (bp BK205) hb); clear hb hbox hg; have hnb9 := NB205_206.out; have hnc9 := NB206_205.out; have hcz10_0 : w8.cell? ⟨gb205, 0, none⟩ = some (.int .i64 a0_0) := bc BK205 0; have hcz10_1 : w8.cell? ⟨gb205, 1, none⟩ = some (.slice A0_1 l0_1.length c0_1) := bc BK205 1; have hcz10_2 : w8.cell? ⟨gb205, 2, none⟩ = some (.slice A0_2 l0_2.length c0_2) := bc BK205 2; have hfz10_0 := bf BK205 0; have hfz10_1 := bf BK205 1; have hfz10_2 := bf BK205 2; have hcz11_0 : w8.cell? ⟨gb206, 0, none⟩ = some (.int .i64 a1_0) := bc BK206 0; have hcz11_1 : w8.cell? ⟨gb206, 1, none⟩ = some (.slice A1_1 l1_1.length c1_1) := bc BK206 1; have hcz11_2 : w8.cell? ⟨gb206, 2, none⟩ = some (.slice A1_2 l1_2.length c1_2) := bc BK206 2; have hfz11_0 := bf BK206 0; have hfz11_1 := bf BK206 1; have hfz11_2 := bf BK206 2) | (go_at_call 92; (with_reducible refine (impl_AsmIns.calls k _ _ l0_1 _ _ l1_1  true _ ?side1 ?side2 ?side3 ?side4 A4.out).mono ?_); (case side1 => exact cc (Kd.C_below HR0_1.out HB.out)); (case side2 => exact HC0_1.out); (case side3 => exact cc (Kd.C_below HR1_1.out HB.out)); (case side4 => exact HC1_1.out); rintro e w12 ⟨rfl, hb⟩; replace BK205 := am (blk_below (g := gb205) (o := .cells #[.int .i64 a0_0, .slice A0_1 l0_1.length c0_1, .slice A0_2 l0_2.length c0_2] 79 (0, 0)) (bp BK205) hb); replace BK206 := am (blk_below (g := gb206) (o := .cells #[.int .i64 a1_0, .slice A1_1 l1_1.length c1_1, .slice A1_2 l1_2.length c1_2] 79 (0, 0)) (bp BK206) hb); replace HB := am (below_step (bw HB) hb); (try clear hb); (try clear hb2); (try clear hk); (try clear hi); have hcz13_0 : w12.cell? ⟨gb205, 0, none⟩ = some (.int .i64 a0_0) := bc BK205 0; have hcz13_1 : w12.cell? ⟨gb205, 1, none⟩ = some (.slice A0_1 l0_1.length c0_1) := bc BK205 1; have hcz13_2 : w12.cell? ⟨gb205, 2, none⟩ = some (.slice A0_2 l0_2.length c0_2) := bc BK205 2; have hfz13_0 := bf BK205 0; have hfz13_1 := bf BK205 1; have hfz13_2 := bf BK205 2; have hcz14_0 : w12.cell? ⟨gb206, 0, none⟩ = some (.int .i64 a1_0) := bc BK206 0; have hcz14_1 : w12.cell? ⟨gb206, 1, none⟩ = some (.slice A1_1 l1_1.length c1_1) := bc BK206 1; have hcz14_2 : w12.cell? ⟨gb206, 2, none⟩ = some (.slice A1_2 l1_2.length c1_2) := bc BK206 2; have hfz14_0 := bf BK206 0; have hfz14_1 := bf BK206 1; have hfz14_2 := bf BK206 2) | (go_at_call 94; (with_reducible refine (impl_Val_94.calls k _ _ l0_2 _ _ l1_2  t208 _ ?side1 ?side2 ?side3 ?side4 A6.out).mono ?_); (case side1 => exact cc (Kd.C_below HR0_2.out HB.out)); (case side2 => exact HC0_2.out); (case side3 => exact cc (Kd.C_below HR1_2.out HB.out)); (case side4 => exact HC1_2.out); rintro e w' ⟨rfl, ⟨nd, rfl⟩⟩))
   go_ret
   exact ⟨er, bw HB⟩
  ·replace c5 := Bool.eq_false_iff.mpr c5
   subst c5
   have H1 : (some false) = some r := by rw [if_neg (show ¬ (false = true) by decide)] at H; exact H
   clear H
   have H := H1
   clear H1
   obtain rfl := Option.some.inj H
   go_enter Try.func50, Try.ntmps50
   go_wp2_with (first | ((with_reducible refine gate_dst (N := 2) rfl ?_); refine box_event ?hg (N := 2) ?hd (cs := #[.int .i64 a0_0, .slice A0_1 l0_1.length c0_1, .slice A0_2 l0_2.length c0_2]) (t := 79) ?hr ?_; (case hd => rfl); (case hg => rfl); (case hr => exact gs); intro gb205 hg w15 hbox hb; have BK205 := am (hbox); have GW205 := am ((by rw [hg]; exact (below_size (bw HB)) : w.heap.size ≤ gb205)); have GE205 := am ((by rw [hg]; exact (below_size (bw HB)) : w.heap.size ≤ gb205)); replace HB := am (below_step (bw HB) hb); clear hb hbox hg) | ((with_reducible refine gate_dst (N := 3) rfl ?_); refine box_event ?hg (N := 3) ?hd (cs := #[.int .i64 a1_0, .slice A1_1 l1_1.length c1_1, .slice A1_2 l1_2.length c1_2]) (t := 79) ?hr ?_; (case hd => rfl); (case hg => rfl); (case hr => exact gs); intro gb206 hg w16 hbox hb; have BK206 := am (hbox); have GW206 := am ((by rw [hg]; exact (below_size (bw HB)) : w.heap.size ≤ gb206)); have GE206 := am ((by rw [hg]; exact (below_size (bw HB)) : w.heap.size ≤ gb206)); replace HB := am (below_step (bw HB) hb); have NB205_206 := am ((by rw [hg]; exact Nat.ne_of_lt (blk_lt (g := gb205) (o := .cells #[.int .i64 a0_0, .slice A0_1 l0_1.length c0_1, .slice A0_2 l0_2.length c0_2] 79 (0, 0)) (bp BK205)) : gb205 ≠ gb206)); have NB206_205 := am ((by rw [hg]; exact Nat.ne_of_gt (blk_lt (g := gb205) (o := .cells #[.int .i64 a0_0, .slice A0_1 l0_1.length c0_1, .slice A0_2 l0_2.length c0_2] 79 (0, 0)) (bp BK205)) : gb206 ≠ gb205)); replace BK205 := am (blk_below (g := gb205) (o := .cells #[.int .i64 a0_0, .slice A0_1 l0_1.length c0_1, .slice A0_2 l0_2.length c0_2] 79 (0, 0)) (bp BK205) hb); clear hb hbox hg; have hnb17 := NB205_206.out; have hnc17 := NB206_205.out; have hcz18_0 : w16.cell? ⟨gb205, 0, none⟩ = some (.int .i64 a0_0) := bc BK205 0; have hcz18_1 : w16.cell? ⟨gb205, 1, none⟩ = some (.slice A0_1 l0_1.length c0_1) := bc BK205 1; have hcz18_2 : w16.cell? ⟨gb205, 2, none⟩ = some (.slice A0_2 l0_2.length c0_2) := bc BK205 2; have hfz18_0 := bf BK205 0; have hfz18_1 := bf BK205 1; have hfz18_2 := bf BK205 2; have hcz19_0 : w16.cell? ⟨gb206, 0, none⟩ = some (.int .i64 a1_0) := bc BK206 0; have hcz19_1 : w16.cell? ⟨gb206, 1, none⟩ = some (.slice A1_1 l1_1.length c1_1) := bc BK206 1; have hcz19_2 : w16.cell? ⟨gb206, 2, none⟩ = some (.slice A1_2 l1_2.length c1_2) := bc BK206 2; have hfz19_0 := bf BK206 0; have hfz19_1 := bf BK206 1; have hfz19_2 := bf BK206 2) | (go_at_call 92; (with_reducible refine (impl_AsmIns.calls k _ _ l0_1 _ _ l1_1  false _ ?side1 ?side2 ?side3 ?side4 A4.out).mono ?_); (case side1 => exact cc (Kd.C_below HR0_1.out HB.out)); (case side2 => exact HC0_1.out); (case side3 => exact cc (Kd.C_below HR1_1.out HB.out)); (case side4 => exact HC1_1.out); rintro e w20 ⟨rfl, hb⟩; replace BK205 := am (blk_below (g := gb205) (o := .cells #[.int .i64 a0_0, .slice A0_1 l0_1.length c0_1, .slice A0_2 l0_2.length c0_2] 79 (0, 0)) (bp BK205) hb); replace BK206 := am (blk_below (g := gb206) (o := .cells #[.int .i64 a1_0, .slice A1_1 l1_1.length c1_1, .slice A1_2 l1_2.length c1_2] 79 (0, 0)) (bp BK206) hb); replace HB := am (below_step (bw HB) hb); (try clear hb); (try clear hb2); (try clear hk); (try clear hi)))
   go_ret
   exact ⟨er, bw HB⟩
 ·rw [if_neg c3] at H
  have c3b0 : (a0_0 == a1_0) = false := beq_eq_false_iff_ne.mpr c3
  have c3b1 : (a0_0 != a1_0) = true := bne_iff_ne.mpr c3
  obtain rfl := Option.some.inj H
  go_enter Try.func50, Try.ntmps50
  go_wp2_with (first | ((with_reducible refine gate_dst (N := 2) rfl ?_); refine box_event ?hg (N := 2) ?hd (cs := #[.int .i64 a0_0, .slice A0_1 l0_1.length c0_1, .slice A0_2 l0_2.length c0_2]) (t := 79) ?hr ?_; (case hd => rfl); (case hg => rfl); (case hr => exact gs); intro gb205 hg w21 hbox hb; have BK205 := am (hbox); have GW205 := am ((by rw [hg]; exact (below_size (bw HB)) : w.heap.size ≤ gb205)); have GE205 := am ((by rw [hg]; exact (below_size (bw HB)) : w.heap.size ≤ gb205)); replace HB := am (below_step (bw HB) hb); clear hb hbox hg) | ((with_reducible refine gate_dst (N := 3) rfl ?_); refine box_event ?hg (N := 3) ?hd (cs := #[.int .i64 a1_0, .slice A1_1 l1_1.length c1_1, .slice A1_2 l1_2.length c1_2]) (t := 79) ?hr ?_; (case hd => rfl); (case hg => rfl); (case hr => exact gs); intro gb206 hg w22 hbox hb; have BK206 := am (hbox); have GW206 := am ((by rw [hg]; exact (below_size (bw HB)) : w.heap.size ≤ gb206)); have GE206 := am ((by rw [hg]; exact (below_size (bw HB)) : w.heap.size ≤ gb206)); replace HB := am (below_step (bw HB) hb); have NB205_206 := am ((by rw [hg]; exact Nat.ne_of_lt (blk_lt (g := gb205) (o := .cells #[.int .i64 a0_0, .slice A0_1 l0_1.length c0_1, .slice A0_2 l0_2.length c0_2] 79 (0, 0)) (bp BK205)) : gb205 ≠ gb206)); have NB206_205 := am ((by rw [hg]; exact Nat.ne_of_gt (blk_lt (g := gb205) (o := .cells #[.int .i64 a0_0, .slice A0_1 l0_1.length c0_1, .slice A0_2 l0_2.length c0_2] 79 (0, 0)) (bp BK205)) : gb206 ≠ gb205)); replace BK205 := am (blk_below (g := gb205) (o := .cells #[.int .i64 a0_0, .slice A0_1 l0_1.length c0_1, .slice A0_2 l0_2.length c0_2] 79 (0, 0)) (bp BK205) hb); clear hb hbox hg; have hnb23 := NB205_206.out; have hnc23 := NB206_205.out; have hcz24_0 : w22.cell? ⟨gb205, 0, none⟩ = some (.int .i64 a0_0) := bc BK205 0; have hcz24_1 : w22.cell? ⟨gb205, 1, none⟩ = some (.slice A0_1 l0_1.length c0_1) := bc BK205 1; have hcz24_2 : w22.cell? ⟨gb205, 2, none⟩ = some (.slice A0_2 l0_2.length c0_2) := bc BK205 2; have hfz24_0 := bf BK205 0; have hfz24_1 := bf BK205 1; have hfz24_2 := bf BK205 2; have hcz25_0 : w22.cell? ⟨gb206, 0, none⟩ = some (.int .i64 a1_0) := bc BK206 0; have hcz25_1 : w22.cell? ⟨gb206, 1, none⟩ = some (.slice A1_1 l1_1.length c1_1) := bc BK206 1; have hcz25_2 : w22.cell? ⟨gb206, 2, none⟩ = some (.slice A1_2 l1_2.length c1_2) := bc BK206 2; have hfz25_0 := bf BK206 0; have hfz25_1 := bf BK206 1; have hfz25_2 := bf BK206 2))
  go_ret
  exact ⟨er, bw HB⟩

def laws_eqVal.f (a0_0 : Int) (a0_1 : Int) (a1_0 : Int) (a1_1 : Int) : Option (Bool) := if a0_0 = a1_0 then (if a0_1 = a1_1 then (some true) else (some false)) else (some false)
theorem laws_eqVal.calls (a0_0 : Int) (a0_1 : Int) (a1_0 : Int) (a1_1 : Int) (r : Bool) (w : World) (h : laws_eqVal.f a0_0 a0_1 a1_0 a1_1 = some r) :
  Calls Try.prog 121 #[.agg #[.int .i64 a0_0, .int .i64 a0_1], .agg #[.int .i64 a1_0, .int .i64 a1_1]] w fun e w' => e = .returned (.bool r) ∧ Below w.heap.size w w' := by
 have hu130 := Try.underlying130
 have HB := am (Below.refl w.heap.size w)
 have H : (if a0_0 = a1_0 then (if a0_1 = a1_1 then (some true) else (some false)) else (some false)) = some r := h
 clear h
 by_cases c3 : a0_0 = a1_0
 ·rw [if_pos c3] at H
  have c3b0 : (a0_0 == a1_0) = true := beq_iff_eq.mpr c3
  have c3b1 : (a0_0 != a1_0) = false := bne_eq_false_iff_eq.mpr c3
  clear c3
  by_cases c4 : a0_1 = a1_1
  ·rw [if_pos c4] at H
   have c4b0 : (a0_1 == a1_1) = true := beq_iff_eq.mpr c4
   have c4b1 : (a0_1 != a1_1) = false := bne_eq_false_iff_eq.mpr c4
   clear c4
   obtain rfl := Option.some.inj H
   go_enter Try.func121, Try.ntmps121
   go_wp2_with (first | ((with_reducible refine gate_dst (N := 2) rfl ?_); refine box_event ?hg (N := 2) ?hd (cs := #[.int .i64 a0_0, .int .i64 a0_1]) (t := 130) ?hr ?_; (case hd => rfl); (case hg => rfl); (case hr => exact gs); intro gb209 hg w5 hbox hb; have BK209 := am (hbox); have GW209 := am ((by rw [hg]; exact (below_size (bw HB)) : w.heap.size ≤ gb209)); have GE209 := am ((by rw [hg]; exact (below_size (bw HB)) : w.heap.size ≤ gb209)); replace HB := am (below_step (bw HB) hb); clear hb hbox hg) | ((with_reducible refine gate_dst (N := 3) rfl ?_); refine box_event ?hg (N := 3) ?hd (cs := #[.int .i64 a1_0, .int .i64 a1_1]) (t := 130) ?hr ?_; (case hd => rfl); (case hg => rfl); (case hr => exact gs); intro gb210 hg w6 hbox hb; have BK210 := am (hbox); have GW210 := am ((by rw [hg]; exact (below_size (bw HB)) : w.heap.size ≤ gb210)); have GE210 := am ((by rw [hg]; exact (below_size (bw HB)) : w.heap.size ≤ gb210)); replace HB := am (below_step (bw HB) hb); have NB209_210 := am ((by rw [hg]; exact Nat.ne_of_lt (blk_lt (g := gb209) (o := .cells #[.int .i64 a0_0, .int .i64 a0_1] 130 (0, 0)) (bp BK209)) : gb209 ≠ gb210)); have NB210_209 := am ((by rw [hg]; exact Nat.ne_of_gt (blk_lt (g := gb209) (o := .cells #[.int .i64 a0_0, .int .i64 a0_1] 130 (0, 0)) (bp BK209)) : gb210 ≠ gb209)); replace BK209 := am (blk_below (g := gb209) (o := .cells #[.int .i64 a0_0, .int .i64 a0_1] 130 (0, 0)) (bp BK209) hb); clear hb hbox hg; have hnb7 := NB209_210.out; have hnc7 := NB210_209.out; have hcz8_0 : w6.cell? ⟨gb209, 0, none⟩ = some (.int .i64 a0_0) := bc BK209 0; have hcz8_1 : w6.cell? ⟨gb209, 1, none⟩ = some (.int .i64 a0_1) := bc BK209 1; have hfz8_0 := bf BK209 0; have hfz8_1 := bf BK209 1; have hcz9_0 : w6.cell? ⟨gb210, 0, none⟩ = some (.int .i64 a1_0) := bc BK210 0; have hcz9_1 : w6.cell? ⟨gb210, 1, none⟩ = some (.int .i64 a1_1) := bc BK210 1; have hfz9_0 := bf BK210 0; have hfz9_1 := bf BK210 1))
   go_ret
   exact ⟨er, bw HB⟩
  ·rw [if_neg c4] at H
   have c4b0 : (a0_1 == a1_1) = false := beq_eq_false_iff_ne.mpr c4
   have c4b1 : (a0_1 != a1_1) = true := bne_iff_ne.mpr c4
   obtain rfl := Option.some.inj H
   go_enter Try.func121, Try.ntmps121
   go_wp2_with (first | ((with_reducible refine gate_dst (N := 2) rfl ?_); refine box_event ?hg (N := 2) ?hd (cs := #[.int .i64 a0_0, .int .i64 a0_1]) (t := 130) ?hr ?_; (case hd => rfl); (case hg => rfl); (case hr => exact gs); intro gb209 hg w10 hbox hb; have BK209 := am (hbox); have GW209 := am ((by rw [hg]; exact (below_size (bw HB)) : w.heap.size ≤ gb209)); have GE209 := am ((by rw [hg]; exact (below_size (bw HB)) : w.heap.size ≤ gb209)); replace HB := am (below_step (bw HB) hb); clear hb hbox hg) | ((with_reducible refine gate_dst (N := 3) rfl ?_); refine box_event ?hg (N := 3) ?hd (cs := #[.int .i64 a1_0, .int .i64 a1_1]) (t := 130) ?hr ?_; (case hd => rfl); (case hg => rfl); (case hr => exact gs); intro gb210 hg w11 hbox hb; have BK210 := am (hbox); have GW210 := am ((by rw [hg]; exact (below_size (bw HB)) : w.heap.size ≤ gb210)); have GE210 := am ((by rw [hg]; exact (below_size (bw HB)) : w.heap.size ≤ gb210)); replace HB := am (below_step (bw HB) hb); have NB209_210 := am ((by rw [hg]; exact Nat.ne_of_lt (blk_lt (g := gb209) (o := .cells #[.int .i64 a0_0, .int .i64 a0_1] 130 (0, 0)) (bp BK209)) : gb209 ≠ gb210)); have NB210_209 := am ((by rw [hg]; exact Nat.ne_of_gt (blk_lt (g := gb209) (o := .cells #[.int .i64 a0_0, .int .i64 a0_1] 130 (0, 0)) (bp BK209)) : gb210 ≠ gb209)); replace BK209 := am (blk_below (g := gb209) (o := .cells #[.int .i64 a0_0, .int .i64 a0_1] 130 (0, 0)) (bp BK209) hb); clear hb hbox hg; have hnb12 := NB209_210.out; have hnc12 := NB210_209.out; have hcz13_0 : w11.cell? ⟨gb209, 0, none⟩ = some (.int .i64 a0_0) := bc BK209 0; have hcz13_1 : w11.cell? ⟨gb209, 1, none⟩ = some (.int .i64 a0_1) := bc BK209 1; have hfz13_0 := bf BK209 0; have hfz13_1 := bf BK209 1; have hcz14_0 : w11.cell? ⟨gb210, 0, none⟩ = some (.int .i64 a1_0) := bc BK210 0; have hcz14_1 : w11.cell? ⟨gb210, 1, none⟩ = some (.int .i64 a1_1) := bc BK210 1; have hfz14_0 := bf BK210 0; have hfz14_1 := bf BK210 1))
   go_ret
   exact ⟨er, bw HB⟩
 ·rw [if_neg c3] at H
  have c3b0 : (a0_0 == a1_0) = false := beq_eq_false_iff_ne.mpr c3
  have c3b1 : (a0_0 != a1_0) = true := bne_iff_ne.mpr c3
  obtain rfl := Option.some.inj H
  go_enter Try.func121, Try.ntmps121
  go_wp2_with (first | ((with_reducible refine gate_dst (N := 2) rfl ?_); refine box_event ?hg (N := 2) ?hd (cs := #[.int .i64 a0_0, .int .i64 a0_1]) (t := 130) ?hr ?_; (case hd => rfl); (case hg => rfl); (case hr => exact gs); intro gb209 hg w15 hbox hb; have BK209 := am (hbox); have GW209 := am ((by rw [hg]; exact (below_size (bw HB)) : w.heap.size ≤ gb209)); have GE209 := am ((by rw [hg]; exact (below_size (bw HB)) : w.heap.size ≤ gb209)); replace HB := am (below_step (bw HB) hb); clear hb hbox hg) | ((with_reducible refine gate_dst (N := 3) rfl ?_); refine box_event ?hg (N := 3) ?hd (cs := #[.int .i64 a1_0, .int .i64 a1_1]) (t := 130) ?hr ?_; (case hd => rfl); (case hg => rfl); (case hr => exact gs); intro gb210 hg w16 hbox hb; have BK210 := am (hbox); have GW210 := am ((by rw [hg]; exact (below_size (bw HB)) : w.heap.size ≤ gb210)); have GE210 := am ((by rw [hg]; exact (below_size (bw HB)) : w.heap.size ≤ gb210)); replace HB := am (below_step (bw HB) hb); have NB209_210 := am ((by rw [hg]; exact Nat.ne_of_lt (blk_lt (g := gb209) (o := .cells #[.int .i64 a0_0, .int .i64 a0_1] 130 (0, 0)) (bp BK209)) : gb209 ≠ gb210)); have NB210_209 := am ((by rw [hg]; exact Nat.ne_of_gt (blk_lt (g := gb209) (o := .cells #[.int .i64 a0_0, .int .i64 a0_1] 130 (0, 0)) (bp BK209)) : gb210 ≠ gb209)); replace BK209 := am (blk_below (g := gb209) (o := .cells #[.int .i64 a0_0, .int .i64 a0_1] 130 (0, 0)) (bp BK209) hb); clear hb hbox hg; have hnb17 := NB209_210.out; have hnc17 := NB210_209.out; have hcz18_0 : w16.cell? ⟨gb209, 0, none⟩ = some (.int .i64 a0_0) := bc BK209 0; have hcz18_1 : w16.cell? ⟨gb209, 1, none⟩ = some (.int .i64 a0_1) := bc BK209 1; have hfz18_0 := bf BK209 0; have hfz18_1 := bf BK209 1; have hcz19_0 : w16.cell? ⟨gb210, 0, none⟩ = some (.int .i64 a1_0) := bc BK210 0; have hcz19_1 : w16.cell? ⟨gb210, 1, none⟩ = some (.int .i64 a1_1) := bc BK210 1; have hfz19_0 := bf BK210 0; have hfz19_1 := bf BK210 1))
  go_ret
  exact ⟨er, bw HB⟩

end Go.Proofs.Ytkmohnlkldkhdaa.QFnExactAsmSame
