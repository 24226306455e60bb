import Derived.Test.YtkmohnlkldkhdaaCFnExactAsmSamex0
import Derived.Test.YtkmohnlkldkhdaaCFnExactAsmSamex8
namespace Go.Proofs.Ytkmohnlkldkhdaa.QFnExactAsmSame
open Go.RowKit Go.Proofs.YtkmohnlkldkhdaaW
open PrintWords PrintLast PrintMore PrintShort PrintIsh
attribute [local go_sem] max2_int min2_int max_two min_two max_three min_three max_four min_four   -- for this text's walks alone
set_option linter.unusedVariables false
set_option maxHeartbeats 8000000
set_option maxRecDepth 100000
set_option linter.unusedSimpArgs false

def laws_eqAsmIns.f (k : Nat) (l0_0 : List (S154)) (a0_1 : Int) (a0_2 : Int) (l0_3 : List (S130)) (a0_4 : Int) (l1_0 : List (S154)) (a1_1 : Int) (a1_2 : Int) (l1_3 : List (S130)) (a1_4 : Int) : Option (Bool) := (laws_eqMovS.f k l0_0 l1_0).bind fun t222 => (if t222 = true then (if a0_1 = a1_1 then (if a0_2 = a1_2 then ((laws_eqValS.f k l0_3 l1_3).bind fun t223 => (if t223 = true then (if a0_4 = a1_4 then (some true) else (some false)) else (some false))) else (some false)) else (some false)) else (some false))
theorem laws_eqAsmIns.mono : ∀ a0 a1 a2 a3 a4 a5 a6 a7 a8 a9 k, LeO (laws_eqAsmIns.f k a0 a1 a2 a3 a4 a5 a6 a7 a8 a9) (laws_eqAsmIns.f (k + 1) a0 a1 a2 a3 a4 a5 a6 a7 a8 a9) := by
 intro a0 a1 a2 a3 a4 a5 a6 a7 a8 a9 k
 unfold laws_eqAsmIns.f
 repeat' first
   | (with_reducible exact laws_eqMovS.mono _ _ _)
   | (with_reducible exact laws_eqValS.mono _ _ _)
   | (with_reducible exact LeO.refl _)
   | (with_reducible exact LeO.none _)
   | (with_reducible refine LeO.ite ?_ ?_)
   | (with_reducible refine LeO.bind ?_ (fun _ => ?_))
theorem laws_eqAsmIns.calls (k : Nat) (A0_0 : Option Addr) (c0_0 : Nat) (l0_0 : List (S154)) (a0_1 : Int) (a0_2 : Int) (A0_3 : Option Addr) (c0_3 : Nat) (l0_3 : List (S130)) (a0_4 : Int) (A1_0 : Option Addr) (c1_0 : Nat) (l1_0 : List (S154)) (a1_1 : Int) (a1_2 : Int) (A1_3 : Option Addr) (c1_3 : Nat) (l1_3 : List (S130)) (a1_4 : Int) (r : Bool) (w : World) (hr0_0 : Kd.C k154 w A0_0 l0_0.length l0_0) (hc0_0 : l0_0.length ≤ c0_0) (hr0_3 : Kd.C k130 w A0_3 l0_3.length l0_3) (hc0_3 : l0_3.length ≤ c0_3) (hr1_0 : Kd.C k154 w A1_0 l1_0.length l1_0) (hc1_0 : l1_0.length ≤ c1_0) (hr1_3 : Kd.C k130 w A1_3 l1_3.length l1_3) (hc1_3 : l1_3.length ≤ c1_3) (h : laws_eqAsmIns.f k l0_0 a0_1 a0_2 l0_3 a0_4 l1_0 a1_1 a1_2 l1_3 a1_4 = some r) :
  Calls Try.prog 112 #[.agg #[.slice A0_0 l0_0.length c0_0, .int .i64 a0_1, .int .i64 a0_2, .slice A0_3 l0_3.length c0_3, .int .i64 a0_4], .agg #[.slice A1_0 l1_0.length c1_0, .int .i64 a1_1, .int .i64 a1_2, .slice A1_3 l1_3.length c1_3, .int .i64 a1_4]] w fun e w' => e = .returned (.bool r) ∧ Below w.heap.size w w' := by
 have hu123 := Try.underlying123
 have HR0_0 := am hr0_0
 have HC0_0 := am hc0_0
 clear hr0_0 hc0_0
 have HR0_3 := am hr0_3
 have HC0_3 := am hc0_3
 clear hr0_3 hc0_3
 have HR1_0 := am hr1_0
 have HC1_0 := am hc1_0
 clear hr1_0 hc1_0
 have HR1_3 := am hr1_3
 have HC1_3 := am hc1_3
 clear hr1_3 hc1_3
 have HB := am (Below.refl w.heap.size w)
 have H : ((laws_eqMovS.f k l0_0 l1_0).bind fun t222 => (if t222 = true then (if a0_1 = a1_1 then (if a0_2 = a1_2 then ((laws_eqValS.f k l0_3 l1_3).bind fun t223 => (if t223 = true then (if a0_4 = a1_4 then (some true) else (some false)) else (some false))) else (some false)) else (some false)) else (some false))) = some r := h
 clear h
 replace H := Option.bind_eq_some_iff.mp H
 obtain ⟨t222, A30, H⟩ := H
 replace H : (if t222 = true then (if a0_1 = a1_1 then (if a0_2 = a1_2 then ((laws_eqValS.f k l0_3 l1_3).bind fun t223 => (if t223 = true then (if a0_4 = a1_4 then (some true) else (some false)) else (some false))) else (some false)) else (some false)) else (some false)) = some r := H
 have A3 := am A30
 clear A30
 by_cases c4 : t222 = true
 ·subst c4
  have H1 : (if a0_1 = a1_1 then (if a0_2 = a1_2 then ((laws_eqValS.f k l0_3 l1_3).bind fun t223 => (if t223 = true then (if a0_4 = a1_4 then (some true) else (some false)) else (some false))) else (some false)) else (some false)) = some r := by rw [if_pos rfl] at H; exact H
  clear H
  have H := H1
  clear H1
  by_cases c5 : a0_1 = a1_1
  ·rw [if_pos c5] at H
   have c5b0 : (a0_1 == a1_1) = true := beq_iff_eq.mpr c5
   have c5b1 : (a0_1 != a1_1) = false := bne_eq_false_iff_eq.mpr c5
   clear c5
   by_cases c6 : a0_2 = a1_2
   ·rw [if_pos c6] at H
    have c6b0 : (a0_2 == a1_2) = true := beq_iff_eq.mpr c6
    have c6b1 : (a0_2 != a1_2) = false := bne_eq_false_iff_eq.mpr c6
    clear c6
    replace H := Option.bind_eq_some_iff.mp H
    obtain ⟨t223, A70, H⟩ := H
    replace H : (if t223 = true then (if a0_4 = a1_4 then (some true) else (some false)) else (some false)) = some r := H
    have A7 := am A70
    clear A70
    by_cases c8 : t223 = true
    ·subst c8
     have H1 : (if a0_4 = a1_4 then (some true) else (some false)) = some r := by rw [if_pos rfl] at H; exact H
     clear H
     have H := H1
     clear H1
     by_cases c9 : a0_4 = a1_4
     ·rw [if_pos c9] at H
      have c9b0 : (a0_4 == a1_4) = true := beq_iff_eq.mpr c9
      have c9b1 : (a0_4 != a1_4) = false := bne_eq_false_iff_eq.mpr c9
      clear c9
      obtain rfl := Option.some.inj H
      go_enter Try.func112, Try.ntmps112
      go_wp2_with (first | ((with_reducible refine gate_dst (N := 2) rfl ?_); refine box_event ?hg (N := 2) ?hd (cs := #[.slice A0_0 l0_0.length c0_0, .int .i64 a0_1, .int .i64 a0_2, .slice A0_3 l0_3.length c0_3, .int .i64 a0_4]) (t := 123) ?hr ?_; (case hd => rfl); (case hg => rfl); (case hr => exact gs); intro gb220 hg w10 hbox hb; have BK220 := am (hbox); have GW220 := am ((by rw [hg]; exact (below_size (bw HB)) : w.heap.size ≤ gb220)); have GE220 := am ((by rw [hg]; exact (below_size (bw HB)) : w.heap.size ≤ gb220)); replace HB := am (below_step (bw HB) hb); clear hb hbox hg) | ((with_reducible refine gate_dst (N := 3) rfl ?_); refine box_event ?hg (N := 3) ?hd (cs := #[.slice A1_0 l1_0.length c1_0, .int .i64 a1_1, .int .i64 a1_2, .slice A1_3 l1_3.length c1_3, .int .i64 a1_4]) (t := 123) ?hr ?_; (case hd => rfl); (case hg => rfl); (case hr => exact gs); intro gb221 hg w11 hbox hb; have BK221 := am (hbox); have GW221 := am ((by rw [hg]; exact (below_size (bw HB)) : w.heap.size ≤ gb221)); have GE221 := am ((by rw [hg]; exact (below_size (bw HB)) : w.heap.size ≤ gb221)); replace HB := am (below_step (bw HB) hb); have NB220_221 := am ((by rw [hg]; exact Nat.ne_of_lt (blk_lt (g := gb220) (o := .cells #[.slice A0_0 l0_0.length c0_0, .int .i64 a0_1, .int .i64 a0_2, .slice A0_3 l0_3.length c0_3, .int .i64 a0_4] 123 (0, 0)) (bp BK220)) : gb220 ≠ gb221)); have NB221_220 := am ((by rw [hg]; exact Nat.ne_of_gt (blk_lt (g := gb220) (o := .cells #[.slice A0_0 l0_0.length c0_0, .int .i64 a0_1, .int .i64 a0_2, .slice A0_3 l0_3.length c0_3, .int .i64 a0_4] 123 (0, 0)) (bp BK220)) : gb221 ≠ gb220)); replace BK220 := am (blk_below (g := gb220) (o := .cells #[.slice A0_0 l0_0.length c0_0, .int .i64 a0_1, .int .i64 a0_2, .slice A0_3 l0_3.length c0_3, .int .i64 a0_4] 123 (0, 0)) (bp BK220) hb); clear hb hbox hg; have hnb12 := NB220_221.out; have hnc12 := NB221_220.out; have hcz13_0 : w11.cell? ⟨gb220, 0, none⟩ = some (.slice A0_0 l0_0.length c0_0) := bc BK220 0; have hcz13_1 : w11.cell? ⟨gb220, 1, none⟩ = some (.int .i64 a0_1) := bc BK220 1; have hcz13_2 : w11.cell? ⟨gb220, 2, none⟩ = some (.int .i64 a0_2) := bc BK220 2; have hcz13_3 : w11.cell? ⟨gb220, 3, none⟩ = some (.slice A0_3 l0_3.length c0_3) := bc BK220 3; have hcz13_4 : w11.cell? ⟨gb220, 4, none⟩ = some (.int .i64 a0_4) := bc BK220 4; have hfz13_0 := bf BK220 0; have hfz13_1 := bf BK220 1; have hfz13_2 := bf BK220 2; have hfz13_3 := bf BK220 3; have hfz13_4 := bf BK220 4; have hcz14_0 : w11.cell? ⟨gb221, 0, none⟩ = some (.slice A1_0 l1_0.length c1_0) := bc BK221 0; have hcz14_1 : w11.cell? ⟨gb221, 1, none⟩ = some (.int .i64 a1_1) := bc BK221 1; have hcz14_2 : w11.cell? ⟨gb221, 2, none⟩ = some (.int .i64 a1_2) := bc BK221 2; have hcz14_3 : w11.cell? ⟨gb221, 3, none⟩ = some (.slice A1_3 l1_3.length c1_3) := bc BK221 3; have hcz14_4 : w11.cell? ⟨gb221, 4, none⟩ = some (.int .i64 a1_4) := bc BK221 4; have hfz14_0 := bf BK221 0; have hfz14_1 := bf BK221 1; have hfz14_2 := bf BK221 2; have hfz14_3 := bf BK221 3; have hfz14_4 := bf BK221 4) | ((with_reducible refine gate_callee (f := 120) rfl ?_); refine goesL_ (some 9) rfl rfl Try.func120 (by kernel_rfl) rfl #[.slice A0_0 l0_0.length c0_0, .slice A1_0 l1_0.length c1_0] rfl gl ?_; (with_reducible refine (laws_eqMovS.calls k _ _ l0_0 _ _ l1_0 true _ ?side1 ?side2 ?side3 ?side4 A3.out).mono ?_); (case side1 => exact cc (Kd.C_below HR0_0.out HB.out)); (case side2 => exact HC0_0.out); (case side3 => exact cc (Kd.C_below HR1_0.out HB.out)); (case side4 => exact HC1_0.out); rintro e w15 ⟨rfl, hb⟩; refine ⟨_, rfl, ?_⟩; replace BK220 := am (blk_below (g := gb220) (o := .cells #[.slice A0_0 l0_0.length c0_0, .int .i64 a0_1, .int .i64 a0_2, .slice A0_3 l0_3.length c0_3, .int .i64 a0_4] 123 (0, 0)) (bp BK220) hb); replace BK221 := am (blk_below (g := gb221) (o := .cells #[.slice A1_0 l1_0.length c1_0, .int .i64 a1_1, .int .i64 a1_2, .slice A1_3 l1_3.length c1_3, .int .i64 a1_4] 123 (0, 0)) (bp BK221) hb); replace HB := am (below_step (bw HB) hb); (try clear hb); (try clear hb2); (try clear hk); (try clear hi); have hcz16_0 : w15.cell? ⟨gb220, 0, none⟩ = some (.slice A0_0 l0_0.length c0_0) := bc BK220 0; have hcz16_1 : w15.cell? ⟨gb220, 1, none⟩ = some (.int .i64 a0_1) := bc BK220 1; have hcz16_2 : w15.cell? ⟨gb220, 2, none⟩ = some (.int .i64 a0_2) := bc BK220 2; have hcz16_3 : w15.cell? ⟨gb220, 3, none⟩ = some (.slice A0_3 l0_3.length c0_3) := bc BK220 3; have hcz16_4 : w15.cell? ⟨gb220, 4, none⟩ = some (.int .i64 a0_4) := bc BK220 4; have hfz16_0 := bf BK220 0; have hfz16_1 := bf BK220 1; have hfz16_2 := bf BK220 2; have hfz16_3 := bf BK220 3; have hfz16_4 := bf BK220 4; have hcz17_0 : w15.cell? ⟨gb221, 0, none⟩ = some (.slice A1_0 l1_0.length c1_0) := bc BK221 0; have hcz17_1 : w15.cell? ⟨gb221, 1, none⟩ = some (.int .i64 a1_1) := bc BK221 1; have hcz17_2 : w15.cell? ⟨gb221, 2, none⟩ = some (.int .i64 a1_2) := bc BK221 2; have hcz17_3 : w15.cell? ⟨gb221, 3, none⟩ = some (.slice A1_3 l1_3.length c1_3) := bc BK221 3; have hcz17_4 : w15.cell? ⟨gb221, 4, none⟩ = some (.int .i64 a1_4) := bc BK221 4; have hfz17_0 := bf BK221 0; have hfz17_1 := bf BK221 1; have hfz17_2 := bf BK221 2; have hfz17_3 := bf BK221 3; have hfz17_4 := bf BK221 4) | ((with_reducible refine gate_callee (f := 113) rfl ?_); refine goesL_ (some 25) rfl rfl Try.func113 (by kernel_rfl) rfl #[.slice A0_3 l0_3.length c0_3, .slice A1_3 l1_3.length c1_3] rfl gl ?_; (with_reducible refine (laws_eqValS.calls k _ _ l0_3 _ _ l1_3 true _ ?side1 ?side2 ?side3 ?side4 A7.out).mono ?_); (case side1 => exact cc (Kd.C_below HR0_3.out HB.out)); (case side2 => exact HC0_3.out); (case side3 => exact cc (Kd.C_below HR1_3.out HB.out)); (case side4 => exact HC1_3.out); rintro e w18 ⟨rfl, hb⟩; refine ⟨_, rfl, ?_⟩; replace BK220 := am (blk_below (g := gb220) (o := .cells #[.slice A0_0 l0_0.length c0_0, .int .i64 a0_1, .int .i64 a0_2, .slice A0_3 l0_3.length c0_3, .int .i64 a0_4] 123 (0, 0)) (bp BK220) hb); replace BK221 := am (blk_below (g := gb221) (o := .cells #[.slice A1_0 l1_0.length c1_0, .int .i64 a1_1, .int .i64 a1_2, .slice A1_3 l1_3.length c1_3, .int .i64 a1_4] 123 (0, 0)) (bp BK221) hb); replace HB := am (below_step (bw HB) hb); (try clear hb); (try clear hb2); (try clear hk); (try clear hi); have hcz19_0 : w18.cell? ⟨gb220, 0, none⟩ = some (.slice A0_0 l0_0.length c0_0) := bc BK220 0; have hcz19_1 : w18.cell? ⟨gb220, 1, none⟩ = some (.int .i64 a0_1) := bc BK220 1; have hcz19_2 : w18.cell? ⟨gb220, 2, none⟩ = some (.int .i64 a0_2) := bc BK220 2; have hcz19_3 : w18.cell? ⟨gb220, 3, none⟩ = some (.slice A0_3 l0_3.length c0_3) := bc BK220 3; have hcz19_4 : w18.cell? ⟨gb220, 4, none⟩ = some (.int .i64 a0_4) := bc BK220 4; have hfz19_0 := bf BK220 0; have hfz19_1 := bf BK220 1; have hfz19_2 := bf BK220 2; have hfz19_3 := bf BK220 3; have hfz19_4 := bf BK220 4; have hcz20_0 : w18.cell? ⟨gb221, 0, none⟩ = some (.slice A1_0 l1_0.length c1_0) := bc BK221 0; have hcz20_1 : w18.cell? ⟨gb221, 1, none⟩ = some (.int .i64 a1_1) := bc BK221 1; have hcz20_2 : w18.cell? ⟨gb221, 2, none⟩ = some (.int .i64 a1_2) := bc BK221 2; have hcz20_3 : w18.cell? ⟨gb221, 3, none⟩ = some (.slice A1_3 l1_3.length c1_3) := bc BK221 3; have hcz20_4 : w18.cell? ⟨gb221, 4, none⟩ = some (.int .i64 a1_4) := bc BK221 4; have hfz20_0 := bf BK221 0; have hfz20_1 := bf BK221 1; have hfz20_2 := bf BK221 2; have hfz20_3 := bf BK221 3; have hfz20_4 := bf BK221 4))
      go_ret
      exact ⟨er, bw HB⟩
     ·rw [if_neg c9] at H
      have c9b0 : (a0_4 == a1_4) = false := beq_eq_false_iff_ne.mpr c9
      have c9b1 : (a0_4 != a1_4) = true := bne_iff_ne.mpr c9
      obtain rfl := Option.some.inj H
      go_enter Try.func112, Try.ntmps112
      go_wp2_with (first | ((with_reducible refine gate_dst (N := 2) rfl ?_); refine box_event ?hg (N := 2) ?hd (cs := #[.slice A0_0 l0_0.length c0_0, .int .i64 a0_1, .int .i64 a0_2, .slice A0_3 l0_3.length c0_3, .int .i64 a0_4]) (t := 123) ?hr ?_; (case hd => rfl); (case hg => rfl); (case hr => exact gs); intro gb220 hg w21 hbox hb; have BK220 := am (hbox); have GW220 := am ((by rw [hg]; exact (below_size (bw HB)) : w.heap.size ≤ gb220)); have GE220 := am ((by rw [hg]; exact (below_size (bw HB)) : w.heap.size ≤ gb220)); replace HB := am (below_step (bw HB) hb); clear hb hbox hg) | ((with_reducible refine gate_dst (N := 3) rfl ?_); refine box_event ?hg (N := 3) ?hd (cs := #[.slice A1_0 l1_0.length c1_0, .int .i64 a1_1, .int .i64 a1_2, .slice A1_3 l1_3.length c1_3, .int .i64 a1_4]) (t := 123) ?hr ?_; (case hd => rfl); (case hg => rfl); (case hr => exact gs); intro gb221 hg w22 hbox hb; have BK221 := am (hbox); have GW221 := am ((by rw [hg]; exact (below_size (bw HB)) : w.heap.size ≤ gb221)); have GE221 := am ((by rw [hg]; exact (below_size (bw HB)) : w.heap.size ≤ gb221)); replace HB := am (below_step (bw HB) hb); have NB220_221 := am ((by rw [hg]; exact Nat.ne_of_lt (blk_lt (g := gb220) (o := .cells #[.slice A0_0 l0_0.length c0_0, .int .i64 a0_1, .int .i64 a0_2, .slice A0_3 l0_3.length c0_3, .int .i64 a0_4] 123 (0, 0)) (bp BK220)) : gb220 ≠ gb221)); have NB221_220 := am ((by rw [hg]; exact Nat.ne_of_gt (blk_lt (g := gb220) (o := .cells #[.slice A0_0 l0_0.length c0_0, .int .i64 a0_1, .int .i64 a0_2, .slice A0_3 l0_3.length c0_3, .int .i64 a0_4] 123 (0, 0)) (bp BK220)) : gb221 ≠ gb220)); replace BK220 := am (blk_below (g := gb220) (o := .cells #[.slice A0_0 l0_0.length c0_0, .int .i64 a0_1, .int .i64 a0_2, .slice A0_3 l0_3.length c0_3, .int .i64 a0_4] 123 (0, 0)) (bp BK220) hb); clear hb hbox hg; have hnb23 := NB220_221.out; have hnc23 := NB221_220.out; have hcz24_0 : w22.cell? ⟨gb220, 0, none⟩ = some (.slice A0_0 l0_0.length c0_0) := bc BK220 0; have hcz24_1 : w22.cell? ⟨gb220, 1, none⟩ = some (.int .i64 a0_1) := bc BK220 1; have hcz24_2 : w22.cell? ⟨gb220, 2, none⟩ = some (.int .i64 a0_2) := bc BK220 2; have hcz24_3 : w22.cell? ⟨gb220, 3, none⟩ = some (.slice A0_3 l0_3.length c0_3) := bc BK220 3; have hcz24_4 : w22.cell? ⟨gb220, 4, none⟩ = some (.int .i64 a0_4) := bc BK220 4; have hfz24_0 := bf BK220 0; have hfz24_1 := bf BK220 1; have hfz24_2 := bf BK220 2; have hfz24_3 := bf BK220 3; have hfz24_4 := bf BK220 4; have hcz25_0 : w22.cell? ⟨gb221, 0, none⟩ = some (.slice A1_0 l1_0.length c1_0) := bc BK221 0; have hcz25_1 : w22.cell? ⟨gb221, 1, none⟩ = some (.int .i64 a1_1) := bc BK221 1; have hcz25_2 : w22.cell? ⟨gb221, 2, none⟩ = some (.int .i64 a1_2) := bc BK221 2; have hcz25_3 : w22.cell? ⟨gb221, 3, none⟩ = some (.slice A1_3 l1_3.length c1_3) := bc BK221 3; have hcz25_4 : w22.cell? ⟨gb221, 4, none⟩ = some (.int .i64 a1_4) := bc BK221 4; have hfz25_0 := bf BK221 0; have hfz25_1 := bf BK221 1; have hfz25_2 := bf BK221 2; have hfz25_3 := bf BK221 3; have hfz25_4 := bf BK221 4) | ((with_reducible refine gate_callee (f := 120) rfl ?_); refine goesL_ (some 9) rfl rfl Try.func120 (by kernel_rfl) rfl #[.slice A0_0 l0_0.length c0_0, .slice A1_0 l1_0.length c1_0] rfl gl ?_; (with_reducible refine (laws_eqMovS.calls k _ _ l0_0 _ _ l1_0 true _ ?side1 ?side2 ?side3 ?side4 A3.out).mono ?_); (case side1 => exact cc (Kd.C_below HR0_0.out HB.out)); (case side2 => exact HC0_0.out); (case side3 => exact cc (Kd.C_below HR1_0.out HB.out)); (case side4 => exact HC1_0.out); rintro e w26 ⟨rfl, hb⟩; refine ⟨_, rfl, ?_⟩; replace BK220 := am (blk_below (g := gb220) (o := .cells #[.slice A0_0 l0_0.length c0_0, .int .i64 a0_1, .int .i64 a0_2, .slice A0_3 l0_3.length c0_3, .int .i64 a0_4] 123 (0, 0)) (bp BK220) hb); replace BK221 := am (blk_below (g := gb221) (o := .cells #[.slice A1_0 l1_0.length c1_0, .int .i64 a1_1, .int .i64 a1_2, .slice A1_3 l1_3.length c1_3, .int .i64 a1_4] 123 (0, 0)) (bp BK221) hb); replace HB := am (below_step (bw HB) hb); (try clear hb); (try clear hb2); (try clear hk); (try clear hi); have hcz27_0 : w26.cell? ⟨gb220, 0, none⟩ = some (.slice A0_0 l0_0.length c0_0) := bc BK220 0; have hcz27_1 : w26.cell? ⟨gb220, 1, none⟩ = some (.int .i64 a0_1) := bc BK220 1; have hcz27_2 : w26.cell? ⟨gb220, 2, none⟩ = some (.int .i64 a0_2) := bc BK220 2; have hcz27_3 : w26.cell? ⟨gb220, 3, none⟩ = some (.slice A0_3 l0_3.length c0_3) := bc BK220 3; have hcz27_4 : w26.cell? ⟨gb220, 4, none⟩ = some (.int .i64 a0_4) := bc BK220 4; have hfz27_0 := bf BK220 0; have hfz27_1 := bf BK220 1; have hfz27_2 := bf BK220 2; have hfz27_3 := bf BK220 3; have hfz27_4 := bf BK220 4; have hcz28_0 : w26.cell? ⟨gb221, 0, none⟩ = some (.slice A1_0 l1_0.length c1_0) := bc BK221 0; have hcz28_1 : w26.cell? ⟨gb221, 1, none⟩ = some (.int .i64 a1_1) := bc BK221 1; have hcz28_2 : w26.cell? ⟨gb221, 2, none⟩ = some (.int .i64 a1_2) := bc BK221 2; have hcz28_3 : w26.cell? ⟨gb221, 3, none⟩ = some (.slice A1_3 l1_3.length c1_3) := bc BK221 3; have hcz28_4 : w26.cell? ⟨gb221, 4, none⟩ = some (.int .i64 a1_4) := bc BK221 4; have hfz28_0 := bf BK221 0; have hfz28_1 := bf BK221 1; have hfz28_2 := bf BK221 2; have hfz28_3 := bf BK221 3; have hfz28_4 := bf BK221 4) | ((with_reducible refine gate_callee (f := 113) rfl ?_); refine goesL_ (some 25) rfl rfl Try.func113 (by kernel_rfl) rfl #[.slice A0_3 l0_3.length c0_3, .slice A1_3 l1_3.length c1_3] rfl gl ?_; (with_reducible refine (laws_eqValS.calls k _ _ l0_3 _ _ l1_3 true _ ?side1 ?side2 ?side3 ?side4 A7.out).mono ?_); (case side1 => exact cc (Kd.C_below HR0_3.out HB.out)); (case side2 => exact HC0_3.out); (case side3 => exact cc (Kd.C_below HR1_3.out HB.out)); (case side4 => exact HC1_3.out); rintro e w29 ⟨rfl, hb⟩; refine ⟨_, rfl, ?_⟩; replace BK220 := am (blk_below (g := gb220) (o := .cells #[.slice A0_0 l0_0.length c0_0, .int .i64 a0_1, .int .i64 a0_2, .slice A0_3 l0_3.length c0_3, .int .i64 a0_4] 123 (0, 0)) (bp BK220) hb); replace BK221 := am (blk_below (g := gb221) (o := .cells #[.slice A1_0 l1_0.length c1_0, .int .i64 a1_1, .int .i64 a1_2, .slice A1_3 l1_3.length c1_3, .int .i64 a1_4] 123 (0, 0)) (bp BK221) hb); replace HB := am (below_step (bw HB) hb); (try clear hb); (try clear hb2); (try clear hk); (try clear hi); have hcz30_0 : w29.cell? ⟨gb220, 0, none⟩ = some (.slice A0_0 l0_0.length c0_0) := bc BK220 0; have hcz30_1 : w29.cell? ⟨gb220, 1, none⟩ = some (.int .i64 a0_1) := bc BK220 1; have hcz30_2 : w29.cell? ⟨gb220, 2, none⟩ = some (.int .i64 a0_2) := bc BK220 2; have hcz30_3 : w29.cell? ⟨gb220, 3, none⟩ = some (.slice A0_3 l0_3.length c0_3) := bc BK220 3; have hcz30_4 : w29.cell? ⟨gb220, 4, none⟩ = some (.int .i64 a0_4) := bc BK220 4; have hfz30_0 := bf BK220 0; have hfz30_1 := bf BK220 1; have hfz30_2 := bf BK220 2; have hfz30_3 := bf BK220 3; have hfz30_4 := bf BK220 4; have hcz31_0 : w29.cell? ⟨gb221, 0, none⟩ = some (.slice A1_0 l1_0.length c1_0) := bc BK221 0; have hcz31_1 : w29.cell? ⟨gb221, 1, none⟩ = some (.int .i64 a1_1) := bc BK221 1; have hcz31_2 : w29.cell? ⟨gb221, 2, none⟩ = some (.int .i64 a1_2) := bc BK221 2; have hcz31_3 : w29.cell? ⟨gb221, 3, none⟩ = some (.slice A1_3 l1_3.length c1_3) := bc BK221 3; have hcz31_4 : w29.cell? ⟨gb221, 4, none⟩ = some (.int .i64 a1_4) := bc BK221 4; have hfz31_0 := bf BK221 0; have hfz31_1 := bf BK221 1; have hfz31_2 := bf BK221 2; have hfz31_3 := bf BK221 3; have hfz31_4 := bf BK221 4))
      go_ret
      exact ⟨er, bw HB⟩
    ·replace c8 := Bool.eq_false_iff.mpr c8
     subst c8
     have H1 : (some false) = some r := by rw [if_neg (show ¬ (false = true) by decide)] at H; exact H
     clear H
     have H := H1
     clear H1
     obtain rfl := Option.some.inj H
     go_enter Try.func112, Try.ntmps112
     go_wp2_with (first | ((with_reducible refine gate_dst (N := 2) rfl ?_); refine box_event ?hg (N := 2) ?hd (cs := #[.slice A0_0 l0_0.length c0_0, .int .i64 a0_1, .int .i64 a0_2, .slice A0_3 l0_3.length c0_3, .int .i64 a0_4]) (t := 123) ?hr ?_; (case hd => rfl); (case hg => rfl); (case hr => exact gs); intro gb220 hg w32 hbox hb; have BK220 := am (hbox); have GW220 := am ((by rw [hg]; exact (below_size (bw HB)) : w.heap.size ≤ gb220)); have GE220 := am ((by rw [hg]; exact (below_size (bw HB)) : w.heap.size ≤ gb220)); replace HB := am (below_step (bw HB) hb); clear hb hbox hg) | ((with_reducible refine gate_dst (N := 3) rfl ?_); refine box_event ?hg (N := 3) ?hd (cs := #[.slice A1_0 l1_0.length c1_0, .int .i64 a1_1, .int .i64 a1_2, .slice A1_3 l1_3.length c1_3, .int .i64 a1_4]) (t := 123) ?hr ?_; (case hd => rfl); (case hg => rfl); (case hr => exact gs); intro gb221 hg w33 hbox hb; have BK221 := am (hbox); have GW221 := am ((by rw [hg]; exact (below_size (bw HB)) : w.heap.size ≤ gb221)); have GE221 := am ((by rw [hg]; exact (below_size (bw HB)) : w.heap.size ≤ gb221)); replace HB := am (below_step (bw HB) hb); have NB220_221 := am ((by rw [hg]; exact Nat.ne_of_lt (blk_lt (g := gb220) (o := .cells #[.slice A0_0 l0_0.length c0_0, .int .i64 a0_1, .int .i64 a0_2, .slice A0_3 l0_3.length c0_3, .int .i64 a0_4] 123 (0, 0)) (bp BK220)) : gb220 ≠ gb221)); have NB221_220 := am ((by rw [hg]; exact Nat.ne_of_gt (blk_lt (g := gb220) (o := .cells #[.slice A0_0 l0_0.length c0_0, .int .i64 a0_1, .int .i64 a0_2, .slice A0_3 l0_3.length c0_3, .int .i64 a0_4] 123 (0, 0)) (bp BK220)) : gb221 ≠ gb220)); replace BK220 := am (blk_below (g := gb220) (o := .cells #[.slice A0_0 l0_0.length c0_0, .int .i64 a0_1, .int .i64 a0_2, .slice A0_3 l0_3.length c0_3, .int .i64 a0_4] 123 (0, 0)) (bp BK220) hb); clear hb hbox hg; have hnb34 := NB220_221.out; have hnc34 := NB221_220.out; have hcz35_0 : w33.cell? ⟨gb220, 0, none⟩ = some (.slice A0_0 l0_0.length c0_0) := bc BK220 0; have hcz35_1 : w33.cell? ⟨gb220, 1, none⟩ = some (.int .i64 a0_1) := bc BK220 1; have hcz35_2 : w33.cell? ⟨gb220, 2, none⟩ = some (.int .i64 a0_2) := bc BK220 2; have hcz35_3 : w33.cell? ⟨gb220, 3, none⟩ = some (.slice A0_3 l0_3.length c0_3) := bc BK220 3; have hcz35_4 : w33.cell? ⟨gb220, 4, none⟩ = some (.int .i64 a0_4) := bc BK220 4; have hfz35_0 := bf BK220 0; have hfz35_1 := bf BK220 1; have hfz35_2 := bf BK220 2; have hfz35_3 := bf BK220 3; have hfz35_4 := bf BK220 4; have hcz36_0 : w33.cell? ⟨gb221, 0, none⟩ = some (.slice A1_0 l1_0.length c1_0) := bc BK221 0; have hcz36_1 : w33.cell? ⟨gb221, 1, none⟩ = some (.int .i64 a1_1) := bc BK221 1; have hcz36_2 : w33.cell? ⟨gb221, 2, none⟩ = some (.int .i64 a1_2) := bc BK221 2; have hcz36_3 : w33.cell? ⟨gb221, 3, none⟩ = some (.slice A1_3 l1_3.length c1_3) := bc BK221 3; have hcz36_4 : w33.cell? ⟨gb221, 4, none⟩ = some (.int .i64 a1_4) := bc BK221 4; have hfz36_0 := bf BK221 0; have hfz36_1 := bf BK221 1; have hfz36_2 := bf BK221 2; have hfz36_3 := bf BK221 3; have hfz36_4 := bf BK221 4) | ((with_reducible refine gate_callee (f := 120) rfl ?_); refine goesL_ (some 9) rfl rfl Try.func120 (by kernel_rfl) rfl #[.slice A0_0 l0_0.length c0_0, .slice A1_0 l1_0.length c1_0] rfl gl ?_; (with_reducible refine (laws_eqMovS.calls k _ _ l0_0 _ _ l1_0 true _ ?side1 ?side2 ?side3 ?side4 A3.out).mono ?_); (case side1 => exact cc (Kd.C_below HR0_0.out HB.out)); (case side2 => exact HC0_0.out); (case side3 => exact cc (Kd.C_below HR1_0.out HB.out)); (case side4 => exact HC1_0.out); rintro e w37 ⟨rfl, hb⟩; refine ⟨_, rfl, ?_⟩; replace BK220 := am (blk_below (g := gb220) (o := .cells #[.slice A0_0 l0_0.length c0_0, .int .i64 a0_1, .int .i64 a0_2, .slice A0_3 l0_3.length c0_3, .int .i64 a0_4] 123 (0, 0)) (bp BK220) hb); replace BK221 := am (blk_below (g := gb221) (o := .cells #[.slice A1_0 l1_0.length c1_0, .int .i64 a1_1, .int .i64 a1_2, .slice A1_3 l1_3.length c1_3, .int .i64 a1_4] 123 (0, 0)) (bp BK221) hb); replace HB := am (below_step (bw HB) hb); (try clear hb); (try clear hb2); (try clear hk); (try clear hi); have hcz38_0 : w37.cell? ⟨gb220, 0, none⟩ = some (.slice A0_0 l0_0.length c0_0) := bc BK220 0; have hcz38_1 : w37.cell? ⟨gb220, 1, none⟩ = some (.int .i64 a0_1) := bc BK220 1; have hcz38_2 : w37.cell? ⟨gb220, 2, none⟩ = some (.int .i64 a0_2) := bc BK220 2; have hcz38_3 : w37.cell? ⟨gb220, 3, none⟩ = some (.slice A0_3 l0_3.length c0_3) := bc BK220 3; have hcz38_4 : w37.cell? ⟨gb220, 4, none⟩ = some (.int .i64 a0_4) := bc BK220 4; have hfz38_0 := bf BK220 0; have hfz38_1 := bf BK220 1; have hfz38_2 := bf BK220 2; have hfz38_3 := bf BK220 3; have hfz38_4 := bf BK220 4; have hcz39_0 : w37.cell? ⟨gb221, 0, none⟩ = some (.slice A1_0 l1_0.length c1_0) := bc BK221 0; have hcz39_1 : w37.cell? ⟨gb221, 1, none⟩ = some (.int .i64 a1_1) := bc BK221 1; have hcz39_2 : w37.cell? ⟨gb221, 2, none⟩ = some (.int .i64 a1_2) := bc BK221 2; have hcz39_3 : w37.cell? ⟨gb221, 3, none⟩ = some (.slice A1_3 l1_3.length c1_3) := bc BK221 3; have hcz39_4 : w37.cell? ⟨gb221, 4, none⟩ = some (.int .i64 a1_4) := bc BK221 4; have hfz39_0 := bf BK221 0; have hfz39_1 := bf BK221 1; have hfz39_2 := bf BK221 2; have hfz39_3 := bf BK221 3; have hfz39_4 := bf BK221 4) | ((with_reducible refine gate_callee (f := 113) rfl ?_); refine goesL_ (some 25) rfl rfl Try.func113 (by kernel_rfl) rfl #[.slice A0_3 l0_3.length c0_3, .slice A1_3 l1_3.length c1_3] rfl gl ?_; (with_reducible refine (laws_eqValS.calls k _ _ l0_3 _ _ l1_3 false _ ?side1 ?side2 ?side3 ?side4 A7.out).mono ?_); (case side1 => exact cc (Kd.C_below HR0_3.out HB.out)); (case side2 => exact HC0_3.out); (case side3 => exact cc (Kd.C_below HR1_3.out HB.out)); (case side4 => exact HC1_3.out); rintro e w40 ⟨rfl, hb⟩; refine ⟨_, rfl, ?_⟩; replace BK220 := am (blk_below (g := gb220) (o := .cells #[.slice A0_0 l0_0.length c0_0, .int .i64 a0_1, .int .i64 a0_2, .slice A0_3 l0_3.length c0_3, .int .i64 a0_4] 123 (0, 0)) (bp BK220) hb); replace BK221 := am (blk_below (g := gb221) (o := .cells #[.slice A1_0 l1_0.length c1_0, .int .i64 a1_1, .int .i64 a1_2, .slice A1_3 l1_3.length c1_3, .int .i64 a1_4] 123 (0, 0)) (bp BK221) hb); replace HB := am (below_step (bw HB) hb); (try clear hb); (try clear hb2); (try clear hk); (try clear hi)))
     go_ret
     exact ⟨er, bw HB⟩
   ·rw [if_neg c6] at H
    have c6b0 : (a0_2 == a1_2) = false := beq_eq_false_iff_ne.mpr c6
    have c6b1 : (a0_2 != a1_2) = true := bne_iff_ne.mpr c6
    obtain rfl := Option.some.inj H
    go_enter Try.func112, Try.ntmps112
    go_wp2_with (first | ((with_reducible refine gate_dst (N := 2) rfl ?_); refine box_event ?hg (N := 2) ?hd (cs := #[.slice A0_0 l0_0.length c0_0, .int .i64 a0_1, .int .i64 a0_2, .slice A0_3 l0_3.length c0_3, .int .i64 a0_4]) (t := 123) ?hr ?_; (case hd => rfl); (case hg => rfl); (case hr => exact gs); intro gb220 hg w41 hbox hb; have BK220 := am (hbox); have GW220 := am ((by rw [hg]; exact (below_size (bw HB)) : w.heap.size ≤ gb220)); have GE220 := am ((by rw [hg]; exact (below_size (bw HB)) : w.heap.size ≤ gb220)); replace HB := am (below_step (bw HB) hb); clear hb hbox hg) | ((with_reducible refine gate_dst (N := 3) rfl ?_); refine box_event ?hg (N := 3) ?hd (cs := #[.slice A1_0 l1_0.length c1_0, .int .i64 a1_1, .int .i64 a1_2, .slice A1_3 l1_3.length c1_3, .int .i64 a1_4]) (t := 123) ?hr ?_; (case hd => rfl); (case hg => rfl); (case hr => exact gs); intro gb221 hg w42 hbox hb; have BK221 := am (hbox); have GW221 := am ((by rw [hg]; exact (below_size (bw HB)) : w.heap.size ≤ gb221)); have GE221 := am ((by rw [hg]; exact (below_size (bw HB)) : w.heap.size ≤ gb221)); replace HB := am (below_step (bw HB) hb); have NB220_221 := am ((by rw [hg]; exact Nat.ne_of_lt (blk_lt (g := gb220) (o := .cells #[.slice A0_0 l0_0.length c0_0, .int .i64 a0_1, .int .i64 a0_2, .slice A0_3 l0_3.length c0_3, .int .i64 a0_4] 123 (0, 0)) (bp BK220)) : gb220 ≠ gb221)); have NB221_220 := am ((by rw [hg]; exact Nat.ne_of_gt (blk_lt (g := gb220) (o := .cells #[.slice A0_0 l0_0.length c0_0, .int .i64 a0_1, .int .i64 a0_2, .slice A0_3 l0_3.length c0_3, .int .i64 a0_4] 123 (0, 0)) (bp BK220)) : gb221 ≠ gb220)); replace BK220 := am (blk_below (g := gb220) (o := .cells #[.slice A0_0 l0_0.length c0_0, .int .i64 a0_1, .int .i64 a0_2, .slice A0_3 l0_3.length c0_3, .int .i64 a0_4] 123 (0, 0)) (bp BK220) hb); clear hb hbox hg; have hnb43 := NB220_221.out; have hnc43 := NB221_220.out; have hcz44_0 : w42.cell? ⟨gb220, 0, none⟩ = some (.slice A0_0 l0_0.length c0_0) := bc BK220 0; have hcz44_1 : w42.cell? ⟨gb220, 1, none⟩ = some (.int .i64 a0_1) := bc BK220 1; have hcz44_2 : w42.cell? ⟨gb220, 2, none⟩ = some (.int .i64 a0_2) := bc BK220 2; have hcz44_3 : w42.cell? ⟨gb220, 3, none⟩ = some (.slice A0_3 l0_3.length c0_3) := bc BK220 3; have hcz44_4 : w42.cell? ⟨gb220, 4, none⟩ = some (.int .i64 a0_4) := bc BK220 4; have hfz44_0 := bf BK220 0; have hfz44_1 := bf BK220 1; have hfz44_2 := bf BK220 2; have hfz44_3 := bf BK220 3; have hfz44_4 := bf BK220 4; have hcz45_0 : w42.cell? ⟨gb221, 0, none⟩ = some (.slice A1_0 l1_0.length c1_0) := bc BK221 0; have hcz45_1 : w42.cell? ⟨gb221, 1, none⟩ = some (.int .i64 a1_1) := bc BK221 1; have hcz45_2 : w42.cell? ⟨gb221, 2, none⟩ = some (.int .i64 a1_2) := bc BK221 2; have hcz45_3 : w42.cell? ⟨gb221, 3, none⟩ = some (.slice A1_3 l1_3.length c1_3) := bc BK221 3; have hcz45_4 : w42.cell? ⟨gb221, 4, none⟩ = some (.int .i64 a1_4) := bc BK221 4; have hfz45_0 := bf BK221 0; have hfz45_1 := bf BK221 1; have hfz45_2 := bf BK221 2; have hfz45_3 := bf BK221 3; have hfz45_4 := bf BK221 4) | ((with_reducible refine gate_callee (f := 120) rfl ?_); refine goesL_ (some 9) rfl rfl Try.func120 (by kernel_rfl) rfl #[.slice A0_0 l0_0.length c0_0, .slice A1_0 l1_0.length c1_0] rfl gl ?_; (with_reducible refine (laws_eqMovS.calls k _ _ l0_0 _ _ l1_0 true _ ?side1 ?side2 ?side3 ?side4 A3.out).mono ?_); (case side1 => exact cc (Kd.C_below HR0_0.out HB.out)); (case side2 => exact HC0_0.out); (case side3 => exact cc (Kd.C_below HR1_0.out HB.out)); (case side4 => exact HC1_0.out); rintro e w46 ⟨rfl, hb⟩; refine ⟨_, rfl, ?_⟩; replace BK220 := am (blk_below (g := gb220) (o := .cells #[.slice A0_0 l0_0.length c0_0, .int .i64 a0_1, .int .i64 a0_2, .slice A0_3 l0_3.length c0_3, .int .i64 a0_4] 123 (0, 0)) (bp BK220) hb); replace BK221 := am (blk_below (g := gb221) (o := .cells #[.slice A1_0 l1_0.length c1_0, .int .i64 a1_1, .int .i64 a1_2, .slice A1_3 l1_3.length c1_3, .int .i64 a1_4] 123 (0, 0)) (bp BK221) hb); replace HB := am (below_step (bw HB) hb); (try clear hb); (try clear hb2); (try clear hk); (try clear hi); have hcz47_0 : w46.cell? ⟨gb220, 0, none⟩ = some (.slice A0_0 l0_0.length c0_0) := bc BK220 0; have hcz47_1 : w46.cell? ⟨gb220, 1, none⟩ = some (.int .i64 a0_1) := bc BK220 1; have hcz47_2 : w46.cell? ⟨gb220, 2, none⟩ = some (.int .i64 a0_2) := bc BK220 2; have hcz47_3 : w46.cell? ⟨gb220, 3, none⟩ = some (.slice A0_3 l0_3.length c0_3) := bc BK220 3; have hcz47_4 : w46.cell? ⟨gb220, 4, none⟩ = some (.int .i64 a0_4) := bc BK220 4; have hfz47_0 := bf BK220 0; have hfz47_1 := bf BK220 1; have hfz47_2 := bf BK220 2; have hfz47_3 := bf BK220 3; have hfz47_4 := bf BK220 4; have hcz48_0 : w46.cell? ⟨gb221, 0, none⟩ = some (.slice A1_0 l1_0.length c1_0) := bc BK221 0; have hcz48_1 : w46.cell? ⟨gb221, 1, none⟩ = some (.int .i64 a1_1) := bc BK221 1; have hcz48_2 : w46.cell? ⟨gb221, 2, none⟩ = some (.int .i64 a1_2) := bc BK221 2; have hcz48_3 : w46.cell? ⟨gb221, 3, none⟩ = some (.slice A1_3 l1_3.length c1_3) := bc BK221 3; have hcz48_4 : w46.cell? ⟨gb221, 4, none⟩ = some (.int .i64 a1_4) := bc BK221 4; have hfz48_0 := bf BK221 0; have hfz48_1 := bf BK221 1; have hfz48_2 := bf BK221 2; have hfz48_3 := bf BK221 3; have hfz48_4 := bf BK221 4))
    go_ret
    exact ⟨er, bw HB⟩
  ·rw [if_neg c5] at H
   have c5b0 : (a0_1 == a1_1) = false := beq_eq_false_iff_ne.mpr c5
   have c5b1 : (a0_1 != a1_1) = true := bne_iff_ne.mpr c5
   obtain rfl := Option.some.inj H
   go_enter Try.func112, Try.ntmps112
   go_wp2_with (first | ((with_reducible refine gate_dst (N := 2) rfl ?_); refine box_event ?hg (N := 2) ?hd (cs := #[.slice A0_0 l0_0.length c0_0, .int .i64 a0_1, .int .i64 a0_2, .slice A0_3 l0_3.length c0_3, .int .i64 a0_4]) (t := 123) ?hr ?_; (case hd => rfl); (case hg => rfl); (case hr => exact gs); intro gb220 hg w49 hbox hb; have BK220 := am (hbox); have GW220 := am ((by rw [hg]; exact (below_size (bw HB)) : w.heap.size ≤ gb220)); have GE220 := am ((by rw [hg]; exact (below_size (bw HB)) : w.heap.size ≤ gb220)); replace HB := am (below_step (bw HB) hb); clear hb hbox hg) | ((with_reducible refine gate_dst (N := 3) rfl ?_); refine box_event ?hg (N := 3) ?hd (cs := #[.slice A1_0 l1_0.length c1_0, .int .i64 a1_1, .int .i64 a1_2, .slice A1_3 l1_3.length c1_3, .int .i64 a1_4]) (t := 123) ?hr ?_; (case hd => rfl); (case hg => rfl); (case hr => exact gs); intro gb221 hg w50 hbox hb; have BK221 := am (hbox); have GW221 := am ((by rw [hg]; exact (below_size (bw HB)) : w.heap.size ≤ gb221)); have GE221 := am ((by rw [hg]; exact (below_size (bw HB)) : w.heap.size ≤ gb221)); replace HB := am (below_step (bw HB) hb); have NB220_221 := am ((by rw [hg]; exact Nat.ne_of_lt (blk_lt (g := gb220) (o := .cells #[.slice A0_0 l0_0.length c0_0, .int .i64 a0_1, .int .i64 a0_2, .slice A0_3 l0_3.length c0_3, .int .i64 a0_4] 123 (0, 0)) (bp BK220)) : gb220 ≠ gb221)); have NB221_220 := am ((by rw [hg]; exact Nat.ne_of_gt (blk_lt (g := gb220) (o := .cells #[.slice A0_0 l0_0.length c0_0, .int .i64 a0_1, .int .i64 a0_2, .slice A0_3 l0_3.length c0_3, .int .i64 a0_4] 123 (0, 0)) (bp BK220)) : gb221 ≠ gb220)); replace BK220 := am (blk_below (g := gb220) (o := .cells #[.slice A0_0 l0_0.length c0_0, .int .i64 a0_1, .int .i64 a0_2, .slice A0_3 l0_3.length c0_3, .int .i64 a0_4] 123 (0, 0)) (bp BK220) hb); clear hb hbox hg; have hnb51 := NB220_221.out; have hnc51 := NB221_220.out; have hcz52_0 : w50.cell? ⟨gb220, 0, none⟩ = some (.slice A0_0 l0_0.length c0_0) := bc BK220 0; have hcz52_1 : w50.cell? ⟨gb220, 1, none⟩ = some (.int .i64 a0_1) := bc BK220 1; have hcz52_2 : w50.cell? ⟨gb220, 2, none⟩ = some (.int .i64 a0_2) := bc BK220 2; have hcz52_3 : w50.cell? ⟨gb220, 3, none⟩ = some (.slice A0_3 l0_3.length c0_3) := bc BK220 3; have hcz52_4 : w50.cell? ⟨gb220, 4, none⟩ = some (.int .i64 a0_4) := bc BK220 4; have hfz52_0 := bf BK220 0; have hfz52_1 := bf BK220 1; have hfz52_2 := bf BK220 2; have hfz52_3 := bf BK220 3; have hfz52_4 := bf BK220 4; have hcz53_0 : w50.cell? ⟨gb221, 0, none⟩ = some (.slice A1_0 l1_0.length c1_0) := bc BK221 0; have hcz53_1 : w50.cell? ⟨gb221, 1, none⟩ = some (.int .i64 a1_1) := bc BK221 1; have hcz53_2 : w50.cell? ⟨gb221, 2, none⟩ = some (.int .i64 a1_2) := bc BK221 2; have hcz53_3 : w50.cell? ⟨gb221, 3, none⟩ = some (.slice A1_3 l1_3.length c1_3) := bc BK221 3; have hcz53_4 : w50.cell? ⟨gb221, 4, none⟩ = some (.int .i64 a1_4) := bc BK221 4; have hfz53_0 := bf BK221 0; have hfz53_1 := bf BK221 1; have hfz53_2 := bf BK221 2; have hfz53_3 := bf BK221 3; have hfz53_4 := bf BK221 4) | ((with_reducible refine gate_callee (f := 120) rfl ?_); refine goesL_ (some 9) rfl rfl Try.func120 (by kernel_rfl) rfl #[.slice A0_0 l0_0.length c0_0, .slice A1_0 l1_0.length c1_0] rfl gl ?_; (with_reducible refine (laws_eqMovS.calls k _ _ l0_0 _ _ l1_0 true _ ?side1 ?side2 ?side3 ?side4 A3.out).mono ?_); (case side1 => exact cc (Kd.C_below HR0_0.out HB.out)); (case side2 => exact HC0_0.out); (case side3 => exact cc (Kd.C_below HR1_0.out HB.out)); (case side4 => exact HC1_0.out); rintro e w54 ⟨rfl, hb⟩; refine ⟨_, rfl, ?_⟩; replace BK220 := am (blk_below (g := gb220) (o := .cells #[.slice A0_0 l0_0.length c0_0, .int .i64 a0_1, .int .i64 a0_2, .slice A0_3 l0_3.length c0_3, .int .i64 a0_4] 123 (0, 0)) (bp BK220) hb); replace BK221 := am (blk_below (g := gb221) (o := .cells #[.slice A1_0 l1_0.length c1_0, .int .i64 a1_1, .int .i64 a1_2, .slice A1_3 l1_3.length c1_3, .int .i64 a1_4] 123 (0, 0)) (bp BK221) hb); replace HB := am (below_step (bw HB) hb); (try clear hb); (try clear hb2); (try clear hk); (try clear hi); have hcz55_0 : w54.cell? ⟨gb220, 0, none⟩ = some (.slice A0_0 l0_0.length c0_0) := bc BK220 0; have hcz55_1 : w54.cell? ⟨gb220, 1, none⟩ = some (.int .i64 a0_1) := bc BK220 1; have hcz55_2 : w54.cell? ⟨gb220, 2, none⟩ = some (.int .i64 a0_2) := bc BK220 2; have hcz55_3 : w54.cell? ⟨gb220, 3, none⟩ = some (.slice A0_3 l0_3.length c0_3) := bc BK220 3; have hcz55_4 : w54.cell? ⟨gb220, 4, none⟩ = some (.int .i64 a0_4) := bc BK220 4; have hfz55_0 := bf BK220 0; have hfz55_1 := bf BK220 1; have hfz55_2 := bf BK220 2; have hfz55_3 := bf BK220 3; have hfz55_4 := bf BK220 4; have hcz56_0 : w54.cell? ⟨gb221, 0, none⟩ = some (.slice A1_0 l1_0.length c1_0) := bc BK221 0; have hcz56_1 : w54.cell? ⟨gb221, 1, none⟩ = some (.int .i64 a1_1) := bc BK221 1; have hcz56_2 : w54.cell? ⟨gb221, 2, none⟩ = some (.int .i64 a1_2) := bc BK221 2; have hcz56_3 : w54.cell? ⟨gb221, 3, none⟩ = some (.slice A1_3 l1_3.length c1_3) := bc BK221 3; have hcz56_4 : w54.cell? ⟨gb221, 4, none⟩ = some (.int .i64 a1_4) := bc BK221 4; have hfz56_0 := bf BK221 0; have hfz56_1 := bf BK221 1; have hfz56_2 := bf BK221 2; have hfz56_3 := bf BK221 3; have hfz56_4 := bf BK221 4))
   go_ret
   exact ⟨er, bw HB⟩
 ·replace c4 := Bool.eq_false_iff.mpr c4
  subst c4
  have H1 : (some false) = some r := by rw [if_neg (show ¬ (false = true) by decide)] at H; exact H
  clear H
  have H := H1
  clear H1
  obtain rfl := Option.some.inj H
  go_enter Try.func112, Try.ntmps112
  go_wp2_with (first | ((with_reducible refine gate_dst (N := 2) rfl ?_); refine box_event ?hg (N := 2) ?hd (cs := #[.slice A0_0 l0_0.length c0_0, .int .i64 a0_1, .int .i64 a0_2, .slice A0_3 l0_3.length c0_3, .int .i64 a0_4]) (t := 123) ?hr ?_; (case hd => rfl); (case hg => rfl); (case hr => exact gs); intro gb220 hg w57 hbox hb; have BK220 := am (hbox); have GW220 := am ((by rw [hg]; exact (below_size (bw HB)) : w.heap.size ≤ gb220)); have GE220 := am ((by rw [hg]; exact (below_size (bw HB)) : w.heap.size ≤ gb220)); replace HB := am (below_step (bw HB) hb); clear hb hbox hg) | ((with_reducible refine gate_dst (N := 3) rfl ?_); refine box_event ?hg (N := 3) ?hd (cs := #[.slice A1_0 l1_0.length c1_0, .int .i64 a1_1, .int .i64 a1_2, .slice A1_3 l1_3.length c1_3, .int .i64 a1_4]) (t := 123) ?hr ?_; (case hd => rfl); (case hg => rfl); (case hr => exact gs); intro gb221 hg w58 hbox hb; have BK221 := am (hbox); have GW221 := am ((by rw [hg]; exact (below_size (bw HB)) : w.heap.size ≤ gb221)); have GE221 := am ((by rw [hg]; exact (below_size (bw HB)) : w.heap.size ≤ gb221)); replace HB := am (below_step (bw HB) hb); have NB220_221 := am ((by rw [hg]; exact Nat.ne_of_lt (blk_lt (g := gb220) (o := .cells #[.slice A0_0 l0_0.length c0_0, .int .i64 a0_1, .int .i64 a0_2, .slice A0_3 l0_3.length c0_3, .int .i64 a0_4] 123 (0, 0)) (bp BK220)) : gb220 ≠ gb221)); have NB221_220 := am ((by rw [hg]; exact Nat.ne_of_gt (blk_lt (g := gb220) (o := .cells #[.slice A0_0 l0_0.length c0_0, .int .i64 a0_1, .int .i64 a0_2, .slice A0_3 l0_3.length c0_3, .int .i64 a0_4] 123 (0, 0)) (bp BK220)) : gb221 ≠ gb220)); replace BK220 := am (blk_below (g := gb220) (o := .cells #[.slice A0_0 l0_0.length c0_0, .int .i64 a0_1, .int .i64 a0_2, .slice A0_3 l0_3.length c0_3, .int .i64 a0_4] 123 (0, 0)) (bp BK220) hb); clear hb hbox hg; have hnb59 := NB220_221.out; have hnc59 := NB221_220.out; have hcz60_0 : w58.cell? ⟨gb220, 0, none⟩ = some (.slice A0_0 l0_0.length c0_0) := bc BK220 0; have hcz60_1 : w58.cell? ⟨gb220, 1, none⟩ = some (.int .i64 a0_1) := bc BK220 1; have hcz60_2 : w58.cell? ⟨gb220, 2, none⟩ = some (.int .i64 a0_2) := bc BK220 2; have hcz60_3 : w58.cell? ⟨gb220, 3, none⟩ = some (.slice A0_3 l0_3.length c0_3) := bc BK220 3; have hcz60_4 : w58.cell? ⟨gb220, 4, none⟩ = some (.int .i64 a0_4) := bc BK220 4; have hfz60_0 := bf BK220 0; have hfz60_1 := bf BK220 1; have hfz60_2 := bf BK220 2; have hfz60_3 := bf BK220 3; have hfz60_4 := bf BK220 4; have hcz61_0 : w58.cell? ⟨gb221, 0, none⟩ = some (.slice A1_0 l1_0.length c1_0) := bc BK221 0; have hcz61_1 : w58.cell? ⟨gb221, 1, none⟩ = some (.int .i64 a1_1) := bc BK221 1; have hcz61_2 : w58.cell? ⟨gb221, 2, none⟩ = some (.int .i64 a1_2) := bc BK221 2; have hcz61_3 : w58.cell? ⟨gb221, 3, none⟩ = some (.slice A1_3 l1_3.length c1_3) := bc BK221 3; have hcz61_4 : w58.cell? ⟨gb221, 4, none⟩ = some (.int .i64 a1_4) := bc BK221 4; have hfz61_0 := bf BK221 0; have hfz61_1 := bf BK221 1; have hfz61_2 := bf BK221 2; have hfz61_3 := bf BK221 3; have hfz61_4 := bf BK221 4) | ((with_reducible refine gate_callee (f := 120) rfl ?_); refine goesL_ (some 9) rfl rfl Try.func120 (by kernel_rfl) rfl #[.slice A0_0 l0_0.length c0_0, .slice A1_0 l1_0.length c1_0] rfl gl ?_; (with_reducible refine (laws_eqMovS.calls k _ _ l0_0 _ _ l1_0 false _ ?side1 ?side2 ?side3 ?side4 A3.out).mono ?_); (case side1 => exact cc (Kd.C_below HR0_0.out HB.out)); (case side2 => exact HC0_0.out); (case side3 => exact cc (Kd.C_below HR1_0.out HB.out)); (case side4 => exact HC1_0.out); rintro e w62 ⟨rfl, hb⟩; refine ⟨_, rfl, ?_⟩; replace BK220 := am (blk_below (g := gb220) (o := .cells #[.slice A0_0 l0_0.length c0_0, .int .i64 a0_1, .int .i64 a0_2, .slice A0_3 l0_3.length c0_3, .int .i64 a0_4] 123 (0, 0)) (bp BK220) hb); replace BK221 := am (blk_below (g := gb221) (o := .cells #[.slice A1_0 l1_0.length c1_0, .int .i64 a1_1, .int .i64 a1_2, .slice A1_3 l1_3.length c1_3, .int .i64 a1_4] 123 (0, 0)) (bp BK221) hb); replace HB := am (below_step (bw HB) hb); (try clear hb); (try clear hb2); (try clear hk); (try clear hi)))
  go_ret
  exact ⟨er, bw HB⟩

def laws_eqAsmInsS.l0 : Nat → List (S123) → List (S123) → Int → Option (Bool)
 | 0, _, _, _ => none
 | k + 1, x0, x1, x5 => if x5 < (x0.length : Int) then (if 0 ≤ x5 then (if x5 < (x1.length : Int) then ((laws_eqAsmIns.f k ((rd_T123 x0 x5).f0) ((rd_T123 x0 x5).f1) ((rd_T123 x0 x5).f2) ((rd_T123 x0 x5).f3) ((rd_T123 x0 x5).f4) ((rd_T123 x1 x5).f0) ((rd_T123 x1 x5).f1) ((rd_T123 x1 x5).f2) ((rd_T123 x1 x5).f3) ((rd_T123 x1 x5).f4)).bind fun t226 => (if t226 = true then (laws_eqAsmInsS.l0 k x0 x1 (wrap64 (x5 + 1))) else (some false))) else (none)) else (none)) else (some true)
def laws_eqAsmInsS.f (k : Nat) (l0 : List (S123)) (l1 : List (S123)) : Option (Bool) := if (l0.length : Int) = (l1.length : Int) then (laws_eqAsmInsS.l0 k l0 l1 0) else (some false)
theorem laws_eqAsmInsS.mono_l : ∀ k, (∀ y0 y1 y2, LeO (laws_eqAsmInsS.l0 k y0 y1 y2) (laws_eqAsmInsS.l0 (k + 1) y0 y1 y2))
 | 0 => fun _ _ _ r h => by simp [laws_eqAsmInsS.l0] at h
 | k + 1 => by
  have ih0 := laws_eqAsmInsS.mono_l k
  ·intro y0 y1 y2
   unfold laws_eqAsmInsS.l0
   repeat' first
   | (with_reducible exact ih0 _ _ _)
   | (with_reducible exact laws_eqAsmIns.mono _ _ _ _ _ _ _ _ _ _ _)
   | (with_reducible exact LeO.refl _)
   | (with_reducible exact LeO.none _)
   | (with_reducible refine LeO.ite ?_ ?_)
   | (with_reducible refine LeO.bind ?_ (fun _ => ?_))
theorem laws_eqAsmInsS.mono : ∀ a0 a1 k, LeO (laws_eqAsmInsS.f k a0 a1) (laws_eqAsmInsS.f (k + 1) a0 a1) := by
 intro a0 a1 k
 have ih0 := laws_eqAsmInsS.mono_l k
 unfold laws_eqAsmInsS.f
 repeat' first
   | (with_reducible exact ih0 _ _ _)
   | (with_reducible exact laws_eqAsmIns.mono _ _ _ _ _ _ _ _ _ _ _)
   | (with_reducible exact LeO.refl _)
   | (with_reducible exact LeO.none _)
   | (with_reducible refine LeO.ite ?_ ?_)
   | (with_reducible refine LeO.bind ?_ (fun _ => ?_))
def laws_eqAsmInsS.T6 : Bool × List (List Nat × List Nat) := (true, [([], []), ([], []), ([0, 1], [0, 1]), ([2], [2]), ([], []), ([], []), ([4, 5], [4, 5]), ([6], [6]), ([3, 7], [3, 7]), ([8], [8])])
def laws_eqAsmInsS.B6 : List Nat := [0, 0, 3, 7, 0, 0, 48, 112, 255, 511]
theorem laws_eqAsmInsS.tab6 : rtab .any (opsOf Try.f96 6) = laws_eqAsmInsS.T6 := by kernel_rfl
theorem laws_eqAsmInsS.bits6 : waitsOk laws_eqAsmInsS.T6.2 laws_eqAsmInsS.B6 = true := by kernel_rfl
theorem laws_eqAsmInsS.calls (k : Nat) (A0 : Option Addr) (c0 : Nat) (l0 : List (S123)) (A1 : Option Addr) (c1 : Nat) (l1 : List (S123)) (r : Bool) (w : World) (hr0 : Kd.C k123 w A0 l0.length l0) (hc0 : l0.length ≤ c0) (hr1 : Kd.C k123 w A1 l1.length l1) (hc1 : l1.length ≤ c1) (h : laws_eqAsmInsS.f k l0 l1 = some r) :
  Calls Try.prog 96 #[.slice A0 l0.length c0, .slice A1 l1.length c1] w fun e w' => e = .returned (.bool r) ∧ Below w.heap.size w w' := by
 have hu123 := Try.underlying123
 have HR0 := am hr0
 have HC0 := am hc0
 clear hr0 hc0
 have HR1 := am hr1
 have HC1 := am hc1
 clear hr1 hc1
 have HB := am (Below.refl w.heap.size w)
 have H : (if (l0.length : Int) = (l1.length : Int) then (laws_eqAsmInsS.l0 k l0 l1 0) else (some false)) = some r := h
 clear h
 by_cases c3 : (l0.length : Int) = (l1.length : Int)
 ·rw [if_pos c3] at H
  have c3b0 : ((l0.length : Int) == (l1.length : Int)) = true := beq_iff_eq.mpr c3
  have c3b1 : ((l0.length : Int) != (l1.length : Int)) = false := bne_eq_false_iff_eq.mpr c3
  have c3b2 : (l0.length == l1.length) = true := by first | simpa using c3 | (simp at c3 ⊢; omega)
  clear c3
  have H' := am H
  clear H
  go_enter Try.func96, Try.ntmps96
  go_wp2
  go_loopg [5] k (fun kq v5 w' => ∃ (x5_1 : Int), v5 = .int .i64 x5_1 ∧ Aside0 (laws_eqAsmInsS.l0 kq l0 l1 x5_1 = some r) ∧ Aside0 (kq ≤ k) ∧ Aside0 (Below w.heap.size w w'))
  case atStart => exact ⟨(0), dr, H', ⟨Nat.le_refl _⟩, ⟨bw HB⟩⟩
  case round =>
   clear H'
   (try clear c1); (try clear p2); (try clear c3); (try clear c3b0); (try clear c3b1); (try clear c3b2)
   obtain ⟨x5_1, rfl, HA, HK1, HB⟩ := hrel
   cases gk with
   | zero => exact absurd HA.out (by simp [laws_eqAsmInsS.l0])
   | succ k1 =>
    have H := HA.out
    clear HA
    simp only [laws_eqAsmInsS.l0] at H
    by_cases c4 : x5_1 < (l0.length : Int)
    ·rw [if_pos c4] at H
     have c4b0 := decide_eq_true c4
     clear c4
     by_cases c5 : 0 ≤ x5_1
     ·rw [if_pos c5] at H
      have c5b0 := decide_eq_true c5
      clear c5
      by_cases c6 : x5_1 < (l1.length : Int)
      ·rw [if_pos c6] at H
       have c6b0 := decide_eq_true c6
       clear c6
       replace H := Option.bind_eq_some_iff.mp H
       obtain ⟨t226, A70, H⟩ := H
       replace H : (if t226 = true then (laws_eqAsmInsS.l0 k1 l0 l1 (wrap64 (x5_1 + 1))) else (some false)) = some r := H
       have A7 := am A70
       clear A70
       by_cases c8 : t226 = true
       ·subst c8
        have H1 : (laws_eqAsmInsS.l0 k1 l0 l1 (wrap64 (x5_1 + 1))) = some r := by rw [if_pos rfl] at H; exact H
        clear H
        have H := H1
        clear H1
        have H' := am H
        clear H
        try go_wp2
        have n0_ := am (below_drew1 HB.out)
        clear HB
        have HB := n0_
        clear n0_
        have p224 : 0 ≤ (x5_1 : Int) := of_decide_eq_true as1
        have q224 : x5_1 < (l0.length : Int) := of_decide_eq_true as1
        obtain ⟨ad224, A224_0, c224_0, A224_3, c224_3, e224, hx224_0, hx224_1, hx224_2, hx224_3, hx224_4, hl224_0, hi224_0, hl224_3, hi224_3⟩ := at_T123 HR0.out x5_1 p224 q224
        have hw224_4 := hx224_4
        have hw224_3 := hx224_3
        have hw224_2 := hx224_2
        have hw224_1 := hx224_1
        have hw224_0 := hx224_0
        cases e224
        replace hx224_0 := (HB.out.cell (World.block_lt_of_cell? w _ hx224_0)).trans hx224_0
        replace hx224_1 := (HB.out.cell (World.block_lt_of_cell? w _ hx224_1)).trans hx224_1
        replace hx224_2 := (HB.out.cell (World.block_lt_of_cell? w _ hx224_2)).trans hx224_2
        replace hx224_3 := (HB.out.cell (World.block_lt_of_cell? w _ hx224_3)).trans hx224_3
        replace hx224_4 := (HB.out.cell (World.block_lt_of_cell? w _ hx224_4)).trans hx224_4
        have HR224_0 := am hi224_0
        have HC224_0 := am hl224_0
        clear hi224_0 hl224_0
        have HR224_3 := am hi224_3
        have HC224_3 := am hl224_3
        clear hi224_3 hl224_3
        replace p224 := eq_true p224
        replace q224 := eq_true q224
        have p225 : 0 ≤ (x5_1 : Int) := of_decide_eq_true as1
        have q225 : x5_1 < (l1.length : Int) := of_decide_eq_true as1
        obtain ⟨ad225, A225_0, c225_0, A225_3, c225_3, e225, hx225_0, hx225_1, hx225_2, hx225_3, hx225_4, hl225_0, hi225_0, hl225_3, hi225_3⟩ := at_T123 HR1.out x5_1 p225 q225
        have hw225_4 := hx225_4
        have hw225_3 := hx225_3
        have hw225_2 := hx225_2
        have hw225_1 := hx225_1
        have hw225_0 := hx225_0
        cases e225
        replace hx225_0 := (HB.out.cell (World.block_lt_of_cell? w _ hx225_0)).trans hx225_0
        replace hx225_1 := (HB.out.cell (World.block_lt_of_cell? w _ hx225_1)).trans hx225_1
        replace hx225_2 := (HB.out.cell (World.block_lt_of_cell? w _ hx225_2)).trans hx225_2
        replace hx225_3 := (HB.out.cell (World.block_lt_of_cell? w _ hx225_3)).trans hx225_3
        replace hx225_4 := (HB.out.cell (World.block_lt_of_cell? w _ hx225_4)).trans hx225_4
        have HR225_0 := am hi225_0
        have HC225_0 := am hl225_0
        clear hi225_0 hl225_0
        have HR225_3 := am hi225_3
        have HC225_3 := am hl225_3
        clear hi225_3 hl225_3
        replace p225 := eq_true p225
        replace q225 := eq_true q225
        refine start_ (n := 10) (S := fun w' => w'.cell? (ad224.add ((x5_1).toNat * 5)) = some (.slice A224_0 ((rd_T123 l0 x5_1).f0).length c224_0) ∧ w'.cell? ⟨(ad224.add ((x5_1).toNat * 5)).block, (ad224.add ((x5_1).toNat * 5)).off + 1, none⟩ = some (.int .i64 ((rd_T123 l0 x5_1).f1)) ∧ w'.cell? ⟨(ad224.add ((x5_1).toNat * 5)).block, (ad224.add ((x5_1).toNat * 5)).off + 2, none⟩ = some (.int .i64 ((rd_T123 l0 x5_1).f2)) ∧ w'.cell? ⟨(ad224.add ((x5_1).toNat * 5)).block, (ad224.add ((x5_1).toNat * 5)).off + 3, none⟩ = some (.slice A224_3 ((rd_T123 l0 x5_1).f3).length c224_3) ∧ w'.cell? ⟨(ad224.add ((x5_1).toNat * 5)).block, (ad224.add ((x5_1).toNat * 5)).off + 4, none⟩ = some (.int .i64 ((rd_T123 l0 x5_1).f4)) ∧ w'.cell? (ad225.add ((x5_1).toNat * 5)) = some (.slice A225_0 ((rd_T123 l1 x5_1).f0).length c225_0) ∧ w'.cell? ⟨(ad225.add ((x5_1).toNat * 5)).block, (ad225.add ((x5_1).toNat * 5)).off + 1, none⟩ = some (.int .i64 ((rd_T123 l1 x5_1).f1)) ∧ w'.cell? ⟨(ad225.add ((x5_1).toNat * 5)).block, (ad225.add ((x5_1).toNat * 5)).off + 2, none⟩ = some (.int .i64 ((rd_T123 l1 x5_1).f2)) ∧ w'.cell? ⟨(ad225.add ((x5_1).toNat * 5)).block, (ad225.add ((x5_1).toNat * 5)).off + 3, none⟩ = some (.slice A225_3 ((rd_T123 l1 x5_1).f3).length c225_3) ∧ w'.cell? ⟨(ad225.add ((x5_1).toNat * 5)).block, (ad225.add ((x5_1).toNat * 5)).off + 4, none⟩ = some (.int .i64 ((rd_T123 l1 x5_1).f4))) (ds := []) #[false, false, false, false, false, false, false, false, false, false] (by kernel_rfl) rfl rfl ⟨((HB.out.cell (World.block_lt_of_cell? _ _ hw224_0)).trans hw224_0), ((HB.out.cell (World.block_lt_of_cell? _ _ hw224_1)).trans hw224_1), ((HB.out.cell (World.block_lt_of_cell? _ _ hw224_2)).trans hw224_2), ((HB.out.cell (World.block_lt_of_cell? _ _ hw224_3)).trans hw224_3), ((HB.out.cell (World.block_lt_of_cell? _ _ hw224_4)).trans hw224_4), ((HB.out.cell (World.block_lt_of_cell? _ _ hw225_0)).trans hw225_0), ((HB.out.cell (World.block_lt_of_cell? _ _ hw225_1)).trans hw225_1), ((HB.out.cell (World.block_lt_of_cell? _ _ hw225_2)).trans hw225_2), ((HB.out.cell (World.block_lt_of_cell? _ _ hw225_3)).trans hw225_3), ((HB.out.cell (World.block_lt_of_cell? _ _ hw225_4)).trans hw225_4)⟩ (fun hHeld => ?_); refine with_tabW laws_eqAsmInsS.tab6 laws_eqAsmInsS.bits6 (fun HT_ HW_ => ?_)
        generalize wr.drew = w9 at HB HR224_0 HR224_3 HR225_0 HR225_3 hx224_0 hx224_1 hx224_2 hx224_3 hx224_4 hx225_0 hx225_1 hx225_2 hx225_3 hx225_4 hHeld ⊢
        refine pure_ (i := 0) (N := some 17) (v := ?_) (a' := ?_) #[true, false, false, false, false, false, false, false, false, false] rfl rfl (any_of HT_.out (by kernel_rfl)) (fun _ _ _ h => h) (Or.inl ⟨by rfl, ?_⟩) ?_ ?_
        rotate_left
        ·intro w'
         go_simp
         with_reducible rfl
        rotate_left
        ·simp only [Act.put, sa, sz, ss, i64_w, i32_w]
         rfl
        refine pure_ (i := 1) (N := some 18) (v := ?_) (a' := ?_) #[true, true, false, false, false, false, false, false, false, false] rfl rfl (any_of HT_.out (by kernel_rfl)) (fun _ _ _ h => h) (Or.inl ⟨by rfl, ?_⟩) ?_ ?_
        rotate_left
        ·intro w'
         go_simp
         with_reducible rfl
        rotate_left
        ·simp only [Act.put, sa, sz, ss, i64_w, i32_w]
         rfl
        refine pure_ (i := 2) (N := some 19) (v := ?_) (a' := ?_) #[true, true, true, false, false, false, false, false, false, false] rfl rfl (any_of HT_.out (by kernel_rfl)) (fun _ _ _ h => h) (Or.inl ⟨by rfl, ?_⟩) ?_ ?_
        rotate_left
        ·intro w'
         go_simp
         with_reducible rfl
        rotate_left
        ·simp only [Act.put, sa, sz, ss, i64_w, i32_w]
         rfl
        refine pure_ (i := 4) (N := some 21) (v := ?_) (a' := ?_) #[true, true, true, false, true, false, false, false, false, false] rfl rfl (any_of HT_.out (by kernel_rfl)) (fun _ _ _ h => h) (Or.inl ⟨by rfl, ?_⟩) ?_ ?_
        rotate_left
        ·intro w'
         go_simp
         with_reducible rfl
        rotate_left
        ·simp only [Act.put, sa, sz, ss, i64_w, i32_w]
         rfl
        refine pure_ (i := 5) (N := some 22) (v := ?_) (a' := ?_) #[true, true, true, false, true, true, false, false, false, false] rfl rfl (any_of HT_.out (by kernel_rfl)) (fun _ _ _ h => h) (Or.inl ⟨by rfl, ?_⟩) ?_ ?_
        rotate_left
        ·intro w'
         go_simp
         with_reducible rfl
        rotate_left
        ·simp only [Act.put, sa, sz, ss, i64_w, i32_w]
         rfl
        refine pure_ (i := 6) (N := some 23) (v := ?_) (a' := ?_) #[true, true, true, false, true, true, true, false, false, false] rfl rfl (any_of HT_.out (by kernel_rfl)) (fun _ _ _ h => h) (Or.inl ⟨by rfl, ?_⟩) ?_ ?_
        rotate_left
        ·intro w'
         go_simp
         with_reducible rfl
        rotate_left
        ·simp only [Act.put, sa, sz, ss, i64_w, i32_w]
         rfl
        refine take_ (i := 3) (N := some 20) (v := ?_) (a' := ?_) #[true, true, true, true, true, true, true, false, false, false] rfl rfl (take_ofW HT_.out HW_.out (by kernel_rfl)) (fun _ _ _ h => h) (Or.inl ⟨by rfl, ?_⟩) hHeld ?_ ?_
        rotate_left
        ·rintro w' ⟨s0, s1, s2, s3, s4, s5, s6, s7, s8, s9⟩
         go_simp
         with_reducible rfl
        rotate_left
        ·simp only [Act.put, sa, sz, ss, i64_w, i32_w]
         rfl
        refine take_ (i := 7) (N := some 24) (v := ?_) (a' := ?_) #[true, true, true, true, true, true, true, true, false, false] rfl rfl (take_ofW HT_.out HW_.out (by kernel_rfl)) (fun _ _ _ h => h) (Or.inl ⟨by rfl, ?_⟩) hHeld ?_ ?_
        rotate_left
        ·rintro w' ⟨s0, s1, s2, s3, s4, s5, s6, s7, s8, s9⟩
         go_simp
         with_reducible rfl
        rotate_left
        ·simp only [Act.put, sa, sz, ss, i64_w, i32_w]
         rfl
        refine one_ (i := 8) (N := some 25) #[true, true, true, true, true, true, true, true, true, false] rfl rfl (one_of HT_.out (by kernel_rfl)) (by decide) (fun K hK => ?_)
        refine goes_ Try.func112 (by kernel_rfl) rfl #[.agg #[.slice A224_0 ((rd_T123 l0 x5_1).f0).length c224_0, .int .i64 ((rd_T123 l0 x5_1).f1), .int .i64 ((rd_T123 l0 x5_1).f2), .slice A224_3 ((rd_T123 l0 x5_1).f3).length c224_3, .int .i64 ((rd_T123 l0 x5_1).f4)], .agg #[.slice A225_0 ((rd_T123 l1 x5_1).f0).length c225_0, .int .i64 ((rd_T123 l1 x5_1).f1), .int .i64 ((rd_T123 l1 x5_1).f2), .slice A225_3 ((rd_T123 l1 x5_1).f3).length c225_3, .int .i64 ((rd_T123 l1 x5_1).f4)]] (by rfl) rfl rfl gl ?_
        with_reducible refine (laws_eqAsmIns.calls k1 _ _ ((rd_T123 l0 x5_1).f0) ((rd_T123 l0 x5_1).f1) ((rd_T123 l0 x5_1).f2) _ _ ((rd_T123 l0 x5_1).f3) ((rd_T123 l0 x5_1).f4) _ _ ((rd_T123 l1 x5_1).f0) ((rd_T123 l1 x5_1).f1) ((rd_T123 l1 x5_1).f2) _ _ ((rd_T123 l1 x5_1).f3) ((rd_T123 l1 x5_1).f4) true _ ?side1 ?side2 ?side3 ?side4 ?side5 ?side6 ?side7 ?side8 A7.out).mono ?_
        (case side1 => exact cc (Kd.C_below HR224_0.out HB.out))
        (case side2 => exact HC224_0.out)
        (case side3 => exact cc (Kd.C_below HR224_3.out HB.out))
        (case side4 => exact HC224_3.out)
        (case side5 => exact cc (Kd.C_below HR225_0.out HB.out))
        (case side6 => exact HC225_0.out)
        (case side7 => exact cc (Kd.C_below HR225_3.out HB.out))
        (case side8 => exact HC225_3.out)
        rintro e w10 ⟨rfl, hb⟩
        refine ⟨_, rfl, ?_⟩
        have n0_ := am (below_step (bw HB) hb)
        clear HB
        have HB := n0_
        clear n0_
        (try clear hb)
        (try clear hb2)
        (try clear hk)
        (try clear hi)
        refine hK.out _ _ ⟨((HB.out.cell (World.block_lt_of_cell? _ _ hw224_0)).trans hw224_0), ((HB.out.cell (World.block_lt_of_cell? _ _ hw224_1)).trans hw224_1), ((HB.out.cell (World.block_lt_of_cell? _ _ hw224_2)).trans hw224_2), ((HB.out.cell (World.block_lt_of_cell? _ _ hw224_3)).trans hw224_3), ((HB.out.cell (World.block_lt_of_cell? _ _ hw224_4)).trans hw224_4), ((HB.out.cell (World.block_lt_of_cell? _ _ hw225_0)).trans hw225_0), ((HB.out.cell (World.block_lt_of_cell? _ _ hw225_1)).trans hw225_1), ((HB.out.cell (World.block_lt_of_cell? _ _ hw225_2)).trans hw225_2), ((HB.out.cell (World.block_lt_of_cell? _ _ hw225_3)).trans hw225_3), ((HB.out.cell (World.block_lt_of_cell? _ _ hw225_4)).trans hw225_4)⟩ (fun hHeld => ?_)
        clear hK K
        refine norm_ (a' := ?_) ?_ ?_
        rotate_left
        ·show Act.put _ (some 25) _ = _
         simp only [Act.put, sa, sz, ss, i64_w, i32_w]
         rfl
        refine pure_ (i := 9) (N := some 26) (v := ?_) (a' := ?_) #[true, true, true, true, true, true, true, true, true, true] rfl rfl (any_of HT_.out (by kernel_rfl)) (fun _ _ _ h => h) (Or.inl ⟨by rfl, ?_⟩) ?_ ?_
        rotate_left
        ·intro w'
         go_simp
         with_reducible rfl
        rotate_left
        ·simp only [Act.put, sa, sz, ss, i64_w, i32_w]
         rfl
        refine done_ (done_of HT_.out (by kernel_rfl)) ?_
        try go_wp2
        go_roundg k1
        case measure => have := HK1.out; omega
        case rel => exact ⟨(wrap64 (x5_1 + 1)), dr, H', ⟨by have := HK1.out; omega⟩, ⟨bw HB⟩⟩
       ·replace c8 := Bool.eq_false_iff.mpr c8
        subst c8
        have H1 : (some false) = some r := by rw [if_neg (show ¬ (false = true) by decide)] at H; exact H
        clear H
        have H := H1
        clear H1
        obtain rfl := Option.some.inj H
        try go_wp2
        have n0_ := am (below_drew1 HB.out)
        clear HB
        have HB := n0_
        clear n0_
        have p224 : 0 ≤ (x5_1 : Int) := of_decide_eq_true as1
        have q224 : x5_1 < (l0.length : Int) := of_decide_eq_true as1
        obtain ⟨ad224, A224_0, c224_0, A224_3, c224_3, e224, hx224_0, hx224_1, hx224_2, hx224_3, hx224_4, hl224_0, hi224_0, hl224_3, hi224_3⟩ := at_T123 HR0.out x5_1 p224 q224
        have hw224_4 := hx224_4
        have hw224_3 := hx224_3
        have hw224_2 := hx224_2
        have hw224_1 := hx224_1
        have hw224_0 := hx224_0
        cases e224
        replace hx224_0 := (HB.out.cell (World.block_lt_of_cell? w _ hx224_0)).trans hx224_0
        replace hx224_1 := (HB.out.cell (World.block_lt_of_cell? w _ hx224_1)).trans hx224_1
        replace hx224_2 := (HB.out.cell (World.block_lt_of_cell? w _ hx224_2)).trans hx224_2
        replace hx224_3 := (HB.out.cell (World.block_lt_of_cell? w _ hx224_3)).trans hx224_3
        replace hx224_4 := (HB.out.cell (World.block_lt_of_cell? w _ hx224_4)).trans hx224_4
        have HR224_0 := am hi224_0
        have HC224_0 := am hl224_0
        clear hi224_0 hl224_0
        have HR224_3 := am hi224_3
        have HC224_3 := am hl224_3
        clear hi224_3 hl224_3
        replace p224 := eq_true p224
        replace q224 := eq_true q224
        have p225 : 0 ≤ (x5_1 : Int) := of_decide_eq_true as1
        have q225 : x5_1 < (l1.length : Int) := of_decide_eq_true as1
        obtain ⟨ad225, A225_0, c225_0, A225_3, c225_3, e225, hx225_0, hx225_1, hx225_2, hx225_3, hx225_4, hl225_0, hi225_0, hl225_3, hi225_3⟩ := at_T123 HR1.out x5_1 p225 q225
        have hw225_4 := hx225_4
        have hw225_3 := hx225_3
        have hw225_2 := hx225_2
        have hw225_1 := hx225_1
        have hw225_0 := hx225_0
        cases e225
        replace hx225_0 := (HB.out.cell (World.block_lt_of_cell? w _ hx225_0)).trans hx225_0
        replace hx225_1 := (HB.out.cell (World.block_lt_of_cell? w _ hx225_1)).trans hx225_1
        replace hx225_2 := (HB.out.cell (World.block_lt_of_cell? w _ hx225_2)).trans hx225_2
        replace hx225_3 := (HB.out.cell (World.block_lt_of_cell? w _ hx225_3)).trans hx225_3
        replace hx225_4 := (HB.out.cell (World.block_lt_of_cell? w _ hx225_4)).trans hx225_4
        have HR225_0 := am hi225_0
        have HC225_0 := am hl225_0
        clear hi225_0 hl225_0
        have HR225_3 := am hi225_3
        have HC225_3 := am hl225_3
        clear hi225_3 hl225_3
        replace p225 := eq_true p225
        replace q225 := eq_true q225
        refine start_ (n := 10) (S := fun w' => w'.cell? (ad224.add ((x5_1).toNat * 5)) = some (.slice A224_0 ((rd_T123 l0 x5_1).f0).length c224_0) ∧ w'.cell? ⟨(ad224.add ((x5_1).toNat * 5)).block, (ad224.add ((x5_1).toNat * 5)).off + 1, none⟩ = some (.int .i64 ((rd_T123 l0 x5_1).f1)) ∧ w'.cell? ⟨(ad224.add ((x5_1).toNat * 5)).block, (ad224.add ((x5_1).toNat * 5)).off + 2, none⟩ = some (.int .i64 ((rd_T123 l0 x5_1).f2)) ∧ w'.cell? ⟨(ad224.add ((x5_1).toNat * 5)).block, (ad224.add ((x5_1).toNat * 5)).off + 3, none⟩ = some (.slice A224_3 ((rd_T123 l0 x5_1).f3).length c224_3) ∧ w'.cell? ⟨(ad224.add ((x5_1).toNat * 5)).block, (ad224.add ((x5_1).toNat * 5)).off + 4, none⟩ = some (.int .i64 ((rd_T123 l0 x5_1).f4)) ∧ w'.cell? (ad225.add ((x5_1).toNat * 5)) = some (.slice A225_0 ((rd_T123 l1 x5_1).f0).length c225_0) ∧ w'.cell? ⟨(ad225.add ((x5_1).toNat * 5)).block, (ad225.add ((x5_1).toNat * 5)).off + 1, none⟩ = some (.int .i64 ((rd_T123 l1 x5_1).f1)) ∧ w'.cell? ⟨(ad225.add ((x5_1).toNat * 5)).block, (ad225.add ((x5_1).toNat * 5)).off + 2, none⟩ = some (.int .i64 ((rd_T123 l1 x5_1).f2)) ∧ w'.cell? ⟨(ad225.add ((x5_1).toNat * 5)).block, (ad225.add ((x5_1).toNat * 5)).off + 3, none⟩ = some (.slice A225_3 ((rd_T123 l1 x5_1).f3).length c225_3) ∧ w'.cell? ⟨(ad225.add ((x5_1).toNat * 5)).block, (ad225.add ((x5_1).toNat * 5)).off + 4, none⟩ = some (.int .i64 ((rd_T123 l1 x5_1).f4))) (ds := []) #[false, false, false, false, false, false, false, false, false, false] (by kernel_rfl) rfl rfl ⟨((HB.out.cell (World.block_lt_of_cell? _ _ hw224_0)).trans hw224_0), ((HB.out.cell (World.block_lt_of_cell? _ _ hw224_1)).trans hw224_1), ((HB.out.cell (World.block_lt_of_cell? _ _ hw224_2)).trans hw224_2), ((HB.out.cell (World.block_lt_of_cell? _ _ hw224_3)).trans hw224_3), ((HB.out.cell (World.block_lt_of_cell? _ _ hw224_4)).trans hw224_4), ((HB.out.cell (World.block_lt_of_cell? _ _ hw225_0)).trans hw225_0), ((HB.out.cell (World.block_lt_of_cell? _ _ hw225_1)).trans hw225_1), ((HB.out.cell (World.block_lt_of_cell? _ _ hw225_2)).trans hw225_2), ((HB.out.cell (World.block_lt_of_cell? _ _ hw225_3)).trans hw225_3), ((HB.out.cell (World.block_lt_of_cell? _ _ hw225_4)).trans hw225_4)⟩ (fun hHeld => ?_); refine with_tabW laws_eqAsmInsS.tab6 laws_eqAsmInsS.bits6 (fun HT_ HW_ => ?_)
        generalize wr.drew = w11 at HB HR224_0 HR224_3 HR225_0 HR225_3 hx224_0 hx224_1 hx224_2 hx224_3 hx224_4 hx225_0 hx225_1 hx225_2 hx225_3 hx225_4 hHeld ⊢
        refine pure_ (i := 0) (N := some 17) (v := ?_) (a' := ?_) #[true, false, false, false, false, false, false, false, false, false] rfl rfl (any_of HT_.out (by kernel_rfl)) (fun _ _ _ h => h) (Or.inl ⟨by rfl, ?_⟩) ?_ ?_
        rotate_left
        ·intro w'
         go_simp
         with_reducible rfl
        rotate_left
        ·simp only [Act.put, sa, sz, ss, i64_w, i32_w]
         rfl
        refine pure_ (i := 1) (N := some 18) (v := ?_) (a' := ?_) #[true, true, false, false, false, false, false, false, false, false] rfl rfl (any_of HT_.out (by kernel_rfl)) (fun _ _ _ h => h) (Or.inl ⟨by rfl, ?_⟩) ?_ ?_
        rotate_left
        ·intro w'
         go_simp
         with_reducible rfl
        rotate_left
        ·simp only [Act.put, sa, sz, ss, i64_w, i32_w]
         rfl
        refine pure_ (i := 2) (N := some 19) (v := ?_) (a' := ?_) #[true, true, true, false, false, false, false, false, false, false] rfl rfl (any_of HT_.out (by kernel_rfl)) (fun _ _ _ h => h) (Or.inl ⟨by rfl, ?_⟩) ?_ ?_
        rotate_left
        ·intro w'
         go_simp
         with_reducible rfl
        rotate_left
        ·simp only [Act.put, sa, sz, ss, i64_w, i32_w]
         rfl
        refine pure_ (i := 4) (N := some 21) (v := ?_) (a' := ?_) #[true, true, true, false, true, false, false, false, false, false] rfl rfl (any_of HT_.out (by kernel_rfl)) (fun _ _ _ h => h) (Or.inl ⟨by rfl, ?_⟩) ?_ ?_
        rotate_left
        ·intro w'
         go_simp
         with_reducible rfl
        rotate_left
        ·simp only [Act.put, sa, sz, ss, i64_w, i32_w]
         rfl
        refine pure_ (i := 5) (N := some 22) (v := ?_) (a' := ?_) #[true, true, true, false, true, true, false, false, false, false] rfl rfl (any_of HT_.out (by kernel_rfl)) (fun _ _ _ h => h) (Or.inl ⟨by rfl, ?_⟩) ?_ ?_
        rotate_left
        ·intro w'
         go_simp
         with_reducible rfl
        rotate_left
        ·simp only [Act.put, sa, sz, ss, i64_w, i32_w]
         rfl
        refine pure_ (i := 6) (N := some 23) (v := ?_) (a' := ?_) #[true, true, true, false, true, true, true, false, false, false] rfl rfl (any_of HT_.out (by kernel_rfl)) (fun _ _ _ h => h) (Or.inl ⟨by rfl, ?_⟩) ?_ ?_
        rotate_left
        ·intro w'
         go_simp
         with_reducible rfl
        rotate_left
        ·simp only [Act.put, sa, sz, ss, i64_w, i32_w]
         rfl
        refine take_ (i := 3) (N := some 20) (v := ?_) (a' := ?_) #[true, true, true, true, true, true, true, false, false, false] rfl rfl (take_ofW HT_.out HW_.out (by kernel_rfl)) (fun _ _ _ h => h) (Or.inl ⟨by rfl, ?_⟩) hHeld ?_ ?_
        rotate_left
        ·rintro w' ⟨s0, s1, s2, s3, s4, s5, s6, s7, s8, s9⟩
         go_simp
         with_reducible rfl
        rotate_left
        ·simp only [Act.put, sa, sz, ss, i64_w, i32_w]
         rfl
        refine take_ (i := 7) (N := some 24) (v := ?_) (a' := ?_) #[true, true, true, true, true, true, true, true, false, false] rfl rfl (take_ofW HT_.out HW_.out (by kernel_rfl)) (fun _ _ _ h => h) (Or.inl ⟨by rfl, ?_⟩) hHeld ?_ ?_
        rotate_left
        ·rintro w' ⟨s0, s1, s2, s3, s4, s5, s6, s7, s8, s9⟩
         go_simp
         with_reducible rfl
        rotate_left
        ·simp only [Act.put, sa, sz, ss, i64_w, i32_w]
         rfl
        refine one_ (i := 8) (N := some 25) #[true, true, true, true, true, true, true, true, true, false] rfl rfl (one_of HT_.out (by kernel_rfl)) (by decide) (fun K hK => ?_)
        refine goes_ Try.func112 (by kernel_rfl) rfl #[.agg #[.slice A224_0 ((rd_T123 l0 x5_1).f0).length c224_0, .int .i64 ((rd_T123 l0 x5_1).f1), .int .i64 ((rd_T123 l0 x5_1).f2), .slice A224_3 ((rd_T123 l0 x5_1).f3).length c224_3, .int .i64 ((rd_T123 l0 x5_1).f4)], .agg #[.slice A225_0 ((rd_T123 l1 x5_1).f0).length c225_0, .int .i64 ((rd_T123 l1 x5_1).f1), .int .i64 ((rd_T123 l1 x5_1).f2), .slice A225_3 ((rd_T123 l1 x5_1).f3).length c225_3, .int .i64 ((rd_T123 l1 x5_1).f4)]] (by rfl) rfl rfl gl ?_
        with_reducible refine (laws_eqAsmIns.calls k1 _ _ ((rd_T123 l0 x5_1).f0) ((rd_T123 l0 x5_1).f1) ((rd_T123 l0 x5_1).f2) _ _ ((rd_T123 l0 x5_1).f3) ((rd_T123 l0 x5_1).f4) _ _ ((rd_T123 l1 x5_1).f0) ((rd_T123 l1 x5_1).f1) ((rd_T123 l1 x5_1).f2) _ _ ((rd_T123 l1 x5_1).f3) ((rd_T123 l1 x5_1).f4) false _ ?side1 ?side2 ?side3 ?side4 ?side5 ?side6 ?side7 ?side8 A7.out).mono ?_
        (case side1 => exact cc (Kd.C_below HR224_0.out HB.out))
        (case side2 => exact HC224_0.out)
        (case side3 => exact cc (Kd.C_below HR224_3.out HB.out))
        (case side4 => exact HC224_3.out)
        (case side5 => exact cc (Kd.C_below HR225_0.out HB.out))
        (case side6 => exact HC225_0.out)
        (case side7 => exact cc (Kd.C_below HR225_3.out HB.out))
        (case side8 => exact HC225_3.out)
        rintro e w12 ⟨rfl, hb⟩
        refine ⟨_, rfl, ?_⟩
        have n0_ := am (below_step (bw HB) hb)
        clear HB
        have HB := n0_
        clear n0_
        (try clear hb)
        (try clear hb2)
        (try clear hk)
        (try clear hi)
        refine hK.out _ _ ⟨((HB.out.cell (World.block_lt_of_cell? _ _ hw224_0)).trans hw224_0), ((HB.out.cell (World.block_lt_of_cell? _ _ hw224_1)).trans hw224_1), ((HB.out.cell (World.block_lt_of_cell? _ _ hw224_2)).trans hw224_2), ((HB.out.cell (World.block_lt_of_cell? _ _ hw224_3)).trans hw224_3), ((HB.out.cell (World.block_lt_of_cell? _ _ hw224_4)).trans hw224_4), ((HB.out.cell (World.block_lt_of_cell? _ _ hw225_0)).trans hw225_0), ((HB.out.cell (World.block_lt_of_cell? _ _ hw225_1)).trans hw225_1), ((HB.out.cell (World.block_lt_of_cell? _ _ hw225_2)).trans hw225_2), ((HB.out.cell (World.block_lt_of_cell? _ _ hw225_3)).trans hw225_3), ((HB.out.cell (World.block_lt_of_cell? _ _ hw225_4)).trans hw225_4)⟩ (fun hHeld => ?_)
        clear hK K
        refine norm_ (a' := ?_) ?_ ?_
        rotate_left
        ·show Act.put _ (some 25) _ = _
         simp only [Act.put, sa, sz, ss, i64_w, i32_w]
         rfl
        refine pure_ (i := 9) (N := some 26) (v := ?_) (a' := ?_) #[true, true, true, true, true, true, true, true, true, true] rfl rfl (any_of HT_.out (by kernel_rfl)) (fun _ _ _ h => h) (Or.inl ⟨by rfl, ?_⟩) ?_ ?_
        rotate_left
        ·intro w'
         go_simp
         with_reducible rfl
        rotate_left
        ·simp only [Act.put, sa, sz, ss, i64_w, i32_w]
         rfl
        refine done_ (done_of HT_.out (by kernel_rfl)) ?_
        try go_wp2
        go_ret
        exact ⟨er, bw HB⟩
      ·rw [if_neg c6] at H
       exact absurd H (by simp)
     ·rw [if_neg c5] at H
      exact absurd H (by simp)
    ·rw [if_neg c4] at H
     have c4b0 := decide_eq_false c4
     clear c4
     obtain rfl := Option.some.inj H
     go_wp2
     go_ret
     exact ⟨er, bw HB⟩
 ·rw [if_neg c3] at H
  have c3b0 : ((l0.length : Int) == (l1.length : Int)) = false := beq_eq_false_iff_ne.mpr c3
  have c3b1 : ((l0.length : Int) != (l1.length : Int)) = true := bne_iff_ne.mpr c3
  have c3b2 : (l0.length == l1.length) = false := by first | simpa using c3 | (simp at c3 ⊢; omega)
  obtain rfl := Option.some.inj H
  go_enter Try.func96, Try.ntmps96
  go_wp2
  go_ret
  exact ⟨er, bw HB⟩

end Go.Proofs.Ytkmohnlkldkhdaa.QFnExactAsmSame
