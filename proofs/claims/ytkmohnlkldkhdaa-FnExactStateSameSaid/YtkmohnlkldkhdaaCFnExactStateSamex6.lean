import Derived.Test.YtkmohnlkldkhdaaCFnExactStateSamex0
import Derived.Test.YtkmohnlkldkhdaaCFnExactStateSamex4
import Derived.Test.YtkmohnlkldkhdaaCFnExactStateSamex5
namespace Go.Proofs.Ytkmohnlkldkhdaa.QFnExactStateSame
open Go.RowKit Go.Proofs.YtkmohnlkldkhdaaW
open PrintWords PrintLast PrintMore PrintShort PrintIsh
attribute [local go_sem] max2_int min2_int max_two min_two max_three min_three max_four min_four   -- for this text's walks alone
set_option linter.unusedVariables false
set_option maxHeartbeats 8000000
set_option maxRecDepth 100000
set_option linter.unusedSimpArgs false

def laws_eqState.f (k : Nat) (l0_0 : List (S111)) (l0_1 : List (List Int)) (l0_2 : List Int) (a0_3 : Int) (a0_4 : Bool) (a0_5 : Int) (a0_6 : Int) (l1_0 : List (S111)) (l1_1 : List (List Int)) (l1_2 : List Int) (a1_3 : Int) (a1_4 : Bool) (a1_5 : Int) (a1_6 : Int) : Option (Bool) := (laws_eqFrameS.f k l0_0 l1_0).bind fun t208 => (if t208 = true then ((laws_eqInt64SS.f k l0_1 l1_1).bind fun t209 => (if t209 = true then ((laws_eqInt64S.f k l0_2 l1_2).bind fun t210 => (if t210 = true then (if a0_3 = a1_3 then (if (a0_4 != a1_4) = true then (some false) else (if a0_5 = a1_5 then (if a0_6 = a1_6 then (some true) else (some false)) else (some false))) else (some false)) else (some false))) else (some false))) else (some false))
theorem laws_eqState.mono : ∀ a0 a1 a2 a3 a4 a5 a6 a7 a8 a9 a10 a11 a12 a13 k, LeO (laws_eqState.f k a0 a1 a2 a3 a4 a5 a6 a7 a8 a9 a10 a11 a12 a13) (laws_eqState.f (k + 1) a0 a1 a2 a3 a4 a5 a6 a7 a8 a9 a10 a11 a12 a13) := by
 intro a0 a1 a2 a3 a4 a5 a6 a7 a8 a9 a10 a11 a12 a13 k
 unfold laws_eqState.f
 repeat' first
   | (with_reducible exact laws_eqFrameS.mono _ _ _)
   | (with_reducible exact laws_eqInt64S.mono _ _ _)
   | (with_reducible exact laws_eqInt64SS.mono _ _ _)
   | (with_reducible exact LeO.refl _)
   | (with_reducible exact LeO.none _)
   | (with_reducible refine LeO.ite ?_ ?_)
   | (with_reducible refine LeO.bind ?_ (fun _ => ?_))
theorem laws_eqState.calls (k : Nat) (A0_0 : Option Addr) (c0_0 : Nat) (l0_0 : List (S111)) (A0_1 : Option Addr) (c0_1 : Nat) (l0_1 : List (List Int)) (A0_2 : Option Addr) (c0_2 : Nat) (l0_2 : List Int) (a0_3 : Int) (a0_4 : Bool) (a0_5 : Int) (a0_6 : Int) (A1_0 : Option Addr) (c1_0 : Nat) (l1_0 : List (S111)) (A1_1 : Option Addr) (c1_1 : Nat) (l1_1 : List (List Int)) (A1_2 : Option Addr) (c1_2 : Nat) (l1_2 : List Int) (a1_3 : Int) (a1_4 : Bool) (a1_5 : Int) (a1_6 : Int) (r : Bool) (w : World) (hr0_0 : Kd.C k111 w A0_0 l0_0.length l0_0) (hc0_0 : l0_0.length ≤ c0_0) (hr0_1 : Kd.C (Kd.slice 2 (Kd.int .i64)) w A0_1 l0_1.length l0_1) (hc0_1 : l0_1.length ≤ c0_1) (hr0_2 : Kd.C (Kd.int .i64) w A0_2 l0_2.length l0_2) (hc0_2 : l0_2.length ≤ c0_2) (hr1_0 : Kd.C k111 w A1_0 l1_0.length l1_0) (hc1_0 : l1_0.length ≤ c1_0) (hr1_1 : Kd.C (Kd.slice 2 (Kd.int .i64)) w A1_1 l1_1.length l1_1) (hc1_1 : l1_1.length ≤ c1_1) (hr1_2 : Kd.C (Kd.int .i64) w A1_2 l1_2.length l1_2) (hc1_2 : l1_2.length ≤ c1_2) (h : laws_eqState.f k l0_0 l0_1 l0_2 a0_3 a0_4 a0_5 a0_6 l1_0 l1_1 l1_2 a1_3 a1_4 a1_5 a1_6 = some r) :
  Calls Try.prog 46 #[.agg #[.slice A0_0 l0_0.length c0_0, .slice A0_1 l0_1.length c0_1, .slice A0_2 l0_2.length c0_2, .int .i64 a0_3, .bool a0_4, .int .i64 a0_5, .int .i64 a0_6], .agg #[.slice A1_0 l1_0.length c1_0, .slice A1_1 l1_1.length c1_1, .slice A1_2 l1_2.length c1_2, .int .i64 a1_3, .bool a1_4, .int .i64 a1_5, .int .i64 a1_6]] w fun e w' => e = .returned (.bool r) ∧ Below w.heap.size w w' := by
 have hu67 := Try.underlying67
 have HR0_0 := am hr0_0
 have HC0_0 := am hc0_0
 clear hr0_0 hc0_0
 have HR0_1 := am hr0_1
 have HC0_1 := am hc0_1
 clear hr0_1 hc0_1
 have HR0_2 := am hr0_2
 have HC0_2 := am hc0_2
 clear hr0_2 hc0_2
 have HR1_0 := am hr1_0
 have HC1_0 := am hc1_0
 clear hr1_0 hc1_0
 have HR1_1 := am hr1_1
 have HC1_1 := am hc1_1
 clear hr1_1 hc1_1
 have HR1_2 := am hr1_2
 have HC1_2 := am hc1_2
 clear hr1_2 hc1_2
 have HB := am (Below.refl w.heap.size w)
 have H : ((laws_eqFrameS.f k l0_0 l1_0).bind fun t208 => (if t208 = true then ((laws_eqInt64SS.f k l0_1 l1_1).bind fun t209 => (if t209 = true then ((laws_eqInt64S.f k l0_2 l1_2).bind fun t210 => (if t210 = true then (if a0_3 = a1_3 then (if (a0_4 != a1_4) = true then (some false) else (if a0_5 = a1_5 then (if a0_6 = a1_6 then (some true) else (some false)) else (some false))) else (some false)) else (some false))) else (some false))) else (some false))) = some r := h
 clear h
 replace H := Option.bind_eq_some_iff.mp H
 obtain ⟨t208, A30, H⟩ := H
 replace H : (if t208 = true then ((laws_eqInt64SS.f k l0_1 l1_1).bind fun t209 => (if t209 = true then ((laws_eqInt64S.f k l0_2 l1_2).bind fun t210 => (if t210 = true then (if a0_3 = a1_3 then (if (a0_4 != a1_4) = true then (some false) else (if a0_5 = a1_5 then (if a0_6 = a1_6 then (some true) else (some false)) else (some false))) else (some false)) else (some false))) else (some false))) else (some false)) = some r := H
 have A3 := am A30
 clear A30
 by_cases c4 : t208 = true
 ·subst c4
  have H1 : ((laws_eqInt64SS.f k l0_1 l1_1).bind fun t209 => (if t209 = true then ((laws_eqInt64S.f k l0_2 l1_2).bind fun t210 => (if t210 = true then (if a0_3 = a1_3 then (if (a0_4 != a1_4) = true then (some false) else (if a0_5 = a1_5 then (if a0_6 = a1_6 then (some true) else (some false)) else (some false))) else (some false)) else (some false))) else (some false))) = some r := by rw [if_pos rfl] at H; exact H
  clear H
  have H := H1
  clear H1
  replace H := Option.bind_eq_some_iff.mp H
  obtain ⟨t209, A50, H⟩ := H
  replace H : (if t209 = true then ((laws_eqInt64S.f k l0_2 l1_2).bind fun t210 => (if t210 = true then (if a0_3 = a1_3 then (if (a0_4 != a1_4) = true then (some false) else (if a0_5 = a1_5 then (if a0_6 = a1_6 then (some true) else (some false)) else (some false))) else (some false)) else (some false))) else (some false)) = some r := H
  have A5 := am A50
  clear A50
  have HC6 := am H
  clear H
  go_enter Try.func46, Try.ntmps46
  go_upto_region 3 with (first | ((with_reducible refine gate_dst (N := 2) rfl ?_); refine box_event ?hg (N := 2) ?hd (cs := #[.slice A0_0 l0_0.length c0_0, .slice A0_1 l0_1.length c0_1, .slice A0_2 l0_2.length c0_2, .int .i64 a0_3, .bool a0_4, .int .i64 a0_5, .int .i64 a0_6]) (t := 67) ?hr ?_; (case hd => rfl); (case hg => rfl); (case hr => exact gs); intro gb206 hg w7 hbox hb; have BK206 := am (hbox); have GW206 := am ((by rw [hg]; exact (below_size (bw HB)) : w.heap.size ≤ gb206)); have GE206 := am ((by rw [hg]; exact (below_size (bw HB)) : w.heap.size ≤ gb206)); replace HB := am (below_step (bw HB) hb); clear hb hbox hg) | ((with_reducible refine gate_dst (N := 3) rfl ?_); refine box_event ?hg (N := 3) ?hd (cs := #[.slice A1_0 l1_0.length c1_0, .slice A1_1 l1_1.length c1_1, .slice A1_2 l1_2.length c1_2, .int .i64 a1_3, .bool a1_4, .int .i64 a1_5, .int .i64 a1_6]) (t := 67) ?hr ?_; (case hd => rfl); (case hg => rfl); (case hr => exact gs); intro gb207 hg w8 hbox hb; have BK207 := am (hbox); have GW207 := am ((by rw [hg]; exact (below_size (bw HB)) : w.heap.size ≤ gb207)); have GE207 := am ((by rw [hg]; exact (below_size (bw HB)) : w.heap.size ≤ gb207)); replace HB := am (below_step (bw HB) hb); have NB206_207 := am ((by rw [hg]; exact Nat.ne_of_lt (blk_lt (g := gb206) (o := .cells #[.slice A0_0 l0_0.length c0_0, .slice A0_1 l0_1.length c0_1, .slice A0_2 l0_2.length c0_2, .int .i64 a0_3, .bool a0_4, .int .i64 a0_5, .int .i64 a0_6] 67 (0, 0)) (bp BK206)) : gb206 ≠ gb207)); have NB207_206 := am ((by rw [hg]; exact Nat.ne_of_gt (blk_lt (g := gb206) (o := .cells #[.slice A0_0 l0_0.length c0_0, .slice A0_1 l0_1.length c0_1, .slice A0_2 l0_2.length c0_2, .int .i64 a0_3, .bool a0_4, .int .i64 a0_5, .int .i64 a0_6] 67 (0, 0)) (bp BK206)) : gb207 ≠ gb206)); replace BK206 := am (blk_below (g := gb206) (o := .cells #[.slice A0_0 l0_0.length c0_0, .slice A0_1 l0_1.length c0_1, .slice A0_2 l0_2.length c0_2, .int .i64 a0_3, .bool a0_4, .int .i64 a0_5, .int .i64 a0_6] 67 (0, 0)) (bp BK206) hb); clear hb hbox hg; have hnb9 := NB206_207.out; have hnc9 := NB207_206.out; have hcz10_0 : w8.cell? ⟨gb206, 0, none⟩ = some (.slice A0_0 l0_0.length c0_0) := bc BK206 0; have hcz10_1 : w8.cell? ⟨gb206, 1, none⟩ = some (.slice A0_1 l0_1.length c0_1) := bc BK206 1; have hcz10_2 : w8.cell? ⟨gb206, 2, none⟩ = some (.slice A0_2 l0_2.length c0_2) := bc BK206 2; have hcz10_3 : w8.cell? ⟨gb206, 3, none⟩ = some (.int .i64 a0_3) := bc BK206 3; have hcz10_4 : w8.cell? ⟨gb206, 4, none⟩ = some (.bool a0_4) := bc BK206 4; have hcz10_5 : w8.cell? ⟨gb206, 5, none⟩ = some (.int .i64 a0_5) := bc BK206 5; have hcz10_6 : w8.cell? ⟨gb206, 6, none⟩ = some (.int .i64 a0_6) := bc BK206 6; have hfz10_0 := bf BK206 0; have hfz10_1 := bf BK206 1; have hfz10_2 := bf BK206 2; have hfz10_3 := bf BK206 3; have hfz10_4 := bf BK206 4; have hfz10_5 := bf BK206 5; have hfz10_6 := bf BK206 6; have hcz11_0 : w8.cell? ⟨gb207, 0, none⟩ = some (.slice A1_0 l1_0.length c1_0) := bc BK207 0; have hcz11_1 : w8.cell? ⟨gb207, 1, none⟩ = some (.slice A1_1 l1_1.length c1_1) := bc BK207 1; have hcz11_2 : w8.cell? ⟨gb207, 2, none⟩ = some (.slice A1_2 l1_2.length c1_2) := bc BK207 2; have hcz11_3 : w8.cell? ⟨gb207, 3, none⟩ = some (.int .i64 a1_3) := bc BK207 3; have hcz11_4 : w8.cell? ⟨gb207, 4, none⟩ = some (.bool a1_4) := bc BK207 4; have hcz11_5 : w8.cell? ⟨gb207, 5, none⟩ = some (.int .i64 a1_5) := bc BK207 5; have hcz11_6 : w8.cell? ⟨gb207, 6, none⟩ = some (.int .i64 a1_6) := bc BK207 6; have hfz11_0 := bf BK207 0; have hfz11_1 := bf BK207 1; have hfz11_2 := bf BK207 2; have hfz11_3 := bf BK207 3; have hfz11_4 := bf BK207 4; have hfz11_5 := bf BK207 5; have hfz11_6 := bf BK207 6) | ((with_reducible refine gate_callee (f := 84) rfl ?_); refine goesL_ (some 9) rfl rfl Try.func84 (by kernel_rfl) rfl #[.slice A0_0 l0_0.length c0_0, .slice A1_0 l1_0.length c1_0] rfl gl ?_; (with_reducible refine (laws_eqFrameS.calls k _ _ l0_0 _ _ l1_0 true _ ?side1 ?side2 ?side3 ?side4 A3.out).mono ?_); (case side1 => exact cc (Kd.C_below HR0_0.out HB.out)); (case side2 => exact HC0_0.out); (case side3 => exact cc (Kd.C_below HR1_0.out HB.out)); (case side4 => exact HC1_0.out); rintro e w12 ⟨rfl, hb⟩; refine ⟨_, rfl, ?_⟩; replace BK206 := am (blk_below (g := gb206) (o := .cells #[.slice A0_0 l0_0.length c0_0, .slice A0_1 l0_1.length c0_1, .slice A0_2 l0_2.length c0_2, .int .i64 a0_3, .bool a0_4, .int .i64 a0_5, .int .i64 a0_6] 67 (0, 0)) (bp BK206) hb); replace BK207 := am (blk_below (g := gb207) (o := .cells #[.slice A1_0 l1_0.length c1_0, .slice A1_1 l1_1.length c1_1, .slice A1_2 l1_2.length c1_2, .int .i64 a1_3, .bool a1_4, .int .i64 a1_5, .int .i64 a1_6] 67 (0, 0)) (bp BK207) hb); replace HB := am (below_step (bw HB) hb); (try clear hb); (try clear hb2); (try clear hk); (try clear hi)))
  (try simp only [Act.put, sa, sz, ss])
  have H := HC6.out
  clear HC6
  by_cases c13 : t209 = true
  ·subst c13
   have H1 : ((laws_eqInt64S.f k l0_2 l1_2).bind fun t210 => (if t210 = true then (if a0_3 = a1_3 then (if (a0_4 != a1_4) = true then (some false) else (if a0_5 = a1_5 then (if a0_6 = a1_6 then (some true) else (some false)) else (some false))) else (some false)) else (some false))) = some r := by rw [if_pos rfl] at H; exact H
   clear H
   have H := H1
   clear H1
   replace H := Option.bind_eq_some_iff.mp H
   obtain ⟨t210, A140, H⟩ := H
   replace H : (if t210 = true then (if a0_3 = a1_3 then (if (a0_4 != a1_4) = true then (some false) else (if a0_5 = a1_5 then (if a0_6 = a1_6 then (some true) else (some false)) else (some false))) else (some false)) else (some false)) = some r := H
   have A14 := am A140
   clear A140
   by_cases c15 : t210 = true
   ·subst c15
    have H1 : (if a0_3 = a1_3 then (if (a0_4 != a1_4) = true then (some false) else (if a0_5 = a1_5 then (if a0_6 = a1_6 then (some true) else (some false)) else (some false))) else (some false)) = some r := by rw [if_pos rfl] at H; exact H
    clear H
    have H := H1
    clear H1
    by_cases c16 : a0_3 = a1_3
    ·rw [if_pos c16] at H
     have c16b0 : (a0_3 == a1_3) = true := beq_iff_eq.mpr c16
     have c16b1 : (a0_3 != a1_3) = false := bne_eq_false_iff_eq.mpr c16
     clear c16
     by_cases c17 : (a0_4 != a1_4) = true
     ·rw [if_pos c17] at H
      have c17b0 : (a0_4 != a1_4) = true := c17
      (try (have c17b1 : decide (a0_4 = a1_4) = false := by simpa using c17))
      (try (have c17b2 : (a0_4 == a1_4) = false := by simpa using c17))
      (try (have c17b3 : ¬ (a0_4 = a1_4) := by simpa using c17))
      clear c17
      obtain rfl := Option.some.inj H
      have hnb18 := NB206_207.out
      have hnc18 := NB207_206.out
      have hcz19_0 : w12.cell? ⟨gb206, 0, none⟩ = some (.slice A0_0 l0_0.length c0_0) := bc BK206 0
      have hcz19_1 : w12.cell? ⟨gb206, 1, none⟩ = some (.slice A0_1 l0_1.length c0_1) := bc BK206 1
      have hcz19_2 : w12.cell? ⟨gb206, 2, none⟩ = some (.slice A0_2 l0_2.length c0_2) := bc BK206 2
      have hcz19_3 : w12.cell? ⟨gb206, 3, none⟩ = some (.int .i64 a0_3) := bc BK206 3
      have hcz19_4 : w12.cell? ⟨gb206, 4, none⟩ = some (.bool a0_4) := bc BK206 4
      have hcz19_5 : w12.cell? ⟨gb206, 5, none⟩ = some (.int .i64 a0_5) := bc BK206 5
      have hcz19_6 : w12.cell? ⟨gb206, 6, none⟩ = some (.int .i64 a0_6) := bc BK206 6
      have hfz19_0 := bf BK206 0
      have hfz19_1 := bf BK206 1
      have hfz19_2 := bf BK206 2
      have hfz19_3 := bf BK206 3
      have hfz19_4 := bf BK206 4
      have hfz19_5 := bf BK206 5
      have hfz19_6 := bf BK206 6
      have hcz20_0 : w12.cell? ⟨gb207, 0, none⟩ = some (.slice A1_0 l1_0.length c1_0) := bc BK207 0
      have hcz20_1 : w12.cell? ⟨gb207, 1, none⟩ = some (.slice A1_1 l1_1.length c1_1) := bc BK207 1
      have hcz20_2 : w12.cell? ⟨gb207, 2, none⟩ = some (.slice A1_2 l1_2.length c1_2) := bc BK207 2
      have hcz20_3 : w12.cell? ⟨gb207, 3, none⟩ = some (.int .i64 a1_3) := bc BK207 3
      have hcz20_4 : w12.cell? ⟨gb207, 4, none⟩ = some (.bool a1_4) := bc BK207 4
      have hcz20_5 : w12.cell? ⟨gb207, 5, none⟩ = some (.int .i64 a1_5) := bc BK207 5
      have hcz20_6 : w12.cell? ⟨gb207, 6, none⟩ = some (.int .i64 a1_6) := bc BK207 6
      have hfz20_0 := bf BK207 0
      have hfz20_1 := bf BK207 1
      have hfz20_2 := bf BK207 2
      have hfz20_3 := bf BK207 3
      have hfz20_4 := bf BK207 4
      have hfz20_5 := bf BK207 5
      have hfz20_6 := bf BK207 6
      go_wp2_with (first | ((with_reducible refine gate_callee (f := 85) rfl ?_); refine goesL_ (some 15) rfl rfl Try.func85 (by kernel_rfl) rfl #[.slice A0_1 l0_1.length c0_1, .slice A1_1 l1_1.length c1_1] rfl gl ?_; (with_reducible refine (laws_eqInt64SS.calls k _ _ l0_1 _ _ l1_1 true _ ?side1 ?side2 ?side3 ?side4 A5.out).mono ?_); (case side1 => exact cc (Kd.C_below HR0_1.out HB.out)); (case side2 => exact HC0_1.out); (case side3 => exact cc (Kd.C_below HR1_1.out HB.out)); (case side4 => exact HC1_1.out); rintro e w' ⟨rfl, ⟨nd, rfl⟩⟩; refine ⟨_, rfl, ?_⟩) | ((with_reducible refine gate_callee (f := 21) rfl ?_); refine goesL_ (some 21) rfl rfl Try.func21 (by kernel_rfl) rfl #[.slice A0_2 l0_2.length c0_2, .slice A1_2 l1_2.length c1_2] rfl gl ?_; (with_reducible refine (laws_eqInt64S.calls k _ _ l0_2 _ _ l1_2 true _ ?side1 ?side2 ?side3 ?side4 A14.out).mono ?_); (case side1 => exact cc (Kd.C_below HR0_2.out (bw HB))); (case side2 => exact HC0_2.out); (case side3 => exact cc (Kd.C_below HR1_2.out (bw HB))); (case side4 => exact HC1_2.out); rintro e w' ⟨rfl, ⟨nd, rfl⟩⟩; refine ⟨_, rfl, ?_⟩))
      go_ret
      exact ⟨er, bw HB⟩
     ·rw [if_neg c17] at H
      have c17b0 : (a0_4 != a1_4) = false := by simpa using c17
      (try (have c17b1 : decide (a0_4 = a1_4) = true := by simpa using c17))
      (try (have c17b2 : (a0_4 == a1_4) = true := by simpa using c17))
      clear c17
      by_cases c21 : a0_5 = a1_5
      ·rw [if_pos c21] at H
       have c21b0 : (a0_5 == a1_5) = true := beq_iff_eq.mpr c21
       have c21b1 : (a0_5 != a1_5) = false := bne_eq_false_iff_eq.mpr c21
       clear c21
       by_cases c22 : a0_6 = a1_6
       ·rw [if_pos c22] at H
        have c22b0 : (a0_6 == a1_6) = true := beq_iff_eq.mpr c22
        have c22b1 : (a0_6 != a1_6) = false := bne_eq_false_iff_eq.mpr c22
        clear c22
        obtain rfl := Option.some.inj H
        have hnb23 := NB206_207.out
        have hnc23 := NB207_206.out
        have hcz24_0 : w12.cell? ⟨gb206, 0, none⟩ = some (.slice A0_0 l0_0.length c0_0) := bc BK206 0
        have hcz24_1 : w12.cell? ⟨gb206, 1, none⟩ = some (.slice A0_1 l0_1.length c0_1) := bc BK206 1
        have hcz24_2 : w12.cell? ⟨gb206, 2, none⟩ = some (.slice A0_2 l0_2.length c0_2) := bc BK206 2
        have hcz24_3 : w12.cell? ⟨gb206, 3, none⟩ = some (.int .i64 a0_3) := bc BK206 3
        have hcz24_4 : w12.cell? ⟨gb206, 4, none⟩ = some (.bool a0_4) := bc BK206 4
        have hcz24_5 : w12.cell? ⟨gb206, 5, none⟩ = some (.int .i64 a0_5) := bc BK206 5
        have hcz24_6 : w12.cell? ⟨gb206, 6, none⟩ = some (.int .i64 a0_6) := bc BK206 6
        have hfz24_0 := bf BK206 0
        have hfz24_1 := bf BK206 1
        have hfz24_2 := bf BK206 2
        have hfz24_3 := bf BK206 3
        have hfz24_4 := bf BK206 4
        have hfz24_5 := bf BK206 5
        have hfz24_6 := bf BK206 6
        have hcz25_0 : w12.cell? ⟨gb207, 0, none⟩ = some (.slice A1_0 l1_0.length c1_0) := bc BK207 0
        have hcz25_1 : w12.cell? ⟨gb207, 1, none⟩ = some (.slice A1_1 l1_1.length c1_1) := bc BK207 1
        have hcz25_2 : w12.cell? ⟨gb207, 2, none⟩ = some (.slice A1_2 l1_2.length c1_2) := bc BK207 2
        have hcz25_3 : w12.cell? ⟨gb207, 3, none⟩ = some (.int .i64 a1_3) := bc BK207 3
        have hcz25_4 : w12.cell? ⟨gb207, 4, none⟩ = some (.bool a1_4) := bc BK207 4
        have hcz25_5 : w12.cell? ⟨gb207, 5, none⟩ = some (.int .i64 a1_5) := bc BK207 5
        have hcz25_6 : w12.cell? ⟨gb207, 6, none⟩ = some (.int .i64 a1_6) := bc BK207 6
        have hfz25_0 := bf BK207 0
        have hfz25_1 := bf BK207 1
        have hfz25_2 := bf BK207 2
        have hfz25_3 := bf BK207 3
        have hfz25_4 := bf BK207 4
        have hfz25_5 := bf BK207 5
        have hfz25_6 := bf BK207 6
        go_wp2_with (first | ((with_reducible refine gate_callee (f := 85) rfl ?_); refine goesL_ (some 15) rfl rfl Try.func85 (by kernel_rfl) rfl #[.slice A0_1 l0_1.length c0_1, .slice A1_1 l1_1.length c1_1] rfl gl ?_; (with_reducible refine (laws_eqInt64SS.calls k _ _ l0_1 _ _ l1_1 true _ ?side1 ?side2 ?side3 ?side4 A5.out).mono ?_); (case side1 => exact cc (Kd.C_below HR0_1.out HB.out)); (case side2 => exact HC0_1.out); (case side3 => exact cc (Kd.C_below HR1_1.out HB.out)); (case side4 => exact HC1_1.out); rintro e w' ⟨rfl, ⟨nd, rfl⟩⟩; refine ⟨_, rfl, ?_⟩) | ((with_reducible refine gate_callee (f := 21) rfl ?_); refine goesL_ (some 21) rfl rfl Try.func21 (by kernel_rfl) rfl #[.slice A0_2 l0_2.length c0_2, .slice A1_2 l1_2.length c1_2] rfl gl ?_; (with_reducible refine (laws_eqInt64S.calls k _ _ l0_2 _ _ l1_2 true _ ?side1 ?side2 ?side3 ?side4 A14.out).mono ?_); (case side1 => exact cc (Kd.C_below HR0_2.out (bw HB))); (case side2 => exact HC0_2.out); (case side3 => exact cc (Kd.C_below HR1_2.out (bw HB))); (case side4 => exact HC1_2.out); rintro e w' ⟨rfl, ⟨nd, rfl⟩⟩; refine ⟨_, rfl, ?_⟩))
        go_ret
        exact ⟨er, bw HB⟩
       ·rw [if_neg c22] at H
        have c22b0 : (a0_6 == a1_6) = false := beq_eq_false_iff_ne.mpr c22
        have c22b1 : (a0_6 != a1_6) = true := bne_iff_ne.mpr c22
        obtain rfl := Option.some.inj H
        have hnb26 := NB206_207.out
        have hnc26 := NB207_206.out
        have hcz27_0 : w12.cell? ⟨gb206, 0, none⟩ = some (.slice A0_0 l0_0.length c0_0) := bc BK206 0
        have hcz27_1 : w12.cell? ⟨gb206, 1, none⟩ = some (.slice A0_1 l0_1.length c0_1) := bc BK206 1
        have hcz27_2 : w12.cell? ⟨gb206, 2, none⟩ = some (.slice A0_2 l0_2.length c0_2) := bc BK206 2
        have hcz27_3 : w12.cell? ⟨gb206, 3, none⟩ = some (.int .i64 a0_3) := bc BK206 3
        have hcz27_4 : w12.cell? ⟨gb206, 4, none⟩ = some (.bool a0_4) := bc BK206 4
        have hcz27_5 : w12.cell? ⟨gb206, 5, none⟩ = some (.int .i64 a0_5) := bc BK206 5
        have hcz27_6 : w12.cell? ⟨gb206, 6, none⟩ = some (.int .i64 a0_6) := bc BK206 6
        have hfz27_0 := bf BK206 0
        have hfz27_1 := bf BK206 1
        have hfz27_2 := bf BK206 2
        have hfz27_3 := bf BK206 3
        have hfz27_4 := bf BK206 4
        have hfz27_5 := bf BK206 5
        have hfz27_6 := bf BK206 6
        have hcz28_0 : w12.cell? ⟨gb207, 0, none⟩ = some (.slice A1_0 l1_0.length c1_0) := bc BK207 0
        have hcz28_1 : w12.cell? ⟨gb207, 1, none⟩ = some (.slice A1_1 l1_1.length c1_1) := bc BK207 1
        have hcz28_2 : w12.cell? ⟨gb207, 2, none⟩ = some (.slice A1_2 l1_2.length c1_2) := bc BK207 2
        have hcz28_3 : w12.cell? ⟨gb207, 3, none⟩ = some (.int .i64 a1_3) := bc BK207 3
        have hcz28_4 : w12.cell? ⟨gb207, 4, none⟩ = some (.bool a1_4) := bc BK207 4
        have hcz28_5 : w12.cell? ⟨gb207, 5, none⟩ = some (.int .i64 a1_5) := bc BK207 5
        have hcz28_6 : w12.cell? ⟨gb207, 6, none⟩ = some (.int .i64 a1_6) := bc BK207 6
        have hfz28_0 := bf BK207 0
        have hfz28_1 := bf BK207 1
        have hfz28_2 := bf BK207 2
        have hfz28_3 := bf BK207 3
        have hfz28_4 := bf BK207 4
        have hfz28_5 := bf BK207 5
        have hfz28_6 := bf BK207 6
        go_wp2_with (first | ((with_reducible refine gate_callee (f := 85) rfl ?_); refine goesL_ (some 15) rfl rfl Try.func85 (by kernel_rfl) rfl #[.slice A0_1 l0_1.length c0_1, .slice A1_1 l1_1.length c1_1] rfl gl ?_; (with_reducible refine (laws_eqInt64SS.calls k _ _ l0_1 _ _ l1_1 true _ ?side1 ?side2 ?side3 ?side4 A5.out).mono ?_); (case side1 => exact cc (Kd.C_below HR0_1.out HB.out)); (case side2 => exact HC0_1.out); (case side3 => exact cc (Kd.C_below HR1_1.out HB.out)); (case side4 => exact HC1_1.out); rintro e w' ⟨rfl, ⟨nd, rfl⟩⟩; refine ⟨_, rfl, ?_⟩) | ((with_reducible refine gate_callee (f := 21) rfl ?_); refine goesL_ (some 21) rfl rfl Try.func21 (by kernel_rfl) rfl #[.slice A0_2 l0_2.length c0_2, .slice A1_2 l1_2.length c1_2] rfl gl ?_; (with_reducible refine (laws_eqInt64S.calls k _ _ l0_2 _ _ l1_2 true _ ?side1 ?side2 ?side3 ?side4 A14.out).mono ?_); (case side1 => exact cc (Kd.C_below HR0_2.out (bw HB))); (case side2 => exact HC0_2.out); (case side3 => exact cc (Kd.C_below HR1_2.out (bw HB))); (case side4 => exact HC1_2.out); rintro e w' ⟨rfl, ⟨nd, rfl⟩⟩; refine ⟨_, rfl, ?_⟩))
        go_ret
        exact ⟨er, bw HB⟩
      ·rw [if_neg c21] at H
       have c21b0 : (a0_5 == a1_5) = false := beq_eq_false_iff_ne.mpr c21
       have c21b1 : (a0_5 != a1_5) = true := bne_iff_ne.mpr c21
       obtain rfl := Option.some.inj H
       have hnb29 := NB206_207.out
       have hnc29 := NB207_206.out
       have hcz30_0 : w12.cell? ⟨gb206, 0, none⟩ = some (.slice A0_0 l0_0.length c0_0) := bc BK206 0
       have hcz30_1 : w12.cell? ⟨gb206, 1, none⟩ = some (.slice A0_1 l0_1.length c0_1) := bc BK206 1
       have hcz30_2 : w12.cell? ⟨gb206, 2, none⟩ = some (.slice A0_2 l0_2.length c0_2) := bc BK206 2
       have hcz30_3 : w12.cell? ⟨gb206, 3, none⟩ = some (.int .i64 a0_3) := bc BK206 3
       have hcz30_4 : w12.cell? ⟨gb206, 4, none⟩ = some (.bool a0_4) := bc BK206 4
       have hcz30_5 : w12.cell? ⟨gb206, 5, none⟩ = some (.int .i64 a0_5) := bc BK206 5
       have hcz30_6 : w12.cell? ⟨gb206, 6, none⟩ = some (.int .i64 a0_6) := bc BK206 6
       have hfz30_0 := bf BK206 0
       have hfz30_1 := bf BK206 1
       have hfz30_2 := bf BK206 2
       have hfz30_3 := bf BK206 3
       have hfz30_4 := bf BK206 4
       have hfz30_5 := bf BK206 5
       have hfz30_6 := bf BK206 6
       have hcz31_0 : w12.cell? ⟨gb207, 0, none⟩ = some (.slice A1_0 l1_0.length c1_0) := bc BK207 0
       have hcz31_1 : w12.cell? ⟨gb207, 1, none⟩ = some (.slice A1_1 l1_1.length c1_1) := bc BK207 1
       have hcz31_2 : w12.cell? ⟨gb207, 2, none⟩ = some (.slice A1_2 l1_2.length c1_2) := bc BK207 2
       have hcz31_3 : w12.cell? ⟨gb207, 3, none⟩ = some (.int .i64 a1_3) := bc BK207 3
       have hcz31_4 : w12.cell? ⟨gb207, 4, none⟩ = some (.bool a1_4) := bc BK207 4
       have hcz31_5 : w12.cell? ⟨gb207, 5, none⟩ = some (.int .i64 a1_5) := bc BK207 5
       have hcz31_6 : w12.cell? ⟨gb207, 6, none⟩ = some (.int .i64 a1_6) := bc BK207 6
       have hfz31_0 := bf BK207 0
       have hfz31_1 := bf BK207 1
       have hfz31_2 := bf BK207 2
       have hfz31_3 := bf BK207 3
       have hfz31_4 := bf BK207 4
       have hfz31_5 := bf BK207 5
       have hfz31_6 := bf BK207 6
       go_wp2_with (first | ((with_reducible refine gate_callee (f := 85) rfl ?_); refine goesL_ (some 15) rfl rfl Try.func85 (by kernel_rfl) rfl #[.slice A0_1 l0_1.length c0_1, .slice A1_1 l1_1.length c1_1] rfl gl ?_; (with_reducible refine (laws_eqInt64SS.calls k _ _ l0_1 _ _ l1_1 true _ ?side1 ?side2 ?side3 ?side4 A5.out).mono ?_); (case side1 => exact cc (Kd.C_below HR0_1.out HB.out)); (case side2 => exact HC0_1.out); (case side3 => exact cc (Kd.C_below HR1_1.out HB.out)); (case side4 => exact HC1_1.out); rintro e w' ⟨rfl, ⟨nd, rfl⟩⟩; refine ⟨_, rfl, ?_⟩) | ((with_reducible refine gate_callee (f := 21) rfl ?_); refine goesL_ (some 21) rfl rfl Try.func21 (by kernel_rfl) rfl #[.slice A0_2 l0_2.length c0_2, .slice A1_2 l1_2.length c1_2] rfl gl ?_; (with_reducible refine (laws_eqInt64S.calls k _ _ l0_2 _ _ l1_2 true _ ?side1 ?side2 ?side3 ?side4 A14.out).mono ?_); (case side1 => exact cc (Kd.C_below HR0_2.out (bw HB))); (case side2 => exact HC0_2.out); (case side3 => exact cc (Kd.C_below HR1_2.out (bw HB))); (case side4 => exact HC1_2.out); rintro e w' ⟨rfl, ⟨nd, rfl⟩⟩; refine ⟨_, rfl, ?_⟩))
       go_ret
       exact ⟨er, bw HB⟩
    ·rw [if_neg c16] at H
     have c16b0 : (a0_3 == a1_3) = false := beq_eq_false_iff_ne.mpr c16
     have c16b1 : (a0_3 != a1_3) = true := bne_iff_ne.mpr c16
     obtain rfl := Option.some.inj H
     have hnb32 := NB206_207.out
     have hnc32 := NB207_206.out
     have hcz33_0 : w12.cell? ⟨gb206, 0, none⟩ = some (.slice A0_0 l0_0.length c0_0) := bc BK206 0
     have hcz33_1 : w12.cell? ⟨gb206, 1, none⟩ = some (.slice A0_1 l0_1.length c0_1) := bc BK206 1
     have hcz33_2 : w12.cell? ⟨gb206, 2, none⟩ = some (.slice A0_2 l0_2.length c0_2) := bc BK206 2
     have hcz33_3 : w12.cell? ⟨gb206, 3, none⟩ = some (.int .i64 a0_3) := bc BK206 3
     have hcz33_4 : w12.cell? ⟨gb206, 4, none⟩ = some (.bool a0_4) := bc BK206 4
     have hcz33_5 : w12.cell? ⟨gb206, 5, none⟩ = some (.int .i64 a0_5) := bc BK206 5
     have hcz33_6 : w12.cell? ⟨gb206, 6, none⟩ = some (.int .i64 a0_6) := bc BK206 6
     have hfz33_0 := bf BK206 0
     have hfz33_1 := bf BK206 1
     have hfz33_2 := bf BK206 2
     have hfz33_3 := bf BK206 3
     have hfz33_4 := bf BK206 4
     have hfz33_5 := bf BK206 5
     have hfz33_6 := bf BK206 6
     have hcz34_0 : w12.cell? ⟨gb207, 0, none⟩ = some (.slice A1_0 l1_0.length c1_0) := bc BK207 0
     have hcz34_1 : w12.cell? ⟨gb207, 1, none⟩ = some (.slice A1_1 l1_1.length c1_1) := bc BK207 1
     have hcz34_2 : w12.cell? ⟨gb207, 2, none⟩ = some (.slice A1_2 l1_2.length c1_2) := bc BK207 2
     have hcz34_3 : w12.cell? ⟨gb207, 3, none⟩ = some (.int .i64 a1_3) := bc BK207 3
     have hcz34_4 : w12.cell? ⟨gb207, 4, none⟩ = some (.bool a1_4) := bc BK207 4
     have hcz34_5 : w12.cell? ⟨gb207, 5, none⟩ = some (.int .i64 a1_5) := bc BK207 5
     have hcz34_6 : w12.cell? ⟨gb207, 6, none⟩ = some (.int .i64 a1_6) := bc BK207 6
     have hfz34_0 := bf BK207 0
     have hfz34_1 := bf BK207 1
     have hfz34_2 := bf BK207 2
     have hfz34_3 := bf BK207 3
     have hfz34_4 := bf BK207 4
     have hfz34_5 := bf BK207 5
     have hfz34_6 := bf BK207 6
     go_wp2_with (first | ((with_reducible refine gate_callee (f := 85) rfl ?_); refine goesL_ (some 15) rfl rfl Try.func85 (by kernel_rfl) rfl #[.slice A0_1 l0_1.length c0_1, .slice A1_1 l1_1.length c1_1] rfl gl ?_; (with_reducible refine (laws_eqInt64SS.calls k _ _ l0_1 _ _ l1_1 true _ ?side1 ?side2 ?side3 ?side4 A5.out).mono ?_); (case side1 => exact cc (Kd.C_below HR0_1.out HB.out)); (case side2 => exact HC0_1.out); (case side3 => exact cc (Kd.C_below HR1_1.out HB.out)); (case side4 => exact HC1_1.out); rintro e w' ⟨rfl, ⟨nd, rfl⟩⟩; refine ⟨_, rfl, ?_⟩) | ((with_reducible refine gate_callee (f := 21) rfl ?_); refine goesL_ (some 21) rfl rfl Try.func21 (by kernel_rfl) rfl #[.slice A0_2 l0_2.length c0_2, .slice A1_2 l1_2.length c1_2] rfl gl ?_; (with_reducible refine (laws_eqInt64S.calls k _ _ l0_2 _ _ l1_2 true _ ?side1 ?side2 ?side3 ?side4 A14.out).mono ?_); (case side1 => exact cc (Kd.C_below HR0_2.out (bw HB))); (case side2 => exact HC0_2.out); (case side3 => exact cc (Kd.C_below HR1_2.out (bw HB))); (case side4 => exact HC1_2.out); rintro e w' ⟨rfl, ⟨nd, rfl⟩⟩; refine ⟨_, rfl, ?_⟩))
     go_ret
     exact ⟨er, bw HB⟩
   ·replace c15 := Bool.eq_false_iff.mpr c15
    subst c15
    have H1 : (some false) = some r := by rw [if_neg (show ¬ (false = true) by decide)] at H; exact H
    clear H
    have H := H1
    clear H1
    obtain rfl := Option.some.inj H
    have hnb35 := NB206_207.out
    have hnc35 := NB207_206.out
    have hcz36_0 : w12.cell? ⟨gb206, 0, none⟩ = some (.slice A0_0 l0_0.length c0_0) := bc BK206 0
    have hcz36_1 : w12.cell? ⟨gb206, 1, none⟩ = some (.slice A0_1 l0_1.length c0_1) := bc BK206 1
    have hcz36_2 : w12.cell? ⟨gb206, 2, none⟩ = some (.slice A0_2 l0_2.length c0_2) := bc BK206 2
    have hcz36_3 : w12.cell? ⟨gb206, 3, none⟩ = some (.int .i64 a0_3) := bc BK206 3
    have hcz36_4 : w12.cell? ⟨gb206, 4, none⟩ = some (.bool a0_4) := bc BK206 4
    have hcz36_5 : w12.cell? ⟨gb206, 5, none⟩ = some (.int .i64 a0_5) := bc BK206 5
    have hcz36_6 : w12.cell? ⟨gb206, 6, none⟩ = some (.int .i64 a0_6) := bc BK206 6
    have hfz36_0 := bf BK206 0
    have hfz36_1 := bf BK206 1
    have hfz36_2 := bf BK206 2
    have hfz36_3 := bf BK206 3
    have hfz36_4 := bf BK206 4
    have hfz36_5 := bf BK206 5
    have hfz36_6 := bf BK206 6
    have hcz37_0 : w12.cell? ⟨gb207, 0, none⟩ = some (.slice A1_0 l1_0.length c1_0) := bc BK207 0
    have hcz37_1 : w12.cell? ⟨gb207, 1, none⟩ = some (.slice A1_1 l1_1.length c1_1) := bc BK207 1
    have hcz37_2 : w12.cell? ⟨gb207, 2, none⟩ = some (.slice A1_2 l1_2.length c1_2) := bc BK207 2
    have hcz37_3 : w12.cell? ⟨gb207, 3, none⟩ = some (.int .i64 a1_3) := bc BK207 3
    have hcz37_4 : w12.cell? ⟨gb207, 4, none⟩ = some (.bool a1_4) := bc BK207 4
    have hcz37_5 : w12.cell? ⟨gb207, 5, none⟩ = some (.int .i64 a1_5) := bc BK207 5
    have hcz37_6 : w12.cell? ⟨gb207, 6, none⟩ = some (.int .i64 a1_6) := bc BK207 6
    have hfz37_0 := bf BK207 0
    have hfz37_1 := bf BK207 1
    have hfz37_2 := bf BK207 2
    have hfz37_3 := bf BK207 3
    have hfz37_4 := bf BK207 4
    have hfz37_5 := bf BK207 5
    have hfz37_6 := bf BK207 6
    go_wp2_with (first | ((with_reducible refine gate_callee (f := 85) rfl ?_); refine goesL_ (some 15) rfl rfl Try.func85 (by kernel_rfl) rfl #[.slice A0_1 l0_1.length c0_1, .slice A1_1 l1_1.length c1_1] rfl gl ?_; (with_reducible refine (laws_eqInt64SS.calls k _ _ l0_1 _ _ l1_1 true _ ?side1 ?side2 ?side3 ?side4 A5.out).mono ?_); (case side1 => exact cc (Kd.C_below HR0_1.out HB.out)); (case side2 => exact HC0_1.out); (case side3 => exact cc (Kd.C_below HR1_1.out HB.out)); (case side4 => exact HC1_1.out); rintro e w' ⟨rfl, ⟨nd, rfl⟩⟩; refine ⟨_, rfl, ?_⟩) | ((with_reducible refine gate_callee (f := 21) rfl ?_); refine goesL_ (some 21) rfl rfl Try.func21 (by kernel_rfl) rfl #[.slice A0_2 l0_2.length c0_2, .slice A1_2 l1_2.length c1_2] rfl gl ?_; (with_reducible refine (laws_eqInt64S.calls k _ _ l0_2 _ _ l1_2 false _ ?side1 ?side2 ?side3 ?side4 A14.out).mono ?_); (case side1 => exact cc (Kd.C_below HR0_2.out (bw HB))); (case side2 => exact HC0_2.out); (case side3 => exact cc (Kd.C_below HR1_2.out (bw HB))); (case side4 => exact HC1_2.out); rintro e w' ⟨rfl, ⟨nd, rfl⟩⟩; refine ⟨_, rfl, ?_⟩))
    go_ret
    exact ⟨er, bw HB⟩
  ·replace c13 := Bool.eq_false_iff.mpr c13
   subst c13
   have H1 : (some false) = some r := by rw [if_neg (show ¬ (false = true) by decide)] at H; exact H
   clear H
   have H := H1
   clear H1
   obtain rfl := Option.some.inj H
   have hnb38 := NB206_207.out
   have hnc38 := NB207_206.out
   have hcz39_0 : w12.cell? ⟨gb206, 0, none⟩ = some (.slice A0_0 l0_0.length c0_0) := bc BK206 0
   have hcz39_1 : w12.cell? ⟨gb206, 1, none⟩ = some (.slice A0_1 l0_1.length c0_1) := bc BK206 1
   have hcz39_2 : w12.cell? ⟨gb206, 2, none⟩ = some (.slice A0_2 l0_2.length c0_2) := bc BK206 2
   have hcz39_3 : w12.cell? ⟨gb206, 3, none⟩ = some (.int .i64 a0_3) := bc BK206 3
   have hcz39_4 : w12.cell? ⟨gb206, 4, none⟩ = some (.bool a0_4) := bc BK206 4
   have hcz39_5 : w12.cell? ⟨gb206, 5, none⟩ = some (.int .i64 a0_5) := bc BK206 5
   have hcz39_6 : w12.cell? ⟨gb206, 6, none⟩ = some (.int .i64 a0_6) := bc BK206 6
   have hfz39_0 := bf BK206 0
   have hfz39_1 := bf BK206 1
   have hfz39_2 := bf BK206 2
   have hfz39_3 := bf BK206 3
   have hfz39_4 := bf BK206 4
   have hfz39_5 := bf BK206 5
   have hfz39_6 := bf BK206 6
   have hcz40_0 : w12.cell? ⟨gb207, 0, none⟩ = some (.slice A1_0 l1_0.length c1_0) := bc BK207 0
   have hcz40_1 : w12.cell? ⟨gb207, 1, none⟩ = some (.slice A1_1 l1_1.length c1_1) := bc BK207 1
   have hcz40_2 : w12.cell? ⟨gb207, 2, none⟩ = some (.slice A1_2 l1_2.length c1_2) := bc BK207 2
   have hcz40_3 : w12.cell? ⟨gb207, 3, none⟩ = some (.int .i64 a1_3) := bc BK207 3
   have hcz40_4 : w12.cell? ⟨gb207, 4, none⟩ = some (.bool a1_4) := bc BK207 4
   have hcz40_5 : w12.cell? ⟨gb207, 5, none⟩ = some (.int .i64 a1_5) := bc BK207 5
   have hcz40_6 : w12.cell? ⟨gb207, 6, none⟩ = some (.int .i64 a1_6) := bc BK207 6
   have hfz40_0 := bf BK207 0
   have hfz40_1 := bf BK207 1
   have hfz40_2 := bf BK207 2
   have hfz40_3 := bf BK207 3
   have hfz40_4 := bf BK207 4
   have hfz40_5 := bf BK207 5
   have hfz40_6 := bf BK207 6
   go_wp2_with (first | ((with_reducible refine gate_callee (f := 85) rfl ?_); refine goesL_ (some 15) rfl rfl Try.func85 (by kernel_rfl) rfl #[.slice A0_1 l0_1.length c0_1, .slice A1_1 l1_1.length c1_1] rfl gl ?_; (with_reducible refine (laws_eqInt64SS.calls k _ _ l0_1 _ _ l1_1 false _ ?side1 ?side2 ?side3 ?side4 A5.out).mono ?_); (case side1 => exact cc (Kd.C_below HR0_1.out HB.out)); (case side2 => exact HC0_1.out); (case side3 => exact cc (Kd.C_below HR1_1.out HB.out)); (case side4 => exact HC1_1.out); rintro e w' ⟨rfl, ⟨nd, rfl⟩⟩; refine ⟨_, rfl, ?_⟩))
   go_ret
   exact ⟨er, bw HB⟩
 ·replace c4 := Bool.eq_false_iff.mpr c4
  subst c4
  have H1 : (some false) = some r := by rw [if_neg (show ¬ (false = true) by decide)] at H; exact H
  clear H
  have H := H1
  clear H1
  obtain rfl := Option.some.inj H
  go_enter Try.func46, Try.ntmps46
  go_wp2_with (first | ((with_reducible refine gate_dst (N := 2) rfl ?_); refine box_event ?hg (N := 2) ?hd (cs := #[.slice A0_0 l0_0.length c0_0, .slice A0_1 l0_1.length c0_1, .slice A0_2 l0_2.length c0_2, .int .i64 a0_3, .bool a0_4, .int .i64 a0_5, .int .i64 a0_6]) (t := 67) ?hr ?_; (case hd => rfl); (case hg => rfl); (case hr => exact gs); intro gb206 hg w41 hbox hb; have BK206 := am (hbox); have GW206 := am ((by rw [hg]; exact (below_size (bw HB)) : w.heap.size ≤ gb206)); have GE206 := am ((by rw [hg]; exact (below_size (bw HB)) : w.heap.size ≤ gb206)); replace HB := am (below_step (bw HB) hb); clear hb hbox hg) | ((with_reducible refine gate_dst (N := 3) rfl ?_); refine box_event ?hg (N := 3) ?hd (cs := #[.slice A1_0 l1_0.length c1_0, .slice A1_1 l1_1.length c1_1, .slice A1_2 l1_2.length c1_2, .int .i64 a1_3, .bool a1_4, .int .i64 a1_5, .int .i64 a1_6]) (t := 67) ?hr ?_; (case hd => rfl); (case hg => rfl); (case hr => exact gs); intro gb207 hg w42 hbox hb; have BK207 := am (hbox); have GW207 := am ((by rw [hg]; exact (below_size (bw HB)) : w.heap.size ≤ gb207)); have GE207 := am ((by rw [hg]; exact (below_size (bw HB)) : w.heap.size ≤ gb207)); replace HB := am (below_step (bw HB) hb); have NB206_207 := am ((by rw [hg]; exact Nat.ne_of_lt (blk_lt (g := gb206) (o := .cells #[.slice A0_0 l0_0.length c0_0, .slice A0_1 l0_1.length c0_1, .slice A0_2 l0_2.length c0_2, .int .i64 a0_3, .bool a0_4, .int .i64 a0_5, .int .i64 a0_6] 67 (0, 0)) (bp BK206)) : gb206 ≠ gb207)); have NB207_206 := am ((by rw [hg]; exact Nat.ne_of_gt (blk_lt (g := gb206) (o := .cells #[.slice A0_0 l0_0.length c0_0, .slice A0_1 l0_1.length c0_1, .slice A0_2 l0_2.length c0_2, .int .i64 a0_3, .bool a0_4, .int .i64 a0_5, .int .i64 a0_6] 67 (0, 0)) (bp BK206)) : gb207 ≠ gb206)); replace BK206 := am (blk_below (g := gb206) (o := .cells #[.slice A0_0 l0_0.length c0_0, .slice A0_1 l0_1.length c0_1, .slice A0_2 l0_2.length c0_2, .int .i64 a0_3, .bool a0_4, .int .i64 a0_5, .int .i64 a0_6] 67 (0, 0)) (bp BK206) hb); clear hb hbox hg; have hnb43 := NB206_207.out; have hnc43 := NB207_206.out; have hcz44_0 : w42.cell? ⟨gb206, 0, none⟩ = some (.slice A0_0 l0_0.length c0_0) := bc BK206 0; have hcz44_1 : w42.cell? ⟨gb206, 1, none⟩ = some (.slice A0_1 l0_1.length c0_1) := bc BK206 1; have hcz44_2 : w42.cell? ⟨gb206, 2, none⟩ = some (.slice A0_2 l0_2.length c0_2) := bc BK206 2; have hcz44_3 : w42.cell? ⟨gb206, 3, none⟩ = some (.int .i64 a0_3) := bc BK206 3; have hcz44_4 : w42.cell? ⟨gb206, 4, none⟩ = some (.bool a0_4) := bc BK206 4; have hcz44_5 : w42.cell? ⟨gb206, 5, none⟩ = some (.int .i64 a0_5) := bc BK206 5; have hcz44_6 : w42.cell? ⟨gb206, 6, none⟩ = some (.int .i64 a0_6) := bc BK206 6; have hfz44_0 := bf BK206 0; have hfz44_1 := bf BK206 1; have hfz44_2 := bf BK206 2; have hfz44_3 := bf BK206 3; have hfz44_4 := bf BK206 4; have hfz44_5 := bf BK206 5; have hfz44_6 := bf BK206 6; have hcz45_0 : w42.cell? ⟨gb207, 0, none⟩ = some (.slice A1_0 l1_0.length c1_0) := bc BK207 0; have hcz45_1 : w42.cell? ⟨gb207, 1, none⟩ = some (.slice A1_1 l1_1.length c1_1) := bc BK207 1; have hcz45_2 : w42.cell? ⟨gb207, 2, none⟩ = some (.slice A1_2 l1_2.length c1_2) := bc BK207 2; have hcz45_3 : w42.cell? ⟨gb207, 3, none⟩ = some (.int .i64 a1_3) := bc BK207 3; have hcz45_4 : w42.cell? ⟨gb207, 4, none⟩ = some (.bool a1_4) := bc BK207 4; have hcz45_5 : w42.cell? ⟨gb207, 5, none⟩ = some (.int .i64 a1_5) := bc BK207 5; have hcz45_6 : w42.cell? ⟨gb207, 6, none⟩ = some (.int .i64 a1_6) := bc BK207 6; have hfz45_0 := bf BK207 0; have hfz45_1 := bf BK207 1; have hfz45_2 := bf BK207 2; have hfz45_3 := bf BK207 3; have hfz45_4 := bf BK207 4; have hfz45_5 := bf BK207 5; have hfz45_6 := bf BK207 6) | ((with_reducible refine gate_callee (f := 84) rfl ?_); refine goesL_ (some 9) rfl rfl Try.func84 (by kernel_rfl) rfl #[.slice A0_0 l0_0.length c0_0, .slice A1_0 l1_0.length c1_0] rfl gl ?_; (with_reducible refine (laws_eqFrameS.calls k _ _ l0_0 _ _ l1_0 false _ ?side1 ?side2 ?side3 ?side4 A3.out).mono ?_); (case side1 => exact cc (Kd.C_below HR0_0.out HB.out)); (case side2 => exact HC0_0.out); (case side3 => exact cc (Kd.C_below HR1_0.out HB.out)); (case side4 => exact HC1_0.out); rintro e w46 ⟨rfl, hb⟩; refine ⟨_, rfl, ?_⟩; replace BK206 := am (blk_below (g := gb206) (o := .cells #[.slice A0_0 l0_0.length c0_0, .slice A0_1 l0_1.length c0_1, .slice A0_2 l0_2.length c0_2, .int .i64 a0_3, .bool a0_4, .int .i64 a0_5, .int .i64 a0_6] 67 (0, 0)) (bp BK206) hb); replace BK207 := am (blk_below (g := gb207) (o := .cells #[.slice A1_0 l1_0.length c1_0, .slice A1_1 l1_1.length c1_1, .slice A1_2 l1_2.length c1_2, .int .i64 a1_3, .bool a1_4, .int .i64 a1_5, .int .i64 a1_6] 67 (0, 0)) (bp BK207) hb); replace HB := am (below_step (bw HB) hb); (try clear hb); (try clear hb2); (try clear hk); (try clear hi)))
  go_ret
  exact ⟨er, bw HB⟩

end Go.Proofs.Ytkmohnlkldkhdaa.QFnExactStateSame
