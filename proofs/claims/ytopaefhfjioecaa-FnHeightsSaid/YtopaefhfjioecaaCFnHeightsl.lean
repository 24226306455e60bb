/- FnHeights: the law's walk, over what its callees answer. No condition. -/
import Derived.Test.YtopaefhfjioecaaCFnHeightsg6
import Derived.Test.YtopaefhfjioecaaCFnHeightsx
import Derived.Deep.RegionHeld3
namespace Go.Proofs.Ytopaefhfjioecaa.QFnHeights
open Go.RowKit Go.Proofs.YtopaefhfjioecaaW.PrintWords Go.Proofs.YtopaefhfjioecaaW.PrintLast Go.Proofs.YtopaefhfjioecaaW.PrintMore
attribute [local go_sem] max2_int min2_int max_two min_two max_three min_three max_four min_four
set_option linter.unusedVariables false
set_option linter.unusedSimpArgs false
/-- What the law asks of a drawn program. -/
def LawH (P : List S35) (f : Int) (k : Nat) (w1 w2 w3 : Int) (h hd : List Int) : Prop :=
 (spec_Verify.f k P = some (w1, w2, w3) ∧ impl_Verify.f k P = some (w1, w2, w3) ∧ impl_Heights.f k P f = some h ∧ impl_Headers.f k P f = some hd) ∧
 (w3 ≠ 0 ∨ f < 0 ∨ (P.length : Int) ≤ f → h = [] ∧ hd = []) ∧
 (w3 = 0 → 0 ≤ f → f < (P.length : Int) → (h.length = (rd_T35 P f).f2.length ∧ 0 < h.length ∧ h.length ≤ 1048577 ∧ rd h 0 = 0 ∧ ∀ a : Int, -1 ≤ rd h a ∧ rd h a ≤ 8) ∧
  (∀ a : Int, 0 ≤ a → a < (h.length : Int) → 0 ≤ rd h a → ∃ tk pt : Int, impl_Takes.f k P (rd_T38 (rd_T35 P f).f2 a).f0 (rd_T38 (rd_T35 P f).f2 a).f1 = some tk ∧ impl_Puts.f k (rd_T38 (rd_T35 P f).f2 a).f0 (rd_T38 (rd_T35 P f).f2 a).f1 = some pt ∧ (0 ≤ tk ∧ tk ≤ rd h a ∧ 0 ≤ pt ∧ rd h a - tk + pt ≤ 8) ∧
   ((rd_T38 (rd_T35 P f).f2 a).f0 ≠ 30 → (rd_T38 (rd_T35 P f).f2 a).f0 ≠ 33 → a + 1 < (h.length : Int) ∧ rd h (a + 1) = rd h a - tk + pt) ∧
   ((rd_T38 (rd_T35 P f).f2 a).f0 = 30 ∨ (rd_T38 (rd_T35 P f).f2 a).f0 = 31 → 0 ≤ (rd_T38 (rd_T35 P f).f2 a).f1 ∧ (rd_T38 (rd_T35 P f).f2 a).f1 < (h.length : Int) ∧ rd h (rd_T38 (rd_T35 P f).f2 a).f1 = rd h a - tk + pt)) ∧
  hd.length ≤ 1048577 ∧ ∀ j : Int, 0 ≤ j → j < (hd.length : Int) → 0 ≤ rd hd j ∧ rd hd j < (h.length : Int) ∧ 0 ≤ rd h (rd hd j) ∧ (0 < j → rd hd (j - 1) < rd hd j))
theorem R_at {w : World} {base : Nat} {ok : Nat → Prop} {g n c : Nat} {h : List Int} (hR : Kd.R (Kd.int .i64) 2 w base ok (.slice (some ⟨g, 0, none⟩) n c) h) (a : Int) (h0 : 0 ≤ a) (h1 : a < (h.length : Int)) : w.cell? ⟨g, a.toNat, none⟩ = some (.int .i64 (rd h a)) := by
 obtain ⟨hn, _, hC⟩ := Kd.R_reads' hR
 obtain ⟨ad, ea, hx⟩ := Kd.at_int hC a h0 (by omega)
 injection ea with ea
 subst ea
 rw [add_plain] at hx
 exact hx
set_option maxHeartbeats 8000000 in
set_option maxRecDepth 100000 in
theorem law_rel {A0 : Option Addr} {c0 : Nat} {l0 : List Int} {w : World} (hr0 : Kd.C (Kd.int .u8) w A0 l0.length l0) (hc0 : l0.length ≤ c0) (hL : ∀ P f, GoodP P → in64 f → ∃ (k : Nat) (w1 w2 w3 : Int) (h hd : List Int), LawH P f k w1 w2 w3 h hd) :
  Calls Try.prog 3 #[.slice A0 l0.length c0] w fun e w' => e = .returned (.bool true) ∧ Below w.heap.size w w' := by
 have HR := Aside0.mk hr0
 have HC := Aside0.mk hc0
 have HQ := Aside0.mk hL
 clear hr0 hc0 hL
 go_enter Try.func3, Try.ntmps3
 by_cases hlen : (1048576 : Int) < (l0.length : Int)
 · have hld : decide ((1048576 : Int) < (l0.length : Int)) = true := decide_eq_true hlen
   go_wp2
   go_ret
   exact ⟨rfl, Below.refl _ _⟩
 have hld : decide ((1048576 : Int) < (l0.length : Int)) = false := decide_eq_false hlen
 have HN := Aside0.mk (show l0.length ≤ 1048576 by omega)
 clear hlen
 go_wp2_with (first | ((with_reducible refine gate_callee (f := 8) rfl ?_); refine goesL_ _ rfl rfl Try.func8 (by kernel_rfl) rfl #[.slice A0 l0.length c0] rfl gl ?_; refine (draw_rel HR.out HC.out HN.out).mono ?_; rintro e w5 ⟨u, P, f, rfl, hf, hu, hP, hb⟩; refine ⟨_, rfl, ?_⟩; obtain ⟨Au, cu, eu⟩ := Kd.R_slice hu; subst eu; obtain ⟨k, w1, w2, w3_, h, hd, hH⟩ := HQ.out P f hP hf; have HH := Aside0.mk hH; have HU := Aside0.mk (Kd.R_alloc hu (.cells #[.slice Au P.length cu] 25)); have HB := Aside0.mk (below_alloc hb (.cells #[.slice Au P.length cu] 25)); have HZ := Aside0.mk (heap_alloc_new w5 (.cells #[.slice Au P.length cu] 25)); have hz := (blk_cell HZ.out 0).trans rfl; clear HR HC HQ HN hf hu hP hb hH) | ((with_reducible refine gate_callee (f := 9) rfl ?_); refine goesL_ _ rfl rfl Try.func9 (by kernel_rfl) rfl #[.agg #[.slice Au P.length cu]] rfl gl ?_; refine (spec_Verify.calls k Au cu P w1 w2 w3_ _ (Kd.R_reads' HU.out).2.2 (Kd.R_reads' HU.out).2.1 HH.out.1.1).mono ?_; rintro e w6 ⟨rfl, hb⟩; refine ⟨_, rfl, ?_⟩; have n0_ := Aside0.mk (below_alloc (below_step HB.out hb) (.cells #[.int .i64 w1, .int .i64 w2, .int .i64 w3_] 29)); have n1_ := Aside0.mk (blk_alloc (blk_below HZ.out hb) (.cells #[.int .i64 w1, .int .i64 w2, .int .i64 w3_] 29)); have n2_ := Aside0.mk (Kd.R_alloc (Kd.R_below HU.out hb) (.cells #[.int .i64 w1, .int .i64 w2, .int .i64 w3_] 29)); have HW := Aside0.mk (heap_alloc_new w6 (.cells #[.int .i64 w1, .int .i64 w2, .int .i64 w3_] 29)); clear HB HZ HU hb hz; have HB := n0_; have HZ := n1_; have HU := n2_; clear n0_ n1_ n2_))
 have n0_ := Aside0.mk (below_drew1 HB.out)
 have n1_ := Aside0.mk (blk_drew HZ.out)
 have n2_ := Aside0.mk (Kd.R_drew HU.out)
 have n3_ := Aside0.mk (blk_drew HW.out)
 clear HB HZ HU HW
 have HB := n0_
 have HZ := n1_
 have HU := n2_
 have HW := n3_
 clear n0_ n1_ n2_ n3_
 go_region_held3 (fun w' => w'.cell? ⟨w5.heap.size, 0, none⟩ = some (.slice Au P.length cu) ∧ w'.cell? ⟨w6.heap.size, 0, none⟩ = some (.int .i64 w1) ∧ w'.cell? ⟨w6.heap.size, 1, none⟩ = some (.int .i64 w2) ∧ w'.cell? ⟨w6.heap.size, 2, none⟩ = some (.int .i64 w3_)) (exact ⟨(blk_cell HZ.out 0).trans rfl, (blk_cell HW.out 0).trans rfl, (blk_cell HW.out 1).trans rfl, (blk_cell HW.out 2).trans rfl⟩) (first | (go_at_call 10; refine (impl_Verify.calls k Au cu P w1 w2 w3_ _ (Kd.R_reads' HU.out).2.2 (Kd.R_reads' HU.out).2.1 HH.out.1.2.1).mono ?_; rintro e w7 ⟨rfl, hb⟩; have n0_ := Aside0.mk (below_step HB.out hb); have n1_ := Aside0.mk (blk_below HZ.out hb); have n2_ := Aside0.mk (Kd.R_below HU.out hb); have n3_ := Aside0.mk (blk_below HW.out hb); clear HB HZ HU HW hb; have HB := n0_; have HZ := n1_; have HU := n2_; have HW := n3_; clear n0_ n1_ n2_ n3_))
 have hz : w7.cell? ⟨w5.heap.size, 0, none⟩ = some (.slice Au P.length cu) := (blk_cell HZ.out 0).trans rfl
 have hA := HH.out.2.1
 have hG := HH.out.2.2
 have HA := Aside0.mk HH.out.1
 clear HH
 by_cases hw3 : w3_ = 0
 case neg =>
  obtain ⟨rfl, rfl⟩ := hA (.inl hw3)
  clear hA hG
  have hw3b : (w3_ != 0) = true := bne_iff_ne.mpr hw3
  go_wp2_with (first | ((with_reducible refine gate_callee (f := 11) rfl ?_); refine goesL_ _ rfl rfl Try.func11 (by kernel_rfl) rfl #[.agg #[.slice Au P.length cu], .int .i64 f] rfl gl ?_; refine (impl_Heights.calls k Au cu P f _ _ (Kd.R_reads' HU.out).2.2 (Kd.R_reads' HU.out).2.1 HA.out.2.2.1).mono ?_; rintro e w8 ⟨v8, rfl, hv, hb⟩; refine ⟨_, rfl, ?_⟩; have hbs := below_size HB.out; have n0_ := Aside0.mk (below_step HB.out hb); have n1_ := Aside0.mk (blk_below HZ.out hb); have n2_ := Aside0.mk (Kd.R_below HU.out hb); have n3_ := Aside0.mk (blk_below HW.out hb); clear HB HZ HU HW hb; have HB := n0_; have HZ := n1_; have HU := n2_; have HW := n3_; clear n0_ n1_ n2_ n3_; have HV := Aside0.mk (Kd.R_lower hv hbs); clear hbs; obtain ⟨Ah, ch, eh⟩ := Kd.R_slice hv; subst eh; clear hv hz; have hz := (blk_cell HZ.out 0).trans rfl; have hw2 := (blk_cell HW.out 2).trans rfl) | ((with_reducible refine gate_callee (f := 12) rfl ?_); refine goesL_ _ rfl rfl Try.func12 (by kernel_rfl) rfl #[.agg #[.slice Au P.length cu], .int .i64 f] rfl gl ?_; refine (impl_Headers.calls k Au cu P f _ _ (Kd.R_reads' HU.out).2.2 (Kd.R_reads' HU.out).2.1 HA.out.2.2.2).mono ?_; rintro e w9 ⟨v9, rfl, hv, hb⟩; refine ⟨_, rfl, ?_⟩; have hbs := below_size HB.out; have n0_ := Aside0.mk (below_step HB.out hb); have n1_ := Aside0.mk (blk_below HZ.out hb); have n2_ := Aside0.mk (Kd.R_below HU.out hb); have n3_ := Aside0.mk (blk_below HW.out hb); clear HB HZ HU HW hb; have HB := n0_; have HZ := n1_; have HU := n2_; have HW := n3_; clear n0_ n1_ n2_ n3_; have HVd := Aside0.mk (Kd.R_lower hv hbs); clear hbs; obtain ⟨Ad, cd, ed⟩ := Kd.R_slice hv; subst ed; clear hv hz hw2; have hz := (blk_cell HZ.out 0).trans rfl; have hw2 := (blk_cell HW.out 2).trans rfl) | ((refine gate_guard (by rfl) ?_); (with_reducible refine gate_callee (f := 12) rfl ?_); refine goesL_ _ rfl rfl Try.func12 (by kernel_rfl) rfl #[.agg #[.slice Au P.length cu], .int .i64 f] rfl gl ?_; refine (impl_Headers.calls k Au cu P f _ _ (Kd.R_reads' HU.out).2.2 (Kd.R_reads' HU.out).2.1 HA.out.2.2.2).mono ?_; rintro e w9 ⟨v9, rfl, hv, hb⟩; refine ⟨_, rfl, ?_⟩; have hbs := below_size HB.out; have n0_ := Aside0.mk (below_step HB.out hb); have n1_ := Aside0.mk (blk_below HZ.out hb); have n2_ := Aside0.mk (Kd.R_below HU.out hb); have n3_ := Aside0.mk (blk_below HW.out hb); clear HB HZ HU HW hb; have HB := n0_; have HZ := n1_; have HU := n2_; have HW := n3_; clear n0_ n1_ n2_ n3_; have HVd := Aside0.mk (Kd.R_lower hv hbs); clear hbs; obtain ⟨Ad, cd, ed⟩ := Kd.R_slice hv; subst ed; clear hv hz hw2; have hz := (blk_cell HZ.out 0).trans rfl; have hw2 := (blk_cell HW.out 2).trans rfl))
  go_ret
  exact ⟨rfl, HB.out⟩
 by_cases hf0 : f < 0
 case pos =>
  obtain ⟨rfl, rfl⟩ := hA (.inr (.inl hf0))
  clear hA hG
  have hw3b : (w3_ != 0) = false := bne_eq_false_iff_eq.mpr hw3
  have hf0d : decide (f < 0) = true := decide_eq_true hf0
  go_wp2_with (first | ((with_reducible refine gate_callee (f := 11) rfl ?_); refine goesL_ _ rfl rfl Try.func11 (by kernel_rfl) rfl #[.agg #[.slice Au P.length cu], .int .i64 f] rfl gl ?_; refine (impl_Heights.calls k Au cu P f _ _ (Kd.R_reads' HU.out).2.2 (Kd.R_reads' HU.out).2.1 HA.out.2.2.1).mono ?_; rintro e w8 ⟨v8, rfl, hv, hb⟩; refine ⟨_, rfl, ?_⟩; have hbs := below_size HB.out; have n0_ := Aside0.mk (below_step HB.out hb); have n1_ := Aside0.mk (blk_below HZ.out hb); have n2_ := Aside0.mk (Kd.R_below HU.out hb); have n3_ := Aside0.mk (blk_below HW.out hb); clear HB HZ HU HW hb; have HB := n0_; have HZ := n1_; have HU := n2_; have HW := n3_; clear n0_ n1_ n2_ n3_; have HV := Aside0.mk (Kd.R_lower hv hbs); clear hbs; obtain ⟨Ah, ch, eh⟩ := Kd.R_slice hv; subst eh; clear hv hz; have hz := (blk_cell HZ.out 0).trans rfl; have hw2 := (blk_cell HW.out 2).trans rfl) | ((with_reducible refine gate_callee (f := 12) rfl ?_); refine goesL_ _ rfl rfl Try.func12 (by kernel_rfl) rfl #[.agg #[.slice Au P.length cu], .int .i64 f] rfl gl ?_; refine (impl_Headers.calls k Au cu P f _ _ (Kd.R_reads' HU.out).2.2 (Kd.R_reads' HU.out).2.1 HA.out.2.2.2).mono ?_; rintro e w9 ⟨v9, rfl, hv, hb⟩; refine ⟨_, rfl, ?_⟩; have hbs := below_size HB.out; have n0_ := Aside0.mk (below_step HB.out hb); have n1_ := Aside0.mk (blk_below HZ.out hb); have n2_ := Aside0.mk (Kd.R_below HU.out hb); have n3_ := Aside0.mk (blk_below HW.out hb); clear HB HZ HU HW hb; have HB := n0_; have HZ := n1_; have HU := n2_; have HW := n3_; clear n0_ n1_ n2_ n3_; have HVd := Aside0.mk (Kd.R_lower hv hbs); clear hbs; obtain ⟨Ad, cd, ed⟩ := Kd.R_slice hv; subst ed; clear hv hz hw2; have hz := (blk_cell HZ.out 0).trans rfl; have hw2 := (blk_cell HW.out 2).trans rfl) | ((refine gate_guard (by rfl) ?_); (with_reducible refine gate_callee (f := 12) rfl ?_); refine goesL_ _ rfl rfl Try.func12 (by kernel_rfl) rfl #[.agg #[.slice Au P.length cu], .int .i64 f] rfl gl ?_; refine (impl_Headers.calls k Au cu P f _ _ (Kd.R_reads' HU.out).2.2 (Kd.R_reads' HU.out).2.1 HA.out.2.2.2).mono ?_; rintro e w9 ⟨v9, rfl, hv, hb⟩; refine ⟨_, rfl, ?_⟩; have hbs := below_size HB.out; have n0_ := Aside0.mk (below_step HB.out hb); have n1_ := Aside0.mk (blk_below HZ.out hb); have n2_ := Aside0.mk (Kd.R_below HU.out hb); have n3_ := Aside0.mk (blk_below HW.out hb); clear HB HZ HU HW hb; have HB := n0_; have HZ := n1_; have HU := n2_; have HW := n3_; clear n0_ n1_ n2_ n3_; have HVd := Aside0.mk (Kd.R_lower hv hbs); clear hbs; obtain ⟨Ad, cd, ed⟩ := Kd.R_slice hv; subst ed; clear hv hz hw2; have hz := (blk_cell HZ.out 0).trans rfl; have hw2 := (blk_cell HW.out 2).trans rfl))
  go_ret
  exact ⟨rfl, HB.out⟩
 have hf0d : decide (f < 0) = false := decide_eq_false hf0
 have hw3b : (w3_ != 0) = false := bne_eq_false_iff_eq.mpr hw3
 by_cases hf1 : (P.length : Int) ≤ f
 case pos =>
  obtain ⟨rfl, rfl⟩ := hA (.inr (.inr hf1))
  clear hA hG
  have hf1d : decide ((P.length : Int) ≤ f) = true := decide_eq_true hf1
  go_wp2_with (first | ((with_reducible refine gate_callee (f := 11) rfl ?_); refine goesL_ _ rfl rfl Try.func11 (by kernel_rfl) rfl #[.agg #[.slice Au P.length cu], .int .i64 f] rfl gl ?_; refine (impl_Heights.calls k Au cu P f _ _ (Kd.R_reads' HU.out).2.2 (Kd.R_reads' HU.out).2.1 HA.out.2.2.1).mono ?_; rintro e w8 ⟨v8, rfl, hv, hb⟩; refine ⟨_, rfl, ?_⟩; have hbs := below_size HB.out; have n0_ := Aside0.mk (below_step HB.out hb); have n1_ := Aside0.mk (blk_below HZ.out hb); have n2_ := Aside0.mk (Kd.R_below HU.out hb); have n3_ := Aside0.mk (blk_below HW.out hb); clear HB HZ HU HW hb; have HB := n0_; have HZ := n1_; have HU := n2_; have HW := n3_; clear n0_ n1_ n2_ n3_; have HV := Aside0.mk (Kd.R_lower hv hbs); clear hbs; obtain ⟨Ah, ch, eh⟩ := Kd.R_slice hv; subst eh; clear hv hz; have hz := (blk_cell HZ.out 0).trans rfl; have hw2 := (blk_cell HW.out 2).trans rfl) | ((with_reducible refine gate_callee (f := 12) rfl ?_); refine goesL_ _ rfl rfl Try.func12 (by kernel_rfl) rfl #[.agg #[.slice Au P.length cu], .int .i64 f] rfl gl ?_; refine (impl_Headers.calls k Au cu P f _ _ (Kd.R_reads' HU.out).2.2 (Kd.R_reads' HU.out).2.1 HA.out.2.2.2).mono ?_; rintro e w9 ⟨v9, rfl, hv, hb⟩; refine ⟨_, rfl, ?_⟩; have hbs := below_size HB.out; have n0_ := Aside0.mk (below_step HB.out hb); have n1_ := Aside0.mk (blk_below HZ.out hb); have n2_ := Aside0.mk (Kd.R_below HU.out hb); have n3_ := Aside0.mk (blk_below HW.out hb); clear HB HZ HU HW hb; have HB := n0_; have HZ := n1_; have HU := n2_; have HW := n3_; clear n0_ n1_ n2_ n3_; have HVd := Aside0.mk (Kd.R_lower hv hbs); clear hbs; obtain ⟨Ad, cd, ed⟩ := Kd.R_slice hv; subst ed; clear hv hz hw2; have hz := (blk_cell HZ.out 0).trans rfl; have hw2 := (blk_cell HW.out 2).trans rfl) | ((refine gate_guard (by rfl) ?_); (with_reducible refine gate_callee (f := 12) rfl ?_); refine goesL_ _ rfl rfl Try.func12 (by kernel_rfl) rfl #[.agg #[.slice Au P.length cu], .int .i64 f] rfl gl ?_; refine (impl_Headers.calls k Au cu P f _ _ (Kd.R_reads' HU.out).2.2 (Kd.R_reads' HU.out).2.1 HA.out.2.2.2).mono ?_; rintro e w9 ⟨v9, rfl, hv, hb⟩; refine ⟨_, rfl, ?_⟩; have hbs := below_size HB.out; have n0_ := Aside0.mk (below_step HB.out hb); have n1_ := Aside0.mk (blk_below HZ.out hb); have n2_ := Aside0.mk (Kd.R_below HU.out hb); have n3_ := Aside0.mk (blk_below HW.out hb); clear HB HZ HU HW hb; have HB := n0_; have HZ := n1_; have HU := n2_; have HW := n3_; clear n0_ n1_ n2_ n3_; have HVd := Aside0.mk (Kd.R_lower hv hbs); clear hbs; obtain ⟨Ad, cd, ed⟩ := Kd.R_slice hv; subst ed; clear hv hz hw2; have hz := (blk_cell HZ.out 0).trans rfl; have hw2 := (blk_cell HW.out 2).trans rfl))
  go_ret
  exact ⟨rfl, HB.out⟩
 have hf1d : decide ((P.length : Int) ≤ f) = false := decide_eq_false hf1
 clear hA
 subst hw3
 have hfa : 0 ≤ f := by omega
 have hfb : f < (P.length : Int) := by omega
 obtain ⟨⟨hl0, hl1, hl2, hr0, hr8⟩, hstep, hdl, hheads⟩ := hG rfl hfa hfb
 clear hG
 have q0 := eq_true hfa
 have q1 := eq_true hfb
 have HCN := Aside0.mk (show (h.length : Int) ≤ 1048577 by omega)
 clear hl2
 have HS := Aside0.mk (And.intro hl0 (And.intro hl1 (And.intro hr8 (And.intro hstep (And.intro hdl hheads)))))
 clear hr8 hstep hdl hheads
 have hlI : (h.length : Int) = ((rd_T35 P f).f2.length : Int) := by omega
 have hlP : (0 : Int) < (h.length : Int) := by omega
 have q2 := eq_true hlP
 generalize hc : (rd_T35 P f).f2 = c at HS hl0 hlI
 go_wp2_with (first | ((with_reducible refine gate_callee (f := 11) rfl ?_); refine goesL_ _ rfl rfl Try.func11 (by kernel_rfl) rfl #[.agg #[.slice Au P.length cu], .int .i64 f] rfl gl ?_; refine (impl_Heights.calls k Au cu P f _ _ (Kd.R_reads' HU.out).2.2 (Kd.R_reads' HU.out).2.1 HA.out.2.2.1).mono ?_; rintro e w8 ⟨v8, rfl, hv, hb⟩; refine ⟨_, rfl, ?_⟩; have hbs := below_size HB.out; have n0_ := Aside0.mk (below_step HB.out hb); have n1_ := Aside0.mk (blk_below HZ.out hb); have n2_ := Aside0.mk (Kd.R_below HU.out hb); have n3_ := Aside0.mk (blk_below HW.out hb); clear HB HZ HU HW hb; have HB := n0_; have HZ := n1_; have HU := n2_; have HW := n3_; clear n0_ n1_ n2_ n3_; have HV := Aside0.mk (Kd.R_lower hv hbs); clear hbs; obtain ⟨Ah, ch, eh⟩ := Kd.R_slice hv; subst eh; clear hv hz; have hz := (blk_cell HZ.out 0).trans rfl; have hw2 := (blk_cell HW.out 2).trans rfl; obtain ⟨adP, A2, c2, eP, _, _, hP2, hcap, hCc⟩ := at_T35 (Kd.R_reads' HU.out).2.2 f hfa hfb; subst eP; rw [hc] at hP2 hcap hCc; obtain ⟨ad2, _, e2, _⟩ := Kd.C_get hCc z38 0 (by omega) (by omega); subst e2; obtain ⟨adh, eh, hh0⟩ := Kd.at_int (Kd.R_reads' HV.out).2.2 0 (by omega) (by omega); subst eh; obtain ⟨gh, egh⟩ := Kd.R_head HV.out; subst egh; rw [hr0, add_plain] at hh0; have hh0_ : w8.cell? ⟨gh, 0, none⟩ = some (.int .i64 0) := hh0; clear hh0; have HCc := Aside0.mk hCc; clear hCc hcap))
 go_loopg [8] c.length (fun kq v8 w' => ∃ a : Int, v8 = .int .i64 a ∧ Aside0 (0 ≤ a ∧ a ≤ (c.length : Int) ∧ (c.length : Int) ≤ a + kq) ∧ Aside0 (Below w.heap.size w w') ∧ Aside0 (w'.heap[w5.heap.size]? = some (.cells #[.slice (some adP) P.length cu] 25 (0, 0))) ∧ Aside0 (Kd.R k35 35 w' w.heap.size (fun _ => True) (.slice (some adP) P.length cu) P) ∧ Aside0 (Kd.R (Kd.int .i64) 2 w' w.heap.size (fun _ => True) (.slice (some ⟨gh, 0, none⟩) h.length ch) h) ∧ Aside0 (k38.C w' (some ad2) c.length c))
 case atStart => exact ⟨0, rfl, ⟨by omega⟩, HB, HZ, HU, HV, HCc⟩
 case round =>
  clear HB HZ HU HV HCc HW hz hw2 hh0_ hP2
  obtain ⟨a, rfl, HK, HB, HZ, HU, HV, HCc⟩ := hrel
  by_cases ha : a < (c.length : Int)
  · have had : decide (a < (c.length : Int)) = true := decide_eq_true ha
    obtain ⟨kk, hkk⟩ : ∃ kk, gk = kk + 1 := ⟨gk - 1, by have := HK.out; omega⟩
    subst hkk
    have ha0 : 0 ≤ a := HK.out.1
    have hcn := HCN.out
    have p0 := eq_true ha0
    have p1 := eq_true ha
    have hh := R_at HV.out a ha0 (by omega)
    by_cases hneg : rd h a < 0
    · have hnd : decide (rd h a < 0) = true := decide_eq_true hneg
      clear hcn
      go_wp2
      go_roundg kk
      case measure => omega
      case rel => exact ⟨a + 1, by first | rfl | (have := HK.out; have := HCN.out; simp [wrap_in (n := a + 1) (by omega) (by omega)]; done), ⟨by have := HK.out; omega⟩, HB, HZ, HU, HV, HCc⟩
    have hnd : decide (rd h a < 0) = false := decide_eq_false hneg
    obtain ⟨tk, pt, et, ep, hb4, hfl, hju⟩ := HS.out.2.2.2.1 a ha0 (by omega) (by omega)
    obtain ⟨ad3, ea3, hx0, hx1⟩ := at_T38 HCc.out a ha0 ha
    cases ea3
    have hz : wr.cell? ⟨w5.heap.size, 0, none⟩ = some (.slice (some adP) P.length cu) := (blk_cell HZ.out 0).trans rfl
    generalize hcx : rd_T38 c a = x at et ep hfl hju hx0 hx1
    have hr8 := HS.out.2.2.1 a
    have hwr : IntKind.i64.wrap (rd h a - tk) = rd h a - tk := by rw [i64_w]; exact wrap_in (by omega) (by omega)
    go_wp2
    have HC3 := Aside0.mk (And.intro (Kd.R_reads' (Kd.R_drew HU.out)).2.1 (Kd.R_reads' (Kd.R_drew HU.out)).2.2)
    go_region_held3 (fun w' => w'.cell? ⟨gh, a.toNat, none⟩ = some (.int .i64 (rd h a)) ∧ w'.cell? ⟨w5.heap.size, 0, none⟩ = some (.slice (some adP) P.length cu) ∧ w'.cell? (ad2.add (a.toNat * 2)) = some (.int .i64 x.f0) ∧ w'.cell? ⟨(ad2.add (a.toNat * 2)).block, (ad2.add (a.toNat * 2)).off + 1, none⟩ = some (.int .i64 x.f1)) (first | exact ⟨hh, hz, hx0, hx1⟩ | exact ⟨pw_cell_below (w := wr.drew) HK9.out hh, pw_cell_below (w := wr.drew) HK9.out hz, pw_cell_below (w := wr.drew) HK9.out hx0, pw_cell_below (w := wr.drew) HK9.out hx1⟩) (first | (go_at_call 13; refine (impl_Takes.calls k (some adP) cu P x.f0 x.f1 tk _ HC3.out.2 HC3.out.1 et).mono ?_; rintro e w9 ⟨rfl, hb⟩; have HK9 := Aside0.mk hb; clear hb))
    have n0_ := Aside0.mk (below_step (below_drew1 HB.out) HK9.out)
    have n1_ := Aside0.mk (blk_below (blk_drew HZ.out) HK9.out)
    have n2_ := Aside0.mk (Kd.R_below (Kd.R_drew HU.out) HK9.out)
    have n3_ := Aside0.mk (Kd.R_below (Kd.R_drew HV.out) HK9.out)
    have n4_ := Aside0.mk (Kd.C_below (Kd.C_drew HCc.out) HK9.out)
    have n5_ := pw_cell_below (w := wr.drew) HK9.out hx0
    have n6_ := pw_cell_below (w := wr.drew) HK9.out hx1
    clear HB HZ HU HV HCc hh hz hx0 hx1 HK9 HC3 hwr
    have HB := n0_
    have HZ := n1_
    have HU := n2_
    have HV := n3_
    have HCc := n4_
    have hx0 := n5_
    have hx1 := n6_
    clear n0_ n1_ n2_ n3_ n4_ n5_ n6_
    go_upto_region 21 with (first | ((with_reducible refine gate_callee (f := 14) rfl ?_); refine goesL_ _ rfl rfl Try.func14 (by kernel_rfl) rfl #[.agg #[.int .i64 x.f0, .int .i64 x.f1]] rfl gl ?_; refine (impl_Puts.calls k x.f0 x.f1 pt _ ep).mono ?_; rintro e w10 ⟨rfl, hb⟩; refine ⟨_, rfl, ?_⟩; have n0_ := Aside0.mk (below_step HB.out hb); have n1_ := Aside0.mk (blk_below HZ.out hb); have n2_ := Aside0.mk (Kd.R_below HU.out hb); have n3_ := Aside0.mk (Kd.R_below HV.out hb); have n4_ := Aside0.mk (Kd.C_below HCc.out hb); have n5_ := pw_cell_below hb hx0; have n6_ := pw_cell_below hb hx1; clear HB HZ HU HV HCc hx0 hx1 hb; have HB := n0_; have HZ := n1_; have HU := n2_; have HV := n3_; have HCc := n4_; have hx0 := n5_; have hx1 := n6_; clear n0_ n1_ n2_ n3_ n4_ n5_ n6_))
    have hcn := HCN.out
    by_cases h30 : x.f0 = 30
    · obtain ⟨hA0, hA1, hAe⟩ := hju (.inl h30)
      clear hju hfl
      have hhA := R_at HV.out x.f1 hA0 hA1
      rw [hAe] at hhA
      have b1 : (x.f0 != 30) = false := bne_eq_false_iff_eq.mpr h30
      have b2 : (x.f0 == 30) = true := beq_iff_eq.mpr h30
      have r0 := eq_true hA0
      have r1 := eq_true hA1
      have hA1_ : x.f1 < (c.length : Int) := by omega
      have r2 := eq_true hA1_
      clear hcn
      go_wp2
      go_roundg kk
      case measure => omega
      case rel => exact ⟨a + 1, by first | rfl | (have := HK.out; have := HCN.out; simp [wrap_in (n := a + 1) (by omega) (by omega)]; done), ⟨by have := HK.out; omega⟩, HB, HZ, HU, HV, HCc⟩
    by_cases h33 : x.f0 = 33
    · clear hju hfl
      have h31 : ¬ x.f0 = 31 := by omega
      have b1 : (x.f0 != 30) = true := bne_iff_ne.mpr h30
      have b2 : (x.f0 == 30) = false := beq_eq_false_iff_ne.mpr h30
      have b3 : (x.f0 != 33) = false := bne_eq_false_iff_eq.mpr h33
      have b4 : (x.f0 == 31) = false := beq_eq_false_iff_ne.mpr h31
      clear hcn
      go_wp2
      go_roundg kk
      case measure => omega
      case rel => exact ⟨a + 1, by first | rfl | (have := HK.out; have := HCN.out; simp [wrap_in (n := a + 1) (by omega) (by omega)]; done), ⟨by have := HK.out; omega⟩, HB, HZ, HU, HV, HCc⟩
    obtain ⟨hB1, hBe⟩ := hfl h30 h33
    have hB0 : 0 ≤ a + 1 := by omega
    have hhB := R_at HV.out (a + 1) hB0 hB1
    rw [hBe] at hhB
    have b1 : (x.f0 != 30) = true := bne_iff_ne.mpr h30
    have b2 : (x.f0 == 30) = false := beq_eq_false_iff_ne.mpr h30
    have b3 : (x.f0 != 33) = true := bne_iff_ne.mpr h33
    have hB1_ : a + 1 < (c.length : Int) := by omega
    have b5 : decide ((c.length : Int) ≤ a + 1) = false := decide_eq_false (by omega)
    have s0 := eq_true hB0
    have s1 := eq_true hB1_
    clear hfl
    by_cases h31 : x.f0 = 31
    · obtain ⟨hA0, hA1, hAe⟩ := hju (.inr h31)
      clear hju
      have hhA := R_at HV.out x.f1 hA0 hA1
      rw [hAe] at hhA
      have b4 : (x.f0 == 31) = true := beq_iff_eq.mpr h31
      have r0 := eq_true hA0
      have r1 := eq_true hA1
      have hA1_ : x.f1 < (c.length : Int) := by omega
      have r2 := eq_true hA1_
      go_wp2
      go_roundg kk
      case measure => omega
      case rel => exact ⟨a + 1, by first | rfl | (have := HK.out; have := HCN.out; simp [wrap_in (n := a + 1) (by omega) (by omega)]; done), ⟨by have := HK.out; omega⟩, HB, HZ, HU, HV, HCc⟩
    clear hju
    have b4 : (x.f0 == 31) = false := beq_eq_false_iff_ne.mpr h31
    go_wp2
    go_roundg kk
    case measure => omega
    case rel => exact ⟨a + 1, by first | rfl | (have := HK.out; have := HCN.out; simp [wrap_in (n := a + 1) (by omega) (by omega)]; done), ⟨by have := HK.out; omega⟩, HB, HZ, HU, HV, HCc⟩
  · have had : decide (a < (c.length : Int)) = false := decide_eq_false ha
    clear HK
    have hz : wr.cell? ⟨w5.heap.size, 0, none⟩ = some (.slice (some adP) P.length cu) := (blk_cell HZ.out 0).trans rfl
    go_wp2_with (first | ((with_reducible refine gate_callee (f := 12) rfl ?_); refine goesL_ _ rfl rfl Try.func12 (by kernel_rfl) rfl #[.agg #[.slice (some adP) P.length cu], .int .i64 f] rfl gl ?_; refine (impl_Headers.calls k (some adP) cu P f _ _ (Kd.R_reads' HU.out).2.2 (Kd.R_reads' HU.out).2.1 HA.out.2.2.2).mono ?_; rintro e w11 ⟨v9, rfl, hv, hb⟩; refine ⟨_, rfl, ?_⟩; have hbs := below_size HB.out; have n0_ := Aside0.mk (below_step HB.out hb); have n3_ := Aside0.mk (Kd.R_below HV.out hb); have HVd := Aside0.mk (Kd.R_lower hv hbs); obtain ⟨Ad, cd, ed⟩ := Kd.R_slice hv; subst ed; clear HB HV hv hb hbs; have HB := n0_; have HV := n3_; clear n0_ n3_))
    have HY := Aside0.mk HS.out.2.2.2.2
    clear HS HCc HZ HU hz
    go_loopg [12] hd.length (fun kq v12 w' => ∃ j : Int, v12 = .int .i64 j ∧ Aside0 (0 ≤ j ∧ j ≤ (hd.length : Int) ∧ (hd.length : Int) ≤ j + kq) ∧ Aside0 (Below w.heap.size w w') ∧ Aside0 (Kd.R (Kd.int .i64) 2 w' w.heap.size (fun _ => True) (.slice (some ⟨gh, 0, none⟩) h.length ch) h) ∧ Aside0 (Kd.R (Kd.int .i64) 2 w' w.heap.size (fun _ => True) (.slice Ad hd.length cd) hd))
    case atStart => exact ⟨0, rfl, ⟨by omega⟩, HB, HV, HVd⟩
    case round =>
     clear HB HV HVd
     obtain ⟨j, rfl, HK, HB, HV, HVd⟩ := hrel
     by_cases hj : j < (hd.length : Int)
     · have hjd : decide (j < (hd.length : Int)) = true := decide_eq_true hj
       obtain ⟨kk, hkk⟩ : ∃ kk, gk = kk + 1 := ⟨gk - 1, by have := HK.out; omega⟩
       subst hkk
       have hj0 : 0 ≤ j := HK.out.1
       obtain ⟨hy0, hy1, hy2, hy3⟩ := HY.out.2 j hj0 hj
       obtain ⟨add, ead, _⟩ := Kd.at_int (Kd.R_reads' HVd.out).2.2 j hj0 hj
       subst ead
       obtain ⟨gd, egd⟩ := Kd.R_head HVd.out
       subst egd
       have hcj := R_at HVd.out j hj0 hj
       have hch := R_at HV.out (rd hd j) hy0 hy1
       have hy1_ : rd hd j < (c.length : Int) := by omega
       have e0 : decide (rd hd j < 0) = false := decide_eq_false (by omega)
       have e1 : decide ((c.length : Int) ≤ rd hd j) = false := decide_eq_false (by omega)
       have e2 : decide (rd h (rd hd j) < 0) = false := decide_eq_false (by omega)
       have t0 := eq_true hj0
       have t1 := eq_true hj
       have t2 := eq_true hy0
       have t3 := eq_true hy1_
       by_cases hjp : 0 < j
       · have e3 : decide (0 < j) = true := decide_eq_true hjp
         obtain ⟨jm, hjm⟩ : ∃ jm : Int, jm = j - 1 := ⟨_, rfl⟩
         have hp0 : 0 ≤ jm := by omega
         have hp1 : jm < (hd.length : Int) := by omega
         have hcp := R_at HVd.out jm hp0 hp1
         have hlt := hy3 hjp
         rw [← hjm] at hlt
         have e4 : decide (rd hd j ≤ rd hd jm) = false := decide_eq_false (by omega)
         have hwj : IntKind.i64.wrap (j - 1) = jm := by rw [i64_w, hjm]; exact wrap_in (by omega) (by have := HY.out.1; omega)
         have hwj2 : wrap64 (j - 1) = jm := by rw [hjm]; exact wrap_in (by omega) (by have := HY.out.1; omega)
         have t4 := eq_true hp0
         have t5 := eq_true hp1
         clear hjm
         clear hy3
         go_wp2
         go_quiet (fail)
         clear hwj hwj2
         go_wp2
         go_roundg kk
         case measure => omega
         case rel => exact ⟨j + 1, by first | rfl | (have := HK.out; have := HY.out.1; simp [wrap_in (n := j + 1) (by omega) (by omega)]; done), ⟨by have := HK.out; omega⟩, ⟨by repeat (first | exact HB.out | apply pw_below_drewN | apply below_drew1)⟩, ⟨Kd.R_drewN HV.out _⟩, ⟨Kd.R_drewN HVd.out _⟩⟩
       · have e3 : decide (0 < j) = false := decide_eq_false hjp
         clear hy3
         go_wp2
         go_quiet (fail)
         go_wp2
         go_roundg kk
         case measure => omega
         case rel => exact ⟨j + 1, by first | rfl | (have := HK.out; have := HY.out.1; simp [wrap_in (n := j + 1) (by omega) (by omega)]; done), ⟨by have := HK.out; omega⟩, ⟨by repeat (first | exact HB.out | apply pw_below_drewN | apply below_drew1)⟩, ⟨Kd.R_drewN HV.out _⟩, ⟨Kd.R_drewN HVd.out _⟩⟩
     · have hjd : decide (j < (hd.length : Int)) = false := decide_eq_false hj
       go_wp2
       go_ret
       exact ⟨rfl, HB.out⟩
end Go.Proofs.Ytopaefhfjioecaa.QFnHeights
