import Derived.Test.YtkmohnlkldkhdaaCFnExactAsmSamex0
import Derived.Test.YtkmohnlkldkhdaaCFnExactAsmSamex3
import Derived.Test.YtkmohnlkldkhdaaCFnExactAsmSamex5
import Derived.Test.YtkmohnlkldkhdaaCFnExactAsmSamex6
import Derived.Test.YtkmohnlkldkhdaaCFnExactAsmSamex7
import Derived.Test.YtkmohnlkldkhdaaCFnExactAsmSamex10
namespace Go.Proofs.Ytkmohnlkldkhdaa.QFnExactAsmSame
open Go.RowKit Go.Proofs.YtkmohnlkldkhdaaW
open PrintWords PrintLast PrintMore PrintShort PrintIsh
attribute [local go_sem] max2_int min2_int max_two min_two max_three min_three max_four min_four   -- for this text's walks alone
set_option linter.unusedVariables false
set_option maxHeartbeats 8000000
set_option maxRecDepth 100000
set_option linter.unusedSimpArgs false

def laws_FnExactAsmSame.f (k : Nat) (a0_0 : Int) (l0_1 : List (S151)) (l0_2 : List (List (S163))) (a1_0 : Int) (l1_1 : List (S151)) (l1_2 : List (List (S163))) : Option (Bool) := (laws_szAsm.f k a0_0 l0_1 l0_2 1048576).bind fun t236 => (if t236 < 0 then (some true) else ((laws_szAsm.f k a1_0 l1_1 l1_2 t236).bind fun t237 => (if t237 < 0 then (some true) else ((laws_toAsm.f k a0_0 l0_1 l0_2).bind fun bt238 => ((laws_toAsm.f k a1_0 l1_1 l1_2).bind fun bt245 => ((spec_AsmSame.f k bt238.1 bt238.2.1 bt238.2.2 bt245.1 bt245.2.1 bt245.2.2).bind fun t252 => ((laws_toAsm.f k a0_0 l0_1 l0_2).bind fun bt253 => ((laws_toAsm.f k a1_0 l1_1 l1_2).bind fun bt261 => ((impl_AsmSame.f k bt253.1 bt253.2.1 bt253.2.2 bt261.1 bt261.2.1 bt261.2.2).bind fun t269 => (if (t269 != t252) = true then (some false) else ((laws_toAsm.f k a0_0 l0_1 l0_2).bind fun bt270 => ((laws_eqAsm.f k bt253.1 bt253.2.1 bt253.2.2 bt270.1 bt270.2.1 bt270.2.2).bind fun t277 => (if t277 = true then ((laws_toAsm.f k a1_0 l1_1 l1_2).bind fun bt278 => ((laws_eqAsm.f k bt261.1 bt261.2.1 bt261.2.2 bt278.1 bt278.2.1 bt278.2.2).bind fun t285 => (if t285 = true then (some true) else (some false)))) else (some false))))))))))))))
theorem laws_FnExactAsmSame.mono : ∀ a0 a1 a2 a3 a4 a5 k, LeO (laws_FnExactAsmSame.f k a0 a1 a2 a3 a4 a5) (laws_FnExactAsmSame.f (k + 1) a0 a1 a2 a3 a4 a5) := by
 intro a0 a1 a2 a3 a4 a5 k
 unfold laws_FnExactAsmSame.f
 repeat' first
   | (with_reducible exact impl_AsmSame.mono _ _ _ _ _ _ _)
   | (with_reducible exact laws_eqAsm.mono _ _ _ _ _ _ _)
   | (with_reducible exact laws_szAsm.mono _ _ _ _ _)
   | (with_reducible exact laws_toAsm.mono _ _ _ _)
   | (with_reducible exact spec_AsmSame.mono _ _ _ _ _ _ _)
   | (with_reducible exact LeO.refl _)
   | (with_reducible exact LeO.none _)
   | (with_reducible refine LeO.ite ?_ ?_)
   | (with_reducible refine LeO.bind ?_ (fun _ => ?_))
theorem laws_FnExactAsmSame.calls (k : Nat) (a0_0 : Int) (A0_1 : Option Addr) (c0_1 : Nat) (l0_1 : List (S151)) (A0_2 : Option Addr) (c0_2 : Nat) (l0_2 : List (List (S163))) (a1_0 : Int) (A1_1 : Option Addr) (c1_1 : Nat) (l1_1 : List (S151)) (A1_2 : Option Addr) (c1_2 : Nat) (l1_2 : List (List (S163))) (r : Bool) (w : World) (hr0_1 : Kd.C k151 w A0_1 l0_1.length l0_1) (hc0_1 : l0_1.length ≤ c0_1) (hr0_2 : Kd.C (Kd.slice 163 k163) w A0_2 l0_2.length l0_2) (hc0_2 : l0_2.length ≤ c0_2) (hr1_1 : Kd.C k151 w A1_1 l1_1.length l1_1) (hc1_1 : l1_1.length ≤ c1_1) (hr1_2 : Kd.C (Kd.slice 163 k163) w A1_2 l1_2.length l1_2) (hc1_2 : l1_2.length ≤ c1_2) (h : laws_FnExactAsmSame.f k a0_0 l0_1 l0_2 a1_0 l1_1 l1_2 = some r) :
  Calls Try.prog 12 #[.agg #[.int .i64 a0_0, .slice A0_1 l0_1.length c0_1, .slice A0_2 l0_2.length c0_2], .agg #[.int .i64 a1_0, .slice A1_1 l1_1.length c1_1, .slice A1_2 l1_2.length c1_2]] w fun e w' => e = .returned (.bool r) ∧ Below w.heap.size w w' := by
 have hu73 := Try.underlying73
 have hu79 := Try.underlying79
 have HR0_1 := am hr0_1
 have HC0_1 := am hc0_1
 clear hr0_1 hc0_1
 have HR0_2 := am hr0_2
 have HC0_2 := am hc0_2
 clear hr0_2 hc0_2
 have HR1_1 := am hr1_1
 have HC1_1 := am hc1_1
 clear hr1_1 hc1_1
 have HR1_2 := am hr1_2
 have HC1_2 := am hc1_2
 clear hr1_2 hc1_2
 have HB := am (Below.refl w.heap.size w)
 have H : ((laws_szAsm.f k a0_0 l0_1 l0_2 1048576).bind fun t236 => (if t236 < 0 then (some true) else ((laws_szAsm.f k a1_0 l1_1 l1_2 t236).bind fun t237 => (if t237 < 0 then (some true) else ((laws_toAsm.f k a0_0 l0_1 l0_2).bind fun bt238 => ((laws_toAsm.f k a1_0 l1_1 l1_2).bind fun bt245 => ((spec_AsmSame.f k bt238.1 bt238.2.1 bt238.2.2 bt245.1 bt245.2.1 bt245.2.2).bind fun t252 => ((laws_toAsm.f k a0_0 l0_1 l0_2).bind fun bt253 => ((laws_toAsm.f k a1_0 l1_1 l1_2).bind fun bt261 => ((impl_AsmSame.f k bt253.1 bt253.2.1 bt253.2.2 bt261.1 bt261.2.1 bt261.2.2).bind fun t269 => (if (t269 != t252) = true then (some false) else ((laws_toAsm.f k a0_0 l0_1 l0_2).bind fun bt270 => ((laws_eqAsm.f k bt253.1 bt253.2.1 bt253.2.2 bt270.1 bt270.2.1 bt270.2.2).bind fun t277 => (if t277 = true then ((laws_toAsm.f k a1_0 l1_1 l1_2).bind fun bt278 => ((laws_eqAsm.f k bt261.1 bt261.2.1 bt261.2.2 bt278.1 bt278.2.1 bt278.2.2).bind fun t285 => (if t285 = true then (some true) else (some false)))) else (some false))))))))))))))) = some r := h
 clear h
 replace H := Option.bind_eq_some_iff.mp H
 obtain ⟨t236, A30, H⟩ := H
 replace H : (if t236 < 0 then (some true) else ((laws_szAsm.f k a1_0 l1_1 l1_2 t236).bind fun t237 => (if t237 < 0 then (some true) else ((laws_toAsm.f k a0_0 l0_1 l0_2).bind fun bt238 => ((laws_toAsm.f k a1_0 l1_1 l1_2).bind fun bt245 => ((spec_AsmSame.f k bt238.1 bt238.2.1 bt238.2.2 bt245.1 bt245.2.1 bt245.2.2).bind fun t252 => ((laws_toAsm.f k a0_0 l0_1 l0_2).bind fun bt253 => ((laws_toAsm.f k a1_0 l1_1 l1_2).bind fun bt261 => ((impl_AsmSame.f k bt253.1 bt253.2.1 bt253.2.2 bt261.1 bt261.2.1 bt261.2.2).bind fun t269 => (if (t269 != t252) = true then (some false) else ((laws_toAsm.f k a0_0 l0_1 l0_2).bind fun bt270 => ((laws_eqAsm.f k bt253.1 bt253.2.1 bt253.2.2 bt270.1 bt270.2.1 bt270.2.2).bind fun t277 => (if t277 = true then ((laws_toAsm.f k a1_0 l1_1 l1_2).bind fun bt278 => ((laws_eqAsm.f k bt261.1 bt261.2.1 bt261.2.2 bt278.1 bt278.2.1 bt278.2.2).bind fun t285 => (if t285 = true then (some true) else (some false)))) else (some false)))))))))))))) = some r := H
 have A3 := am A30
 clear A30
 by_cases c4 : t236 < 0
 ·rw [if_pos c4] at H
  have c4b0 := decide_eq_true c4
  clear c4
  obtain rfl := Option.some.inj H
  go_enter Try.func12, Try.ntmps12
  go_wp2_with (first | ((with_reducible refine gate_dst (N := 2) rfl ?_); refine box_event ?hg (N := 2) ?hd (cs := #[.int .i64 a0_0, .slice A0_1 l0_1.length c0_1, .slice A0_2 l0_2.length c0_2]) (t := 73) ?hr ?_; (case hd => rfl); (case hg => rfl); (case hr => exact gs); intro gb234 hg w5 hbox hb; have BK234 := am (hbox); have GW234 := am ((by rw [hg]; exact (below_size (bw HB)) : w.heap.size ≤ gb234)); have GE234 := am ((by rw [hg]; exact (below_size (bw HB)) : w.heap.size ≤ gb234)); replace HB := am (below_step (bw HB) hb); clear hb hbox hg) | ((with_reducible refine gate_dst (N := 3) rfl ?_); refine box_event ?hg (N := 3) ?hd (cs := #[.int .i64 a1_0, .slice A1_1 l1_1.length c1_1, .slice A1_2 l1_2.length c1_2]) (t := 73) ?hr ?_; (case hd => rfl); (case hg => rfl); (case hr => exact gs); intro gb235 hg w6 hbox hb; have BK235 := am (hbox); have GW235 := am ((by rw [hg]; exact (below_size (bw HB)) : w.heap.size ≤ gb235)); have GE235 := am ((by rw [hg]; exact (below_size (bw HB)) : w.heap.size ≤ gb235)); replace HB := am (below_step (bw HB) hb); have NB234_235 := am ((by rw [hg]; exact Nat.ne_of_lt (blk_lt (g := gb234) (o := .cells #[.int .i64 a0_0, .slice A0_1 l0_1.length c0_1, .slice A0_2 l0_2.length c0_2] 73 (0, 0)) (bp BK234)) : gb234 ≠ gb235)); have NB235_234 := am ((by rw [hg]; exact Nat.ne_of_gt (blk_lt (g := gb234) (o := .cells #[.int .i64 a0_0, .slice A0_1 l0_1.length c0_1, .slice A0_2 l0_2.length c0_2] 73 (0, 0)) (bp BK234)) : gb235 ≠ gb234)); replace BK234 := am (blk_below (g := gb234) (o := .cells #[.int .i64 a0_0, .slice A0_1 l0_1.length c0_1, .slice A0_2 l0_2.length c0_2] 73 (0, 0)) (bp BK234) hb); clear hb hbox hg; have hnb7 := NB234_235.out; have hnc7 := NB235_234.out; have hcz8_0 : w6.cell? ⟨gb234, 0, none⟩ = some (.int .i64 a0_0) := bc BK234 0; have hcz8_1 : w6.cell? ⟨gb234, 1, none⟩ = some (.slice A0_1 l0_1.length c0_1) := bc BK234 1; have hcz8_2 : w6.cell? ⟨gb234, 2, none⟩ = some (.slice A0_2 l0_2.length c0_2) := bc BK234 2; have hfz8_0 := bf BK234 0; have hfz8_1 := bf BK234 1; have hfz8_2 := bf BK234 2) | ((with_reducible refine gate_callee (f := 47) rfl ?_); refine goesL_ (some 12) rfl rfl Try.func47 (by kernel_rfl) rfl #[.agg #[.int .i64 a0_0, .slice A0_1 l0_1.length c0_1, .slice A0_2 l0_2.length c0_2], .int .i64 1048576] rfl gl ?_; (with_reducible refine (laws_szAsm.calls k a0_0 _ _ l0_1 _ _ l0_2 1048576 t236 _ ?side1 ?side2 ?side3 ?side4 A3.out).mono ?_); (case side1 => exact cc (Kd.C_below HR0_1.out HB.out)); (case side2 => exact HC0_1.out); (case side3 => exact cc (Kd.C_below HR0_2.out HB.out)); (case side4 => exact HC0_2.out); rintro e w9 ⟨rfl, hb⟩; refine ⟨_, rfl, ?_⟩; replace BK234 := am (blk_below (g := gb234) (o := .cells #[.int .i64 a0_0, .slice A0_1 l0_1.length c0_1, .slice A0_2 l0_2.length c0_2] 73 (0, 0)) (bp BK234) hb); replace BK235 := am (blk_below (g := gb235) (o := .cells #[.int .i64 a1_0, .slice A1_1 l1_1.length c1_1, .slice A1_2 l1_2.length c1_2] 73 (0, 0)) (bp BK235) hb); replace HB := am (below_step (bw HB) hb); (try clear hb); (try clear hb2); (try clear hk); (try clear hi)))
  go_ret
  exact ⟨er, bw HB⟩
 ·rw [if_neg c4] at H
  have c4b0 := decide_eq_false c4
  clear c4
  replace H := Option.bind_eq_some_iff.mp H
  obtain ⟨t237, A100, H⟩ := H
  replace H : (if t237 < 0 then (some true) else ((laws_toAsm.f k a0_0 l0_1 l0_2).bind fun bt238 => ((laws_toAsm.f k a1_0 l1_1 l1_2).bind fun bt245 => ((spec_AsmSame.f k bt238.1 bt238.2.1 bt238.2.2 bt245.1 bt245.2.1 bt245.2.2).bind fun t252 => ((laws_toAsm.f k a0_0 l0_1 l0_2).bind fun bt253 => ((laws_toAsm.f k a1_0 l1_1 l1_2).bind fun bt261 => ((impl_AsmSame.f k bt253.1 bt253.2.1 bt253.2.2 bt261.1 bt261.2.1 bt261.2.2).bind fun t269 => (if (t269 != t252) = true then (some false) else ((laws_toAsm.f k a0_0 l0_1 l0_2).bind fun bt270 => ((laws_eqAsm.f k bt253.1 bt253.2.1 bt253.2.2 bt270.1 bt270.2.1 bt270.2.2).bind fun t277 => (if t277 = true then ((laws_toAsm.f k a1_0 l1_1 l1_2).bind fun bt278 => ((laws_eqAsm.f k bt261.1 bt261.2.1 bt261.2.2 bt278.1 bt278.2.1 bt278.2.2).bind fun t285 => (if t285 = true then (some true) else (some false)))) else (some false)))))))))))) = some r := H
  have A10 := am A100
  clear A100
  by_cases c11 : t237 < 0
  ·rw [if_pos c11] at H
   have c11b0 := decide_eq_true c11
   clear c11
   obtain rfl := Option.some.inj H
   go_enter Try.func12, Try.ntmps12
   go_wp2_with (first | ((with_reducible refine gate_dst (N := 2) rfl ?_); refine box_event ?hg (N := 2) ?hd (cs := #[.int .i64 a0_0, .slice A0_1 l0_1.length c0_1, .slice A0_2 l0_2.length c0_2]) (t := 73) ?hr ?_; (case hd => rfl); (case hg => rfl); (case hr => exact gs); intro gb234 hg w12 hbox hb; have BK234 := am (hbox); have GW234 := am ((by rw [hg]; exact (below_size (bw HB)) : w.heap.size ≤ gb234)); have GE234 := am ((by rw [hg]; exact (below_size (bw HB)) : w.heap.size ≤ gb234)); replace HB := am (below_step (bw HB) hb); clear hb hbox hg) | ((with_reducible refine gate_dst (N := 3) rfl ?_); refine box_event ?hg (N := 3) ?hd (cs := #[.int .i64 a1_0, .slice A1_1 l1_1.length c1_1, .slice A1_2 l1_2.length c1_2]) (t := 73) ?hr ?_; (case hd => rfl); (case hg => rfl); (case hr => exact gs); intro gb235 hg w13 hbox hb; have BK235 := am (hbox); have GW235 := am ((by rw [hg]; exact (below_size (bw HB)) : w.heap.size ≤ gb235)); have GE235 := am ((by rw [hg]; exact (below_size (bw HB)) : w.heap.size ≤ gb235)); replace HB := am (below_step (bw HB) hb); have NB234_235 := am ((by rw [hg]; exact Nat.ne_of_lt (blk_lt (g := gb234) (o := .cells #[.int .i64 a0_0, .slice A0_1 l0_1.length c0_1, .slice A0_2 l0_2.length c0_2] 73 (0, 0)) (bp BK234)) : gb234 ≠ gb235)); have NB235_234 := am ((by rw [hg]; exact Nat.ne_of_gt (blk_lt (g := gb234) (o := .cells #[.int .i64 a0_0, .slice A0_1 l0_1.length c0_1, .slice A0_2 l0_2.length c0_2] 73 (0, 0)) (bp BK234)) : gb235 ≠ gb234)); replace BK234 := am (blk_below (g := gb234) (o := .cells #[.int .i64 a0_0, .slice A0_1 l0_1.length c0_1, .slice A0_2 l0_2.length c0_2] 73 (0, 0)) (bp BK234) hb); clear hb hbox hg; have hnb14 := NB234_235.out; have hnc14 := NB235_234.out; have hcz15_0 : w13.cell? ⟨gb234, 0, none⟩ = some (.int .i64 a0_0) := bc BK234 0; have hcz15_1 : w13.cell? ⟨gb234, 1, none⟩ = some (.slice A0_1 l0_1.length c0_1) := bc BK234 1; have hcz15_2 : w13.cell? ⟨gb234, 2, none⟩ = some (.slice A0_2 l0_2.length c0_2) := bc BK234 2; have hfz15_0 := bf BK234 0; have hfz15_1 := bf BK234 1; have hfz15_2 := bf BK234 2) | ((with_reducible refine gate_callee (f := 47) rfl ?_); refine goesL_ (some 12) rfl rfl Try.func47 (by kernel_rfl) rfl #[.agg #[.int .i64 a0_0, .slice A0_1 l0_1.length c0_1, .slice A0_2 l0_2.length c0_2], .int .i64 1048576] rfl gl ?_; (with_reducible refine (laws_szAsm.calls k a0_0 _ _ l0_1 _ _ l0_2 1048576 t236 _ ?side1 ?side2 ?side3 ?side4 A3.out).mono ?_); (case side1 => exact cc (Kd.C_below HR0_1.out HB.out)); (case side2 => exact HC0_1.out); (case side3 => exact cc (Kd.C_below HR0_2.out HB.out)); (case side4 => exact HC0_2.out); rintro e w16 ⟨rfl, hb⟩; refine ⟨_, rfl, ?_⟩; replace BK234 := am (blk_below (g := gb234) (o := .cells #[.int .i64 a0_0, .slice A0_1 l0_1.length c0_1, .slice A0_2 l0_2.length c0_2] 73 (0, 0)) (bp BK234) hb); replace BK235 := am (blk_below (g := gb235) (o := .cells #[.int .i64 a1_0, .slice A1_1 l1_1.length c1_1, .slice A1_2 l1_2.length c1_2] 73 (0, 0)) (bp BK235) hb); replace HB := am (below_step (bw HB) hb); (try clear hb); (try clear hb2); (try clear hk); (try clear hi); have hcz17_0 : w16.cell? ⟨gb235, 0, none⟩ = some (.int .i64 a1_0) := bc BK235 0; have hcz17_1 : w16.cell? ⟨gb235, 1, none⟩ = some (.slice A1_1 l1_1.length c1_1) := bc BK235 1; have hcz17_2 : w16.cell? ⟨gb235, 2, none⟩ = some (.slice A1_2 l1_2.length c1_2) := bc BK235 2; have hfz17_0 := bf BK235 0; have hfz17_1 := bf BK235 1; have hfz17_2 := bf BK235 2) | ((with_reducible refine gate_callee (f := 47) rfl ?_); refine goesL_ (some 17) rfl rfl Try.func47 (by kernel_rfl) rfl #[.agg #[.int .i64 a1_0, .slice A1_1 l1_1.length c1_1, .slice A1_2 l1_2.length c1_2], .int .i64 t236] rfl gl ?_; (with_reducible refine (laws_szAsm.calls k a1_0 _ _ l1_1 _ _ l1_2 t236 t237 _ ?side1 ?side2 ?side3 ?side4 A10.out).mono ?_); (case side1 => exact cc (Kd.C_below HR1_1.out HB.out)); (case side2 => exact HC1_1.out); (case side3 => exact cc (Kd.C_below HR1_2.out HB.out)); (case side4 => exact HC1_2.out); rintro e w18 ⟨rfl, hb⟩; refine ⟨_, rfl, ?_⟩; replace BK234 := am (blk_below (g := gb234) (o := .cells #[.int .i64 a0_0, .slice A0_1 l0_1.length c0_1, .slice A0_2 l0_2.length c0_2] 73 (0, 0)) (bp BK234) hb); replace BK235 := am (blk_below (g := gb235) (o := .cells #[.int .i64 a1_0, .slice A1_1 l1_1.length c1_1, .slice A1_2 l1_2.length c1_2] 73 (0, 0)) (bp BK235) hb); replace HB := am (below_step (bw HB) hb); (try clear hb); (try clear hb2); (try clear hk); (try clear hi)))
   go_ret
   exact ⟨er, bw HB⟩
  ·rw [if_neg c11] at H
   have c11b0 := decide_eq_false c11
   clear c11
   replace H := Option.bind_eq_some_iff.mp H
   obtain ⟨⟨t238, t239, t242⟩, A190, H⟩ := H
   replace H : ((laws_toAsm.f k a1_0 l1_1 l1_2).bind fun bt245 => ((spec_AsmSame.f k t238 t239 t242 bt245.1 bt245.2.1 bt245.2.2).bind fun t252 => ((laws_toAsm.f k a0_0 l0_1 l0_2).bind fun bt253 => ((laws_toAsm.f k a1_0 l1_1 l1_2).bind fun bt261 => ((impl_AsmSame.f k bt253.1 bt253.2.1 bt253.2.2 bt261.1 bt261.2.1 bt261.2.2).bind fun t269 => (if (t269 != t252) = true then (some false) else ((laws_toAsm.f k a0_0 l0_1 l0_2).bind fun bt270 => ((laws_eqAsm.f k bt253.1 bt253.2.1 bt253.2.2 bt270.1 bt270.2.1 bt270.2.2).bind fun t277 => (if t277 = true then ((laws_toAsm.f k a1_0 l1_1 l1_2).bind fun bt278 => ((laws_eqAsm.f k bt261.1 bt261.2.1 bt261.2.2 bt278.1 bt278.2.1 bt278.2.2).bind fun t285 => (if t285 = true then (some true) else (some false)))) else (some false)))))))))) = some r := H
   have A19 := am A190
   clear A190
   replace H := Option.bind_eq_some_iff.mp H
   obtain ⟨⟨t245, t246, t249⟩, A200, H⟩ := H
   replace H : ((spec_AsmSame.f k t238 t239 t242 t245 t246 t249).bind fun t252 => ((laws_toAsm.f k a0_0 l0_1 l0_2).bind fun bt253 => ((laws_toAsm.f k a1_0 l1_1 l1_2).bind fun bt261 => ((impl_AsmSame.f k bt253.1 bt253.2.1 bt253.2.2 bt261.1 bt261.2.1 bt261.2.2).bind fun t269 => (if (t269 != t252) = true then (some false) else ((laws_toAsm.f k a0_0 l0_1 l0_2).bind fun bt270 => ((laws_eqAsm.f k bt253.1 bt253.2.1 bt253.2.2 bt270.1 bt270.2.1 bt270.2.2).bind fun t277 => (if t277 = true then ((laws_toAsm.f k a1_0 l1_1 l1_2).bind fun bt278 => ((laws_eqAsm.f k bt261.1 bt261.2.1 bt261.2.2 bt278.1 bt278.2.1 bt278.2.2).bind fun t285 => (if t285 = true then (some true) else (some false)))) else (some false))))))))) = some r := H
   have A20 := am A200
   clear A200
   replace H := Option.bind_eq_some_iff.mp H
   obtain ⟨t252, A210, H⟩ := H
   replace H : ((laws_toAsm.f k a0_0 l0_1 l0_2).bind fun bt253 => ((laws_toAsm.f k a1_0 l1_1 l1_2).bind fun bt261 => ((impl_AsmSame.f k bt253.1 bt253.2.1 bt253.2.2 bt261.1 bt261.2.1 bt261.2.2).bind fun t269 => (if (t269 != t252) = true then (some false) else ((laws_toAsm.f k a0_0 l0_1 l0_2).bind fun bt270 => ((laws_eqAsm.f k bt253.1 bt253.2.1 bt253.2.2 bt270.1 bt270.2.1 bt270.2.2).bind fun t277 => (if t277 = true then ((laws_toAsm.f k a1_0 l1_1 l1_2).bind fun bt278 => ((laws_eqAsm.f k bt261.1 bt261.2.1 bt261.2.2 bt278.1 bt278.2.1 bt278.2.2).bind fun t285 => (if t285 = true then (some true) else (some false)))) else (some false)))))))) = some r := H
   have A21 := am A210
   clear A210
   replace H := Option.bind_eq_some_iff.mp H
   obtain ⟨⟨t253, t254, t257⟩, A220, H⟩ := H
   replace H : ((laws_toAsm.f k a1_0 l1_1 l1_2).bind fun bt261 => ((impl_AsmSame.f k t253 t254 t257 bt261.1 bt261.2.1 bt261.2.2).bind fun t269 => (if (t269 != t252) = true then (some false) else ((laws_toAsm.f k a0_0 l0_1 l0_2).bind fun bt270 => ((laws_eqAsm.f k t253 t254 t257 bt270.1 bt270.2.1 bt270.2.2).bind fun t277 => (if t277 = true then ((laws_toAsm.f k a1_0 l1_1 l1_2).bind fun bt278 => ((laws_eqAsm.f k bt261.1 bt261.2.1 bt261.2.2 bt278.1 bt278.2.1 bt278.2.2).bind fun t285 => (if t285 = true then (some true) else (some false)))) else (some false))))))) = some r := H
   have A22 := am A220
   clear A220
   replace H := Option.bind_eq_some_iff.mp H
   obtain ⟨⟨t261, t262, t265⟩, A230, H⟩ := H
   replace H : ((impl_AsmSame.f k t253 t254 t257 t261 t262 t265).bind fun t269 => (if (t269 != t252) = true then (some false) else ((laws_toAsm.f k a0_0 l0_1 l0_2).bind fun bt270 => ((laws_eqAsm.f k t253 t254 t257 bt270.1 bt270.2.1 bt270.2.2).bind fun t277 => (if t277 = true then ((laws_toAsm.f k a1_0 l1_1 l1_2).bind fun bt278 => ((laws_eqAsm.f k t261 t262 t265 bt278.1 bt278.2.1 bt278.2.2).bind fun t285 => (if t285 = true then (some true) else (some false)))) else (some false)))))) = some r := H
   have A23 := am A230
   clear A230
   replace H := Option.bind_eq_some_iff.mp H
   obtain ⟨t269, A240, H⟩ := H
   replace H : (if (t269 != t252) = true then (some false) else ((laws_toAsm.f k a0_0 l0_1 l0_2).bind fun bt270 => ((laws_eqAsm.f k t253 t254 t257 bt270.1 bt270.2.1 bt270.2.2).bind fun t277 => (if t277 = true then ((laws_toAsm.f k a1_0 l1_1 l1_2).bind fun bt278 => ((laws_eqAsm.f k t261 t262 t265 bt278.1 bt278.2.1 bt278.2.2).bind fun t285 => (if t285 = true then (some true) else (some false)))) else (some false))))) = some r := H
   have A24 := am A240
   clear A240
   by_cases c25 : (t269 != t252) = true
   ·rw [if_pos c25] at H
    have c25b0 : (t269 != t252) = true := c25
    (try (have c25b1 : decide (t269 = t252) = false := by simpa using c25))
    (try (have c25b2 : (t269 == t252) = false := by simpa using c25))
    (try (have c25b3 : ¬ (t269 = t252) := by simpa using c25))
    clear c25
    obtain rfl := Option.some.inj H
    go_enter Try.func12, Try.ntmps12
    try go_wp2_with (first | ((with_reducible refine gate_dst (N := 2) rfl ?_); refine box_event ?hg (N := 2) ?hd (cs := #[.int .i64 a0_0, .slice A0_1 l0_1.length c0_1, .slice A0_2 l0_2.length c0_2]) (t := 73) ?hr ?_; (case hd => rfl); (case hg => rfl); (case hr => exact gs); intro gb234 hg w26 hbox hb; have BK234 := am (hbox); have GW234 := am ((by rw [hg]; exact (below_size (bw HB)) : w.heap.size ≤ gb234)); have GE234 := am ((by rw [hg]; exact (below_size (bw HB)) : w.heap.size ≤ gb234)); replace HB := am (below_step (bw HB) hb); clear hb hbox hg) | ((with_reducible refine gate_dst (N := 3) rfl ?_); refine box_event ?hg (N := 3) ?hd (cs := #[.int .i64 a1_0, .slice A1_1 l1_1.length c1_1, .slice A1_2 l1_2.length c1_2]) (t := 73) ?hr ?_; (case hd => rfl); (case hg => rfl); (case hr => exact gs); intro gb235 hg w27 hbox hb; have BK235 := am (hbox); have GW235 := am ((by rw [hg]; exact (below_size (bw HB)) : w.heap.size ≤ gb235)); have GE235 := am ((by rw [hg]; exact (below_size (bw HB)) : w.heap.size ≤ gb235)); replace HB := am (below_step (bw HB) hb); have NB234_235 := am ((by rw [hg]; exact Nat.ne_of_lt (blk_lt (g := gb234) (o := .cells #[.int .i64 a0_0, .slice A0_1 l0_1.length c0_1, .slice A0_2 l0_2.length c0_2] 73 (0, 0)) (bp BK234)) : gb234 ≠ gb235)); have NB235_234 := am ((by rw [hg]; exact Nat.ne_of_gt (blk_lt (g := gb234) (o := .cells #[.int .i64 a0_0, .slice A0_1 l0_1.length c0_1, .slice A0_2 l0_2.length c0_2] 73 (0, 0)) (bp BK234)) : gb235 ≠ gb234)); replace BK234 := am (blk_below (g := gb234) (o := .cells #[.int .i64 a0_0, .slice A0_1 l0_1.length c0_1, .slice A0_2 l0_2.length c0_2] 73 (0, 0)) (bp BK234) hb); clear hb hbox hg; have hnb28 := NB234_235.out; have hnc28 := NB235_234.out; have hcz29_0 : w27.cell? ⟨gb234, 0, none⟩ = some (.int .i64 a0_0) := bc BK234 0; have hcz29_1 : w27.cell? ⟨gb234, 1, none⟩ = some (.slice A0_1 l0_1.length c0_1) := bc BK234 1; have hcz29_2 : w27.cell? ⟨gb234, 2, none⟩ = some (.slice A0_2 l0_2.length c0_2) := bc BK234 2; have hfz29_0 := bf BK234 0; have hfz29_1 := bf BK234 1; have hfz29_2 := bf BK234 2) | ((with_reducible refine gate_callee (f := 47) rfl ?_); refine goesL_ (some 12) rfl rfl Try.func47 (by kernel_rfl) rfl #[.agg #[.int .i64 a0_0, .slice A0_1 l0_1.length c0_1, .slice A0_2 l0_2.length c0_2], .int .i64 1048576] rfl gl ?_; (with_reducible refine (laws_szAsm.calls k a0_0 _ _ l0_1 _ _ l0_2 1048576 t236 _ ?side1 ?side2 ?side3 ?side4 A3.out).mono ?_); (case side1 => exact cc (Kd.C_below HR0_1.out HB.out)); (case side2 => exact HC0_1.out); (case side3 => exact cc (Kd.C_below HR0_2.out HB.out)); (case side4 => exact HC0_2.out); rintro e w30 ⟨rfl, hb⟩; refine ⟨_, rfl, ?_⟩; replace BK234 := am (blk_below (g := gb234) (o := .cells #[.int .i64 a0_0, .slice A0_1 l0_1.length c0_1, .slice A0_2 l0_2.length c0_2] 73 (0, 0)) (bp BK234) hb); replace BK235 := am (blk_below (g := gb235) (o := .cells #[.int .i64 a1_0, .slice A1_1 l1_1.length c1_1, .slice A1_2 l1_2.length c1_2] 73 (0, 0)) (bp BK235) hb); replace HB := am (below_step (bw HB) hb); (try clear hb); (try clear hb2); (try clear hk); (try clear hi); have hcz31_0 : w30.cell? ⟨gb235, 0, none⟩ = some (.int .i64 a1_0) := bc BK235 0; have hcz31_1 : w30.cell? ⟨gb235, 1, none⟩ = some (.slice A1_1 l1_1.length c1_1) := bc BK235 1; have hcz31_2 : w30.cell? ⟨gb235, 2, none⟩ = some (.slice A1_2 l1_2.length c1_2) := bc BK235 2; have hfz31_0 := bf BK235 0; have hfz31_1 := bf BK235 1; have hfz31_2 := bf BK235 2) | ((with_reducible refine gate_callee (f := 47) rfl ?_); refine goesL_ (some 17) rfl rfl Try.func47 (by kernel_rfl) rfl #[.agg #[.int .i64 a1_0, .slice A1_1 l1_1.length c1_1, .slice A1_2 l1_2.length c1_2], .int .i64 t236] rfl gl ?_; (with_reducible refine (laws_szAsm.calls k a1_0 _ _ l1_1 _ _ l1_2 t236 t237 _ ?side1 ?side2 ?side3 ?side4 A10.out).mono ?_); (case side1 => exact cc (Kd.C_below HR1_1.out HB.out)); (case side2 => exact HC1_1.out); (case side3 => exact cc (Kd.C_below HR1_2.out HB.out)); (case side4 => exact HC1_2.out); rintro e w32 ⟨rfl, hb⟩; refine ⟨_, rfl, ?_⟩; replace BK234 := am (blk_below (g := gb234) (o := .cells #[.int .i64 a0_0, .slice A0_1 l0_1.length c0_1, .slice A0_2 l0_2.length c0_2] 73 (0, 0)) (bp BK234) hb); replace BK235 := am (blk_below (g := gb235) (o := .cells #[.int .i64 a1_0, .slice A1_1 l1_1.length c1_1, .slice A1_2 l1_2.length c1_2] 73 (0, 0)) (bp BK235) hb); replace HB := am (below_step (bw HB) hb); (try clear hb); (try clear hb2); (try clear hk); (try clear hi)))
    have n0_ := am (blk_drew BK234.out)
    have n1_ := am (blk_drew BK235.out)
    have n2_ := am (below_drew1 HB.out)
    clear BK234
    clear BK235
    clear HB
    have BK234 := n0_
    have BK235 := n1_
    have HB := n2_
    clear n0_ n1_ n2_
    refine start_ (n := 6) (S := fun w' => w'.cell? ⟨gb234, 0, none⟩ = some (.int .i64 a0_0) ∧ w'.cell? ⟨gb234, 1, none⟩ = some (.slice A0_1 l0_1.length c0_1) ∧ w'.cell? ⟨gb234, 2, none⟩ = some (.slice A0_2 l0_2.length c0_2) ∧ w'.cell? ⟨gb235, 0, none⟩ = some (.int .i64 a1_0) ∧ w'.cell? ⟨gb235, 1, none⟩ = some (.slice A1_1 l1_1.length c1_1) ∧ w'.cell? ⟨gb235, 2, none⟩ = some (.slice A1_2 l1_2.length c1_2)) (ds := []) #[false, false, false, false, false, false] (by kernel_rfl) rfl rfl ⟨bc BK234 0, bc BK234 1, bc BK234 2, bc BK235 0, bc BK235 1, bc BK235 2⟩ (fun hHeld => ?_)
    generalize w32.drew = w33 at BK234 BK235 HB hHeld ⊢
    refine take_ (i := 0) (N := some 20) (v := ?_) (a' := ?_) #[true, false, false, false, false, false] rfl rfl (by kernel_rfl) (fun _ _ _ h => h) (Or.inl ⟨by rfl, ?_⟩) hHeld ?_ ?_
    rotate_left
    ·rintro w' ⟨s0, s1, s2, s3, s4, s5⟩
     go_simp
     with_reducible rfl
    rotate_left
    ·simp only [Act.put, sa, sz, ss, i64_w, i32_w]
     rfl
    refine take_ (i := 2) (N := some 22) (v := ?_) (a' := ?_) #[true, false, true, false, false, false] rfl rfl (by kernel_rfl) (fun _ _ _ h => h) (Or.inl ⟨by rfl, ?_⟩) hHeld ?_ ?_
    rotate_left
    ·rintro w' ⟨s0, s1, s2, s3, s4, s5⟩
     go_simp
     with_reducible rfl
    rotate_left
    ·simp only [Act.put, sa, sz, ss, i64_w, i32_w]
     rfl
    refine one_ (i := 1) (N := some 21) #[true, true, true, false, false, false] rfl rfl (by kernel_rfl) (by decide) (fun K hK => ?_)
    refine goes_ Try.func49 (by kernel_rfl) rfl #[.agg #[.int .i64 a0_0, .slice A0_1 l0_1.length c0_1, .slice A0_2 l0_2.length c0_2]] (by rfl) rfl rfl gl ?_
    with_reducible refine (laws_toAsm.calls k a0_0 _ _ l0_1 _ _ l0_2 t238 t239 t242 _ ?side1 ?side2 ?side3 ?side4 A19.out).mono ?_
    (case side1 => exact cc (Kd.C_below HR0_1.out HB.out))
    (case side2 => exact HC0_1.out)
    (case side3 => exact cc (Kd.C_below HR0_2.out HB.out))
    (case side4 => exact HC0_2.out)
    rintro e w34 ⟨v240, v243, rfl, ho0, ho1, hb⟩
    refine ⟨_, rfl, ?_⟩
    have n0_ := am (Kd.S_lower ho0 (below_size (bw HB)))
    have n1_ := am (Kd.S_lower ho1 (below_size (bw HB)))
    have n2_ := am (blk_below (g := gb234) (o := .cells #[.int .i64 a0_0, .slice A0_1 l0_1.length c0_1, .slice A0_2 l0_2.length c0_2] 73 (0, 0)) (bp BK234) hb)
    have n3_ := am (blk_below (g := gb235) (o := .cells #[.int .i64 a1_0, .slice A1_1 l1_1.length c1_1, .slice A1_2 l1_2.length c1_2] 73 (0, 0)) (bp BK235) hb)
    have n4_ := am (below_step (bw HB) hb)
    clear BK234
    clear BK235
    clear HB
    have HO241 := n0_
    have HO244 := n1_
    have BK234 := n2_
    have BK235 := n3_
    have HB := n4_
    clear n0_ n1_ n2_ n3_ n4_
    (try clear hb)
    (try clear hb2)
    (try clear hk)
    (try clear hi)
    (try clear ho0)
    (try clear ho1)
    refine hK.out _ _ ⟨bc BK234 0, bc BK234 1, bc BK234 2, bc BK235 0, bc BK235 1, bc BK235 2⟩ (fun hHeld => ?_)
    clear hK K
    refine norm_ (a' := ?_) ?_ ?_
    rotate_left
    ·show Act.put _ (some 21) _ = _
     simp only [Act.put, sa, sz, ss, i64_w, i32_w]
     rfl
    refine one_ (i := 3) (N := some 23) #[true, true, true, true, false, false] rfl rfl (by kernel_rfl) (by decide) (fun K hK => ?_)
    refine goes_ Try.func49 (by kernel_rfl) rfl #[.agg #[.int .i64 a1_0, .slice A1_1 l1_1.length c1_1, .slice A1_2 l1_2.length c1_2]] (by rfl) rfl rfl gl ?_
    with_reducible refine (laws_toAsm.calls k a1_0 _ _ l1_1 _ _ l1_2 t245 t246 t249 _ ?side1 ?side2 ?side3 ?side4 A20.out).mono ?_
    (case side1 => exact cc (Kd.C_below HR1_1.out HB.out))
    (case side2 => exact HC1_1.out)
    (case side3 => exact cc (Kd.C_below HR1_2.out HB.out))
    (case side4 => exact HC1_2.out)
    rintro e w35 ⟨v247, v250, rfl, ho0, ho1, hb⟩
    refine ⟨_, rfl, ?_⟩
    have n0_ := am (Kd.S_elder' (kS HO241) (Kd.S_base ho0) hb)
    have n1_ := am (Kd.S_elder' (kS HO244) (Kd.S_base ho1) hb)
    have n2_ := am (Kd.S_lower (Kd.S_new' ho0 (Kd.S_lt (kS HO241))) (below_size (bw HB)))
    have n3_ := am (Kd.S_lower (Kd.S_new' ho1 (Kd.S_lt (kS HO244))) (below_size (bw HB)))
    have n4_ := am (blk_below (g := gb234) (o := .cells #[.int .i64 a0_0, .slice A0_1 l0_1.length c0_1, .slice A0_2 l0_2.length c0_2] 73 (0, 0)) (bp BK234) hb)
    have n5_ := am (blk_below (g := gb235) (o := .cells #[.int .i64 a1_0, .slice A1_1 l1_1.length c1_1, .slice A1_2 l1_2.length c1_2] 73 (0, 0)) (bp BK235) hb)
    have n6_ := am (below_step (bw HB) hb)
    clear HO241
    clear HO244
    clear BK234
    clear BK235
    clear HB
    have HO241 := n0_
    have HO244 := n1_
    have HO248 := n2_
    have HO251 := n3_
    have BK234 := n4_
    have BK235 := n5_
    have HB := n6_
    clear n0_ n1_ n2_ n3_ n4_ n5_ n6_
    (try clear hb)
    (try clear hb2)
    (try clear hk)
    (try clear hi)
    (try clear ho0)
    (try clear ho1)
    obtain ⟨Ao36, co36, eo36⟩ := Kd.S_slice HO241.out
    (first | subst eo36 | (injection eo36 with f1_ f2_ f3_; have f4_ := f1_.symm; have f5_ := f3_.symm; clear f1_ f2_ f3_; subst f4_; subst f5_))
    obtain ⟨Ao37, co37, eo37⟩ := Kd.S_slice HO244.out
    (first | subst eo37 | (injection eo37 with f1_ f2_ f3_; have f4_ := f1_.symm; have f5_ := f3_.symm; clear f1_ f2_ f3_; subst f4_; subst f5_))
    obtain ⟨Ao38, co38, eo38⟩ := Kd.S_slice HO248.out
    (first | subst eo38 | (injection eo38 with f1_ f2_ f3_; have f4_ := f1_.symm; have f5_ := f3_.symm; clear f1_ f2_ f3_; subst f4_; subst f5_))
    obtain ⟨Ao39, co39, eo39⟩ := Kd.S_slice HO251.out
    (first | subst eo39 | (injection eo39 with f1_ f2_ f3_; have f4_ := f1_.symm; have f5_ := f3_.symm; clear f1_ f2_ f3_; subst f4_; subst f5_))
    refine hK.out _ _ ⟨bc BK234 0, bc BK234 1, bc BK234 2, bc BK235 0, bc BK235 1, bc BK235 2⟩ (fun hHeld => ?_)
    clear hK K
    refine norm_ (a' := ?_) ?_ ?_
    rotate_left
    ·show Act.put _ (some 23) _ = _
     simp only [Act.put, sa, sz, ss, i64_w, i32_w]
     rfl
    refine one_ (i := 4) (N := some 24) #[true, true, true, true, true, false] rfl rfl (by kernel_rfl) (by decide) (fun K hK => ?_)
    refine goes_ Try.func48 (by kernel_rfl) rfl #[.agg #[.int .i64 t238, .slice Ao36 t239.length co36, .slice Ao37 t242.length co37], .agg #[.int .i64 t245, .slice Ao38 t246.length co38, .slice Ao39 t249.length co39]] (by rfl) rfl rfl gl ?_
    with_reducible refine (spec_AsmSame.calls k t238 _ _ t239 _ _ t242 t245 _ _ t246 _ _ t249 t252 _ ?side1 ?side2 ?side3 ?side4 ?side5 ?side6 ?side7 ?side8 A21.out).mono ?_
    (case side1 => exact cc (Kd.S_reads' HO241.out).2.2)
    (case side2 => exact (Kd.S_reads' HO241.out).2.1)
    (case side3 => exact cc (Kd.S_reads' HO244.out).2.2)
    (case side4 => exact (Kd.S_reads' HO244.out).2.1)
    (case side5 => exact cc (Kd.S_reads' HO248.out).2.2)
    (case side6 => exact (Kd.S_reads' HO248.out).2.1)
    (case side7 => exact cc (Kd.S_reads' HO251.out).2.2)
    (case side8 => exact (Kd.S_reads' HO251.out).2.1)
    rintro e w40 ⟨rfl, hb⟩
    refine ⟨_, rfl, ?_⟩
    have n0_ := am (Kd.S_below (kS HO241) hb)
    have n1_ := am (Kd.S_below (kS HO244) hb)
    have n2_ := am (Kd.S_below (kS HO248) hb)
    have n3_ := am (Kd.S_below (kS HO251) hb)
    have n4_ := am (blk_below (g := gb234) (o := .cells #[.int .i64 a0_0, .slice A0_1 l0_1.length c0_1, .slice A0_2 l0_2.length c0_2] 73 (0, 0)) (bp BK234) hb)
    have n5_ := am (blk_below (g := gb235) (o := .cells #[.int .i64 a1_0, .slice A1_1 l1_1.length c1_1, .slice A1_2 l1_2.length c1_2] 73 (0, 0)) (bp BK235) hb)
    have n6_ := am (below_step (bw HB) hb)
    clear HO241
    clear HO244
    clear HO248
    clear HO251
    clear BK234
    clear BK235
    clear HB
    have HO241 := n0_
    have HO244 := n1_
    have HO248 := n2_
    have HO251 := n3_
    have BK234 := n4_
    have BK235 := n5_
    have HB := n6_
    clear n0_ n1_ n2_ n3_ n4_ n5_ n6_
    (try clear hb)
    (try clear hb2)
    (try clear hk)
    (try clear hi)
    refine hK.out _ _ ⟨bc BK234 0, bc BK234 1, bc BK234 2, bc BK235 0, bc BK235 1, bc BK235 2⟩ (fun hHeld => ?_)
    clear hK K
    refine norm_ (a' := ?_) ?_ ?_
    rotate_left
    ·show Act.put _ (some 24) _ = _
     simp only [Act.put, sa, sz, ss, i64_w, i32_w]
     rfl
    refine pure_ (i := 5) (N := some 6) (v := ?_) (a' := ?_) #[true, true, true, true, true, true] rfl rfl (by kernel_rfl) (fun _ _ _ h => h) (Or.inl ⟨by rfl, ?_⟩) ?_ ?_
    rotate_left
    ·intro w'
     go_simp
     with_reducible rfl
    rotate_left
    ·simp only [Act.put, sa, sz, ss, i64_w, i32_w]
     rfl
    refine done_ (by kernel_rfl) ?_
    have hcz41_0 : w40.cell? ⟨gb234, 0, none⟩ = some (.int .i64 a0_0) := bc BK234 0
    have hcz41_1 : w40.cell? ⟨gb234, 1, none⟩ = some (.slice A0_1 l0_1.length c0_1) := bc BK234 1
    have hcz41_2 : w40.cell? ⟨gb234, 2, none⟩ = some (.slice A0_2 l0_2.length c0_2) := bc BK234 2
    have hfz41_0 := bf BK234 0
    have hfz41_1 := bf BK234 1
    have hfz41_2 := bf BK234 2
    try go_wp2_with (first | ((with_reducible refine gate_callee (f := 49) rfl ?_); refine goesL_ (some 26) rfl rfl Try.func49 (by kernel_rfl) rfl #[.agg #[.int .i64 a0_0, .slice A0_1 l0_1.length c0_1, .slice A0_2 l0_2.length c0_2]] rfl gl ?_; (with_reducible refine (laws_toAsm.calls k a0_0 _ _ l0_1 _ _ l0_2 t253 t254 t257 _ ?side1 ?side2 ?side3 ?side4 A22.out).mono ?_); (case side1 => exact cc (Kd.C_below HR0_1.out HB.out)); (case side2 => exact HC0_1.out); (case side3 => exact cc (Kd.C_below HR0_2.out HB.out)); (case side4 => exact HC0_2.out); rintro e w42 ⟨v255, v258, rfl, ho0, ho1, hb⟩; refine ⟨_, rfl, ?_⟩; have HO256 := am (Kd.S_lower (Kd.S_new' (Kd.S_new' ho0 (Kd.S_lt (kS HO241))) (Kd.S_lt (kS HO248))) (below_size (bw HB))); replace HO241 := am (Kd.S_elder' (kS HO241) (Kd.S_base ho0) hb); replace HO248 := am (Kd.S_elder' (kS HO248) (Kd.S_base ho0) hb); have HO259 := am (Kd.S_lower (Kd.S_new' (Kd.S_new' ho1 (Kd.S_lt (kS HO244))) (Kd.S_lt (kS HO251))) (below_size (bw HB))); replace HO244 := am (Kd.S_elder' (kS HO244) (Kd.S_base ho1) hb); replace HO251 := am (Kd.S_elder' (kS HO251) (Kd.S_base ho1) hb); replace BK234 := am (blk_below (g := gb234) (o := .cells #[.int .i64 a0_0, .slice A0_1 l0_1.length c0_1, .slice A0_2 l0_2.length c0_2] 73 (0, 0)) (bp BK234) hb); replace BK235 := am (blk_below (g := gb235) (o := .cells #[.int .i64 a1_0, .slice A1_1 l1_1.length c1_1, .slice A1_2 l1_2.length c1_2] 73 (0, 0)) (bp BK235) hb); replace HB := am (below_step (bw HB) hb); (try clear hb); (try clear hb2); (try clear hk); (try clear hi); (try clear ho0); (try clear ho1)) | ((with_reducible refine gate_dst (N := 7) rfl ?_); refine box_event ?hg (N := 7) ?hd (cs := #[.int .i64 0, .slice none 0 0, .slice none 0 0]) (t := 79) ?hr ?_; (case hd => rfl); (case hg => rfl); (case hr => exact gs); intro gb260 hg w43 hbox hb; replace HO241 := am (Kd.S_below (kS HO241) hb); replace HO244 := am (Kd.S_below (kS HO244) hb); replace HO248 := am (Kd.S_below (kS HO248) hb); replace HO251 := am (Kd.S_below (kS HO251) hb); replace HO256 := am (Kd.S_below (kS HO256) hb); replace HO259 := am (Kd.S_below (kS HO259) hb); have BK260 := am (hbox); have GW260 := am ((by rw [hg]; exact (below_size (bw HB)) : w.heap.size ≤ gb260)); have GE260 := am ((by rw [hg]; exact (below_size (bw HB)) : w.heap.size ≤ gb260)); replace HB := am (below_step (bw HB) hb); have NB234_260 := am ((by rw [hg]; exact Nat.ne_of_lt (blk_lt (g := gb234) (o := .cells #[.int .i64 a0_0, .slice A0_1 l0_1.length c0_1, .slice A0_2 l0_2.length c0_2] 73 (0, 0)) (bp BK234)) : gb234 ≠ gb260)); have NB260_234 := am ((by rw [hg]; exact Nat.ne_of_gt (blk_lt (g := gb234) (o := .cells #[.int .i64 a0_0, .slice A0_1 l0_1.length c0_1, .slice A0_2 l0_2.length c0_2] 73 (0, 0)) (bp BK234)) : gb260 ≠ gb234)); replace BK234 := am (blk_below (g := gb234) (o := .cells #[.int .i64 a0_0, .slice A0_1 l0_1.length c0_1, .slice A0_2 l0_2.length c0_2] 73 (0, 0)) (bp BK234) hb); have NB235_260 := am ((by rw [hg]; exact Nat.ne_of_lt (blk_lt (g := gb235) (o := .cells #[.int .i64 a1_0, .slice A1_1 l1_1.length c1_1, .slice A1_2 l1_2.length c1_2] 73 (0, 0)) (bp BK235)) : gb235 ≠ gb260)); have NB260_235 := am ((by rw [hg]; exact Nat.ne_of_gt (blk_lt (g := gb235) (o := .cells #[.int .i64 a1_0, .slice A1_1 l1_1.length c1_1, .slice A1_2 l1_2.length c1_2] 73 (0, 0)) (bp BK235)) : gb260 ≠ gb235)); replace BK235 := am (blk_below (g := gb235) (o := .cells #[.int .i64 a1_0, .slice A1_1 l1_1.length c1_1, .slice A1_2 l1_2.length c1_2] 73 (0, 0)) (bp BK235) hb); clear hb hbox hg; have hnb44 := NB260_234.out; have hnc44 := NB234_260.out; have hnb45 := NB260_235.out; have hnc45 := NB235_260.out; have hcz46_0 : w43.cell? ⟨gb260, 0, none⟩ = some (.int .i64 0) := bc BK260 0; have hcz46_1 : w43.cell? ⟨gb260, 1, none⟩ = some (.slice none 0 0) := bc BK260 1; have hcz46_2 : w43.cell? ⟨gb260, 2, none⟩ = some (.slice none 0 0) := bc BK260 2; have hfz46_0 := bf BK260 0; have hfz46_1 := bf BK260 1; have hfz46_2 := bf BK260 2; obtain ⟨Ao47, co47, eo47⟩ := Kd.S_slice HO256.out; subst eo47; obtain ⟨Ao48, co48, eo48⟩ := Kd.S_slice HO259.out; subst eo48; have hcz49_0 : w43.cell? ⟨gb235, 0, none⟩ = some (.int .i64 a1_0) := bc BK235 0; have hcz49_1 : w43.cell? ⟨gb235, 1, none⟩ = some (.slice A1_1 l1_1.length c1_1) := bc BK235 1; have hcz49_2 : w43.cell? ⟨gb235, 2, none⟩ = some (.slice A1_2 l1_2.length c1_2) := bc BK235 2; have hfz49_0 := bf BK235 0; have hfz49_1 := bf BK235 1; have hfz49_2 := bf BK235 2) | ((with_reducible refine gate_callee (f := 49) rfl ?_); refine goesL_ (some 28) rfl rfl Try.func49 (by kernel_rfl) rfl #[.agg #[.int .i64 a1_0, .slice A1_1 l1_1.length c1_1, .slice A1_2 l1_2.length c1_2]] rfl gl ?_; (with_reducible refine (laws_toAsm.calls k a1_0 _ _ l1_1 _ _ l1_2 t261 t262 t265 _ ?side1 ?side2 ?side3 ?side4 A23.out).mono ?_); (case side1 => exact Kd.C_below HR1_1.out (bw HB)); (case side2 => exact HC1_1.out); (case side3 => exact Kd.C_below HR1_2.out (bw HB)); (case side4 => exact HC1_2.out); rintro e w50 ⟨v263, v266, rfl, ho0, ho1, hb⟩; refine ⟨_, rfl, ?_⟩; have HO264 := am (Kd.S_lower (Kd.S_new' (Kd.S_new' (Kd.S_new' ho0 (Kd.S_lt (by (with_reducible repeat (first | apply Kd.S_alloc | apply Kd.S_drewN | apply Kd.S_drew)); exact (Kd.S_mono (Kd.S_far (p := ⟨gb260, 2, none⟩) (Kd.S_far (p := ⟨gb260, 1, none⟩) (Kd.S_far (p := ⟨gb260, 0, none⟩) (Kd.S_types HO241.out BK260.out (by decide)) (fun _ hk => hk.2) (.int .i64 t253)) (fun _ hk => hk.2) (.slice Ao47 t254.length co47)) (fun _ hk => hk.2) (.slice Ao48 t257.length co48)) (fun _ h_ => h_.1))))) (Kd.S_lt (by (with_reducible repeat (first | apply Kd.S_alloc | apply Kd.S_drewN | apply Kd.S_drew)); exact (Kd.S_mono (Kd.S_far (p := ⟨gb260, 2, none⟩) (Kd.S_far (p := ⟨gb260, 1, none⟩) (Kd.S_far (p := ⟨gb260, 0, none⟩) (Kd.S_types HO248.out BK260.out (by decide)) (fun _ hk => hk.2) (.int .i64 t253)) (fun _ hk => hk.2) (.slice Ao47 t254.length co47)) (fun _ hk => hk.2) (.slice Ao48 t257.length co48)) (fun _ h_ => h_.1))))) (Kd.S_lt (by (with_reducible repeat (first | apply Kd.S_alloc | apply Kd.S_drewN | apply Kd.S_drew)); exact (Kd.S_mono (Kd.S_far (p := ⟨gb260, 2, none⟩) (Kd.S_far (p := ⟨gb260, 1, none⟩) (Kd.S_far (p := ⟨gb260, 0, none⟩) (Kd.S_types HO256.out BK260.out (by decide)) (fun _ hk => hk.2) (.int .i64 t253)) (fun _ hk => hk.2) (.slice Ao47 t254.length co47)) (fun _ hk => hk.2) (.slice Ao48 t257.length co48)) (fun _ h_ => h_.1))))) (below_size (bw HB))); replace HO241 := am (Kd.S_elder' (by (with_reducible repeat (first | apply Kd.S_alloc | apply Kd.S_drewN | apply Kd.S_drew)); exact (Kd.S_mono (Kd.S_far (p := ⟨gb260, 2, none⟩) (Kd.S_far (p := ⟨gb260, 1, none⟩) (Kd.S_far (p := ⟨gb260, 0, none⟩) (Kd.S_types HO241.out BK260.out (by decide)) (fun _ hk => hk.2) (.int .i64 t253)) (fun _ hk => hk.2) (.slice Ao47 t254.length co47)) (fun _ hk => hk.2) (.slice Ao48 t257.length co48)) (fun _ h_ => h_.1))) (Kd.S_base ho0) hb); replace HO248 := am (Kd.S_elder' (by (with_reducible repeat (first | apply Kd.S_alloc | apply Kd.S_drewN | apply Kd.S_drew)); exact (Kd.S_mono (Kd.S_far (p := ⟨gb260, 2, none⟩) (Kd.S_far (p := ⟨gb260, 1, none⟩) (Kd.S_far (p := ⟨gb260, 0, none⟩) (Kd.S_types HO248.out BK260.out (by decide)) (fun _ hk => hk.2) (.int .i64 t253)) (fun _ hk => hk.2) (.slice Ao47 t254.length co47)) (fun _ hk => hk.2) (.slice Ao48 t257.length co48)) (fun _ h_ => h_.1))) (Kd.S_base ho0) hb); replace HO256 := am (Kd.S_elder' (by (with_reducible repeat (first | apply Kd.S_alloc | apply Kd.S_drewN | apply Kd.S_drew)); exact (Kd.S_mono (Kd.S_far (p := ⟨gb260, 2, none⟩) (Kd.S_far (p := ⟨gb260, 1, none⟩) (Kd.S_far (p := ⟨gb260, 0, none⟩) (Kd.S_types HO256.out BK260.out (by decide)) (fun _ hk => hk.2) (.int .i64 t253)) (fun _ hk => hk.2) (.slice Ao47 t254.length co47)) (fun _ hk => hk.2) (.slice Ao48 t257.length co48)) (fun _ h_ => h_.1))) (Kd.S_base ho0) hb); have HO267 := am (Kd.S_lower (Kd.S_new' (Kd.S_new' (Kd.S_new' ho1 (Kd.S_lt (by (with_reducible repeat (first | apply Kd.S_alloc | apply Kd.S_drewN | apply Kd.S_drew)); exact (Kd.S_mono (Kd.S_far (p := ⟨gb260, 2, none⟩) (Kd.S_far (p := ⟨gb260, 1, none⟩) (Kd.S_far (p := ⟨gb260, 0, none⟩) (Kd.S_types HO244.out BK260.out (by decide)) (fun _ hk => hk.2) (.int .i64 t253)) (fun _ hk => hk.2) (.slice Ao47 t254.length co47)) (fun _ hk => hk.2) (.slice Ao48 t257.length co48)) (fun _ h_ => h_.1))))) (Kd.S_lt (by (with_reducible repeat (first | apply Kd.S_alloc | apply Kd.S_drewN | apply Kd.S_drew)); exact (Kd.S_mono (Kd.S_far (p := ⟨gb260, 2, none⟩) (Kd.S_far (p := ⟨gb260, 1, none⟩) (Kd.S_far (p := ⟨gb260, 0, none⟩) (Kd.S_types HO251.out BK260.out (by decide)) (fun _ hk => hk.2) (.int .i64 t253)) (fun _ hk => hk.2) (.slice Ao47 t254.length co47)) (fun _ hk => hk.2) (.slice Ao48 t257.length co48)) (fun _ h_ => h_.1))))) (Kd.S_lt (by (with_reducible repeat (first | apply Kd.S_alloc | apply Kd.S_drewN | apply Kd.S_drew)); exact (Kd.S_mono (Kd.S_far (p := ⟨gb260, 2, none⟩) (Kd.S_far (p := ⟨gb260, 1, none⟩) (Kd.S_far (p := ⟨gb260, 0, none⟩) (Kd.S_types HO259.out BK260.out (by decide)) (fun _ hk => hk.2) (.int .i64 t253)) (fun _ hk => hk.2) (.slice Ao47 t254.length co47)) (fun _ hk => hk.2) (.slice Ao48 t257.length co48)) (fun _ h_ => h_.1))))) (below_size (bw HB))); replace HO244 := am (Kd.S_elder' (by (with_reducible repeat (first | apply Kd.S_alloc | apply Kd.S_drewN | apply Kd.S_drew)); exact (Kd.S_mono (Kd.S_far (p := ⟨gb260, 2, none⟩) (Kd.S_far (p := ⟨gb260, 1, none⟩) (Kd.S_far (p := ⟨gb260, 0, none⟩) (Kd.S_types HO244.out BK260.out (by decide)) (fun _ hk => hk.2) (.int .i64 t253)) (fun _ hk => hk.2) (.slice Ao47 t254.length co47)) (fun _ hk => hk.2) (.slice Ao48 t257.length co48)) (fun _ h_ => h_.1))) (Kd.S_base ho1) hb); replace HO251 := am (Kd.S_elder' (by (with_reducible repeat (first | apply Kd.S_alloc | apply Kd.S_drewN | apply Kd.S_drew)); exact (Kd.S_mono (Kd.S_far (p := ⟨gb260, 2, none⟩) (Kd.S_far (p := ⟨gb260, 1, none⟩) (Kd.S_far (p := ⟨gb260, 0, none⟩) (Kd.S_types HO251.out BK260.out (by decide)) (fun _ hk => hk.2) (.int .i64 t253)) (fun _ hk => hk.2) (.slice Ao47 t254.length co47)) (fun _ hk => hk.2) (.slice Ao48 t257.length co48)) (fun _ h_ => h_.1))) (Kd.S_base ho1) hb); replace HO259 := am (Kd.S_elder' (by (with_reducible repeat (first | apply Kd.S_alloc | apply Kd.S_drewN | apply Kd.S_drew)); exact (Kd.S_mono (Kd.S_far (p := ⟨gb260, 2, none⟩) (Kd.S_far (p := ⟨gb260, 1, none⟩) (Kd.S_far (p := ⟨gb260, 0, none⟩) (Kd.S_types HO259.out BK260.out (by decide)) (fun _ hk => hk.2) (.int .i64 t253)) (fun _ hk => hk.2) (.slice Ao47 t254.length co47)) (fun _ hk => hk.2) (.slice Ao48 t257.length co48)) (fun _ h_ => h_.1))) (Kd.S_base ho1) hb); replace BK234 := am (blk_below (g := gb234) (o := .cells #[.int .i64 a0_0, .slice A0_1 l0_1.length c0_1, .slice A0_2 l0_2.length c0_2] 73 (0, 0)) (by (with_reducible repeat (first | apply dN | apply dW | apply dA)); refine blk_far ?_ NB234_260.out _; (with_reducible repeat (first | apply dN | apply dW | apply dA)); refine blk_far ?_ NB234_260.out _; (with_reducible repeat (first | apply dN | apply dW | apply dA)); refine blk_far ?_ NB234_260.out _; exact bp BK234) hb); replace BK235 := am (blk_below (g := gb235) (o := .cells #[.int .i64 a1_0, .slice A1_1 l1_1.length c1_1, .slice A1_2 l1_2.length c1_2] 73 (0, 0)) (by (with_reducible repeat (first | apply dN | apply dW | apply dA)); refine blk_far ?_ NB235_260.out _; (with_reducible repeat (first | apply dN | apply dW | apply dA)); refine blk_far ?_ NB235_260.out _; (with_reducible repeat (first | apply dN | apply dW | apply dA)); refine blk_far ?_ NB235_260.out _; exact bp BK235) hb); replace BK260 := am (blk_below (g := gb260) (o := .cells #[.int .i64 t253, .slice Ao47 t254.length co47, .slice Ao48 t257.length co48] 79 (0, 0)) (by (with_reducible repeat (first | apply dN | apply dW | apply dA)); refine blk_put (cs := #[.int .i64 t253, .slice Ao47 t254.length co47, .slice none 0 0]) ?_ 2 _ rfl; (with_reducible repeat (first | apply dN | apply dW | apply dA)); refine blk_put (cs := #[.int .i64 t253, .slice none 0 0, .slice none 0 0]) ?_ 1 _ rfl; (with_reducible repeat (first | apply dN | apply dW | apply dA)); refine blk_put (cs := #[.int .i64 0, .slice none 0 0, .slice none 0 0]) ?_ 0 _ rfl; exact bp BK260) hb); replace HB := am (below_step (bw HB) hb); (try clear hb); (try clear hb2); (try clear hk); (try clear hi); (try clear ho0); (try clear ho1)) | ((with_reducible refine gate_dst (N := 8) rfl ?_); refine box_event ?hg (N := 8) ?hd (cs := #[.int .i64 0, .slice none 0 0, .slice none 0 0]) (t := 79) ?hr ?_; (case hd => rfl); (case hg => rfl); (case hr => exact gs); intro gb268 hg w51 hbox hb; replace HO241 := am (Kd.S_below (kS HO241) hb); replace HO244 := am (Kd.S_below (kS HO244) hb); replace HO248 := am (Kd.S_below (kS HO248) hb); replace HO251 := am (Kd.S_below (kS HO251) hb); replace HO256 := am (Kd.S_below (kS HO256) hb); replace HO259 := am (Kd.S_below (kS HO259) hb); replace HO264 := am (Kd.S_below (kS HO264) hb); replace HO267 := am (Kd.S_below (kS HO267) hb); have BK268 := am (hbox); have GW268 := am ((by rw [hg]; exact (below_size (bw HB)) : w.heap.size ≤ gb268)); have GE268 := am ((by rw [hg]; exact (below_size (bw HB)) : w.heap.size ≤ gb268)); replace HB := am (below_step (bw HB) hb); have NB234_268 := am ((by rw [hg]; exact Nat.ne_of_lt (blk_lt (g := gb234) (o := .cells #[.int .i64 a0_0, .slice A0_1 l0_1.length c0_1, .slice A0_2 l0_2.length c0_2] 73 (0, 0)) (bp BK234)) : gb234 ≠ gb268)); have NB268_234 := am ((by rw [hg]; exact Nat.ne_of_gt (blk_lt (g := gb234) (o := .cells #[.int .i64 a0_0, .slice A0_1 l0_1.length c0_1, .slice A0_2 l0_2.length c0_2] 73 (0, 0)) (bp BK234)) : gb268 ≠ gb234)); replace BK234 := am (blk_below (g := gb234) (o := .cells #[.int .i64 a0_0, .slice A0_1 l0_1.length c0_1, .slice A0_2 l0_2.length c0_2] 73 (0, 0)) (bp BK234) hb); have NB235_268 := am ((by rw [hg]; exact Nat.ne_of_lt (blk_lt (g := gb235) (o := .cells #[.int .i64 a1_0, .slice A1_1 l1_1.length c1_1, .slice A1_2 l1_2.length c1_2] 73 (0, 0)) (bp BK235)) : gb235 ≠ gb268)); have NB268_235 := am ((by rw [hg]; exact Nat.ne_of_gt (blk_lt (g := gb235) (o := .cells #[.int .i64 a1_0, .slice A1_1 l1_1.length c1_1, .slice A1_2 l1_2.length c1_2] 73 (0, 0)) (bp BK235)) : gb268 ≠ gb235)); replace BK235 := am (blk_below (g := gb235) (o := .cells #[.int .i64 a1_0, .slice A1_1 l1_1.length c1_1, .slice A1_2 l1_2.length c1_2] 73 (0, 0)) (bp BK235) hb); have NB260_268 := am ((by rw [hg]; exact Nat.ne_of_lt (blk_lt (g := gb260) (o := .cells #[.int .i64 t253, .slice Ao47 t254.length co47, .slice Ao48 t257.length co48] 79 (0, 0)) (bp BK260)) : gb260 ≠ gb268)); have NB268_260 := am ((by rw [hg]; exact Nat.ne_of_gt (blk_lt (g := gb260) (o := .cells #[.int .i64 t253, .slice Ao47 t254.length co47, .slice Ao48 t257.length co48] 79 (0, 0)) (bp BK260)) : gb268 ≠ gb260)); replace BK260 := am (blk_below (g := gb260) (o := .cells #[.int .i64 t253, .slice Ao47 t254.length co47, .slice Ao48 t257.length co48] 79 (0, 0)) (bp BK260) hb); clear hb hbox hg; have hnb52 := NB268_234.out; have hnc52 := NB234_268.out; have hnb53 := NB268_235.out; have hnc53 := NB235_268.out; have hnb54 := NB268_260.out; have hnc54 := NB260_268.out; have hcz55_0 : w51.cell? ⟨gb268, 0, none⟩ = some (.int .i64 0) := bc BK268 0; have hcz55_1 : w51.cell? ⟨gb268, 1, none⟩ = some (.slice none 0 0) := bc BK268 1; have hcz55_2 : w51.cell? ⟨gb268, 2, none⟩ = some (.slice none 0 0) := bc BK268 2; have hfz55_0 := bf BK268 0; have hfz55_1 := bf BK268 1; have hfz55_2 := bf BK268 2; obtain ⟨Ao56, co56, eo56⟩ := Kd.S_slice HO264.out; subst eo56; obtain ⟨Ao57, co57, eo57⟩ := Kd.S_slice HO267.out; subst eo57; have hcz58_0 : w51.cell? ⟨gb260, 0, none⟩ = some (.int .i64 t253) := bc BK260 0; have hcz58_1 : w51.cell? ⟨gb260, 1, none⟩ = some (.slice Ao47 t254.length co47) := bc BK260 1; have hcz58_2 : w51.cell? ⟨gb260, 2, none⟩ = some (.slice Ao48 t257.length co48) := bc BK260 2; have hfz58_0 := bf BK260 0; have hfz58_1 := bf BK260 1; have hfz58_2 := bf BK260 2) | ((with_reducible refine gate_callee (f := 50) rfl ?_); refine goesL_ (some 31) rfl rfl Try.func50 (by kernel_rfl) rfl #[.agg #[.int .i64 t253, .slice Ao47 t254.length co47, .slice Ao48 t257.length co48], .agg #[.int .i64 t261, .slice Ao56 t262.length co56, .slice Ao57 t265.length co57]] rfl gl ?_; (with_reducible refine (impl_AsmSame.calls k t253 _ _ t254 _ _ t257 t261 _ _ t262 _ _ t265 t269 _ ?side1 ?side2 ?side3 ?side4 ?side5 ?side6 ?side7 ?side8 A24.out).mono ?_); (case side1 => refine (Kd.S_reads' (e := 123) (base := w.heap.size) (ok := fun k_ => (((True ∧ some k_ ≠ (.slice Ao36 t239.length co36 : Value).ownBlock) ∧ some k_ ≠ (.slice Ao38 t246.length co38 : Value).ownBlock) ∧ some k_ ≠ (.slice Ao56 t262.length co56 : Value).ownBlock)) (n := t254.length) (c := co47) ?_).2.2; exact (by (with_reducible repeat (first | apply Kd.S_alloc | apply Kd.S_drewN | apply Kd.S_drew)); exact (Kd.S_mono (Kd.S_far (p := ⟨gb268, 2, none⟩) (Kd.S_far (p := ⟨gb268, 1, none⟩) (Kd.S_far (p := ⟨gb268, 0, none⟩) (Kd.S_types HO256.out BK268.out (by decide)) (fun _ hk => hk.2) (.int .i64 t261)) (fun _ hk => hk.2) (.slice Ao56 t262.length co56)) (fun _ hk => hk.2) (.slice Ao57 t265.length co57)) (fun _ h_ => h_.1)))); (case side2 => exact (Kd.S_reads' HO256.out).2.1); (case side3 => refine (Kd.S_reads' (e := 121) (base := w.heap.size) (ok := fun k_ => (((True ∧ some k_ ≠ (.slice Ao37 t242.length co37 : Value).ownBlock) ∧ some k_ ≠ (.slice Ao39 t249.length co39 : Value).ownBlock) ∧ some k_ ≠ (.slice Ao57 t265.length co57 : Value).ownBlock)) (n := t257.length) (c := co48) ?_).2.2; exact (by (with_reducible repeat (first | apply Kd.S_alloc | apply Kd.S_drewN | apply Kd.S_drew)); exact (Kd.S_mono (Kd.S_far (p := ⟨gb268, 2, none⟩) (Kd.S_far (p := ⟨gb268, 1, none⟩) (Kd.S_far (p := ⟨gb268, 0, none⟩) (Kd.S_types HO259.out BK268.out (by decide)) (fun _ hk => hk.2) (.int .i64 t261)) (fun _ hk => hk.2) (.slice Ao56 t262.length co56)) (fun _ hk => hk.2) (.slice Ao57 t265.length co57)) (fun _ h_ => h_.1)))); (case side4 => exact (Kd.S_reads' HO259.out).2.1); (case side5 => refine (Kd.S_reads' (e := 123) (base := w.heap.size) (ok := fun k_ => (((True ∧ some k_ ≠ (.slice Ao36 t239.length co36 : Value).ownBlock) ∧ some k_ ≠ (.slice Ao38 t246.length co38 : Value).ownBlock) ∧ some k_ ≠ (.slice Ao47 t254.length co47 : Value).ownBlock)) (n := t262.length) (c := co56) ?_).2.2; exact (by (with_reducible repeat (first | apply Kd.S_alloc | apply Kd.S_drewN | apply Kd.S_drew)); exact (Kd.S_mono (Kd.S_far (p := ⟨gb268, 2, none⟩) (Kd.S_far (p := ⟨gb268, 1, none⟩) (Kd.S_far (p := ⟨gb268, 0, none⟩) (Kd.S_types HO264.out BK268.out (by decide)) (fun _ hk => hk.2) (.int .i64 t261)) (fun _ hk => hk.2) (.slice Ao56 t262.length co56)) (fun _ hk => hk.2) (.slice Ao57 t265.length co57)) (fun _ h_ => h_.1)))); (case side6 => exact (Kd.S_reads' HO264.out).2.1); (case side7 => refine (Kd.S_reads' (e := 121) (base := w.heap.size) (ok := fun k_ => (((True ∧ some k_ ≠ (.slice Ao37 t242.length co37 : Value).ownBlock) ∧ some k_ ≠ (.slice Ao39 t249.length co39 : Value).ownBlock) ∧ some k_ ≠ (.slice Ao48 t257.length co48 : Value).ownBlock)) (n := t265.length) (c := co57) ?_).2.2; exact (by (with_reducible repeat (first | apply Kd.S_alloc | apply Kd.S_drewN | apply Kd.S_drew)); exact (Kd.S_mono (Kd.S_far (p := ⟨gb268, 2, none⟩) (Kd.S_far (p := ⟨gb268, 1, none⟩) (Kd.S_far (p := ⟨gb268, 0, none⟩) (Kd.S_types HO267.out BK268.out (by decide)) (fun _ hk => hk.2) (.int .i64 t261)) (fun _ hk => hk.2) (.slice Ao56 t262.length co56)) (fun _ hk => hk.2) (.slice Ao57 t265.length co57)) (fun _ h_ => h_.1)))); (case side8 => exact (Kd.S_reads' HO267.out).2.1); rintro e w59 ⟨rfl, hb⟩; refine ⟨_, rfl, ?_⟩; replace HO241 := am (Kd.S_below (by (with_reducible repeat (first | apply Kd.S_alloc | apply Kd.S_drewN | apply Kd.S_drew)); exact (Kd.S_mono (Kd.S_far (p := ⟨gb268, 2, none⟩) (Kd.S_far (p := ⟨gb268, 1, none⟩) (Kd.S_far (p := ⟨gb268, 0, none⟩) (Kd.S_types HO241.out BK268.out (by decide)) (fun _ hk => hk.2) (.int .i64 t261)) (fun _ hk => hk.2) (.slice Ao56 t262.length co56)) (fun _ hk => hk.2) (.slice Ao57 t265.length co57)) (fun _ h_ => h_.1))) hb); replace HO244 := am (Kd.S_below (by (with_reducible repeat (first | apply Kd.S_alloc | apply Kd.S_drewN | apply Kd.S_drew)); exact (Kd.S_mono (Kd.S_far (p := ⟨gb268, 2, none⟩) (Kd.S_far (p := ⟨gb268, 1, none⟩) (Kd.S_far (p := ⟨gb268, 0, none⟩) (Kd.S_types HO244.out BK268.out (by decide)) (fun _ hk => hk.2) (.int .i64 t261)) (fun _ hk => hk.2) (.slice Ao56 t262.length co56)) (fun _ hk => hk.2) (.slice Ao57 t265.length co57)) (fun _ h_ => h_.1))) hb); replace HO248 := am (Kd.S_below (by (with_reducible repeat (first | apply Kd.S_alloc | apply Kd.S_drewN | apply Kd.S_drew)); exact (Kd.S_mono (Kd.S_far (p := ⟨gb268, 2, none⟩) (Kd.S_far (p := ⟨gb268, 1, none⟩) (Kd.S_far (p := ⟨gb268, 0, none⟩) (Kd.S_types HO248.out BK268.out (by decide)) (fun _ hk => hk.2) (.int .i64 t261)) (fun _ hk => hk.2) (.slice Ao56 t262.length co56)) (fun _ hk => hk.2) (.slice Ao57 t265.length co57)) (fun _ h_ => h_.1))) hb); replace HO251 := am (Kd.S_below (by (with_reducible repeat (first | apply Kd.S_alloc | apply Kd.S_drewN | apply Kd.S_drew)); exact (Kd.S_mono (Kd.S_far (p := ⟨gb268, 2, none⟩) (Kd.S_far (p := ⟨gb268, 1, none⟩) (Kd.S_far (p := ⟨gb268, 0, none⟩) (Kd.S_types HO251.out BK268.out (by decide)) (fun _ hk => hk.2) (.int .i64 t261)) (fun _ hk => hk.2) (.slice Ao56 t262.length co56)) (fun _ hk => hk.2) (.slice Ao57 t265.length co57)) (fun _ h_ => h_.1))) hb); replace HO256 := am (Kd.S_below (by (with_reducible repeat (first | apply Kd.S_alloc | apply Kd.S_drewN | apply Kd.S_drew)); exact (Kd.S_mono (Kd.S_far (p := ⟨gb268, 2, none⟩) (Kd.S_far (p := ⟨gb268, 1, none⟩) (Kd.S_far (p := ⟨gb268, 0, none⟩) (Kd.S_types HO256.out BK268.out (by decide)) (fun _ hk => hk.2) (.int .i64 t261)) (fun _ hk => hk.2) (.slice Ao56 t262.length co56)) (fun _ hk => hk.2) (.slice Ao57 t265.length co57)) (fun _ h_ => h_.1))) hb); replace HO259 := am (Kd.S_below (by (with_reducible repeat (first | apply Kd.S_alloc | apply Kd.S_drewN | apply Kd.S_drew)); exact (Kd.S_mono (Kd.S_far (p := ⟨gb268, 2, none⟩) (Kd.S_far (p := ⟨gb268, 1, none⟩) (Kd.S_far (p := ⟨gb268, 0, none⟩) (Kd.S_types HO259.out BK268.out (by decide)) (fun _ hk => hk.2) (.int .i64 t261)) (fun _ hk => hk.2) (.slice Ao56 t262.length co56)) (fun _ hk => hk.2) (.slice Ao57 t265.length co57)) (fun _ h_ => h_.1))) hb); replace HO264 := am (Kd.S_below (by (with_reducible repeat (first | apply Kd.S_alloc | apply Kd.S_drewN | apply Kd.S_drew)); exact (Kd.S_mono (Kd.S_far (p := ⟨gb268, 2, none⟩) (Kd.S_far (p := ⟨gb268, 1, none⟩) (Kd.S_far (p := ⟨gb268, 0, none⟩) (Kd.S_types HO264.out BK268.out (by decide)) (fun _ hk => hk.2) (.int .i64 t261)) (fun _ hk => hk.2) (.slice Ao56 t262.length co56)) (fun _ hk => hk.2) (.slice Ao57 t265.length co57)) (fun _ h_ => h_.1))) hb); replace HO267 := am (Kd.S_below (by (with_reducible repeat (first | apply Kd.S_alloc | apply Kd.S_drewN | apply Kd.S_drew)); exact (Kd.S_mono (Kd.S_far (p := ⟨gb268, 2, none⟩) (Kd.S_far (p := ⟨gb268, 1, none⟩) (Kd.S_far (p := ⟨gb268, 0, none⟩) (Kd.S_types HO267.out BK268.out (by decide)) (fun _ hk => hk.2) (.int .i64 t261)) (fun _ hk => hk.2) (.slice Ao56 t262.length co56)) (fun _ hk => hk.2) (.slice Ao57 t265.length co57)) (fun _ h_ => h_.1))) hb); replace BK234 := am (blk_below (g := gb234) (o := .cells #[.int .i64 a0_0, .slice A0_1 l0_1.length c0_1, .slice A0_2 l0_2.length c0_2] 73 (0, 0)) (by (with_reducible repeat (first | apply dN | apply dW | apply dA)); refine blk_far ?_ NB234_268.out _; (with_reducible repeat (first | apply dN | apply dW | apply dA)); refine blk_far ?_ NB234_268.out _; (with_reducible repeat (first | apply dN | apply dW | apply dA)); refine blk_far ?_ NB234_268.out _; exact bp BK234) hb); replace BK235 := am (blk_below (g := gb235) (o := .cells #[.int .i64 a1_0, .slice A1_1 l1_1.length c1_1, .slice A1_2 l1_2.length c1_2] 73 (0, 0)) (by (with_reducible repeat (first | apply dN | apply dW | apply dA)); refine blk_far ?_ NB235_268.out _; (with_reducible repeat (first | apply dN | apply dW | apply dA)); refine blk_far ?_ NB235_268.out _; (with_reducible repeat (first | apply dN | apply dW | apply dA)); refine blk_far ?_ NB235_268.out _; exact bp BK235) hb); replace BK260 := am (blk_below (g := gb260) (o := .cells #[.int .i64 t253, .slice Ao47 t254.length co47, .slice Ao48 t257.length co48] 79 (0, 0)) (by (with_reducible repeat (first | apply dN | apply dW | apply dA)); refine blk_far ?_ NB260_268.out _; (with_reducible repeat (first | apply dN | apply dW | apply dA)); refine blk_far ?_ NB260_268.out _; (with_reducible repeat (first | apply dN | apply dW | apply dA)); refine blk_far ?_ NB260_268.out _; exact bp BK260) hb); replace BK268 := am (blk_below (g := gb268) (o := .cells #[.int .i64 t261, .slice Ao56 t262.length co56, .slice Ao57 t265.length co57] 79 (0, 0)) (by (with_reducible repeat (first | apply dN | apply dW | apply dA)); refine blk_put (cs := #[.int .i64 t261, .slice Ao56 t262.length co56, .slice none 0 0]) ?_ 2 _ rfl; (with_reducible repeat (first | apply dN | apply dW | apply dA)); refine blk_put (cs := #[.int .i64 t261, .slice none 0 0, .slice none 0 0]) ?_ 1 _ rfl; (with_reducible repeat (first | apply dN | apply dW | apply dA)); refine blk_put (cs := #[.int .i64 0, .slice none 0 0, .slice none 0 0]) ?_ 0 _ rfl; exact bp BK268) hb); replace HB := am (below_step (bw HB) hb); (try clear hb); (try clear hb2); (try clear hk); (try clear hi)))
    go_ret
    exact ⟨er, bw HB⟩
   ·rw [if_neg c25] at H
    have c25b0 : (t269 != t252) = false := by simpa using c25
    (try (have c25b1 : decide (t269 = t252) = true := by simpa using c25))
    (try (have c25b2 : (t269 == t252) = true := by simpa using c25))
    clear c25
    replace H := Option.bind_eq_some_iff.mp H
    obtain ⟨⟨t270, t271, t274⟩, A600, H⟩ := H
    replace H : ((laws_eqAsm.f k t253 t254 t257 t270 t271 t274).bind fun t277 => (if t277 = true then ((laws_toAsm.f k a1_0 l1_1 l1_2).bind fun bt278 => ((laws_eqAsm.f k t261 t262 t265 bt278.1 bt278.2.1 bt278.2.2).bind fun t285 => (if t285 = true then (some true) else (some false)))) else (some false))) = some r := H
    have A60 := am A600
    clear A600
    replace H := Option.bind_eq_some_iff.mp H
    obtain ⟨t277, A610, H⟩ := H
    replace H : (if t277 = true then ((laws_toAsm.f k a1_0 l1_1 l1_2).bind fun bt278 => ((laws_eqAsm.f k t261 t262 t265 bt278.1 bt278.2.1 bt278.2.2).bind fun t285 => (if t285 = true then (some true) else (some false)))) else (some false)) = some r := H
    have A61 := am A610
    clear A610
    by_cases c62 : t277 = true
    ·subst c62
     have H1 : ((laws_toAsm.f k a1_0 l1_1 l1_2).bind fun bt278 => ((laws_eqAsm.f k t261 t262 t265 bt278.1 bt278.2.1 bt278.2.2).bind fun t285 => (if t285 = true then (some true) else (some false)))) = some r := by rw [if_pos rfl] at H; exact H
     clear H
     have H := H1
     clear H1
     replace H := Option.bind_eq_some_iff.mp H
     obtain ⟨⟨t278, t279, t282⟩, A630, H⟩ := H
     replace H : ((laws_eqAsm.f k t261 t262 t265 t278 t279 t282).bind fun t285 => (if t285 = true then (some true) else (some false))) = some r := H
     have A63 := am A630
     clear A630
     replace H := Option.bind_eq_some_iff.mp H
     obtain ⟨t285, A640, H⟩ := H
     replace H : (if t285 = true then (some true) else (some false)) = some r := H
     have A64 := am A640
     clear A640
     by_cases c65 : t285 = true
     ·subst c65
      have H1 : (some true) = some r := by rw [if_pos rfl] at H; exact H
      clear H
      have H := H1
      clear H1
      obtain rfl := Option.some.inj H
      go_enter Try.func12, Try.ntmps12
      try go_wp2_with (first | ((with_reducible refine gate_dst (N := 2) rfl ?_); refine box_event ?hg (N := 2) ?hd (cs := #[.int .i64 a0_0, .slice A0_1 l0_1.length c0_1, .slice A0_2 l0_2.length c0_2]) (t := 73) ?hr ?_; (case hd => rfl); (case hg => rfl); (case hr => exact gs); intro gb234 hg w66 hbox hb; have BK234 := am (hbox); have GW234 := am ((by rw [hg]; exact (below_size (bw HB)) : w.heap.size ≤ gb234)); have GE234 := am ((by rw [hg]; exact (below_size (bw HB)) : w.heap.size ≤ gb234)); replace HB := am (below_step (bw HB) hb); clear hb hbox hg) | ((with_reducible refine gate_dst (N := 3) rfl ?_); refine box_event ?hg (N := 3) ?hd (cs := #[.int .i64 a1_0, .slice A1_1 l1_1.length c1_1, .slice A1_2 l1_2.length c1_2]) (t := 73) ?hr ?_; (case hd => rfl); (case hg => rfl); (case hr => exact gs); intro gb235 hg w67 hbox hb; have BK235 := am (hbox); have GW235 := am ((by rw [hg]; exact (below_size (bw HB)) : w.heap.size ≤ gb235)); have GE235 := am ((by rw [hg]; exact (below_size (bw HB)) : w.heap.size ≤ gb235)); replace HB := am (below_step (bw HB) hb); have NB234_235 := am ((by rw [hg]; exact Nat.ne_of_lt (blk_lt (g := gb234) (o := .cells #[.int .i64 a0_0, .slice A0_1 l0_1.length c0_1, .slice A0_2 l0_2.length c0_2] 73 (0, 0)) (bp BK234)) : gb234 ≠ gb235)); have NB235_234 := am ((by rw [hg]; exact Nat.ne_of_gt (blk_lt (g := gb234) (o := .cells #[.int .i64 a0_0, .slice A0_1 l0_1.length c0_1, .slice A0_2 l0_2.length c0_2] 73 (0, 0)) (bp BK234)) : gb235 ≠ gb234)); replace BK234 := am (blk_below (g := gb234) (o := .cells #[.int .i64 a0_0, .slice A0_1 l0_1.length c0_1, .slice A0_2 l0_2.length c0_2] 73 (0, 0)) (bp BK234) hb); clear hb hbox hg; have hnb68 := NB234_235.out; have hnc68 := NB235_234.out; have hcz69_0 : w67.cell? ⟨gb234, 0, none⟩ = some (.int .i64 a0_0) := bc BK234 0; have hcz69_1 : w67.cell? ⟨gb234, 1, none⟩ = some (.slice A0_1 l0_1.length c0_1) := bc BK234 1; have hcz69_2 : w67.cell? ⟨gb234, 2, none⟩ = some (.slice A0_2 l0_2.length c0_2) := bc BK234 2; have hfz69_0 := bf BK234 0; have hfz69_1 := bf BK234 1; have hfz69_2 := bf BK234 2) | ((with_reducible refine gate_callee (f := 47) rfl ?_); refine goesL_ (some 12) rfl rfl Try.func47 (by kernel_rfl) rfl #[.agg #[.int .i64 a0_0, .slice A0_1 l0_1.length c0_1, .slice A0_2 l0_2.length c0_2], .int .i64 1048576] rfl gl ?_; (with_reducible refine (laws_szAsm.calls k a0_0 _ _ l0_1 _ _ l0_2 1048576 t236 _ ?side1 ?side2 ?side3 ?side4 A3.out).mono ?_); (case side1 => exact cc (Kd.C_below HR0_1.out HB.out)); (case side2 => exact HC0_1.out); (case side3 => exact cc (Kd.C_below HR0_2.out HB.out)); (case side4 => exact HC0_2.out); rintro e w70 ⟨rfl, hb⟩; refine ⟨_, rfl, ?_⟩; replace BK234 := am (blk_below (g := gb234) (o := .cells #[.int .i64 a0_0, .slice A0_1 l0_1.length c0_1, .slice A0_2 l0_2.length c0_2] 73 (0, 0)) (bp BK234) hb); replace BK235 := am (blk_below (g := gb235) (o := .cells #[.int .i64 a1_0, .slice A1_1 l1_1.length c1_1, .slice A1_2 l1_2.length c1_2] 73 (0, 0)) (bp BK235) hb); replace HB := am (below_step (bw HB) hb); (try clear hb); (try clear hb2); (try clear hk); (try clear hi); have hcz71_0 : w70.cell? ⟨gb235, 0, none⟩ = some (.int .i64 a1_0) := bc BK235 0; have hcz71_1 : w70.cell? ⟨gb235, 1, none⟩ = some (.slice A1_1 l1_1.length c1_1) := bc BK235 1; have hcz71_2 : w70.cell? ⟨gb235, 2, none⟩ = some (.slice A1_2 l1_2.length c1_2) := bc BK235 2; have hfz71_0 := bf BK235 0; have hfz71_1 := bf BK235 1; have hfz71_2 := bf BK235 2) | ((with_reducible refine gate_callee (f := 47) rfl ?_); refine goesL_ (some 17) rfl rfl Try.func47 (by kernel_rfl) rfl #[.agg #[.int .i64 a1_0, .slice A1_1 l1_1.length c1_1, .slice A1_2 l1_2.length c1_2], .int .i64 t236] rfl gl ?_; (with_reducible refine (laws_szAsm.calls k a1_0 _ _ l1_1 _ _ l1_2 t236 t237 _ ?side1 ?side2 ?side3 ?side4 A10.out).mono ?_); (case side1 => exact cc (Kd.C_below HR1_1.out HB.out)); (case side2 => exact HC1_1.out); (case side3 => exact cc (Kd.C_below HR1_2.out HB.out)); (case side4 => exact HC1_2.out); rintro e w72 ⟨rfl, hb⟩; refine ⟨_, rfl, ?_⟩; replace BK234 := am (blk_below (g := gb234) (o := .cells #[.int .i64 a0_0, .slice A0_1 l0_1.length c0_1, .slice A0_2 l0_2.length c0_2] 73 (0, 0)) (bp BK234) hb); replace BK235 := am (blk_below (g := gb235) (o := .cells #[.int .i64 a1_0, .slice A1_1 l1_1.length c1_1, .slice A1_2 l1_2.length c1_2] 73 (0, 0)) (bp BK235) hb); replace HB := am (below_step (bw HB) hb); (try clear hb); (try clear hb2); (try clear hk); (try clear hi)))
      have n0_ := am (blk_drew BK234.out)
      have n1_ := am (blk_drew BK235.out)
      have n2_ := am (below_drew1 HB.out)
      clear BK234
      clear BK235
      clear HB
      have BK234 := n0_
      have BK235 := n1_
      have HB := n2_
      clear n0_ n1_ n2_
      refine start_ (n := 6) (S := fun w' => w'.cell? ⟨gb234, 0, none⟩ = some (.int .i64 a0_0) ∧ w'.cell? ⟨gb234, 1, none⟩ = some (.slice A0_1 l0_1.length c0_1) ∧ w'.cell? ⟨gb234, 2, none⟩ = some (.slice A0_2 l0_2.length c0_2) ∧ w'.cell? ⟨gb235, 0, none⟩ = some (.int .i64 a1_0) ∧ w'.cell? ⟨gb235, 1, none⟩ = some (.slice A1_1 l1_1.length c1_1) ∧ w'.cell? ⟨gb235, 2, none⟩ = some (.slice A1_2 l1_2.length c1_2)) (ds := []) #[false, false, false, false, false, false] (by kernel_rfl) rfl rfl ⟨bc BK234 0, bc BK234 1, bc BK234 2, bc BK235 0, bc BK235 1, bc BK235 2⟩ (fun hHeld => ?_)
      generalize w72.drew = w73 at BK234 BK235 HB hHeld ⊢
      refine take_ (i := 0) (N := some 20) (v := ?_) (a' := ?_) #[true, false, false, false, false, false] rfl rfl (by kernel_rfl) (fun _ _ _ h => h) (Or.inl ⟨by rfl, ?_⟩) hHeld ?_ ?_
      rotate_left
      ·rintro w' ⟨s0, s1, s2, s3, s4, s5⟩
       go_simp
       with_reducible rfl
      rotate_left
      ·simp only [Act.put, sa, sz, ss, i64_w, i32_w]
       rfl
      refine take_ (i := 2) (N := some 22) (v := ?_) (a' := ?_) #[true, false, true, false, false, false] rfl rfl (by kernel_rfl) (fun _ _ _ h => h) (Or.inl ⟨by rfl, ?_⟩) hHeld ?_ ?_
      rotate_left
      ·rintro w' ⟨s0, s1, s2, s3, s4, s5⟩
       go_simp
       with_reducible rfl
      rotate_left
      ·simp only [Act.put, sa, sz, ss, i64_w, i32_w]
       rfl
      refine one_ (i := 1) (N := some 21) #[true, true, true, false, false, false] rfl rfl (by kernel_rfl) (by decide) (fun K hK => ?_)
      refine goes_ Try.func49 (by kernel_rfl) rfl #[.agg #[.int .i64 a0_0, .slice A0_1 l0_1.length c0_1, .slice A0_2 l0_2.length c0_2]] (by rfl) rfl rfl gl ?_
      with_reducible refine (laws_toAsm.calls k a0_0 _ _ l0_1 _ _ l0_2 t238 t239 t242 _ ?side1 ?side2 ?side3 ?side4 A19.out).mono ?_
      (case side1 => exact cc (Kd.C_below HR0_1.out HB.out))
      (case side2 => exact HC0_1.out)
      (case side3 => exact cc (Kd.C_below HR0_2.out HB.out))
      (case side4 => exact HC0_2.out)
      rintro e w74 ⟨v240, v243, rfl, ho0, ho1, hb⟩
      refine ⟨_, rfl, ?_⟩
      have n0_ := am (Kd.S_lower ho0 (below_size (bw HB)))
      have n1_ := am (Kd.S_lower ho1 (below_size (bw HB)))
      have n2_ := am (blk_below (g := gb234) (o := .cells #[.int .i64 a0_0, .slice A0_1 l0_1.length c0_1, .slice A0_2 l0_2.length c0_2] 73 (0, 0)) (bp BK234) hb)
      have n3_ := am (blk_below (g := gb235) (o := .cells #[.int .i64 a1_0, .slice A1_1 l1_1.length c1_1, .slice A1_2 l1_2.length c1_2] 73 (0, 0)) (bp BK235) hb)
      have n4_ := am (below_step (bw HB) hb)
      clear BK234
      clear BK235
      clear HB
      have HO241 := n0_
      have HO244 := n1_
      have BK234 := n2_
      have BK235 := n3_
      have HB := n4_
      clear n0_ n1_ n2_ n3_ n4_
      (try clear hb)
      (try clear hb2)
      (try clear hk)
      (try clear hi)
      (try clear ho0)
      (try clear ho1)
      refine hK.out _ _ ⟨bc BK234 0, bc BK234 1, bc BK234 2, bc BK235 0, bc BK235 1, bc BK235 2⟩ (fun hHeld => ?_)
      clear hK K
      refine norm_ (a' := ?_) ?_ ?_
      rotate_left
      ·show Act.put _ (some 21) _ = _
       simp only [Act.put, sa, sz, ss, i64_w, i32_w]
       rfl
      refine one_ (i := 3) (N := some 23) #[true, true, true, true, false, false] rfl rfl (by kernel_rfl) (by decide) (fun K hK => ?_)
      refine goes_ Try.func49 (by kernel_rfl) rfl #[.agg #[.int .i64 a1_0, .slice A1_1 l1_1.length c1_1, .slice A1_2 l1_2.length c1_2]] (by rfl) rfl rfl gl ?_
      with_reducible refine (laws_toAsm.calls k a1_0 _ _ l1_1 _ _ l1_2 t245 t246 t249 _ ?side1 ?side2 ?side3 ?side4 A20.out).mono ?_
      (case side1 => exact cc (Kd.C_below HR1_1.out HB.out))
      (case side2 => exact HC1_1.out)
      (case side3 => exact cc (Kd.C_below HR1_2.out HB.out))
      (case side4 => exact HC1_2.out)
      rintro e w75 ⟨v247, v250, rfl, ho0, ho1, hb⟩
      refine ⟨_, rfl, ?_⟩
      have n0_ := am (Kd.S_elder' (kS HO241) (Kd.S_base ho0) hb)
      have n1_ := am (Kd.S_elder' (kS HO244) (Kd.S_base ho1) hb)
      have n2_ := am (Kd.S_lower (Kd.S_new' ho0 (Kd.S_lt (kS HO241))) (below_size (bw HB)))
      have n3_ := am (Kd.S_lower (Kd.S_new' ho1 (Kd.S_lt (kS HO244))) (below_size (bw HB)))
      have n4_ := am (blk_below (g := gb234) (o := .cells #[.int .i64 a0_0, .slice A0_1 l0_1.length c0_1, .slice A0_2 l0_2.length c0_2] 73 (0, 0)) (bp BK234) hb)
      have n5_ := am (blk_below (g := gb235) (o := .cells #[.int .i64 a1_0, .slice A1_1 l1_1.length c1_1, .slice A1_2 l1_2.length c1_2] 73 (0, 0)) (bp BK235) hb)
      have n6_ := am (below_step (bw HB) hb)
      clear HO241
      clear HO244
      clear BK234
      clear BK235
      clear HB
      have HO241 := n0_
      have HO244 := n1_
      have HO248 := n2_
      have HO251 := n3_
      have BK234 := n4_
      have BK235 := n5_
      have HB := n6_
      clear n0_ n1_ n2_ n3_ n4_ n5_ n6_
      (try clear hb)
      (try clear hb2)
      (try clear hk)
      (try clear hi)
      (try clear ho0)
      (try clear ho1)
      obtain ⟨Ao76, co76, eo76⟩ := Kd.S_slice HO241.out
      (first | subst eo76 | (injection eo76 with f1_ f2_ f3_; have f4_ := f1_.symm; have f5_ := f3_.symm; clear f1_ f2_ f3_; subst f4_; subst f5_))
      obtain ⟨Ao77, co77, eo77⟩ := Kd.S_slice HO244.out
      (first | subst eo77 | (injection eo77 with f1_ f2_ f3_; have f4_ := f1_.symm; have f5_ := f3_.symm; clear f1_ f2_ f3_; subst f4_; subst f5_))
      obtain ⟨Ao78, co78, eo78⟩ := Kd.S_slice HO248.out
      (first | subst eo78 | (injection eo78 with f1_ f2_ f3_; have f4_ := f1_.symm; have f5_ := f3_.symm; clear f1_ f2_ f3_; subst f4_; subst f5_))
      obtain ⟨Ao79, co79, eo79⟩ := Kd.S_slice HO251.out
      (first | subst eo79 | (injection eo79 with f1_ f2_ f3_; have f4_ := f1_.symm; have f5_ := f3_.symm; clear f1_ f2_ f3_; subst f4_; subst f5_))
      refine hK.out _ _ ⟨bc BK234 0, bc BK234 1, bc BK234 2, bc BK235 0, bc BK235 1, bc BK235 2⟩ (fun hHeld => ?_)
      clear hK K
      refine norm_ (a' := ?_) ?_ ?_
      rotate_left
      ·show Act.put _ (some 23) _ = _
       simp only [Act.put, sa, sz, ss, i64_w, i32_w]
       rfl
      refine one_ (i := 4) (N := some 24) #[true, true, true, true, true, false] rfl rfl (by kernel_rfl) (by decide) (fun K hK => ?_)
      refine goes_ Try.func48 (by kernel_rfl) rfl #[.agg #[.int .i64 t238, .slice Ao76 t239.length co76, .slice Ao77 t242.length co77], .agg #[.int .i64 t245, .slice Ao78 t246.length co78, .slice Ao79 t249.length co79]] (by rfl) rfl rfl gl ?_
      with_reducible refine (spec_AsmSame.calls k t238 _ _ t239 _ _ t242 t245 _ _ t246 _ _ t249 t252 _ ?side1 ?side2 ?side3 ?side4 ?side5 ?side6 ?side7 ?side8 A21.out).mono ?_
      (case side1 => exact cc (Kd.S_reads' HO241.out).2.2)
      (case side2 => exact (Kd.S_reads' HO241.out).2.1)
      (case side3 => exact cc (Kd.S_reads' HO244.out).2.2)
      (case side4 => exact (Kd.S_reads' HO244.out).2.1)
      (case side5 => exact cc (Kd.S_reads' HO248.out).2.2)
      (case side6 => exact (Kd.S_reads' HO248.out).2.1)
      (case side7 => exact cc (Kd.S_reads' HO251.out).2.2)
      (case side8 => exact (Kd.S_reads' HO251.out).2.1)
      rintro e w80 ⟨rfl, hb⟩
      refine ⟨_, rfl, ?_⟩
      have n0_ := am (Kd.S_below (kS HO241) hb)
      have n1_ := am (Kd.S_below (kS HO244) hb)
      have n2_ := am (Kd.S_below (kS HO248) hb)
      have n3_ := am (Kd.S_below (kS HO251) hb)
      have n4_ := am (blk_below (g := gb234) (o := .cells #[.int .i64 a0_0, .slice A0_1 l0_1.length c0_1, .slice A0_2 l0_2.length c0_2] 73 (0, 0)) (bp BK234) hb)
      have n5_ := am (blk_below (g := gb235) (o := .cells #[.int .i64 a1_0, .slice A1_1 l1_1.length c1_1, .slice A1_2 l1_2.length c1_2] 73 (0, 0)) (bp BK235) hb)
      have n6_ := am (below_step (bw HB) hb)
      clear HO241
      clear HO244
      clear HO248
      clear HO251
      clear BK234
      clear BK235
      clear HB
      have HO241 := n0_
      have HO244 := n1_
      have HO248 := n2_
      have HO251 := n3_
      have BK234 := n4_
      have BK235 := n5_
      have HB := n6_
      clear n0_ n1_ n2_ n3_ n4_ n5_ n6_
      (try clear hb)
      (try clear hb2)
      (try clear hk)
      (try clear hi)
      refine hK.out _ _ ⟨bc BK234 0, bc BK234 1, bc BK234 2, bc BK235 0, bc BK235 1, bc BK235 2⟩ (fun hHeld => ?_)
      clear hK K
      refine norm_ (a' := ?_) ?_ ?_
      rotate_left
      ·show Act.put _ (some 24) _ = _
       simp only [Act.put, sa, sz, ss, i64_w, i32_w]
       rfl
      refine pure_ (i := 5) (N := some 6) (v := ?_) (a' := ?_) #[true, true, true, true, true, true] rfl rfl (by kernel_rfl) (fun _ _ _ h => h) (Or.inl ⟨by rfl, ?_⟩) ?_ ?_
      rotate_left
      ·intro w'
       go_simp
       with_reducible rfl
      rotate_left
      ·simp only [Act.put, sa, sz, ss, i64_w, i32_w]
       rfl
      refine done_ (by kernel_rfl) ?_
      have hcz81_0 : w80.cell? ⟨gb234, 0, none⟩ = some (.int .i64 a0_0) := bc BK234 0
      have hcz81_1 : w80.cell? ⟨gb234, 1, none⟩ = some (.slice A0_1 l0_1.length c0_1) := bc BK234 1
      have hcz81_2 : w80.cell? ⟨gb234, 2, none⟩ = some (.slice A0_2 l0_2.length c0_2) := bc BK234 2
      have hfz81_0 := bf BK234 0
      have hfz81_1 := bf BK234 1
      have hfz81_2 := bf BK234 2
      try go_wp2_with (first | ((with_reducible refine gate_callee (f := 49) rfl ?_); refine goesL_ (some 26) rfl rfl Try.func49 (by kernel_rfl) rfl #[.agg #[.int .i64 a0_0, .slice A0_1 l0_1.length c0_1, .slice A0_2 l0_2.length c0_2]] rfl gl ?_; (with_reducible refine (laws_toAsm.calls k a0_0 _ _ l0_1 _ _ l0_2 t253 t254 t257 _ ?side1 ?side2 ?side3 ?side4 A22.out).mono ?_); (case side1 => exact cc (Kd.C_below HR0_1.out HB.out)); (case side2 => exact HC0_1.out); (case side3 => exact cc (Kd.C_below HR0_2.out HB.out)); (case side4 => exact HC0_2.out); rintro e w82 ⟨v255, v258, rfl, ho0, ho1, hb⟩; refine ⟨_, rfl, ?_⟩; have HO256 := am (Kd.S_lower (Kd.S_new' (Kd.S_new' ho0 (Kd.S_lt (kS HO241))) (Kd.S_lt (kS HO248))) (below_size (bw HB))); replace HO241 := am (Kd.S_elder' (kS HO241) (Kd.S_base ho0) hb); replace HO248 := am (Kd.S_elder' (kS HO248) (Kd.S_base ho0) hb); have HO259 := am (Kd.S_lower (Kd.S_new' (Kd.S_new' ho1 (Kd.S_lt (kS HO244))) (Kd.S_lt (kS HO251))) (below_size (bw HB))); replace HO244 := am (Kd.S_elder' (kS HO244) (Kd.S_base ho1) hb); replace HO251 := am (Kd.S_elder' (kS HO251) (Kd.S_base ho1) hb); replace BK234 := am (blk_below (g := gb234) (o := .cells #[.int .i64 a0_0, .slice A0_1 l0_1.length c0_1, .slice A0_2 l0_2.length c0_2] 73 (0, 0)) (bp BK234) hb); replace BK235 := am (blk_below (g := gb235) (o := .cells #[.int .i64 a1_0, .slice A1_1 l1_1.length c1_1, .slice A1_2 l1_2.length c1_2] 73 (0, 0)) (bp BK235) hb); replace HB := am (below_step (bw HB) hb); (try clear hb); (try clear hb2); (try clear hk); (try clear hi); (try clear ho0); (try clear ho1)) | ((with_reducible refine gate_dst (N := 7) rfl ?_); refine box_event ?hg (N := 7) ?hd (cs := #[.int .i64 0, .slice none 0 0, .slice none 0 0]) (t := 79) ?hr ?_; (case hd => rfl); (case hg => rfl); (case hr => exact gs); intro gb260 hg w83 hbox hb; replace HO241 := am (Kd.S_below (kS HO241) hb); replace HO244 := am (Kd.S_below (kS HO244) hb); replace HO248 := am (Kd.S_below (kS HO248) hb); replace HO251 := am (Kd.S_below (kS HO251) hb); replace HO256 := am (Kd.S_below (kS HO256) hb); replace HO259 := am (Kd.S_below (kS HO259) hb); have BK260 := am (hbox); have GW260 := am ((by rw [hg]; exact (below_size (bw HB)) : w.heap.size ≤ gb260)); have GE260 := am ((by rw [hg]; exact (below_size (bw HB)) : w.heap.size ≤ gb260)); replace HB := am (below_step (bw HB) hb); have NB234_260 := am ((by rw [hg]; exact Nat.ne_of_lt (blk_lt (g := gb234) (o := .cells #[.int .i64 a0_0, .slice A0_1 l0_1.length c0_1, .slice A0_2 l0_2.length c0_2] 73 (0, 0)) (bp BK234)) : gb234 ≠ gb260)); have NB260_234 := am ((by rw [hg]; exact Nat.ne_of_gt (blk_lt (g := gb234) (o := .cells #[.int .i64 a0_0, .slice A0_1 l0_1.length c0_1, .slice A0_2 l0_2.length c0_2] 73 (0, 0)) (bp BK234)) : gb260 ≠ gb234)); replace BK234 := am (blk_below (g := gb234) (o := .cells #[.int .i64 a0_0, .slice A0_1 l0_1.length c0_1, .slice A0_2 l0_2.length c0_2] 73 (0, 0)) (bp BK234) hb); have NB235_260 := am ((by rw [hg]; exact Nat.ne_of_lt (blk_lt (g := gb235) (o := .cells #[.int .i64 a1_0, .slice A1_1 l1_1.length c1_1, .slice A1_2 l1_2.length c1_2] 73 (0, 0)) (bp BK235)) : gb235 ≠ gb260)); have NB260_235 := am ((by rw [hg]; exact Nat.ne_of_gt (blk_lt (g := gb235) (o := .cells #[.int .i64 a1_0, .slice A1_1 l1_1.length c1_1, .slice A1_2 l1_2.length c1_2] 73 (0, 0)) (bp BK235)) : gb260 ≠ gb235)); replace BK235 := am (blk_below (g := gb235) (o := .cells #[.int .i64 a1_0, .slice A1_1 l1_1.length c1_1, .slice A1_2 l1_2.length c1_2] 73 (0, 0)) (bp BK235) hb); clear hb hbox hg; have hnb84 := NB260_234.out; have hnc84 := NB234_260.out; have hnb85 := NB260_235.out; have hnc85 := NB235_260.out; have hcz86_0 : w83.cell? ⟨gb260, 0, none⟩ = some (.int .i64 0) := bc BK260 0; have hcz86_1 : w83.cell? ⟨gb260, 1, none⟩ = some (.slice none 0 0) := bc BK260 1; have hcz86_2 : w83.cell? ⟨gb260, 2, none⟩ = some (.slice none 0 0) := bc BK260 2; have hfz86_0 := bf BK260 0; have hfz86_1 := bf BK260 1; have hfz86_2 := bf BK260 2; obtain ⟨Ao87, co87, eo87⟩ := Kd.S_slice HO256.out; subst eo87; obtain ⟨Ao88, co88, eo88⟩ := Kd.S_slice HO259.out; subst eo88; have hcz89_0 : w83.cell? ⟨gb235, 0, none⟩ = some (.int .i64 a1_0) := bc BK235 0; have hcz89_1 : w83.cell? ⟨gb235, 1, none⟩ = some (.slice A1_1 l1_1.length c1_1) := bc BK235 1; have hcz89_2 : w83.cell? ⟨gb235, 2, none⟩ = some (.slice A1_2 l1_2.length c1_2) := bc BK235 2; have hfz89_0 := bf BK235 0; have hfz89_1 := bf BK235 1; have hfz89_2 := bf BK235 2) | ((with_reducible refine gate_callee (f := 49) rfl ?_); refine goesL_ (some 28) rfl rfl Try.func49 (by kernel_rfl) rfl #[.agg #[.int .i64 a1_0, .slice A1_1 l1_1.length c1_1, .slice A1_2 l1_2.length c1_2]] rfl gl ?_; (with_reducible refine (laws_toAsm.calls k a1_0 _ _ l1_1 _ _ l1_2 t261 t262 t265 _ ?side1 ?side2 ?side3 ?side4 A23.out).mono ?_); (case side1 => exact Kd.C_below HR1_1.out (bw HB)); (case side2 => exact HC1_1.out); (case side3 => exact Kd.C_below HR1_2.out (bw HB)); (case side4 => exact HC1_2.out); rintro e w90 ⟨v263, v266, rfl, ho0, ho1, hb⟩; refine ⟨_, rfl, ?_⟩; have HO264 := am (Kd.S_lower (Kd.S_new' (Kd.S_new' (Kd.S_new' ho0 (Kd.S_lt (by (with_reducible repeat (first | apply Kd.S_alloc | apply Kd.S_drewN | apply Kd.S_drew)); exact (Kd.S_mono (Kd.S_far (p := ⟨gb260, 2, none⟩) (Kd.S_far (p := ⟨gb260, 1, none⟩) (Kd.S_far (p := ⟨gb260, 0, none⟩) (Kd.S_types HO241.out BK260.out (by decide)) (fun _ hk => hk.2) (.int .i64 t253)) (fun _ hk => hk.2) (.slice Ao87 t254.length co87)) (fun _ hk => hk.2) (.slice Ao88 t257.length co88)) (fun _ h_ => h_.1))))) (Kd.S_lt (by (with_reducible repeat (first | apply Kd.S_alloc | apply Kd.S_drewN | apply Kd.S_drew)); exact (Kd.S_mono (Kd.S_far (p := ⟨gb260, 2, none⟩) (Kd.S_far (p := ⟨gb260, 1, none⟩) (Kd.S_far (p := ⟨gb260, 0, none⟩) (Kd.S_types HO248.out BK260.out (by decide)) (fun _ hk => hk.2) (.int .i64 t253)) (fun _ hk => hk.2) (.slice Ao87 t254.length co87)) (fun _ hk => hk.2) (.slice Ao88 t257.length co88)) (fun _ h_ => h_.1))))) (Kd.S_lt (by (with_reducible repeat (first | apply Kd.S_alloc | apply Kd.S_drewN | apply Kd.S_drew)); exact (Kd.S_mono (Kd.S_far (p := ⟨gb260, 2, none⟩) (Kd.S_far (p := ⟨gb260, 1, none⟩) (Kd.S_far (p := ⟨gb260, 0, none⟩) (Kd.S_types HO256.out BK260.out (by decide)) (fun _ hk => hk.2) (.int .i64 t253)) (fun _ hk => hk.2) (.slice Ao87 t254.length co87)) (fun _ hk => hk.2) (.slice Ao88 t257.length co88)) (fun _ h_ => h_.1))))) (below_size (bw HB))); replace HO241 := am (Kd.S_elder' (by (with_reducible repeat (first | apply Kd.S_alloc | apply Kd.S_drewN | apply Kd.S_drew)); exact (Kd.S_mono (Kd.S_far (p := ⟨gb260, 2, none⟩) (Kd.S_far (p := ⟨gb260, 1, none⟩) (Kd.S_far (p := ⟨gb260, 0, none⟩) (Kd.S_types HO241.out BK260.out (by decide)) (fun _ hk => hk.2) (.int .i64 t253)) (fun _ hk => hk.2) (.slice Ao87 t254.length co87)) (fun _ hk => hk.2) (.slice Ao88 t257.length co88)) (fun _ h_ => h_.1))) (Kd.S_base ho0) hb); replace HO248 := am (Kd.S_elder' (by (with_reducible repeat (first | apply Kd.S_alloc | apply Kd.S_drewN | apply Kd.S_drew)); exact (Kd.S_mono (Kd.S_far (p := ⟨gb260, 2, none⟩) (Kd.S_far (p := ⟨gb260, 1, none⟩) (Kd.S_far (p := ⟨gb260, 0, none⟩) (Kd.S_types HO248.out BK260.out (by decide)) (fun _ hk => hk.2) (.int .i64 t253)) (fun _ hk => hk.2) (.slice Ao87 t254.length co87)) (fun _ hk => hk.2) (.slice Ao88 t257.length co88)) (fun _ h_ => h_.1))) (Kd.S_base ho0) hb); replace HO256 := am (Kd.S_elder' (by (with_reducible repeat (first | apply Kd.S_alloc | apply Kd.S_drewN | apply Kd.S_drew)); exact (Kd.S_mono (Kd.S_far (p := ⟨gb260, 2, none⟩) (Kd.S_far (p := ⟨gb260, 1, none⟩) (Kd.S_far (p := ⟨gb260, 0, none⟩) (Kd.S_types HO256.out BK260.out (by decide)) (fun _ hk => hk.2) (.int .i64 t253)) (fun _ hk => hk.2) (.slice Ao87 t254.length co87)) (fun _ hk => hk.2) (.slice Ao88 t257.length co88)) (fun _ h_ => h_.1))) (Kd.S_base ho0) hb); have HO267 := am (Kd.S_lower (Kd.S_new' (Kd.S_new' (Kd.S_new' ho1 (Kd.S_lt (by (with_reducible repeat (first | apply Kd.S_alloc | apply Kd.S_drewN | apply Kd.S_drew)); exact (Kd.S_mono (Kd.S_far (p := ⟨gb260, 2, none⟩) (Kd.S_far (p := ⟨gb260, 1, none⟩) (Kd.S_far (p := ⟨gb260, 0, none⟩) (Kd.S_types HO244.out BK260.out (by decide)) (fun _ hk => hk.2) (.int .i64 t253)) (fun _ hk => hk.2) (.slice Ao87 t254.length co87)) (fun _ hk => hk.2) (.slice Ao88 t257.length co88)) (fun _ h_ => h_.1))))) (Kd.S_lt (by (with_reducible repeat (first | apply Kd.S_alloc | apply Kd.S_drewN | apply Kd.S_drew)); exact (Kd.S_mono (Kd.S_far (p := ⟨gb260, 2, none⟩) (Kd.S_far (p := ⟨gb260, 1, none⟩) (Kd.S_far (p := ⟨gb260, 0, none⟩) (Kd.S_types HO251.out BK260.out (by decide)) (fun _ hk => hk.2) (.int .i64 t253)) (fun _ hk => hk.2) (.slice Ao87 t254.length co87)) (fun _ hk => hk.2) (.slice Ao88 t257.length co88)) (fun _ h_ => h_.1))))) (Kd.S_lt (by (with_reducible repeat (first | apply Kd.S_alloc | apply Kd.S_drewN | apply Kd.S_drew)); exact (Kd.S_mono (Kd.S_far (p := ⟨gb260, 2, none⟩) (Kd.S_far (p := ⟨gb260, 1, none⟩) (Kd.S_far (p := ⟨gb260, 0, none⟩) (Kd.S_types HO259.out BK260.out (by decide)) (fun _ hk => hk.2) (.int .i64 t253)) (fun _ hk => hk.2) (.slice Ao87 t254.length co87)) (fun _ hk => hk.2) (.slice Ao88 t257.length co88)) (fun _ h_ => h_.1))))) (below_size (bw HB))); replace HO244 := am (Kd.S_elder' (by (with_reducible repeat (first | apply Kd.S_alloc | apply Kd.S_drewN | apply Kd.S_drew)); exact (Kd.S_mono (Kd.S_far (p := ⟨gb260, 2, none⟩) (Kd.S_far (p := ⟨gb260, 1, none⟩) (Kd.S_far (p := ⟨gb260, 0, none⟩) (Kd.S_types HO244.out BK260.out (by decide)) (fun _ hk => hk.2) (.int .i64 t253)) (fun _ hk => hk.2) (.slice Ao87 t254.length co87)) (fun _ hk => hk.2) (.slice Ao88 t257.length co88)) (fun _ h_ => h_.1))) (Kd.S_base ho1) hb); replace HO251 := am (Kd.S_elder' (by (with_reducible repeat (first | apply Kd.S_alloc | apply Kd.S_drewN | apply Kd.S_drew)); exact (Kd.S_mono (Kd.S_far (p := ⟨gb260, 2, none⟩) (Kd.S_far (p := ⟨gb260, 1, none⟩) (Kd.S_far (p := ⟨gb260, 0, none⟩) (Kd.S_types HO251.out BK260.out (by decide)) (fun _ hk => hk.2) (.int .i64 t253)) (fun _ hk => hk.2) (.slice Ao87 t254.length co87)) (fun _ hk => hk.2) (.slice Ao88 t257.length co88)) (fun _ h_ => h_.1))) (Kd.S_base ho1) hb); replace HO259 := am (Kd.S_elder' (by (with_reducible repeat (first | apply Kd.S_alloc | apply Kd.S_drewN | apply Kd.S_drew)); exact (Kd.S_mono (Kd.S_far (p := ⟨gb260, 2, none⟩) (Kd.S_far (p := ⟨gb260, 1, none⟩) (Kd.S_far (p := ⟨gb260, 0, none⟩) (Kd.S_types HO259.out BK260.out (by decide)) (fun _ hk => hk.2) (.int .i64 t253)) (fun _ hk => hk.2) (.slice Ao87 t254.length co87)) (fun _ hk => hk.2) (.slice Ao88 t257.length co88)) (fun _ h_ => h_.1))) (Kd.S_base ho1) hb); replace BK234 := am (blk_below (g := gb234) (o := .cells #[.int .i64 a0_0, .slice A0_1 l0_1.length c0_1, .slice A0_2 l0_2.length c0_2] 73 (0, 0)) (by (with_reducible repeat (first | apply dN | apply dW | apply dA)); refine blk_far ?_ NB234_260.out _; (with_reducible repeat (first | apply dN | apply dW | apply dA)); refine blk_far ?_ NB234_260.out _; (with_reducible repeat (first | apply dN | apply dW | apply dA)); refine blk_far ?_ NB234_260.out _; exact bp BK234) hb); replace BK235 := am (blk_below (g := gb235) (o := .cells #[.int .i64 a1_0, .slice A1_1 l1_1.length c1_1, .slice A1_2 l1_2.length c1_2] 73 (0, 0)) (by (with_reducible repeat (first | apply dN | apply dW | apply dA)); refine blk_far ?_ NB235_260.out _; (with_reducible repeat (first | apply dN | apply dW | apply dA)); refine blk_far ?_ NB235_260.out _; (with_reducible repeat (first | apply dN | apply dW | apply dA)); refine blk_far ?_ NB235_260.out _; exact bp BK235) hb); replace BK260 := am (blk_below (g := gb260) (o := .cells #[.int .i64 t253, .slice Ao87 t254.length co87, .slice Ao88 t257.length co88] 79 (0, 0)) (by (with_reducible repeat (first | apply dN | apply dW | apply dA)); refine blk_put (cs := #[.int .i64 t253, .slice Ao87 t254.length co87, .slice none 0 0]) ?_ 2 _ rfl; (with_reducible repeat (first | apply dN | apply dW | apply dA)); refine blk_put (cs := #[.int .i64 t253, .slice none 0 0, .slice none 0 0]) ?_ 1 _ rfl; (with_reducible repeat (first | apply dN | apply dW | apply dA)); refine blk_put (cs := #[.int .i64 0, .slice none 0 0, .slice none 0 0]) ?_ 0 _ rfl; exact bp BK260) hb); replace HB := am (below_step (bw HB) hb); (try clear hb); (try clear hb2); (try clear hk); (try clear hi); (try clear ho0); (try clear ho1)) | ((with_reducible refine gate_dst (N := 8) rfl ?_); refine box_event ?hg (N := 8) ?hd (cs := #[.int .i64 0, .slice none 0 0, .slice none 0 0]) (t := 79) ?hr ?_; (case hd => rfl); (case hg => rfl); (case hr => exact gs); intro gb268 hg w91 hbox hb; replace HO241 := am (Kd.S_below (kS HO241) hb); replace HO244 := am (Kd.S_below (kS HO244) hb); replace HO248 := am (Kd.S_below (kS HO248) hb); replace HO251 := am (Kd.S_below (kS HO251) hb); replace HO256 := am (Kd.S_below (kS HO256) hb); replace HO259 := am (Kd.S_below (kS HO259) hb); replace HO264 := am (Kd.S_below (kS HO264) hb); replace HO267 := am (Kd.S_below (kS HO267) hb); have BK268 := am (hbox); have GW268 := am ((by rw [hg]; exact (below_size (bw HB)) : w.heap.size ≤ gb268)); have GE268 := am ((by rw [hg]; exact (below_size (bw HB)) : w.heap.size ≤ gb268)); replace HB := am (below_step (bw HB) hb); have NB234_268 := am ((by rw [hg]; exact Nat.ne_of_lt (blk_lt (g := gb234) (o := .cells #[.int .i64 a0_0, .slice A0_1 l0_1.length c0_1, .slice A0_2 l0_2.length c0_2] 73 (0, 0)) (bp BK234)) : gb234 ≠ gb268)); have NB268_234 := am ((by rw [hg]; exact Nat.ne_of_gt (blk_lt (g := gb234) (o := .cells #[.int .i64 a0_0, .slice A0_1 l0_1.length c0_1, .slice A0_2 l0_2.length c0_2] 73 (0, 0)) (bp BK234)) : gb268 ≠ gb234)); replace BK234 := am (blk_below (g := gb234) (o := .cells #[.int .i64 a0_0, .slice A0_1 l0_1.length c0_1, .slice A0_2 l0_2.length c0_2] 73 (0, 0)) (bp BK234) hb); have NB235_268 := am ((by rw [hg]; exact Nat.ne_of_lt (blk_lt (g := gb235) (o := .cells #[.int .i64 a1_0, .slice A1_1 l1_1.length c1_1, .slice A1_2 l1_2.length c1_2] 73 (0, 0)) (bp BK235)) : gb235 ≠ gb268)); have NB268_235 := am ((by rw [hg]; exact Nat.ne_of_gt (blk_lt (g := gb235) (o := .cells #[.int .i64 a1_0, .slice A1_1 l1_1.length c1_1, .slice A1_2 l1_2.length c1_2] 73 (0, 0)) (bp BK235)) : gb268 ≠ gb235)); replace BK235 := am (blk_below (g := gb235) (o := .cells #[.int .i64 a1_0, .slice A1_1 l1_1.length c1_1, .slice A1_2 l1_2.length c1_2] 73 (0, 0)) (bp BK235) hb); have NB260_268 := am ((by rw [hg]; exact Nat.ne_of_lt (blk_lt (g := gb260) (o := .cells #[.int .i64 t253, .slice Ao87 t254.length co87, .slice Ao88 t257.length co88] 79 (0, 0)) (bp BK260)) : gb260 ≠ gb268)); have NB268_260 := am ((by rw [hg]; exact Nat.ne_of_gt (blk_lt (g := gb260) (o := .cells #[.int .i64 t253, .slice Ao87 t254.length co87, .slice Ao88 t257.length co88] 79 (0, 0)) (bp BK260)) : gb268 ≠ gb260)); replace BK260 := am (blk_below (g := gb260) (o := .cells #[.int .i64 t253, .slice Ao87 t254.length co87, .slice Ao88 t257.length co88] 79 (0, 0)) (bp BK260) hb); clear hb hbox hg; have hnb92 := NB268_234.out; have hnc92 := NB234_268.out; have hnb93 := NB268_235.out; have hnc93 := NB235_268.out; have hnb94 := NB268_260.out; have hnc94 := NB260_268.out; have hcz95_0 : w91.cell? ⟨gb268, 0, none⟩ = some (.int .i64 0) := bc BK268 0; have hcz95_1 : w91.cell? ⟨gb268, 1, none⟩ = some (.slice none 0 0) := bc BK268 1; have hcz95_2 : w91.cell? ⟨gb268, 2, none⟩ = some (.slice none 0 0) := bc BK268 2; have hfz95_0 := bf BK268 0; have hfz95_1 := bf BK268 1; have hfz95_2 := bf BK268 2; obtain ⟨Ao96, co96, eo96⟩ := Kd.S_slice HO264.out; subst eo96; obtain ⟨Ao97, co97, eo97⟩ := Kd.S_slice HO267.out; subst eo97; have hcz98_0 : w91.cell? ⟨gb260, 0, none⟩ = some (.int .i64 t253) := bc BK260 0; have hcz98_1 : w91.cell? ⟨gb260, 1, none⟩ = some (.slice Ao87 t254.length co87) := bc BK260 1; have hcz98_2 : w91.cell? ⟨gb260, 2, none⟩ = some (.slice Ao88 t257.length co88) := bc BK260 2; have hfz98_0 := bf BK260 0; have hfz98_1 := bf BK260 1; have hfz98_2 := bf BK260 2) | ((with_reducible refine gate_callee (f := 50) rfl ?_); refine goesL_ (some 31) rfl rfl Try.func50 (by kernel_rfl) rfl #[.agg #[.int .i64 t253, .slice Ao87 t254.length co87, .slice Ao88 t257.length co88], .agg #[.int .i64 t261, .slice Ao96 t262.length co96, .slice Ao97 t265.length co97]] rfl gl ?_; (with_reducible refine (impl_AsmSame.calls k t253 _ _ t254 _ _ t257 t261 _ _ t262 _ _ t265 t269 _ ?side1 ?side2 ?side3 ?side4 ?side5 ?side6 ?side7 ?side8 A24.out).mono ?_); (case side1 => refine (Kd.S_reads' (e := 123) (base := w.heap.size) (ok := fun k_ => (((True ∧ some k_ ≠ (.slice Ao76 t239.length co76 : Value).ownBlock) ∧ some k_ ≠ (.slice Ao78 t246.length co78 : Value).ownBlock) ∧ some k_ ≠ (.slice Ao96 t262.length co96 : Value).ownBlock)) (n := t254.length) (c := co87) ?_).2.2; exact (by (with_reducible repeat (first | apply Kd.S_alloc | apply Kd.S_drewN | apply Kd.S_drew)); exact (Kd.S_mono (Kd.S_far (p := ⟨gb268, 2, none⟩) (Kd.S_far (p := ⟨gb268, 1, none⟩) (Kd.S_far (p := ⟨gb268, 0, none⟩) (Kd.S_types HO256.out BK268.out (by decide)) (fun _ hk => hk.2) (.int .i64 t261)) (fun _ hk => hk.2) (.slice Ao96 t262.length co96)) (fun _ hk => hk.2) (.slice Ao97 t265.length co97)) (fun _ h_ => h_.1)))); (case side2 => exact (Kd.S_reads' HO256.out).2.1); (case side3 => refine (Kd.S_reads' (e := 121) (base := w.heap.size) (ok := fun k_ => (((True ∧ some k_ ≠ (.slice Ao77 t242.length co77 : Value).ownBlock) ∧ some k_ ≠ (.slice Ao79 t249.length co79 : Value).ownBlock) ∧ some k_ ≠ (.slice Ao97 t265.length co97 : Value).ownBlock)) (n := t257.length) (c := co88) ?_).2.2; exact (by (with_reducible repeat (first | apply Kd.S_alloc | apply Kd.S_drewN | apply Kd.S_drew)); exact (Kd.S_mono (Kd.S_far (p := ⟨gb268, 2, none⟩) (Kd.S_far (p := ⟨gb268, 1, none⟩) (Kd.S_far (p := ⟨gb268, 0, none⟩) (Kd.S_types HO259.out BK268.out (by decide)) (fun _ hk => hk.2) (.int .i64 t261)) (fun _ hk => hk.2) (.slice Ao96 t262.length co96)) (fun _ hk => hk.2) (.slice Ao97 t265.length co97)) (fun _ h_ => h_.1)))); (case side4 => exact (Kd.S_reads' HO259.out).2.1); (case side5 => refine (Kd.S_reads' (e := 123) (base := w.heap.size) (ok := fun k_ => (((True ∧ some k_ ≠ (.slice Ao76 t239.length co76 : Value).ownBlock) ∧ some k_ ≠ (.slice Ao78 t246.length co78 : Value).ownBlock) ∧ some k_ ≠ (.slice Ao87 t254.length co87 : Value).ownBlock)) (n := t262.length) (c := co96) ?_).2.2; exact (by (with_reducible repeat (first | apply Kd.S_alloc | apply Kd.S_drewN | apply Kd.S_drew)); exact (Kd.S_mono (Kd.S_far (p := ⟨gb268, 2, none⟩) (Kd.S_far (p := ⟨gb268, 1, none⟩) (Kd.S_far (p := ⟨gb268, 0, none⟩) (Kd.S_types HO264.out BK268.out (by decide)) (fun _ hk => hk.2) (.int .i64 t261)) (fun _ hk => hk.2) (.slice Ao96 t262.length co96)) (fun _ hk => hk.2) (.slice Ao97 t265.length co97)) (fun _ h_ => h_.1)))); (case side6 => exact (Kd.S_reads' HO264.out).2.1); (case side7 => refine (Kd.S_reads' (e := 121) (base := w.heap.size) (ok := fun k_ => (((True ∧ some k_ ≠ (.slice Ao77 t242.length co77 : Value).ownBlock) ∧ some k_ ≠ (.slice Ao79 t249.length co79 : Value).ownBlock) ∧ some k_ ≠ (.slice Ao88 t257.length co88 : Value).ownBlock)) (n := t265.length) (c := co97) ?_).2.2; exact (by (with_reducible repeat (first | apply Kd.S_alloc | apply Kd.S_drewN | apply Kd.S_drew)); exact (Kd.S_mono (Kd.S_far (p := ⟨gb268, 2, none⟩) (Kd.S_far (p := ⟨gb268, 1, none⟩) (Kd.S_far (p := ⟨gb268, 0, none⟩) (Kd.S_types HO267.out BK268.out (by decide)) (fun _ hk => hk.2) (.int .i64 t261)) (fun _ hk => hk.2) (.slice Ao96 t262.length co96)) (fun _ hk => hk.2) (.slice Ao97 t265.length co97)) (fun _ h_ => h_.1)))); (case side8 => exact (Kd.S_reads' HO267.out).2.1); rintro e w99 ⟨rfl, hb⟩; refine ⟨_, rfl, ?_⟩; replace HO241 := am (Kd.S_below (by (with_reducible repeat (first | apply Kd.S_alloc | apply Kd.S_drewN | apply Kd.S_drew)); exact (Kd.S_mono (Kd.S_far (p := ⟨gb268, 2, none⟩) (Kd.S_far (p := ⟨gb268, 1, none⟩) (Kd.S_far (p := ⟨gb268, 0, none⟩) (Kd.S_types HO241.out BK268.out (by decide)) (fun _ hk => hk.2) (.int .i64 t261)) (fun _ hk => hk.2) (.slice Ao96 t262.length co96)) (fun _ hk => hk.2) (.slice Ao97 t265.length co97)) (fun _ h_ => h_.1))) hb); replace HO244 := am (Kd.S_below (by (with_reducible repeat (first | apply Kd.S_alloc | apply Kd.S_drewN | apply Kd.S_drew)); exact (Kd.S_mono (Kd.S_far (p := ⟨gb268, 2, none⟩) (Kd.S_far (p := ⟨gb268, 1, none⟩) (Kd.S_far (p := ⟨gb268, 0, none⟩) (Kd.S_types HO244.out BK268.out (by decide)) (fun _ hk => hk.2) (.int .i64 t261)) (fun _ hk => hk.2) (.slice Ao96 t262.length co96)) (fun _ hk => hk.2) (.slice Ao97 t265.length co97)) (fun _ h_ => h_.1))) hb); replace HO248 := am (Kd.S_below (by (with_reducible repeat (first | apply Kd.S_alloc | apply Kd.S_drewN | apply Kd.S_drew)); exact (Kd.S_mono (Kd.S_far (p := ⟨gb268, 2, none⟩) (Kd.S_far (p := ⟨gb268, 1, none⟩) (Kd.S_far (p := ⟨gb268, 0, none⟩) (Kd.S_types HO248.out BK268.out (by decide)) (fun _ hk => hk.2) (.int .i64 t261)) (fun _ hk => hk.2) (.slice Ao96 t262.length co96)) (fun _ hk => hk.2) (.slice Ao97 t265.length co97)) (fun _ h_ => h_.1))) hb); replace HO251 := am (Kd.S_below (by (with_reducible repeat (first | apply Kd.S_alloc | apply Kd.S_drewN | apply Kd.S_drew)); exact (Kd.S_mono (Kd.S_far (p := ⟨gb268, 2, none⟩) (Kd.S_far (p := ⟨gb268, 1, none⟩) (Kd.S_far (p := ⟨gb268, 0, none⟩) (Kd.S_types HO251.out BK268.out (by decide)) (fun _ hk => hk.2) (.int .i64 t261)) (fun _ hk => hk.2) (.slice Ao96 t262.length co96)) (fun _ hk => hk.2) (.slice Ao97 t265.length co97)) (fun _ h_ => h_.1))) hb); replace HO256 := am (Kd.S_below (by (with_reducible repeat (first | apply Kd.S_alloc | apply Kd.S_drewN | apply Kd.S_drew)); exact (Kd.S_mono (Kd.S_far (p := ⟨gb268, 2, none⟩) (Kd.S_far (p := ⟨gb268, 1, none⟩) (Kd.S_far (p := ⟨gb268, 0, none⟩) (Kd.S_types HO256.out BK268.out (by decide)) (fun _ hk => hk.2) (.int .i64 t261)) (fun _ hk => hk.2) (.slice Ao96 t262.length co96)) (fun _ hk => hk.2) (.slice Ao97 t265.length co97)) (fun _ h_ => h_.1))) hb); replace HO259 := am (Kd.S_below (by (with_reducible repeat (first | apply Kd.S_alloc | apply Kd.S_drewN | apply Kd.S_drew)); exact (Kd.S_mono (Kd.S_far (p := ⟨gb268, 2, none⟩) (Kd.S_far (p := ⟨gb268, 1, none⟩) (Kd.S_far (p := ⟨gb268, 0, none⟩) (Kd.S_types HO259.out BK268.out (by decide)) (fun _ hk => hk.2) (.int .i64 t261)) (fun _ hk => hk.2) (.slice Ao96 t262.length co96)) (fun _ hk => hk.2) (.slice Ao97 t265.length co97)) (fun _ h_ => h_.1))) hb); replace HO264 := am (Kd.S_below (by (with_reducible repeat (first | apply Kd.S_alloc | apply Kd.S_drewN | apply Kd.S_drew)); exact (Kd.S_mono (Kd.S_far (p := ⟨gb268, 2, none⟩) (Kd.S_far (p := ⟨gb268, 1, none⟩) (Kd.S_far (p := ⟨gb268, 0, none⟩) (Kd.S_types HO264.out BK268.out (by decide)) (fun _ hk => hk.2) (.int .i64 t261)) (fun _ hk => hk.2) (.slice Ao96 t262.length co96)) (fun _ hk => hk.2) (.slice Ao97 t265.length co97)) (fun _ h_ => h_.1))) hb); replace HO267 := am (Kd.S_below (by (with_reducible repeat (first | apply Kd.S_alloc | apply Kd.S_drewN | apply Kd.S_drew)); exact (Kd.S_mono (Kd.S_far (p := ⟨gb268, 2, none⟩) (Kd.S_far (p := ⟨gb268, 1, none⟩) (Kd.S_far (p := ⟨gb268, 0, none⟩) (Kd.S_types HO267.out BK268.out (by decide)) (fun _ hk => hk.2) (.int .i64 t261)) (fun _ hk => hk.2) (.slice Ao96 t262.length co96)) (fun _ hk => hk.2) (.slice Ao97 t265.length co97)) (fun _ h_ => h_.1))) hb); replace BK234 := am (blk_below (g := gb234) (o := .cells #[.int .i64 a0_0, .slice A0_1 l0_1.length c0_1, .slice A0_2 l0_2.length c0_2] 73 (0, 0)) (by (with_reducible repeat (first | apply dN | apply dW | apply dA)); refine blk_far ?_ NB234_268.out _; (with_reducible repeat (first | apply dN | apply dW | apply dA)); refine blk_far ?_ NB234_268.out _; (with_reducible repeat (first | apply dN | apply dW | apply dA)); refine blk_far ?_ NB234_268.out _; exact bp BK234) hb); replace BK235 := am (blk_below (g := gb235) (o := .cells #[.int .i64 a1_0, .slice A1_1 l1_1.length c1_1, .slice A1_2 l1_2.length c1_2] 73 (0, 0)) (by (with_reducible repeat (first | apply dN | apply dW | apply dA)); refine blk_far ?_ NB235_268.out _; (with_reducible repeat (first | apply dN | apply dW | apply dA)); refine blk_far ?_ NB235_268.out _; (with_reducible repeat (first | apply dN | apply dW | apply dA)); refine blk_far ?_ NB235_268.out _; exact bp BK235) hb); replace BK260 := am (blk_below (g := gb260) (o := .cells #[.int .i64 t253, .slice Ao87 t254.length co87, .slice Ao88 t257.length co88] 79 (0, 0)) (by (with_reducible repeat (first | apply dN | apply dW | apply dA)); refine blk_far ?_ NB260_268.out _; (with_reducible repeat (first | apply dN | apply dW | apply dA)); refine blk_far ?_ NB260_268.out _; (with_reducible repeat (first | apply dN | apply dW | apply dA)); refine blk_far ?_ NB260_268.out _; exact bp BK260) hb); replace BK268 := am (blk_below (g := gb268) (o := .cells #[.int .i64 t261, .slice Ao96 t262.length co96, .slice Ao97 t265.length co97] 79 (0, 0)) (by (with_reducible repeat (first | apply dN | apply dW | apply dA)); refine blk_put (cs := #[.int .i64 t261, .slice Ao96 t262.length co96, .slice none 0 0]) ?_ 2 _ rfl; (with_reducible repeat (first | apply dN | apply dW | apply dA)); refine blk_put (cs := #[.int .i64 t261, .slice none 0 0, .slice none 0 0]) ?_ 1 _ rfl; (with_reducible repeat (first | apply dN | apply dW | apply dA)); refine blk_put (cs := #[.int .i64 0, .slice none 0 0, .slice none 0 0]) ?_ 0 _ rfl; exact bp BK268) hb); replace HB := am (below_step (bw HB) hb); (try clear hb); (try clear hb2); (try clear hk); (try clear hi)))
      have n0_ := am (Kd.S_drew HO241.out)
      have n1_ := am (Kd.S_drew HO244.out)
      have n2_ := am (Kd.S_drew HO248.out)
      have n3_ := am (Kd.S_drew HO251.out)
      have n4_ := am (Kd.S_drew HO256.out)
      have n5_ := am (Kd.S_drew HO259.out)
      have n6_ := am (Kd.S_drew HO264.out)
      have n7_ := am (Kd.S_drew HO267.out)
      have n8_ := am (blk_drew BK234.out)
      have n9_ := am (blk_drew BK235.out)
      have n10_ := am (blk_drew BK260.out)
      have n11_ := am (blk_drew BK268.out)
      have n12_ := am (below_drew1 HB.out)
      clear HO241
      clear HO244
      clear HO248
      clear HO251
      clear HO256
      clear HO259
      clear HO264
      clear HO267
      clear BK234
      clear BK235
      clear BK260
      clear BK268
      clear HB
      have HO241 := n0_
      have HO244 := n1_
      have HO248 := n2_
      have HO251 := n3_
      have HO256 := n4_
      have HO259 := n5_
      have HO264 := n6_
      have HO267 := n7_
      have BK234 := n8_
      have BK235 := n9_
      have BK260 := n10_
      have BK268 := n11_
      have HB := n12_
      clear n0_ n1_ n2_ n3_ n4_ n5_ n6_ n7_ n8_ n9_ n10_ n11_ n12_
      refine start_ (n := 5) (S := fun w' => w'.cell? ⟨gb260, 0, none⟩ = some (.int .i64 t253) ∧ w'.cell? ⟨gb260, 1, none⟩ = some (.slice Ao87 t254.length co87) ∧ w'.cell? ⟨gb260, 2, none⟩ = some (.slice Ao88 t257.length co88) ∧ w'.cell? ⟨gb234, 0, none⟩ = some (.int .i64 a0_0) ∧ w'.cell? ⟨gb234, 1, none⟩ = some (.slice A0_1 l0_1.length c0_1) ∧ w'.cell? ⟨gb234, 2, none⟩ = some (.slice A0_2 l0_2.length c0_2)) (ds := []) #[false, false, false, false, false] (by kernel_rfl) rfl rfl ⟨bc BK260 0, bc BK260 1, bc BK260 2, bc BK234 0, bc BK234 1, bc BK234 2⟩ (fun hHeld => ?_)
      generalize w99.drew = w100 at HO241 HO244 HO248 HO251 HO256 HO259 HO264 HO267 BK234 BK235 BK260 BK268 HB hHeld ⊢
      refine take_ (i := 0) (N := some 35) (v := ?_) (a' := ?_) #[true, false, false, false, false] rfl rfl (by kernel_rfl) (fun _ _ _ h => h) (Or.inl ⟨by rfl, ?_⟩) hHeld ?_ ?_
      rotate_left
      ·rintro w' ⟨s0, s1, s2, s3, s4, s5⟩
       go_simp
       with_reducible rfl
      rotate_left
      ·simp only [Act.put, sa, sz, ss, i64_w, i32_w]
       rfl
      refine take_ (i := 1) (N := some 36) (v := ?_) (a' := ?_) #[true, true, false, false, false] rfl rfl (by kernel_rfl) (fun _ _ _ h => h) (Or.inl ⟨by rfl, ?_⟩) hHeld ?_ ?_
      rotate_left
      ·rintro w' ⟨s0, s1, s2, s3, s4, s5⟩
       go_simp
       with_reducible rfl
      rotate_left
      ·simp only [Act.put, sa, sz, ss, i64_w, i32_w]
       rfl
      refine one_ (i := 2) (N := some 37) #[true, true, true, false, false] rfl rfl (by kernel_rfl) (by decide) (fun K hK => ?_)
      refine goes_ Try.func49 (by kernel_rfl) rfl #[.agg #[.int .i64 a0_0, .slice A0_1 l0_1.length c0_1, .slice A0_2 l0_2.length c0_2]] (by rfl) rfl rfl gl ?_
      with_reducible refine (laws_toAsm.calls k a0_0 _ _ l0_1 _ _ l0_2 t270 t271 t274 _ ?side1 ?side2 ?side3 ?side4 A60.out).mono ?_
      (case side1 => exact cc (Kd.C_below HR0_1.out HB.out))
      (case side2 => exact HC0_1.out)
      (case side3 => exact cc (Kd.C_below HR0_2.out HB.out))
      (case side4 => exact HC0_2.out)
      rintro e w101 ⟨v272, v275, rfl, ho0, ho1, hb⟩
      refine ⟨_, rfl, ?_⟩
      have n0_ := am (Kd.S_elder' (kS HO241) (Kd.S_base ho0) hb)
      have n1_ := am (Kd.S_elder' (kS HO244) (Kd.S_base ho1) hb)
      have n2_ := am (Kd.S_elder' (kS HO248) (Kd.S_base ho0) hb)
      have n3_ := am (Kd.S_elder' (kS HO251) (Kd.S_base ho1) hb)
      have n4_ := am (Kd.S_elder' (kS HO256) (Kd.S_base ho0) hb)
      have n5_ := am (Kd.S_elder' (kS HO259) (Kd.S_base ho1) hb)
      have n6_ := am (Kd.S_elder' (kS HO264) (Kd.S_base ho0) hb)
      have n7_ := am (Kd.S_elder' (kS HO267) (Kd.S_base ho1) hb)
      have n8_ := am (Kd.S_lower (Kd.S_new' (Kd.S_new' (Kd.S_new' (Kd.S_new' ho0 (Kd.S_lt (kS HO241))) (Kd.S_lt (kS HO248))) (Kd.S_lt (kS HO256))) (Kd.S_lt (kS HO264))) (below_size (bw HB)))
      have n9_ := am (Kd.S_lower (Kd.S_new' (Kd.S_new' (Kd.S_new' (Kd.S_new' ho1 (Kd.S_lt (kS HO244))) (Kd.S_lt (kS HO251))) (Kd.S_lt (kS HO259))) (Kd.S_lt (kS HO267))) (below_size (bw HB)))
      have n10_ := am (blk_below (g := gb234) (o := .cells #[.int .i64 a0_0, .slice A0_1 l0_1.length c0_1, .slice A0_2 l0_2.length c0_2] 73 (0, 0)) (bp BK234) hb)
      have n11_ := am (blk_below (g := gb235) (o := .cells #[.int .i64 a1_0, .slice A1_1 l1_1.length c1_1, .slice A1_2 l1_2.length c1_2] 73 (0, 0)) (bp BK235) hb)
      have n12_ := am (blk_below (g := gb260) (o := .cells #[.int .i64 t253, .slice Ao87 t254.length co87, .slice Ao88 t257.length co88] 79 (0, 0)) (bp BK260) hb)
      have n13_ := am (blk_below (g := gb268) (o := .cells #[.int .i64 t261, .slice Ao96 t262.length co96, .slice Ao97 t265.length co97] 79 (0, 0)) (bp BK268) hb)
      have n14_ := am (below_step (bw HB) hb)
      clear HO241
      clear HO244
      clear HO248
      clear HO251
      clear HO256
      clear HO259
      clear HO264
      clear HO267
      clear BK234
      clear BK235
      clear BK260
      clear BK268
      clear HB
      have HO241 := n0_
      have HO244 := n1_
      have HO248 := n2_
      have HO251 := n3_
      have HO256 := n4_
      have HO259 := n5_
      have HO264 := n6_
      have HO267 := n7_
      have HO273 := n8_
      have HO276 := n9_
      have BK234 := n10_
      have BK235 := n11_
      have BK260 := n12_
      have BK268 := n13_
      have HB := n14_
      clear n0_ n1_ n2_ n3_ n4_ n5_ n6_ n7_ n8_ n9_ n10_ n11_ n12_ n13_ n14_
      (try clear hb)
      (try clear hb2)
      (try clear hk)
      (try clear hi)
      (try clear ho0)
      (try clear ho1)
      obtain ⟨Ao102, co102, eo102⟩ := Kd.S_slice HO273.out
      (first | subst eo102 | (injection eo102 with f1_ f2_ f3_; have f4_ := f1_.symm; have f5_ := f3_.symm; clear f1_ f2_ f3_; subst f4_; subst f5_))
      obtain ⟨Ao103, co103, eo103⟩ := Kd.S_slice HO276.out
      (first | subst eo103 | (injection eo103 with f1_ f2_ f3_; have f4_ := f1_.symm; have f5_ := f3_.symm; clear f1_ f2_ f3_; subst f4_; subst f5_))
      refine hK.out _ _ ⟨bc BK260 0, bc BK260 1, bc BK260 2, bc BK234 0, bc BK234 1, bc BK234 2⟩ (fun hHeld => ?_)
      clear hK K
      refine norm_ (a' := ?_) ?_ ?_
      rotate_left
      ·show Act.put _ (some 37) _ = _
       simp only [Act.put, sa, sz, ss, i64_w, i32_w]
       rfl
      refine one_ (i := 3) (N := some 38) #[true, true, true, true, false] rfl rfl (by kernel_rfl) (by decide) (fun K hK => ?_)
      refine goes_ Try.func51 (by kernel_rfl) rfl #[.agg #[.int .i64 t253, .slice Ao87 t254.length co87, .slice Ao88 t257.length co88], .agg #[.int .i64 t270, .slice Ao102 t271.length co102, .slice Ao103 t274.length co103]] (by rfl) rfl rfl gl ?_
      with_reducible refine (laws_eqAsm.calls k t253 _ _ t254 _ _ t257 t270 _ _ t271 _ _ t274 true _ ?side1 ?side2 ?side3 ?side4 ?side5 ?side6 ?side7 ?side8 A61.out).mono ?_
      (case side1 => exact cc (Kd.S_reads' HO256.out).2.2)
      (case side2 => exact (Kd.S_reads' HO256.out).2.1)
      (case side3 => exact cc (Kd.S_reads' HO259.out).2.2)
      (case side4 => exact (Kd.S_reads' HO259.out).2.1)
      (case side5 => exact cc (Kd.S_reads' HO273.out).2.2)
      (case side6 => exact (Kd.S_reads' HO273.out).2.1)
      (case side7 => exact cc (Kd.S_reads' HO276.out).2.2)
      (case side8 => exact (Kd.S_reads' HO276.out).2.1)
      rintro e w104 ⟨rfl, hb⟩
      refine ⟨_, rfl, ?_⟩
      have n0_ := am (Kd.S_below (kS HO241) hb)
      have n1_ := am (Kd.S_below (kS HO244) hb)
      have n2_ := am (Kd.S_below (kS HO248) hb)
      have n3_ := am (Kd.S_below (kS HO251) hb)
      have n4_ := am (Kd.S_below (kS HO256) hb)
      have n5_ := am (Kd.S_below (kS HO259) hb)
      have n6_ := am (Kd.S_below (kS HO264) hb)
      have n7_ := am (Kd.S_below (kS HO267) hb)
      have n8_ := am (Kd.S_below (kS HO273) hb)
      have n9_ := am (Kd.S_below (kS HO276) hb)
      have n10_ := am (blk_below (g := gb234) (o := .cells #[.int .i64 a0_0, .slice A0_1 l0_1.length c0_1, .slice A0_2 l0_2.length c0_2] 73 (0, 0)) (bp BK234) hb)
      have n11_ := am (blk_below (g := gb235) (o := .cells #[.int .i64 a1_0, .slice A1_1 l1_1.length c1_1, .slice A1_2 l1_2.length c1_2] 73 (0, 0)) (bp BK235) hb)
      have n12_ := am (blk_below (g := gb260) (o := .cells #[.int .i64 t253, .slice Ao87 t254.length co87, .slice Ao88 t257.length co88] 79 (0, 0)) (bp BK260) hb)
      have n13_ := am (blk_below (g := gb268) (o := .cells #[.int .i64 t261, .slice Ao96 t262.length co96, .slice Ao97 t265.length co97] 79 (0, 0)) (bp BK268) hb)
      have n14_ := am (below_step (bw HB) hb)
      clear HO241
      clear HO244
      clear HO248
      clear HO251
      clear HO256
      clear HO259
      clear HO264
      clear HO267
      clear HO273
      clear HO276
      clear BK234
      clear BK235
      clear BK260
      clear BK268
      clear HB
      have HO241 := n0_
      have HO244 := n1_
      have HO248 := n2_
      have HO251 := n3_
      have HO256 := n4_
      have HO259 := n5_
      have HO264 := n6_
      have HO267 := n7_
      have HO273 := n8_
      have HO276 := n9_
      have BK234 := n10_
      have BK235 := n11_
      have BK260 := n12_
      have BK268 := n13_
      have HB := n14_
      clear n0_ n1_ n2_ n3_ n4_ n5_ n6_ n7_ n8_ n9_ n10_ n11_ n12_ n13_ n14_
      (try clear hb)
      (try clear hb2)
      (try clear hk)
      (try clear hi)
      refine hK.out _ _ ⟨bc BK260 0, bc BK260 1, bc BK260 2, bc BK234 0, bc BK234 1, bc BK234 2⟩ (fun hHeld => ?_)
      clear hK K
      refine norm_ (a' := ?_) ?_ ?_
      rotate_left
      ·show Act.put _ (some 38) _ = _
       simp only [Act.put, sa, sz, ss, i64_w, i32_w]
       rfl
      refine pure_ (i := 4) (N := some 39) (v := ?_) (a' := ?_) #[true, true, true, true, true] rfl rfl (by kernel_rfl) (fun _ _ _ h => h) (Or.inl ⟨by rfl, ?_⟩) ?_ ?_
      rotate_left
      ·intro w'
       go_simp
       with_reducible rfl
      rotate_left
      ·simp only [Act.put, sa, sz, ss, i64_w, i32_w]
       rfl
      refine done_ (by kernel_rfl) ?_
      try go_wp2
      have n0_ := am (Kd.S_drew HO241.out)
      have n1_ := am (Kd.S_drew HO244.out)
      have n2_ := am (Kd.S_drew HO248.out)
      have n3_ := am (Kd.S_drew HO251.out)
      have n4_ := am (Kd.S_drew HO256.out)
      have n5_ := am (Kd.S_drew HO259.out)
      have n6_ := am (Kd.S_drew HO264.out)
      have n7_ := am (Kd.S_drew HO267.out)
      have n8_ := am (Kd.S_drew HO273.out)
      have n9_ := am (Kd.S_drew HO276.out)
      have n10_ := am (blk_drew BK234.out)
      have n11_ := am (blk_drew BK235.out)
      have n12_ := am (blk_drew BK260.out)
      have n13_ := am (blk_drew BK268.out)
      have n14_ := am (below_drew1 HB.out)
      clear HO241
      clear HO244
      clear HO248
      clear HO251
      clear HO256
      clear HO259
      clear HO264
      clear HO267
      clear HO273
      clear HO276
      clear BK234
      clear BK235
      clear BK260
      clear BK268
      clear HB
      have HO241 := n0_
      have HO244 := n1_
      have HO248 := n2_
      have HO251 := n3_
      have HO256 := n4_
      have HO259 := n5_
      have HO264 := n6_
      have HO267 := n7_
      have HO273 := n8_
      have HO276 := n9_
      have BK234 := n10_
      have BK235 := n11_
      have BK260 := n12_
      have BK268 := n13_
      have HB := n14_
      clear n0_ n1_ n2_ n3_ n4_ n5_ n6_ n7_ n8_ n9_ n10_ n11_ n12_ n13_ n14_
      refine start_ (n := 5) (S := fun w' => w'.cell? ⟨gb268, 0, none⟩ = some (.int .i64 t261) ∧ w'.cell? ⟨gb268, 1, none⟩ = some (.slice Ao96 t262.length co96) ∧ w'.cell? ⟨gb268, 2, none⟩ = some (.slice Ao97 t265.length co97) ∧ w'.cell? ⟨gb235, 0, none⟩ = some (.int .i64 a1_0) ∧ w'.cell? ⟨gb235, 1, none⟩ = some (.slice A1_1 l1_1.length c1_1) ∧ w'.cell? ⟨gb235, 2, none⟩ = some (.slice A1_2 l1_2.length c1_2)) (ds := []) #[false, false, false, false, false] (by kernel_rfl) rfl rfl ⟨bc BK268 0, bc BK268 1, bc BK268 2, bc BK235 0, bc BK235 1, bc BK235 2⟩ (fun hHeld => ?_)
      generalize w104.drew = w105 at HO241 HO244 HO248 HO251 HO256 HO259 HO264 HO267 HO273 HO276 BK234 BK235 BK260 BK268 HB hHeld ⊢
      refine take_ (i := 0) (N := some 40) (v := ?_) (a' := ?_) #[true, false, false, false, false] rfl rfl (by kernel_rfl) (fun _ _ _ h => h) (Or.inl ⟨by rfl, ?_⟩) hHeld ?_ ?_
      rotate_left
      ·rintro w' ⟨s0, s1, s2, s3, s4, s5⟩
       go_simp
       with_reducible rfl
      rotate_left
      ·simp only [Act.put, sa, sz, ss, i64_w, i32_w]
       rfl
      refine take_ (i := 1) (N := some 41) (v := ?_) (a' := ?_) #[true, true, false, false, false] rfl rfl (by kernel_rfl) (fun _ _ _ h => h) (Or.inl ⟨by rfl, ?_⟩) hHeld ?_ ?_
      rotate_left
      ·rintro w' ⟨s0, s1, s2, s3, s4, s5⟩
       go_simp
       with_reducible rfl
      rotate_left
      ·simp only [Act.put, sa, sz, ss, i64_w, i32_w]
       rfl
      refine one_ (i := 2) (N := some 42) #[true, true, true, false, false] rfl rfl (by kernel_rfl) (by decide) (fun K hK => ?_)
      refine goes_ Try.func49 (by kernel_rfl) rfl #[.agg #[.int .i64 a1_0, .slice A1_1 l1_1.length c1_1, .slice A1_2 l1_2.length c1_2]] (by rfl) rfl rfl gl ?_
      with_reducible refine (laws_toAsm.calls k a1_0 _ _ l1_1 _ _ l1_2 t278 t279 t282 _ ?side1 ?side2 ?side3 ?side4 A63.out).mono ?_
      (case side1 => exact cc (Kd.C_below HR1_1.out HB.out))
      (case side2 => exact HC1_1.out)
      (case side3 => exact cc (Kd.C_below HR1_2.out HB.out))
      (case side4 => exact HC1_2.out)
      rintro e w106 ⟨v280, v283, rfl, ho0, ho1, hb⟩
      refine ⟨_, rfl, ?_⟩
      have n0_ := am (Kd.S_elder' (kS HO241) (Kd.S_base ho0) hb)
      have n1_ := am (Kd.S_elder' (kS HO244) (Kd.S_base ho1) hb)
      have n2_ := am (Kd.S_elder' (kS HO248) (Kd.S_base ho0) hb)
      have n3_ := am (Kd.S_elder' (kS HO251) (Kd.S_base ho1) hb)
      have n4_ := am (Kd.S_elder' (kS HO256) (Kd.S_base ho0) hb)
      have n5_ := am (Kd.S_elder' (kS HO259) (Kd.S_base ho1) hb)
      have n6_ := am (Kd.S_elder' (kS HO264) (Kd.S_base ho0) hb)
      have n7_ := am (Kd.S_elder' (kS HO267) (Kd.S_base ho1) hb)
      have n8_ := am (Kd.S_elder' (kS HO273) (Kd.S_base ho0) hb)
      have n9_ := am (Kd.S_elder' (kS HO276) (Kd.S_base ho1) hb)
      have n10_ := am (Kd.S_lower (Kd.S_new' (Kd.S_new' (Kd.S_new' (Kd.S_new' (Kd.S_new' ho0 (Kd.S_lt (kS HO241))) (Kd.S_lt (kS HO248))) (Kd.S_lt (kS HO256))) (Kd.S_lt (kS HO264))) (Kd.S_lt (kS HO273))) (below_size (bw HB)))
      have n11_ := am (Kd.S_lower (Kd.S_new' (Kd.S_new' (Kd.S_new' (Kd.S_new' (Kd.S_new' ho1 (Kd.S_lt (kS HO244))) (Kd.S_lt (kS HO251))) (Kd.S_lt (kS HO259))) (Kd.S_lt (kS HO267))) (Kd.S_lt (kS HO276))) (below_size (bw HB)))
      have n12_ := am (blk_below (g := gb234) (o := .cells #[.int .i64 a0_0, .slice A0_1 l0_1.length c0_1, .slice A0_2 l0_2.length c0_2] 73 (0, 0)) (bp BK234) hb)
      have n13_ := am (blk_below (g := gb235) (o := .cells #[.int .i64 a1_0, .slice A1_1 l1_1.length c1_1, .slice A1_2 l1_2.length c1_2] 73 (0, 0)) (bp BK235) hb)
      have n14_ := am (blk_below (g := gb260) (o := .cells #[.int .i64 t253, .slice Ao87 t254.length co87, .slice Ao88 t257.length co88] 79 (0, 0)) (bp BK260) hb)
      have n15_ := am (blk_below (g := gb268) (o := .cells #[.int .i64 t261, .slice Ao96 t262.length co96, .slice Ao97 t265.length co97] 79 (0, 0)) (bp BK268) hb)
      have n16_ := am (below_step (bw HB) hb)
      clear HO241
      clear HO244
      clear HO248
      clear HO251
      clear HO256
      clear HO259
      clear HO264
      clear HO267
      clear HO273
      clear HO276
      clear BK234
      clear BK235
      clear BK260
      clear BK268
      clear HB
      have HO241 := n0_
      have HO244 := n1_
      have HO248 := n2_
      have HO251 := n3_
      have HO256 := n4_
      have HO259 := n5_
      have HO264 := n6_
      have HO267 := n7_
      have HO273 := n8_
      have HO276 := n9_
      have HO281 := n10_
      have HO284 := n11_
      have BK234 := n12_
      have BK235 := n13_
      have BK260 := n14_
      have BK268 := n15_
      have HB := n16_
      clear n0_ n1_ n2_ n3_ n4_ n5_ n6_ n7_ n8_ n9_ n10_ n11_ n12_ n13_ n14_ n15_ n16_
      (try clear hb)
      (try clear hb2)
      (try clear hk)
      (try clear hi)
      (try clear ho0)
      (try clear ho1)
      obtain ⟨Ao107, co107, eo107⟩ := Kd.S_slice HO281.out
      (first | subst eo107 | (injection eo107 with f1_ f2_ f3_; have f4_ := f1_.symm; have f5_ := f3_.symm; clear f1_ f2_ f3_; subst f4_; subst f5_))
      obtain ⟨Ao108, co108, eo108⟩ := Kd.S_slice HO284.out
      (first | subst eo108 | (injection eo108 with f1_ f2_ f3_; have f4_ := f1_.symm; have f5_ := f3_.symm; clear f1_ f2_ f3_; subst f4_; subst f5_))
      refine hK.out _ _ ⟨bc BK268 0, bc BK268 1, bc BK268 2, bc BK235 0, bc BK235 1, bc BK235 2⟩ (fun hHeld => ?_)
      clear hK K
      refine norm_ (a' := ?_) ?_ ?_
      rotate_left
      ·show Act.put _ (some 42) _ = _
       simp only [Act.put, sa, sz, ss, i64_w, i32_w]
       rfl
      refine one_ (i := 3) (N := some 43) #[true, true, true, true, false] rfl rfl (by kernel_rfl) (by decide) (fun K hK => ?_)
      refine goes_ Try.func51 (by kernel_rfl) rfl #[.agg #[.int .i64 t261, .slice Ao96 t262.length co96, .slice Ao97 t265.length co97], .agg #[.int .i64 t278, .slice Ao107 t279.length co107, .slice Ao108 t282.length co108]] (by rfl) rfl rfl gl ?_
      with_reducible refine (laws_eqAsm.calls k t261 _ _ t262 _ _ t265 t278 _ _ t279 _ _ t282 true _ ?side1 ?side2 ?side3 ?side4 ?side5 ?side6 ?side7 ?side8 A64.out).mono ?_
      (case side1 => exact cc (Kd.S_reads' HO264.out).2.2)
      (case side2 => exact (Kd.S_reads' HO264.out).2.1)
      (case side3 => exact cc (Kd.S_reads' HO267.out).2.2)
      (case side4 => exact (Kd.S_reads' HO267.out).2.1)
      (case side5 => exact cc (Kd.S_reads' HO281.out).2.2)
      (case side6 => exact (Kd.S_reads' HO281.out).2.1)
      (case side7 => exact cc (Kd.S_reads' HO284.out).2.2)
      (case side8 => exact (Kd.S_reads' HO284.out).2.1)
      rintro e w109 ⟨rfl, hb⟩
      refine ⟨_, rfl, ?_⟩
      have n0_ := am (Kd.S_below (kS HO241) hb)
      have n1_ := am (Kd.S_below (kS HO244) hb)
      have n2_ := am (Kd.S_below (kS HO248) hb)
      have n3_ := am (Kd.S_below (kS HO251) hb)
      have n4_ := am (Kd.S_below (kS HO256) hb)
      have n5_ := am (Kd.S_below (kS HO259) hb)
      have n6_ := am (Kd.S_below (kS HO264) hb)
      have n7_ := am (Kd.S_below (kS HO267) hb)
      have n8_ := am (Kd.S_below (kS HO273) hb)
      have n9_ := am (Kd.S_below (kS HO276) hb)
      have n10_ := am (Kd.S_below (kS HO281) hb)
      have n11_ := am (Kd.S_below (kS HO284) hb)
      have n12_ := am (blk_below (g := gb234) (o := .cells #[.int .i64 a0_0, .slice A0_1 l0_1.length c0_1, .slice A0_2 l0_2.length c0_2] 73 (0, 0)) (bp BK234) hb)
      have n13_ := am (blk_below (g := gb235) (o := .cells #[.int .i64 a1_0, .slice A1_1 l1_1.length c1_1, .slice A1_2 l1_2.length c1_2] 73 (0, 0)) (bp BK235) hb)
      have n14_ := am (blk_below (g := gb260) (o := .cells #[.int .i64 t253, .slice Ao87 t254.length co87, .slice Ao88 t257.length co88] 79 (0, 0)) (bp BK260) hb)
      have n15_ := am (blk_below (g := gb268) (o := .cells #[.int .i64 t261, .slice Ao96 t262.length co96, .slice Ao97 t265.length co97] 79 (0, 0)) (bp BK268) hb)
      have n16_ := am (below_step (bw HB) hb)
      clear HO241
      clear HO244
      clear HO248
      clear HO251
      clear HO256
      clear HO259
      clear HO264
      clear HO267
      clear HO273
      clear HO276
      clear HO281
      clear HO284
      clear BK234
      clear BK235
      clear BK260
      clear BK268
      clear HB
      have HO241 := n0_
      have HO244 := n1_
      have HO248 := n2_
      have HO251 := n3_
      have HO256 := n4_
      have HO259 := n5_
      have HO264 := n6_
      have HO267 := n7_
      have HO273 := n8_
      have HO276 := n9_
      have HO281 := n10_
      have HO284 := n11_
      have BK234 := n12_
      have BK235 := n13_
      have BK260 := n14_
      have BK268 := n15_
      have HB := n16_
      clear n0_ n1_ n2_ n3_ n4_ n5_ n6_ n7_ n8_ n9_ n10_ n11_ n12_ n13_ n14_ n15_ n16_
      (try clear hb)
      (try clear hb2)
      (try clear hk)
      (try clear hi)
      refine hK.out _ _ ⟨bc BK268 0, bc BK268 1, bc BK268 2, bc BK235 0, bc BK235 1, bc BK235 2⟩ (fun hHeld => ?_)
      clear hK K
      refine norm_ (a' := ?_) ?_ ?_
      rotate_left
      ·show Act.put _ (some 43) _ = _
       simp only [Act.put, sa, sz, ss, i64_w, i32_w]
       rfl
      refine pure_ (i := 4) (N := some 44) (v := ?_) (a' := ?_) #[true, true, true, true, true] rfl rfl (by kernel_rfl) (fun _ _ _ h => h) (Or.inl ⟨by rfl, ?_⟩) ?_ ?_
      rotate_left
      ·intro w'
       go_simp
       with_reducible rfl
      rotate_left
      ·simp only [Act.put, sa, sz, ss, i64_w, i32_w]
       rfl
      refine done_ (by kernel_rfl) ?_
      try go_wp2
      go_ret
      exact ⟨er, bw HB⟩
     ·replace c65 := Bool.eq_false_iff.mpr c65
      subst c65
      have H1 : (some false) = some r := by rw [if_neg (show ¬ (false = true) by decide)] at H; exact H
      clear H
      have H := H1
      clear H1
      obtain rfl := Option.some.inj H
      go_enter Try.func12, Try.ntmps12
      try go_wp2_with (first | ((with_reducible refine gate_dst (N := 2) rfl ?_); refine box_event ?hg (N := 2) ?hd (cs := #[.int .i64 a0_0, .slice A0_1 l0_1.length c0_1, .slice A0_2 l0_2.length c0_2]) (t := 73) ?hr ?_; (case hd => rfl); (case hg => rfl); (case hr => exact gs); intro gb234 hg w110 hbox hb; have BK234 := am (hbox); have GW234 := am ((by rw [hg]; exact (below_size (bw HB)) : w.heap.size ≤ gb234)); have GE234 := am ((by rw [hg]; exact (below_size (bw HB)) : w.heap.size ≤ gb234)); replace HB := am (below_step (bw HB) hb); clear hb hbox hg) | ((with_reducible refine gate_dst (N := 3) rfl ?_); refine box_event ?hg (N := 3) ?hd (cs := #[.int .i64 a1_0, .slice A1_1 l1_1.length c1_1, .slice A1_2 l1_2.length c1_2]) (t := 73) ?hr ?_; (case hd => rfl); (case hg => rfl); (case hr => exact gs); intro gb235 hg w111 hbox hb; have BK235 := am (hbox); have GW235 := am ((by rw [hg]; exact (below_size (bw HB)) : w.heap.size ≤ gb235)); have GE235 := am ((by rw [hg]; exact (below_size (bw HB)) : w.heap.size ≤ gb235)); replace HB := am (below_step (bw HB) hb); have NB234_235 := am ((by rw [hg]; exact Nat.ne_of_lt (blk_lt (g := gb234) (o := .cells #[.int .i64 a0_0, .slice A0_1 l0_1.length c0_1, .slice A0_2 l0_2.length c0_2] 73 (0, 0)) (bp BK234)) : gb234 ≠ gb235)); have NB235_234 := am ((by rw [hg]; exact Nat.ne_of_gt (blk_lt (g := gb234) (o := .cells #[.int .i64 a0_0, .slice A0_1 l0_1.length c0_1, .slice A0_2 l0_2.length c0_2] 73 (0, 0)) (bp BK234)) : gb235 ≠ gb234)); replace BK234 := am (blk_below (g := gb234) (o := .cells #[.int .i64 a0_0, .slice A0_1 l0_1.length c0_1, .slice A0_2 l0_2.length c0_2] 73 (0, 0)) (bp BK234) hb); clear hb hbox hg; have hnb112 := NB234_235.out; have hnc112 := NB235_234.out; have hcz113_0 : w111.cell? ⟨gb234, 0, none⟩ = some (.int .i64 a0_0) := bc BK234 0; have hcz113_1 : w111.cell? ⟨gb234, 1, none⟩ = some (.slice A0_1 l0_1.length c0_1) := bc BK234 1; have hcz113_2 : w111.cell? ⟨gb234, 2, none⟩ = some (.slice A0_2 l0_2.length c0_2) := bc BK234 2; have hfz113_0 := bf BK234 0; have hfz113_1 := bf BK234 1; have hfz113_2 := bf BK234 2) | ((with_reducible refine gate_callee (f := 47) rfl ?_); refine goesL_ (some 12) rfl rfl Try.func47 (by kernel_rfl) rfl #[.agg #[.int .i64 a0_0, .slice A0_1 l0_1.length c0_1, .slice A0_2 l0_2.length c0_2], .int .i64 1048576] rfl gl ?_; (with_reducible refine (laws_szAsm.calls k a0_0 _ _ l0_1 _ _ l0_2 1048576 t236 _ ?side1 ?side2 ?side3 ?side4 A3.out).mono ?_); (case side1 => exact cc (Kd.C_below HR0_1.out HB.out)); (case side2 => exact HC0_1.out); (case side3 => exact cc (Kd.C_below HR0_2.out HB.out)); (case side4 => exact HC0_2.out); rintro e w114 ⟨rfl, hb⟩; refine ⟨_, rfl, ?_⟩; replace BK234 := am (blk_below (g := gb234) (o := .cells #[.int .i64 a0_0, .slice A0_1 l0_1.length c0_1, .slice A0_2 l0_2.length c0_2] 73 (0, 0)) (bp BK234) hb); replace BK235 := am (blk_below (g := gb235) (o := .cells #[.int .i64 a1_0, .slice A1_1 l1_1.length c1_1, .slice A1_2 l1_2.length c1_2] 73 (0, 0)) (bp BK235) hb); replace HB := am (below_step (bw HB) hb); (try clear hb); (try clear hb2); (try clear hk); (try clear hi); have hcz115_0 : w114.cell? ⟨gb235, 0, none⟩ = some (.int .i64 a1_0) := bc BK235 0; have hcz115_1 : w114.cell? ⟨gb235, 1, none⟩ = some (.slice A1_1 l1_1.length c1_1) := bc BK235 1; have hcz115_2 : w114.cell? ⟨gb235, 2, none⟩ = some (.slice A1_2 l1_2.length c1_2) := bc BK235 2; have hfz115_0 := bf BK235 0; have hfz115_1 := bf BK235 1; have hfz115_2 := bf BK235 2) | ((with_reducible refine gate_callee (f := 47) rfl ?_); refine goesL_ (some 17) rfl rfl Try.func47 (by kernel_rfl) rfl #[.agg #[.int .i64 a1_0, .slice A1_1 l1_1.length c1_1, .slice A1_2 l1_2.length c1_2], .int .i64 t236] rfl gl ?_; (with_reducible refine (laws_szAsm.calls k a1_0 _ _ l1_1 _ _ l1_2 t236 t237 _ ?side1 ?side2 ?side3 ?side4 A10.out).mono ?_); (case side1 => exact cc (Kd.C_below HR1_1.out HB.out)); (case side2 => exact HC1_1.out); (case side3 => exact cc (Kd.C_below HR1_2.out HB.out)); (case side4 => exact HC1_2.out); rintro e w116 ⟨rfl, hb⟩; refine ⟨_, rfl, ?_⟩; replace BK234 := am (blk_below (g := gb234) (o := .cells #[.int .i64 a0_0, .slice A0_1 l0_1.length c0_1, .slice A0_2 l0_2.length c0_2] 73 (0, 0)) (bp BK234) hb); replace BK235 := am (blk_below (g := gb235) (o := .cells #[.int .i64 a1_0, .slice A1_1 l1_1.length c1_1, .slice A1_2 l1_2.length c1_2] 73 (0, 0)) (bp BK235) hb); replace HB := am (below_step (bw HB) hb); (try clear hb); (try clear hb2); (try clear hk); (try clear hi)))
      have n0_ := am (blk_drew BK234.out)
      have n1_ := am (blk_drew BK235.out)
      have n2_ := am (below_drew1 HB.out)
      clear BK234
      clear BK235
      clear HB
      have BK234 := n0_
      have BK235 := n1_
      have HB := n2_
      clear n0_ n1_ n2_
      refine start_ (n := 6) (S := fun w' => w'.cell? ⟨gb234, 0, none⟩ = some (.int .i64 a0_0) ∧ w'.cell? ⟨gb234, 1, none⟩ = some (.slice A0_1 l0_1.length c0_1) ∧ w'.cell? ⟨gb234, 2, none⟩ = some (.slice A0_2 l0_2.length c0_2) ∧ w'.cell? ⟨gb235, 0, none⟩ = some (.int .i64 a1_0) ∧ w'.cell? ⟨gb235, 1, none⟩ = some (.slice A1_1 l1_1.length c1_1) ∧ w'.cell? ⟨gb235, 2, none⟩ = some (.slice A1_2 l1_2.length c1_2)) (ds := []) #[false, false, false, false, false, false] (by kernel_rfl) rfl rfl ⟨bc BK234 0, bc BK234 1, bc BK234 2, bc BK235 0, bc BK235 1, bc BK235 2⟩ (fun hHeld => ?_)
      generalize w116.drew = w117 at BK234 BK235 HB hHeld ⊢
      refine take_ (i := 0) (N := some 20) (v := ?_) (a' := ?_) #[true, false, false, false, false, false] rfl rfl (by kernel_rfl) (fun _ _ _ h => h) (Or.inl ⟨by rfl, ?_⟩) hHeld ?_ ?_
      rotate_left
      ·rintro w' ⟨s0, s1, s2, s3, s4, s5⟩
       go_simp
       with_reducible rfl
      rotate_left
      ·simp only [Act.put, sa, sz, ss, i64_w, i32_w]
       rfl
      refine take_ (i := 2) (N := some 22) (v := ?_) (a' := ?_) #[true, false, true, false, false, false] rfl rfl (by kernel_rfl) (fun _ _ _ h => h) (Or.inl ⟨by rfl, ?_⟩) hHeld ?_ ?_
      rotate_left
      ·rintro w' ⟨s0, s1, s2, s3, s4, s5⟩
       go_simp
       with_reducible rfl
      rotate_left
      ·simp only [Act.put, sa, sz, ss, i64_w, i32_w]
       rfl
      refine one_ (i := 1) (N := some 21) #[true, true, true, false, false, false] rfl rfl (by kernel_rfl) (by decide) (fun K hK => ?_)
      refine goes_ Try.func49 (by kernel_rfl) rfl #[.agg #[.int .i64 a0_0, .slice A0_1 l0_1.length c0_1, .slice A0_2 l0_2.length c0_2]] (by rfl) rfl rfl gl ?_
      with_reducible refine (laws_toAsm.calls k a0_0 _ _ l0_1 _ _ l0_2 t238 t239 t242 _ ?side1 ?side2 ?side3 ?side4 A19.out).mono ?_
      (case side1 => exact cc (Kd.C_below HR0_1.out HB.out))
      (case side2 => exact HC0_1.out)
      (case side3 => exact cc (Kd.C_below HR0_2.out HB.out))
      (case side4 => exact HC0_2.out)
      rintro e w118 ⟨v240, v243, rfl, ho0, ho1, hb⟩
      refine ⟨_, rfl, ?_⟩
      have n0_ := am (Kd.S_lower ho0 (below_size (bw HB)))
      have n1_ := am (Kd.S_lower ho1 (below_size (bw HB)))
      have n2_ := am (blk_below (g := gb234) (o := .cells #[.int .i64 a0_0, .slice A0_1 l0_1.length c0_1, .slice A0_2 l0_2.length c0_2] 73 (0, 0)) (bp BK234) hb)
      have n3_ := am (blk_below (g := gb235) (o := .cells #[.int .i64 a1_0, .slice A1_1 l1_1.length c1_1, .slice A1_2 l1_2.length c1_2] 73 (0, 0)) (bp BK235) hb)
      have n4_ := am (below_step (bw HB) hb)
      clear BK234
      clear BK235
      clear HB
      have HO241 := n0_
      have HO244 := n1_
      have BK234 := n2_
      have BK235 := n3_
      have HB := n4_
      clear n0_ n1_ n2_ n3_ n4_
      (try clear hb)
      (try clear hb2)
      (try clear hk)
      (try clear hi)
      (try clear ho0)
      (try clear ho1)
      refine hK.out _ _ ⟨bc BK234 0, bc BK234 1, bc BK234 2, bc BK235 0, bc BK235 1, bc BK235 2⟩ (fun hHeld => ?_)
      clear hK K
      refine norm_ (a' := ?_) ?_ ?_
      rotate_left
      ·show Act.put _ (some 21) _ = _
       simp only [Act.put, sa, sz, ss, i64_w, i32_w]
       rfl
      refine one_ (i := 3) (N := some 23) #[true, true, true, true, false, false] rfl rfl (by kernel_rfl) (by decide) (fun K hK => ?_)
      refine goes_ Try.func49 (by kernel_rfl) rfl #[.agg #[.int .i64 a1_0, .slice A1_1 l1_1.length c1_1, .slice A1_2 l1_2.length c1_2]] (by rfl) rfl rfl gl ?_
      with_reducible refine (laws_toAsm.calls k a1_0 _ _ l1_1 _ _ l1_2 t245 t246 t249 _ ?side1 ?side2 ?side3 ?side4 A20.out).mono ?_
      (case side1 => exact cc (Kd.C_below HR1_1.out HB.out))
      (case side2 => exact HC1_1.out)
      (case side3 => exact cc (Kd.C_below HR1_2.out HB.out))
      (case side4 => exact HC1_2.out)
      rintro e w119 ⟨v247, v250, rfl, ho0, ho1, hb⟩
      refine ⟨_, rfl, ?_⟩
      have n0_ := am (Kd.S_elder' (kS HO241) (Kd.S_base ho0) hb)
      have n1_ := am (Kd.S_elder' (kS HO244) (Kd.S_base ho1) hb)
      have n2_ := am (Kd.S_lower (Kd.S_new' ho0 (Kd.S_lt (kS HO241))) (below_size (bw HB)))
      have n3_ := am (Kd.S_lower (Kd.S_new' ho1 (Kd.S_lt (kS HO244))) (below_size (bw HB)))
      have n4_ := am (blk_below (g := gb234) (o := .cells #[.int .i64 a0_0, .slice A0_1 l0_1.length c0_1, .slice A0_2 l0_2.length c0_2] 73 (0, 0)) (bp BK234) hb)
      have n5_ := am (blk_below (g := gb235) (o := .cells #[.int .i64 a1_0, .slice A1_1 l1_1.length c1_1, .slice A1_2 l1_2.length c1_2] 73 (0, 0)) (bp BK235) hb)
      have n6_ := am (below_step (bw HB) hb)
      clear HO241
      clear HO244
      clear BK234
      clear BK235
      clear HB
      have HO241 := n0_
      have HO244 := n1_
      have HO248 := n2_
      have HO251 := n3_
      have BK234 := n4_
      have BK235 := n5_
      have HB := n6_
      clear n0_ n1_ n2_ n3_ n4_ n5_ n6_
      (try clear hb)
      (try clear hb2)
      (try clear hk)
      (try clear hi)
      (try clear ho0)
      (try clear ho1)
      obtain ⟨Ao120, co120, eo120⟩ := Kd.S_slice HO241.out
      (first | subst eo120 | (injection eo120 with f1_ f2_ f3_; have f4_ := f1_.symm; have f5_ := f3_.symm; clear f1_ f2_ f3_; subst f4_; subst f5_))
      obtain ⟨Ao121, co121, eo121⟩ := Kd.S_slice HO244.out
      (first | subst eo121 | (injection eo121 with f1_ f2_ f3_; have f4_ := f1_.symm; have f5_ := f3_.symm; clear f1_ f2_ f3_; subst f4_; subst f5_))
      obtain ⟨Ao122, co122, eo122⟩ := Kd.S_slice HO248.out
      (first | subst eo122 | (injection eo122 with f1_ f2_ f3_; have f4_ := f1_.symm; have f5_ := f3_.symm; clear f1_ f2_ f3_; subst f4_; subst f5_))
      obtain ⟨Ao123, co123, eo123⟩ := Kd.S_slice HO251.out
      (first | subst eo123 | (injection eo123 with f1_ f2_ f3_; have f4_ := f1_.symm; have f5_ := f3_.symm; clear f1_ f2_ f3_; subst f4_; subst f5_))
      refine hK.out _ _ ⟨bc BK234 0, bc BK234 1, bc BK234 2, bc BK235 0, bc BK235 1, bc BK235 2⟩ (fun hHeld => ?_)
      clear hK K
      refine norm_ (a' := ?_) ?_ ?_
      rotate_left
      ·show Act.put _ (some 23) _ = _
       simp only [Act.put, sa, sz, ss, i64_w, i32_w]
       rfl
      refine one_ (i := 4) (N := some 24) #[true, true, true, true, true, false] rfl rfl (by kernel_rfl) (by decide) (fun K hK => ?_)
      refine goes_ Try.func48 (by kernel_rfl) rfl #[.agg #[.int .i64 t238, .slice Ao120 t239.length co120, .slice Ao121 t242.length co121], .agg #[.int .i64 t245, .slice Ao122 t246.length co122, .slice Ao123 t249.length co123]] (by rfl) rfl rfl gl ?_
      with_reducible refine (spec_AsmSame.calls k t238 _ _ t239 _ _ t242 t245 _ _ t246 _ _ t249 t252 _ ?side1 ?side2 ?side3 ?side4 ?side5 ?side6 ?side7 ?side8 A21.out).mono ?_
      (case side1 => exact cc (Kd.S_reads' HO241.out).2.2)
      (case side2 => exact (Kd.S_reads' HO241.out).2.1)
      (case side3 => exact cc (Kd.S_reads' HO244.out).2.2)
      (case side4 => exact (Kd.S_reads' HO244.out).2.1)
      (case side5 => exact cc (Kd.S_reads' HO248.out).2.2)
      (case side6 => exact (Kd.S_reads' HO248.out).2.1)
      (case side7 => exact cc (Kd.S_reads' HO251.out).2.2)
      (case side8 => exact (Kd.S_reads' HO251.out).2.1)
      rintro e w124 ⟨rfl, hb⟩
      refine ⟨_, rfl, ?_⟩
      have n0_ := am (Kd.S_below (kS HO241) hb)
      have n1_ := am (Kd.S_below (kS HO244) hb)
      have n2_ := am (Kd.S_below (kS HO248) hb)
      have n3_ := am (Kd.S_below (kS HO251) hb)
      have n4_ := am (blk_below (g := gb234) (o := .cells #[.int .i64 a0_0, .slice A0_1 l0_1.length c0_1, .slice A0_2 l0_2.length c0_2] 73 (0, 0)) (bp BK234) hb)
      have n5_ := am (blk_below (g := gb235) (o := .cells #[.int .i64 a1_0, .slice A1_1 l1_1.length c1_1, .slice A1_2 l1_2.length c1_2] 73 (0, 0)) (bp BK235) hb)
      have n6_ := am (below_step (bw HB) hb)
      clear HO241
      clear HO244
      clear HO248
      clear HO251
      clear BK234
      clear BK235
      clear HB
      have HO241 := n0_
      have HO244 := n1_
      have HO248 := n2_
      have HO251 := n3_
      have BK234 := n4_
      have BK235 := n5_
      have HB := n6_
      clear n0_ n1_ n2_ n3_ n4_ n5_ n6_
      (try clear hb)
      (try clear hb2)
      (try clear hk)
      (try clear hi)
      refine hK.out _ _ ⟨bc BK234 0, bc BK234 1, bc BK234 2, bc BK235 0, bc BK235 1, bc BK235 2⟩ (fun hHeld => ?_)
      clear hK K
      refine norm_ (a' := ?_) ?_ ?_
      rotate_left
      ·show Act.put _ (some 24) _ = _
       simp only [Act.put, sa, sz, ss, i64_w, i32_w]
       rfl
      refine pure_ (i := 5) (N := some 6) (v := ?_) (a' := ?_) #[true, true, true, true, true, true] rfl rfl (by kernel_rfl) (fun _ _ _ h => h) (Or.inl ⟨by rfl, ?_⟩) ?_ ?_
      rotate_left
      ·intro w'
       go_simp
       with_reducible rfl
      rotate_left
      ·simp only [Act.put, sa, sz, ss, i64_w, i32_w]
       rfl
      refine done_ (by kernel_rfl) ?_
      have hcz125_0 : w124.cell? ⟨gb234, 0, none⟩ = some (.int .i64 a0_0) := bc BK234 0
      have hcz125_1 : w124.cell? ⟨gb234, 1, none⟩ = some (.slice A0_1 l0_1.length c0_1) := bc BK234 1
      have hcz125_2 : w124.cell? ⟨gb234, 2, none⟩ = some (.slice A0_2 l0_2.length c0_2) := bc BK234 2
      have hfz125_0 := bf BK234 0
      have hfz125_1 := bf BK234 1
      have hfz125_2 := bf BK234 2
      try go_wp2_with (first | ((with_reducible refine gate_callee (f := 49) rfl ?_); refine goesL_ (some 26) rfl rfl Try.func49 (by kernel_rfl) rfl #[.agg #[.int .i64 a0_0, .slice A0_1 l0_1.length c0_1, .slice A0_2 l0_2.length c0_2]] rfl gl ?_; (with_reducible refine (laws_toAsm.calls k a0_0 _ _ l0_1 _ _ l0_2 t253 t254 t257 _ ?side1 ?side2 ?side3 ?side4 A22.out).mono ?_); (case side1 => exact cc (Kd.C_below HR0_1.out HB.out)); (case side2 => exact HC0_1.out); (case side3 => exact cc (Kd.C_below HR0_2.out HB.out)); (case side4 => exact HC0_2.out); rintro e w126 ⟨v255, v258, rfl, ho0, ho1, hb⟩; refine ⟨_, rfl, ?_⟩; have HO256 := am (Kd.S_lower (Kd.S_new' (Kd.S_new' ho0 (Kd.S_lt (kS HO241))) (Kd.S_lt (kS HO248))) (below_size (bw HB))); replace HO241 := am (Kd.S_elder' (kS HO241) (Kd.S_base ho0) hb); replace HO248 := am (Kd.S_elder' (kS HO248) (Kd.S_base ho0) hb); have HO259 := am (Kd.S_lower (Kd.S_new' (Kd.S_new' ho1 (Kd.S_lt (kS HO244))) (Kd.S_lt (kS HO251))) (below_size (bw HB))); replace HO244 := am (Kd.S_elder' (kS HO244) (Kd.S_base ho1) hb); replace HO251 := am (Kd.S_elder' (kS HO251) (Kd.S_base ho1) hb); replace BK234 := am (blk_below (g := gb234) (o := .cells #[.int .i64 a0_0, .slice A0_1 l0_1.length c0_1, .slice A0_2 l0_2.length c0_2] 73 (0, 0)) (bp BK234) hb); replace BK235 := am (blk_below (g := gb235) (o := .cells #[.int .i64 a1_0, .slice A1_1 l1_1.length c1_1, .slice A1_2 l1_2.length c1_2] 73 (0, 0)) (bp BK235) hb); replace HB := am (below_step (bw HB) hb); (try clear hb); (try clear hb2); (try clear hk); (try clear hi); (try clear ho0); (try clear ho1)) | ((with_reducible refine gate_dst (N := 7) rfl ?_); refine box_event ?hg (N := 7) ?hd (cs := #[.int .i64 0, .slice none 0 0, .slice none 0 0]) (t := 79) ?hr ?_; (case hd => rfl); (case hg => rfl); (case hr => exact gs); intro gb260 hg w127 hbox hb; replace HO241 := am (Kd.S_below (kS HO241) hb); replace HO244 := am (Kd.S_below (kS HO244) hb); replace HO248 := am (Kd.S_below (kS HO248) hb); replace HO251 := am (Kd.S_below (kS HO251) hb); replace HO256 := am (Kd.S_below (kS HO256) hb); replace HO259 := am (Kd.S_below (kS HO259) hb); have BK260 := am (hbox); have GW260 := am ((by rw [hg]; exact (below_size (bw HB)) : w.heap.size ≤ gb260)); have GE260 := am ((by rw [hg]; exact (below_size (bw HB)) : w.heap.size ≤ gb260)); replace HB := am (below_step (bw HB) hb); have NB234_260 := am ((by rw [hg]; exact Nat.ne_of_lt (blk_lt (g := gb234) (o := .cells #[.int .i64 a0_0, .slice A0_1 l0_1.length c0_1, .slice A0_2 l0_2.length c0_2] 73 (0, 0)) (bp BK234)) : gb234 ≠ gb260)); have NB260_234 := am ((by rw [hg]; exact Nat.ne_of_gt (blk_lt (g := gb234) (o := .cells #[.int .i64 a0_0, .slice A0_1 l0_1.length c0_1, .slice A0_2 l0_2.length c0_2] 73 (0, 0)) (bp BK234)) : gb260 ≠ gb234)); replace BK234 := am (blk_below (g := gb234) (o := .cells #[.int .i64 a0_0, .slice A0_1 l0_1.length c0_1, .slice A0_2 l0_2.length c0_2] 73 (0, 0)) (bp BK234) hb); have NB235_260 := am ((by rw [hg]; exact Nat.ne_of_lt (blk_lt (g := gb235) (o := .cells #[.int .i64 a1_0, .slice A1_1 l1_1.length c1_1, .slice A1_2 l1_2.length c1_2] 73 (0, 0)) (bp BK235)) : gb235 ≠ gb260)); have NB260_235 := am ((by rw [hg]; exact Nat.ne_of_gt (blk_lt (g := gb235) (o := .cells #[.int .i64 a1_0, .slice A1_1 l1_1.length c1_1, .slice A1_2 l1_2.length c1_2] 73 (0, 0)) (bp BK235)) : gb260 ≠ gb235)); replace BK235 := am (blk_below (g := gb235) (o := .cells #[.int .i64 a1_0, .slice A1_1 l1_1.length c1_1, .slice A1_2 l1_2.length c1_2] 73 (0, 0)) (bp BK235) hb); clear hb hbox hg; have hnb128 := NB260_234.out; have hnc128 := NB234_260.out; have hnb129 := NB260_235.out; have hnc129 := NB235_260.out; have hcz130_0 : w127.cell? ⟨gb260, 0, none⟩ = some (.int .i64 0) := bc BK260 0; have hcz130_1 : w127.cell? ⟨gb260, 1, none⟩ = some (.slice none 0 0) := bc BK260 1; have hcz130_2 : w127.cell? ⟨gb260, 2, none⟩ = some (.slice none 0 0) := bc BK260 2; have hfz130_0 := bf BK260 0; have hfz130_1 := bf BK260 1; have hfz130_2 := bf BK260 2; obtain ⟨Ao131, co131, eo131⟩ := Kd.S_slice HO256.out; subst eo131; obtain ⟨Ao132, co132, eo132⟩ := Kd.S_slice HO259.out; subst eo132; have hcz133_0 : w127.cell? ⟨gb235, 0, none⟩ = some (.int .i64 a1_0) := bc BK235 0; have hcz133_1 : w127.cell? ⟨gb235, 1, none⟩ = some (.slice A1_1 l1_1.length c1_1) := bc BK235 1; have hcz133_2 : w127.cell? ⟨gb235, 2, none⟩ = some (.slice A1_2 l1_2.length c1_2) := bc BK235 2; have hfz133_0 := bf BK235 0; have hfz133_1 := bf BK235 1; have hfz133_2 := bf BK235 2) | ((with_reducible refine gate_callee (f := 49) rfl ?_); refine goesL_ (some 28) rfl rfl Try.func49 (by kernel_rfl) rfl #[.agg #[.int .i64 a1_0, .slice A1_1 l1_1.length c1_1, .slice A1_2 l1_2.length c1_2]] rfl gl ?_; (with_reducible refine (laws_toAsm.calls k a1_0 _ _ l1_1 _ _ l1_2 t261 t262 t265 _ ?side1 ?side2 ?side3 ?side4 A23.out).mono ?_); (case side1 => exact Kd.C_below HR1_1.out (bw HB)); (case side2 => exact HC1_1.out); (case side3 => exact Kd.C_below HR1_2.out (bw HB)); (case side4 => exact HC1_2.out); rintro e w134 ⟨v263, v266, rfl, ho0, ho1, hb⟩; refine ⟨_, rfl, ?_⟩; have HO264 := am (Kd.S_lower (Kd.S_new' (Kd.S_new' (Kd.S_new' ho0 (Kd.S_lt (by (with_reducible repeat (first | apply Kd.S_alloc | apply Kd.S_drewN | apply Kd.S_drew)); exact (Kd.S_mono (Kd.S_far (p := ⟨gb260, 2, none⟩) (Kd.S_far (p := ⟨gb260, 1, none⟩) (Kd.S_far (p := ⟨gb260, 0, none⟩) (Kd.S_types HO241.out BK260.out (by decide)) (fun _ hk => hk.2) (.int .i64 t253)) (fun _ hk => hk.2) (.slice Ao131 t254.length co131)) (fun _ hk => hk.2) (.slice Ao132 t257.length co132)) (fun _ h_ => h_.1))))) (Kd.S_lt (by (with_reducible repeat (first | apply Kd.S_alloc | apply Kd.S_drewN | apply Kd.S_drew)); exact (Kd.S_mono (Kd.S_far (p := ⟨gb260, 2, none⟩) (Kd.S_far (p := ⟨gb260, 1, none⟩) (Kd.S_far (p := ⟨gb260, 0, none⟩) (Kd.S_types HO248.out BK260.out (by decide)) (fun _ hk => hk.2) (.int .i64 t253)) (fun _ hk => hk.2) (.slice Ao131 t254.length co131)) (fun _ hk => hk.2) (.slice Ao132 t257.length co132)) (fun _ h_ => h_.1))))) (Kd.S_lt (by (with_reducible repeat (first | apply Kd.S_alloc | apply Kd.S_drewN | apply Kd.S_drew)); exact (Kd.S_mono (Kd.S_far (p := ⟨gb260, 2, none⟩) (Kd.S_far (p := ⟨gb260, 1, none⟩) (Kd.S_far (p := ⟨gb260, 0, none⟩) (Kd.S_types HO256.out BK260.out (by decide)) (fun _ hk => hk.2) (.int .i64 t253)) (fun _ hk => hk.2) (.slice Ao131 t254.length co131)) (fun _ hk => hk.2) (.slice Ao132 t257.length co132)) (fun _ h_ => h_.1))))) (below_size (bw HB))); replace HO241 := am (Kd.S_elder' (by (with_reducible repeat (first | apply Kd.S_alloc | apply Kd.S_drewN | apply Kd.S_drew)); exact (Kd.S_mono (Kd.S_far (p := ⟨gb260, 2, none⟩) (Kd.S_far (p := ⟨gb260, 1, none⟩) (Kd.S_far (p := ⟨gb260, 0, none⟩) (Kd.S_types HO241.out BK260.out (by decide)) (fun _ hk => hk.2) (.int .i64 t253)) (fun _ hk => hk.2) (.slice Ao131 t254.length co131)) (fun _ hk => hk.2) (.slice Ao132 t257.length co132)) (fun _ h_ => h_.1))) (Kd.S_base ho0) hb); replace HO248 := am (Kd.S_elder' (by (with_reducible repeat (first | apply Kd.S_alloc | apply Kd.S_drewN | apply Kd.S_drew)); exact (Kd.S_mono (Kd.S_far (p := ⟨gb260, 2, none⟩) (Kd.S_far (p := ⟨gb260, 1, none⟩) (Kd.S_far (p := ⟨gb260, 0, none⟩) (Kd.S_types HO248.out BK260.out (by decide)) (fun _ hk => hk.2) (.int .i64 t253)) (fun _ hk => hk.2) (.slice Ao131 t254.length co131)) (fun _ hk => hk.2) (.slice Ao132 t257.length co132)) (fun _ h_ => h_.1))) (Kd.S_base ho0) hb); replace HO256 := am (Kd.S_elder' (by (with_reducible repeat (first | apply Kd.S_alloc | apply Kd.S_drewN | apply Kd.S_drew)); exact (Kd.S_mono (Kd.S_far (p := ⟨gb260, 2, none⟩) (Kd.S_far (p := ⟨gb260, 1, none⟩) (Kd.S_far (p := ⟨gb260, 0, none⟩) (Kd.S_types HO256.out BK260.out (by decide)) (fun _ hk => hk.2) (.int .i64 t253)) (fun _ hk => hk.2) (.slice Ao131 t254.length co131)) (fun _ hk => hk.2) (.slice Ao132 t257.length co132)) (fun _ h_ => h_.1))) (Kd.S_base ho0) hb); have HO267 := am (Kd.S_lower (Kd.S_new' (Kd.S_new' (Kd.S_new' ho1 (Kd.S_lt (by (with_reducible repeat (first | apply Kd.S_alloc | apply Kd.S_drewN | apply Kd.S_drew)); exact (Kd.S_mono (Kd.S_far (p := ⟨gb260, 2, none⟩) (Kd.S_far (p := ⟨gb260, 1, none⟩) (Kd.S_far (p := ⟨gb260, 0, none⟩) (Kd.S_types HO244.out BK260.out (by decide)) (fun _ hk => hk.2) (.int .i64 t253)) (fun _ hk => hk.2) (.slice Ao131 t254.length co131)) (fun _ hk => hk.2) (.slice Ao132 t257.length co132)) (fun _ h_ => h_.1))))) (Kd.S_lt (by (with_reducible repeat (first | apply Kd.S_alloc | apply Kd.S_drewN | apply Kd.S_drew)); exact (Kd.S_mono (Kd.S_far (p := ⟨gb260, 2, none⟩) (Kd.S_far (p := ⟨gb260, 1, none⟩) (Kd.S_far (p := ⟨gb260, 0, none⟩) (Kd.S_types HO251.out BK260.out (by decide)) (fun _ hk => hk.2) (.int .i64 t253)) (fun _ hk => hk.2) (.slice Ao131 t254.length co131)) (fun _ hk => hk.2) (.slice Ao132 t257.length co132)) (fun _ h_ => h_.1))))) (Kd.S_lt (by (with_reducible repeat (first | apply Kd.S_alloc | apply Kd.S_drewN | apply Kd.S_drew)); exact (Kd.S_mono (Kd.S_far (p := ⟨gb260, 2, none⟩) (Kd.S_far (p := ⟨gb260, 1, none⟩) (Kd.S_far (p := ⟨gb260, 0, none⟩) (Kd.S_types HO259.out BK260.out (by decide)) (fun _ hk => hk.2) (.int .i64 t253)) (fun _ hk => hk.2) (.slice Ao131 t254.length co131)) (fun _ hk => hk.2) (.slice Ao132 t257.length co132)) (fun _ h_ => h_.1))))) (below_size (bw HB))); replace HO244 := am (Kd.S_elder' (by (with_reducible repeat (first | apply Kd.S_alloc | apply Kd.S_drewN | apply Kd.S_drew)); exact (Kd.S_mono (Kd.S_far (p := ⟨gb260, 2, none⟩) (Kd.S_far (p := ⟨gb260, 1, none⟩) (Kd.S_far (p := ⟨gb260, 0, none⟩) (Kd.S_types HO244.out BK260.out (by decide)) (fun _ hk => hk.2) (.int .i64 t253)) (fun _ hk => hk.2) (.slice Ao131 t254.length co131)) (fun _ hk => hk.2) (.slice Ao132 t257.length co132)) (fun _ h_ => h_.1))) (Kd.S_base ho1) hb); replace HO251 := am (Kd.S_elder' (by (with_reducible repeat (first | apply Kd.S_alloc | apply Kd.S_drewN | apply Kd.S_drew)); exact (Kd.S_mono (Kd.S_far (p := ⟨gb260, 2, none⟩) (Kd.S_far (p := ⟨gb260, 1, none⟩) (Kd.S_far (p := ⟨gb260, 0, none⟩) (Kd.S_types HO251.out BK260.out (by decide)) (fun _ hk => hk.2) (.int .i64 t253)) (fun _ hk => hk.2) (.slice Ao131 t254.length co131)) (fun _ hk => hk.2) (.slice Ao132 t257.length co132)) (fun _ h_ => h_.1))) (Kd.S_base ho1) hb); replace HO259 := am (Kd.S_elder' (by (with_reducible repeat (first | apply Kd.S_alloc | apply Kd.S_drewN | apply Kd.S_drew)); exact (Kd.S_mono (Kd.S_far (p := ⟨gb260, 2, none⟩) (Kd.S_far (p := ⟨gb260, 1, none⟩) (Kd.S_far (p := ⟨gb260, 0, none⟩) (Kd.S_types HO259.out BK260.out (by decide)) (fun _ hk => hk.2) (.int .i64 t253)) (fun _ hk => hk.2) (.slice Ao131 t254.length co131)) (fun _ hk => hk.2) (.slice Ao132 t257.length co132)) (fun _ h_ => h_.1))) (Kd.S_base ho1) hb); replace BK234 := am (blk_below (g := gb234) (o := .cells #[.int .i64 a0_0, .slice A0_1 l0_1.length c0_1, .slice A0_2 l0_2.length c0_2] 73 (0, 0)) (by (with_reducible repeat (first | apply dN | apply dW | apply dA)); refine blk_far ?_ NB234_260.out _; (with_reducible repeat (first | apply dN | apply dW | apply dA)); refine blk_far ?_ NB234_260.out _; (with_reducible repeat (first | apply dN | apply dW | apply dA)); refine blk_far ?_ NB234_260.out _; exact bp BK234) hb); replace BK235 := am (blk_below (g := gb235) (o := .cells #[.int .i64 a1_0, .slice A1_1 l1_1.length c1_1, .slice A1_2 l1_2.length c1_2] 73 (0, 0)) (by (with_reducible repeat (first | apply dN | apply dW | apply dA)); refine blk_far ?_ NB235_260.out _; (with_reducible repeat (first | apply dN | apply dW | apply dA)); refine blk_far ?_ NB235_260.out _; (with_reducible repeat (first | apply dN | apply dW | apply dA)); refine blk_far ?_ NB235_260.out _; exact bp BK235) hb); replace BK260 := am (blk_below (g := gb260) (o := .cells #[.int .i64 t253, .slice Ao131 t254.length co131, .slice Ao132 t257.length co132] 79 (0, 0)) (by (with_reducible repeat (first | apply dN | apply dW | apply dA)); refine blk_put (cs := #[.int .i64 t253, .slice Ao131 t254.length co131, .slice none 0 0]) ?_ 2 _ rfl; (with_reducible repeat (first | apply dN | apply dW | apply dA)); refine blk_put (cs := #[.int .i64 t253, .slice none 0 0, .slice none 0 0]) ?_ 1 _ rfl; (with_reducible repeat (first | apply dN | apply dW | apply dA)); refine blk_put (cs := #[.int .i64 0, .slice none 0 0, .slice none 0 0]) ?_ 0 _ rfl; exact bp BK260) hb); replace HB := am (below_step (bw HB) hb); (try clear hb); (try clear hb2); (try clear hk); (try clear hi); (try clear ho0); (try clear ho1)) | ((with_reducible refine gate_dst (N := 8) rfl ?_); refine box_event ?hg (N := 8) ?hd (cs := #[.int .i64 0, .slice none 0 0, .slice none 0 0]) (t := 79) ?hr ?_; (case hd => rfl); (case hg => rfl); (case hr => exact gs); intro gb268 hg w135 hbox hb; replace HO241 := am (Kd.S_below (kS HO241) hb); replace HO244 := am (Kd.S_below (kS HO244) hb); replace HO248 := am (Kd.S_below (kS HO248) hb); replace HO251 := am (Kd.S_below (kS HO251) hb); replace HO256 := am (Kd.S_below (kS HO256) hb); replace HO259 := am (Kd.S_below (kS HO259) hb); replace HO264 := am (Kd.S_below (kS HO264) hb); replace HO267 := am (Kd.S_below (kS HO267) hb); have BK268 := am (hbox); have GW268 := am ((by rw [hg]; exact (below_size (bw HB)) : w.heap.size ≤ gb268)); have GE268 := am ((by rw [hg]; exact (below_size (bw HB)) : w.heap.size ≤ gb268)); replace HB := am (below_step (bw HB) hb); have NB234_268 := am ((by rw [hg]; exact Nat.ne_of_lt (blk_lt (g := gb234) (o := .cells #[.int .i64 a0_0, .slice A0_1 l0_1.length c0_1, .slice A0_2 l0_2.length c0_2] 73 (0, 0)) (bp BK234)) : gb234 ≠ gb268)); have NB268_234 := am ((by rw [hg]; exact Nat.ne_of_gt (blk_lt (g := gb234) (o := .cells #[.int .i64 a0_0, .slice A0_1 l0_1.length c0_1, .slice A0_2 l0_2.length c0_2] 73 (0, 0)) (bp BK234)) : gb268 ≠ gb234)); replace BK234 := am (blk_below (g := gb234) (o := .cells #[.int .i64 a0_0, .slice A0_1 l0_1.length c0_1, .slice A0_2 l0_2.length c0_2] 73 (0, 0)) (bp BK234) hb); have NB235_268 := am ((by rw [hg]; exact Nat.ne_of_lt (blk_lt (g := gb235) (o := .cells #[.int .i64 a1_0, .slice A1_1 l1_1.length c1_1, .slice A1_2 l1_2.length c1_2] 73 (0, 0)) (bp BK235)) : gb235 ≠ gb268)); have NB268_235 := am ((by rw [hg]; exact Nat.ne_of_gt (blk_lt (g := gb235) (o := .cells #[.int .i64 a1_0, .slice A1_1 l1_1.length c1_1, .slice A1_2 l1_2.length c1_2] 73 (0, 0)) (bp BK235)) : gb268 ≠ gb235)); replace BK235 := am (blk_below (g := gb235) (o := .cells #[.int .i64 a1_0, .slice A1_1 l1_1.length c1_1, .slice A1_2 l1_2.length c1_2] 73 (0, 0)) (bp BK235) hb); have NB260_268 := am ((by rw [hg]; exact Nat.ne_of_lt (blk_lt (g := gb260) (o := .cells #[.int .i64 t253, .slice Ao131 t254.length co131, .slice Ao132 t257.length co132] 79 (0, 0)) (bp BK260)) : gb260 ≠ gb268)); have NB268_260 := am ((by rw [hg]; exact Nat.ne_of_gt (blk_lt (g := gb260) (o := .cells #[.int .i64 t253, .slice Ao131 t254.length co131, .slice Ao132 t257.length co132] 79 (0, 0)) (bp BK260)) : gb268 ≠ gb260)); replace BK260 := am (blk_below (g := gb260) (o := .cells #[.int .i64 t253, .slice Ao131 t254.length co131, .slice Ao132 t257.length co132] 79 (0, 0)) (bp BK260) hb); clear hb hbox hg; have hnb136 := NB268_234.out; have hnc136 := NB234_268.out; have hnb137 := NB268_235.out; have hnc137 := NB235_268.out; have hnb138 := NB268_260.out; have hnc138 := NB260_268.out; have hcz139_0 : w135.cell? ⟨gb268, 0, none⟩ = some (.int .i64 0) := bc BK268 0; have hcz139_1 : w135.cell? ⟨gb268, 1, none⟩ = some (.slice none 0 0) := bc BK268 1; have hcz139_2 : w135.cell? ⟨gb268, 2, none⟩ = some (.slice none 0 0) := bc BK268 2; have hfz139_0 := bf BK268 0; have hfz139_1 := bf BK268 1; have hfz139_2 := bf BK268 2; obtain ⟨Ao140, co140, eo140⟩ := Kd.S_slice HO264.out; subst eo140; obtain ⟨Ao141, co141, eo141⟩ := Kd.S_slice HO267.out; subst eo141; have hcz142_0 : w135.cell? ⟨gb260, 0, none⟩ = some (.int .i64 t253) := bc BK260 0; have hcz142_1 : w135.cell? ⟨gb260, 1, none⟩ = some (.slice Ao131 t254.length co131) := bc BK260 1; have hcz142_2 : w135.cell? ⟨gb260, 2, none⟩ = some (.slice Ao132 t257.length co132) := bc BK260 2; have hfz142_0 := bf BK260 0; have hfz142_1 := bf BK260 1; have hfz142_2 := bf BK260 2) | ((with_reducible refine gate_callee (f := 50) rfl ?_); refine goesL_ (some 31) rfl rfl Try.func50 (by kernel_rfl) rfl #[.agg #[.int .i64 t253, .slice Ao131 t254.length co131, .slice Ao132 t257.length co132], .agg #[.int .i64 t261, .slice Ao140 t262.length co140, .slice Ao141 t265.length co141]] rfl gl ?_; (with_reducible refine (impl_AsmSame.calls k t253 _ _ t254 _ _ t257 t261 _ _ t262 _ _ t265 t269 _ ?side1 ?side2 ?side3 ?side4 ?side5 ?side6 ?side7 ?side8 A24.out).mono ?_); (case side1 => refine (Kd.S_reads' (e := 123) (base := w.heap.size) (ok := fun k_ => (((True ∧ some k_ ≠ (.slice Ao120 t239.length co120 : Value).ownBlock) ∧ some k_ ≠ (.slice Ao122 t246.length co122 : Value).ownBlock) ∧ some k_ ≠ (.slice Ao140 t262.length co140 : Value).ownBlock)) (n := t254.length) (c := co131) ?_).2.2; exact (by (with_reducible repeat (first | apply Kd.S_alloc | apply Kd.S_drewN | apply Kd.S_drew)); exact (Kd.S_mono (Kd.S_far (p := ⟨gb268, 2, none⟩) (Kd.S_far (p := ⟨gb268, 1, none⟩) (Kd.S_far (p := ⟨gb268, 0, none⟩) (Kd.S_types HO256.out BK268.out (by decide)) (fun _ hk => hk.2) (.int .i64 t261)) (fun _ hk => hk.2) (.slice Ao140 t262.length co140)) (fun _ hk => hk.2) (.slice Ao141 t265.length co141)) (fun _ h_ => h_.1)))); (case side2 => exact (Kd.S_reads' HO256.out).2.1); (case side3 => refine (Kd.S_reads' (e := 121) (base := w.heap.size) (ok := fun k_ => (((True ∧ some k_ ≠ (.slice Ao121 t242.length co121 : Value).ownBlock) ∧ some k_ ≠ (.slice Ao123 t249.length co123 : Value).ownBlock) ∧ some k_ ≠ (.slice Ao141 t265.length co141 : Value).ownBlock)) (n := t257.length) (c := co132) ?_).2.2; exact (by (with_reducible repeat (first | apply Kd.S_alloc | apply Kd.S_drewN | apply Kd.S_drew)); exact (Kd.S_mono (Kd.S_far (p := ⟨gb268, 2, none⟩) (Kd.S_far (p := ⟨gb268, 1, none⟩) (Kd.S_far (p := ⟨gb268, 0, none⟩) (Kd.S_types HO259.out BK268.out (by decide)) (fun _ hk => hk.2) (.int .i64 t261)) (fun _ hk => hk.2) (.slice Ao140 t262.length co140)) (fun _ hk => hk.2) (.slice Ao141 t265.length co141)) (fun _ h_ => h_.1)))); (case side4 => exact (Kd.S_reads' HO259.out).2.1); (case side5 => refine (Kd.S_reads' (e := 123) (base := w.heap.size) (ok := fun k_ => (((True ∧ some k_ ≠ (.slice Ao120 t239.length co120 : Value).ownBlock) ∧ some k_ ≠ (.slice Ao122 t246.length co122 : Value).ownBlock) ∧ some k_ ≠ (.slice Ao131 t254.length co131 : Value).ownBlock)) (n := t262.length) (c := co140) ?_).2.2; exact (by (with_reducible repeat (first | apply Kd.S_alloc | apply Kd.S_drewN | apply Kd.S_drew)); exact (Kd.S_mono (Kd.S_far (p := ⟨gb268, 2, none⟩) (Kd.S_far (p := ⟨gb268, 1, none⟩) (Kd.S_far (p := ⟨gb268, 0, none⟩) (Kd.S_types HO264.out BK268.out (by decide)) (fun _ hk => hk.2) (.int .i64 t261)) (fun _ hk => hk.2) (.slice Ao140 t262.length co140)) (fun _ hk => hk.2) (.slice Ao141 t265.length co141)) (fun _ h_ => h_.1)))); (case side6 => exact (Kd.S_reads' HO264.out).2.1); (case side7 => refine (Kd.S_reads' (e := 121) (base := w.heap.size) (ok := fun k_ => (((True ∧ some k_ ≠ (.slice Ao121 t242.length co121 : Value).ownBlock) ∧ some k_ ≠ (.slice Ao123 t249.length co123 : Value).ownBlock) ∧ some k_ ≠ (.slice Ao132 t257.length co132 : Value).ownBlock)) (n := t265.length) (c := co141) ?_).2.2; exact (by (with_reducible repeat (first | apply Kd.S_alloc | apply Kd.S_drewN | apply Kd.S_drew)); exact (Kd.S_mono (Kd.S_far (p := ⟨gb268, 2, none⟩) (Kd.S_far (p := ⟨gb268, 1, none⟩) (Kd.S_far (p := ⟨gb268, 0, none⟩) (Kd.S_types HO267.out BK268.out (by decide)) (fun _ hk => hk.2) (.int .i64 t261)) (fun _ hk => hk.2) (.slice Ao140 t262.length co140)) (fun _ hk => hk.2) (.slice Ao141 t265.length co141)) (fun _ h_ => h_.1)))); (case side8 => exact (Kd.S_reads' HO267.out).2.1); rintro e w143 ⟨rfl, hb⟩; refine ⟨_, rfl, ?_⟩; replace HO241 := am (Kd.S_below (by (with_reducible repeat (first | apply Kd.S_alloc | apply Kd.S_drewN | apply Kd.S_drew)); exact (Kd.S_mono (Kd.S_far (p := ⟨gb268, 2, none⟩) (Kd.S_far (p := ⟨gb268, 1, none⟩) (Kd.S_far (p := ⟨gb268, 0, none⟩) (Kd.S_types HO241.out BK268.out (by decide)) (fun _ hk => hk.2) (.int .i64 t261)) (fun _ hk => hk.2) (.slice Ao140 t262.length co140)) (fun _ hk => hk.2) (.slice Ao141 t265.length co141)) (fun _ h_ => h_.1))) hb); replace HO244 := am (Kd.S_below (by (with_reducible repeat (first | apply Kd.S_alloc | apply Kd.S_drewN | apply Kd.S_drew)); exact (Kd.S_mono (Kd.S_far (p := ⟨gb268, 2, none⟩) (Kd.S_far (p := ⟨gb268, 1, none⟩) (Kd.S_far (p := ⟨gb268, 0, none⟩) (Kd.S_types HO244.out BK268.out (by decide)) (fun _ hk => hk.2) (.int .i64 t261)) (fun _ hk => hk.2) (.slice Ao140 t262.length co140)) (fun _ hk => hk.2) (.slice Ao141 t265.length co141)) (fun _ h_ => h_.1))) hb); replace HO248 := am (Kd.S_below (by (with_reducible repeat (first | apply Kd.S_alloc | apply Kd.S_drewN | apply Kd.S_drew)); exact (Kd.S_mono (Kd.S_far (p := ⟨gb268, 2, none⟩) (Kd.S_far (p := ⟨gb268, 1, none⟩) (Kd.S_far (p := ⟨gb268, 0, none⟩) (Kd.S_types HO248.out BK268.out (by decide)) (fun _ hk => hk.2) (.int .i64 t261)) (fun _ hk => hk.2) (.slice Ao140 t262.length co140)) (fun _ hk => hk.2) (.slice Ao141 t265.length co141)) (fun _ h_ => h_.1))) hb); replace HO251 := am (Kd.S_below (by (with_reducible repeat (first | apply Kd.S_alloc | apply Kd.S_drewN | apply Kd.S_drew)); exact (Kd.S_mono (Kd.S_far (p := ⟨gb268, 2, none⟩) (Kd.S_far (p := ⟨gb268, 1, none⟩) (Kd.S_far (p := ⟨gb268, 0, none⟩) (Kd.S_types HO251.out BK268.out (by decide)) (fun _ hk => hk.2) (.int .i64 t261)) (fun _ hk => hk.2) (.slice Ao140 t262.length co140)) (fun _ hk => hk.2) (.slice Ao141 t265.length co141)) (fun _ h_ => h_.1))) hb); replace HO256 := am (Kd.S_below (by (with_reducible repeat (first | apply Kd.S_alloc | apply Kd.S_drewN | apply Kd.S_drew)); exact (Kd.S_mono (Kd.S_far (p := ⟨gb268, 2, none⟩) (Kd.S_far (p := ⟨gb268, 1, none⟩) (Kd.S_far (p := ⟨gb268, 0, none⟩) (Kd.S_types HO256.out BK268.out (by decide)) (fun _ hk => hk.2) (.int .i64 t261)) (fun _ hk => hk.2) (.slice Ao140 t262.length co140)) (fun _ hk => hk.2) (.slice Ao141 t265.length co141)) (fun _ h_ => h_.1))) hb); replace HO259 := am (Kd.S_below (by (with_reducible repeat (first | apply Kd.S_alloc | apply Kd.S_drewN | apply Kd.S_drew)); exact (Kd.S_mono (Kd.S_far (p := ⟨gb268, 2, none⟩) (Kd.S_far (p := ⟨gb268, 1, none⟩) (Kd.S_far (p := ⟨gb268, 0, none⟩) (Kd.S_types HO259.out BK268.out (by decide)) (fun _ hk => hk.2) (.int .i64 t261)) (fun _ hk => hk.2) (.slice Ao140 t262.length co140)) (fun _ hk => hk.2) (.slice Ao141 t265.length co141)) (fun _ h_ => h_.1))) hb); replace HO264 := am (Kd.S_below (by (with_reducible repeat (first | apply Kd.S_alloc | apply Kd.S_drewN | apply Kd.S_drew)); exact (Kd.S_mono (Kd.S_far (p := ⟨gb268, 2, none⟩) (Kd.S_far (p := ⟨gb268, 1, none⟩) (Kd.S_far (p := ⟨gb268, 0, none⟩) (Kd.S_types HO264.out BK268.out (by decide)) (fun _ hk => hk.2) (.int .i64 t261)) (fun _ hk => hk.2) (.slice Ao140 t262.length co140)) (fun _ hk => hk.2) (.slice Ao141 t265.length co141)) (fun _ h_ => h_.1))) hb); replace HO267 := am (Kd.S_below (by (with_reducible repeat (first | apply Kd.S_alloc | apply Kd.S_drewN | apply Kd.S_drew)); exact (Kd.S_mono (Kd.S_far (p := ⟨gb268, 2, none⟩) (Kd.S_far (p := ⟨gb268, 1, none⟩) (Kd.S_far (p := ⟨gb268, 0, none⟩) (Kd.S_types HO267.out BK268.out (by decide)) (fun _ hk => hk.2) (.int .i64 t261)) (fun _ hk => hk.2) (.slice Ao140 t262.length co140)) (fun _ hk => hk.2) (.slice Ao141 t265.length co141)) (fun _ h_ => h_.1))) hb); replace BK234 := am (blk_below (g := gb234) (o := .cells #[.int .i64 a0_0, .slice A0_1 l0_1.length c0_1, .slice A0_2 l0_2.length c0_2] 73 (0, 0)) (by (with_reducible repeat (first | apply dN | apply dW | apply dA)); refine blk_far ?_ NB234_268.out _; (with_reducible repeat (first | apply dN | apply dW | apply dA)); refine blk_far ?_ NB234_268.out _; (with_reducible repeat (first | apply dN | apply dW | apply dA)); refine blk_far ?_ NB234_268.out _; exact bp BK234) hb); replace BK235 := am (blk_below (g := gb235) (o := .cells #[.int .i64 a1_0, .slice A1_1 l1_1.length c1_1, .slice A1_2 l1_2.length c1_2] 73 (0, 0)) (by (with_reducible repeat (first | apply dN | apply dW | apply dA)); refine blk_far ?_ NB235_268.out _; (with_reducible repeat (first | apply dN | apply dW | apply dA)); refine blk_far ?_ NB235_268.out _; (with_reducible repeat (first | apply dN | apply dW | apply dA)); refine blk_far ?_ NB235_268.out _; exact bp BK235) hb); replace BK260 := am (blk_below (g := gb260) (o := .cells #[.int .i64 t253, .slice Ao131 t254.length co131, .slice Ao132 t257.length co132] 79 (0, 0)) (by (with_reducible repeat (first | apply dN | apply dW | apply dA)); refine blk_far ?_ NB260_268.out _; (with_reducible repeat (first | apply dN | apply dW | apply dA)); refine blk_far ?_ NB260_268.out _; (with_reducible repeat (first | apply dN | apply dW | apply dA)); refine blk_far ?_ NB260_268.out _; exact bp BK260) hb); replace BK268 := am (blk_below (g := gb268) (o := .cells #[.int .i64 t261, .slice Ao140 t262.length co140, .slice Ao141 t265.length co141] 79 (0, 0)) (by (with_reducible repeat (first | apply dN | apply dW | apply dA)); refine blk_put (cs := #[.int .i64 t261, .slice Ao140 t262.length co140, .slice none 0 0]) ?_ 2 _ rfl; (with_reducible repeat (first | apply dN | apply dW | apply dA)); refine blk_put (cs := #[.int .i64 t261, .slice none 0 0, .slice none 0 0]) ?_ 1 _ rfl; (with_reducible repeat (first | apply dN | apply dW | apply dA)); refine blk_put (cs := #[.int .i64 0, .slice none 0 0, .slice none 0 0]) ?_ 0 _ rfl; exact bp BK268) hb); replace HB := am (below_step (bw HB) hb); (try clear hb); (try clear hb2); (try clear hk); (try clear hi)))
      have n0_ := am (Kd.S_drew HO241.out)
      have n1_ := am (Kd.S_drew HO244.out)
      have n2_ := am (Kd.S_drew HO248.out)
      have n3_ := am (Kd.S_drew HO251.out)
      have n4_ := am (Kd.S_drew HO256.out)
      have n5_ := am (Kd.S_drew HO259.out)
      have n6_ := am (Kd.S_drew HO264.out)
      have n7_ := am (Kd.S_drew HO267.out)
      have n8_ := am (blk_drew BK234.out)
      have n9_ := am (blk_drew BK235.out)
      have n10_ := am (blk_drew BK260.out)
      have n11_ := am (blk_drew BK268.out)
      have n12_ := am (below_drew1 HB.out)
      clear HO241
      clear HO244
      clear HO248
      clear HO251
      clear HO256
      clear HO259
      clear HO264
      clear HO267
      clear BK234
      clear BK235
      clear BK260
      clear BK268
      clear HB
      have HO241 := n0_
      have HO244 := n1_
      have HO248 := n2_
      have HO251 := n3_
      have HO256 := n4_
      have HO259 := n5_
      have HO264 := n6_
      have HO267 := n7_
      have BK234 := n8_
      have BK235 := n9_
      have BK260 := n10_
      have BK268 := n11_
      have HB := n12_
      clear n0_ n1_ n2_ n3_ n4_ n5_ n6_ n7_ n8_ n9_ n10_ n11_ n12_
      refine start_ (n := 5) (S := fun w' => w'.cell? ⟨gb260, 0, none⟩ = some (.int .i64 t253) ∧ w'.cell? ⟨gb260, 1, none⟩ = some (.slice Ao131 t254.length co131) ∧ w'.cell? ⟨gb260, 2, none⟩ = some (.slice Ao132 t257.length co132) ∧ w'.cell? ⟨gb234, 0, none⟩ = some (.int .i64 a0_0) ∧ w'.cell? ⟨gb234, 1, none⟩ = some (.slice A0_1 l0_1.length c0_1) ∧ w'.cell? ⟨gb234, 2, none⟩ = some (.slice A0_2 l0_2.length c0_2)) (ds := []) #[false, false, false, false, false] (by kernel_rfl) rfl rfl ⟨bc BK260 0, bc BK260 1, bc BK260 2, bc BK234 0, bc BK234 1, bc BK234 2⟩ (fun hHeld => ?_)
      generalize w143.drew = w144 at HO241 HO244 HO248 HO251 HO256 HO259 HO264 HO267 BK234 BK235 BK260 BK268 HB hHeld ⊢
      refine take_ (i := 0) (N := some 35) (v := ?_) (a' := ?_) #[true, false, false, false, false] rfl rfl (by kernel_rfl) (fun _ _ _ h => h) (Or.inl ⟨by rfl, ?_⟩) hHeld ?_ ?_
      rotate_left
      ·rintro w' ⟨s0, s1, s2, s3, s4, s5⟩
       go_simp
       with_reducible rfl
      rotate_left
      ·simp only [Act.put, sa, sz, ss, i64_w, i32_w]
       rfl
      refine take_ (i := 1) (N := some 36) (v := ?_) (a' := ?_) #[true, true, false, false, false] rfl rfl (by kernel_rfl) (fun _ _ _ h => h) (Or.inl ⟨by rfl, ?_⟩) hHeld ?_ ?_
      rotate_left
      ·rintro w' ⟨s0, s1, s2, s3, s4, s5⟩
       go_simp
       with_reducible rfl
      rotate_left
      ·simp only [Act.put, sa, sz, ss, i64_w, i32_w]
       rfl
      refine one_ (i := 2) (N := some 37) #[true, true, true, false, false] rfl rfl (by kernel_rfl) (by decide) (fun K hK => ?_)
      refine goes_ Try.func49 (by kernel_rfl) rfl #[.agg #[.int .i64 a0_0, .slice A0_1 l0_1.length c0_1, .slice A0_2 l0_2.length c0_2]] (by rfl) rfl rfl gl ?_
      with_reducible refine (laws_toAsm.calls k a0_0 _ _ l0_1 _ _ l0_2 t270 t271 t274 _ ?side1 ?side2 ?side3 ?side4 A60.out).mono ?_
      (case side1 => exact cc (Kd.C_below HR0_1.out HB.out))
      (case side2 => exact HC0_1.out)
      (case side3 => exact cc (Kd.C_below HR0_2.out HB.out))
      (case side4 => exact HC0_2.out)
      rintro e w145 ⟨v272, v275, rfl, ho0, ho1, hb⟩
      refine ⟨_, rfl, ?_⟩
      have n0_ := am (Kd.S_elder' (kS HO241) (Kd.S_base ho0) hb)
      have n1_ := am (Kd.S_elder' (kS HO244) (Kd.S_base ho1) hb)
      have n2_ := am (Kd.S_elder' (kS HO248) (Kd.S_base ho0) hb)
      have n3_ := am (Kd.S_elder' (kS HO251) (Kd.S_base ho1) hb)
      have n4_ := am (Kd.S_elder' (kS HO256) (Kd.S_base ho0) hb)
      have n5_ := am (Kd.S_elder' (kS HO259) (Kd.S_base ho1) hb)
      have n6_ := am (Kd.S_elder' (kS HO264) (Kd.S_base ho0) hb)
      have n7_ := am (Kd.S_elder' (kS HO267) (Kd.S_base ho1) hb)
      have n8_ := am (Kd.S_lower (Kd.S_new' (Kd.S_new' (Kd.S_new' (Kd.S_new' ho0 (Kd.S_lt (kS HO241))) (Kd.S_lt (kS HO248))) (Kd.S_lt (kS HO256))) (Kd.S_lt (kS HO264))) (below_size (bw HB)))
      have n9_ := am (Kd.S_lower (Kd.S_new' (Kd.S_new' (Kd.S_new' (Kd.S_new' ho1 (Kd.S_lt (kS HO244))) (Kd.S_lt (kS HO251))) (Kd.S_lt (kS HO259))) (Kd.S_lt (kS HO267))) (below_size (bw HB)))
      have n10_ := am (blk_below (g := gb234) (o := .cells #[.int .i64 a0_0, .slice A0_1 l0_1.length c0_1, .slice A0_2 l0_2.length c0_2] 73 (0, 0)) (bp BK234) hb)
      have n11_ := am (blk_below (g := gb235) (o := .cells #[.int .i64 a1_0, .slice A1_1 l1_1.length c1_1, .slice A1_2 l1_2.length c1_2] 73 (0, 0)) (bp BK235) hb)
      have n12_ := am (blk_below (g := gb260) (o := .cells #[.int .i64 t253, .slice Ao131 t254.length co131, .slice Ao132 t257.length co132] 79 (0, 0)) (bp BK260) hb)
      have n13_ := am (blk_below (g := gb268) (o := .cells #[.int .i64 t261, .slice Ao140 t262.length co140, .slice Ao141 t265.length co141] 79 (0, 0)) (bp BK268) hb)
      have n14_ := am (below_step (bw HB) hb)
      clear HO241
      clear HO244
      clear HO248
      clear HO251
      clear HO256
      clear HO259
      clear HO264
      clear HO267
      clear BK234
      clear BK235
      clear BK260
      clear BK268
      clear HB
      have HO241 := n0_
      have HO244 := n1_
      have HO248 := n2_
      have HO251 := n3_
      have HO256 := n4_
      have HO259 := n5_
      have HO264 := n6_
      have HO267 := n7_
      have HO273 := n8_
      have HO276 := n9_
      have BK234 := n10_
      have BK235 := n11_
      have BK260 := n12_
      have BK268 := n13_
      have HB := n14_
      clear n0_ n1_ n2_ n3_ n4_ n5_ n6_ n7_ n8_ n9_ n10_ n11_ n12_ n13_ n14_
      (try clear hb)
      (try clear hb2)
      (try clear hk)
      (try clear hi)
      (try clear ho0)
      (try clear ho1)
      obtain ⟨Ao146, co146, eo146⟩ := Kd.S_slice HO273.out
      (first | subst eo146 | (injection eo146 with f1_ f2_ f3_; have f4_ := f1_.symm; have f5_ := f3_.symm; clear f1_ f2_ f3_; subst f4_; subst f5_))
      obtain ⟨Ao147, co147, eo147⟩ := Kd.S_slice HO276.out
      (first | subst eo147 | (injection eo147 with f1_ f2_ f3_; have f4_ := f1_.symm; have f5_ := f3_.symm; clear f1_ f2_ f3_; subst f4_; subst f5_))
      refine hK.out _ _ ⟨bc BK260 0, bc BK260 1, bc BK260 2, bc BK234 0, bc BK234 1, bc BK234 2⟩ (fun hHeld => ?_)
      clear hK K
      refine norm_ (a' := ?_) ?_ ?_
      rotate_left
      ·show Act.put _ (some 37) _ = _
       simp only [Act.put, sa, sz, ss, i64_w, i32_w]
       rfl
      refine one_ (i := 3) (N := some 38) #[true, true, true, true, false] rfl rfl (by kernel_rfl) (by decide) (fun K hK => ?_)
      refine goes_ Try.func51 (by kernel_rfl) rfl #[.agg #[.int .i64 t253, .slice Ao131 t254.length co131, .slice Ao132 t257.length co132], .agg #[.int .i64 t270, .slice Ao146 t271.length co146, .slice Ao147 t274.length co147]] (by rfl) rfl rfl gl ?_
      with_reducible refine (laws_eqAsm.calls k t253 _ _ t254 _ _ t257 t270 _ _ t271 _ _ t274 true _ ?side1 ?side2 ?side3 ?side4 ?side5 ?side6 ?side7 ?side8 A61.out).mono ?_
      (case side1 => exact cc (Kd.S_reads' HO256.out).2.2)
      (case side2 => exact (Kd.S_reads' HO256.out).2.1)
      (case side3 => exact cc (Kd.S_reads' HO259.out).2.2)
      (case side4 => exact (Kd.S_reads' HO259.out).2.1)
      (case side5 => exact cc (Kd.S_reads' HO273.out).2.2)
      (case side6 => exact (Kd.S_reads' HO273.out).2.1)
      (case side7 => exact cc (Kd.S_reads' HO276.out).2.2)
      (case side8 => exact (Kd.S_reads' HO276.out).2.1)
      rintro e w148 ⟨rfl, hb⟩
      refine ⟨_, rfl, ?_⟩
      have n0_ := am (Kd.S_below (kS HO241) hb)
      have n1_ := am (Kd.S_below (kS HO244) hb)
      have n2_ := am (Kd.S_below (kS HO248) hb)
      have n3_ := am (Kd.S_below (kS HO251) hb)
      have n4_ := am (Kd.S_below (kS HO256) hb)
      have n5_ := am (Kd.S_below (kS HO259) hb)
      have n6_ := am (Kd.S_below (kS HO264) hb)
      have n7_ := am (Kd.S_below (kS HO267) hb)
      have n8_ := am (Kd.S_below (kS HO273) hb)
      have n9_ := am (Kd.S_below (kS HO276) hb)
      have n10_ := am (blk_below (g := gb234) (o := .cells #[.int .i64 a0_0, .slice A0_1 l0_1.length c0_1, .slice A0_2 l0_2.length c0_2] 73 (0, 0)) (bp BK234) hb)
      have n11_ := am (blk_below (g := gb235) (o := .cells #[.int .i64 a1_0, .slice A1_1 l1_1.length c1_1, .slice A1_2 l1_2.length c1_2] 73 (0, 0)) (bp BK235) hb)
      have n12_ := am (blk_below (g := gb260) (o := .cells #[.int .i64 t253, .slice Ao131 t254.length co131, .slice Ao132 t257.length co132] 79 (0, 0)) (bp BK260) hb)
      have n13_ := am (blk_below (g := gb268) (o := .cells #[.int .i64 t261, .slice Ao140 t262.length co140, .slice Ao141 t265.length co141] 79 (0, 0)) (bp BK268) hb)
      have n14_ := am (below_step (bw HB) hb)
      clear HO241
      clear HO244
      clear HO248
      clear HO251
      clear HO256
      clear HO259
      clear HO264
      clear HO267
      clear HO273
      clear HO276
      clear BK234
      clear BK235
      clear BK260
      clear BK268
      clear HB
      have HO241 := n0_
      have HO244 := n1_
      have HO248 := n2_
      have HO251 := n3_
      have HO256 := n4_
      have HO259 := n5_
      have HO264 := n6_
      have HO267 := n7_
      have HO273 := n8_
      have HO276 := n9_
      have BK234 := n10_
      have BK235 := n11_
      have BK260 := n12_
      have BK268 := n13_
      have HB := n14_
      clear n0_ n1_ n2_ n3_ n4_ n5_ n6_ n7_ n8_ n9_ n10_ n11_ n12_ n13_ n14_
      (try clear hb)
      (try clear hb2)
      (try clear hk)
      (try clear hi)
      refine hK.out _ _ ⟨bc BK260 0, bc BK260 1, bc BK260 2, bc BK234 0, bc BK234 1, bc BK234 2⟩ (fun hHeld => ?_)
      clear hK K
      refine norm_ (a' := ?_) ?_ ?_
      rotate_left
      ·show Act.put _ (some 38) _ = _
       simp only [Act.put, sa, sz, ss, i64_w, i32_w]
       rfl
      refine pure_ (i := 4) (N := some 39) (v := ?_) (a' := ?_) #[true, true, true, true, true] rfl rfl (by kernel_rfl) (fun _ _ _ h => h) (Or.inl ⟨by rfl, ?_⟩) ?_ ?_
      rotate_left
      ·intro w'
       go_simp
       with_reducible rfl
      rotate_left
      ·simp only [Act.put, sa, sz, ss, i64_w, i32_w]
       rfl
      refine done_ (by kernel_rfl) ?_
      try go_wp2
      have n0_ := am (Kd.S_drew HO241.out)
      have n1_ := am (Kd.S_drew HO244.out)
      have n2_ := am (Kd.S_drew HO248.out)
      have n3_ := am (Kd.S_drew HO251.out)
      have n4_ := am (Kd.S_drew HO256.out)
      have n5_ := am (Kd.S_drew HO259.out)
      have n6_ := am (Kd.S_drew HO264.out)
      have n7_ := am (Kd.S_drew HO267.out)
      have n8_ := am (Kd.S_drew HO273.out)
      have n9_ := am (Kd.S_drew HO276.out)
      have n10_ := am (blk_drew BK234.out)
      have n11_ := am (blk_drew BK235.out)
      have n12_ := am (blk_drew BK260.out)
      have n13_ := am (blk_drew BK268.out)
      have n14_ := am (below_drew1 HB.out)
      clear HO241
      clear HO244
      clear HO248
      clear HO251
      clear HO256
      clear HO259
      clear HO264
      clear HO267
      clear HO273
      clear HO276
      clear BK234
      clear BK235
      clear BK260
      clear BK268
      clear HB
      have HO241 := n0_
      have HO244 := n1_
      have HO248 := n2_
      have HO251 := n3_
      have HO256 := n4_
      have HO259 := n5_
      have HO264 := n6_
      have HO267 := n7_
      have HO273 := n8_
      have HO276 := n9_
      have BK234 := n10_
      have BK235 := n11_
      have BK260 := n12_
      have BK268 := n13_
      have HB := n14_
      clear n0_ n1_ n2_ n3_ n4_ n5_ n6_ n7_ n8_ n9_ n10_ n11_ n12_ n13_ n14_
      refine start_ (n := 5) (S := fun w' => w'.cell? ⟨gb268, 0, none⟩ = some (.int .i64 t261) ∧ w'.cell? ⟨gb268, 1, none⟩ = some (.slice Ao140 t262.length co140) ∧ w'.cell? ⟨gb268, 2, none⟩ = some (.slice Ao141 t265.length co141) ∧ w'.cell? ⟨gb235, 0, none⟩ = some (.int .i64 a1_0) ∧ w'.cell? ⟨gb235, 1, none⟩ = some (.slice A1_1 l1_1.length c1_1) ∧ w'.cell? ⟨gb235, 2, none⟩ = some (.slice A1_2 l1_2.length c1_2)) (ds := []) #[false, false, false, false, false] (by kernel_rfl) rfl rfl ⟨bc BK268 0, bc BK268 1, bc BK268 2, bc BK235 0, bc BK235 1, bc BK235 2⟩ (fun hHeld => ?_)
      generalize w148.drew = w149 at HO241 HO244 HO248 HO251 HO256 HO259 HO264 HO267 HO273 HO276 BK234 BK235 BK260 BK268 HB hHeld ⊢
      refine take_ (i := 0) (N := some 40) (v := ?_) (a' := ?_) #[true, false, false, false, false] rfl rfl (by kernel_rfl) (fun _ _ _ h => h) (Or.inl ⟨by rfl, ?_⟩) hHeld ?_ ?_
      rotate_left
      ·rintro w' ⟨s0, s1, s2, s3, s4, s5⟩
       go_simp
       with_reducible rfl
      rotate_left
      ·simp only [Act.put, sa, sz, ss, i64_w, i32_w]
       rfl
      refine take_ (i := 1) (N := some 41) (v := ?_) (a' := ?_) #[true, true, false, false, false] rfl rfl (by kernel_rfl) (fun _ _ _ h => h) (Or.inl ⟨by rfl, ?_⟩) hHeld ?_ ?_
      rotate_left
      ·rintro w' ⟨s0, s1, s2, s3, s4, s5⟩
       go_simp
       with_reducible rfl
      rotate_left
      ·simp only [Act.put, sa, sz, ss, i64_w, i32_w]
       rfl
      refine one_ (i := 2) (N := some 42) #[true, true, true, false, false] rfl rfl (by kernel_rfl) (by decide) (fun K hK => ?_)
      refine goes_ Try.func49 (by kernel_rfl) rfl #[.agg #[.int .i64 a1_0, .slice A1_1 l1_1.length c1_1, .slice A1_2 l1_2.length c1_2]] (by rfl) rfl rfl gl ?_
      with_reducible refine (laws_toAsm.calls k a1_0 _ _ l1_1 _ _ l1_2 t278 t279 t282 _ ?side1 ?side2 ?side3 ?side4 A63.out).mono ?_
      (case side1 => exact cc (Kd.C_below HR1_1.out HB.out))
      (case side2 => exact HC1_1.out)
      (case side3 => exact cc (Kd.C_below HR1_2.out HB.out))
      (case side4 => exact HC1_2.out)
      rintro e w150 ⟨v280, v283, rfl, ho0, ho1, hb⟩
      refine ⟨_, rfl, ?_⟩
      have n0_ := am (Kd.S_elder' (kS HO241) (Kd.S_base ho0) hb)
      have n1_ := am (Kd.S_elder' (kS HO244) (Kd.S_base ho1) hb)
      have n2_ := am (Kd.S_elder' (kS HO248) (Kd.S_base ho0) hb)
      have n3_ := am (Kd.S_elder' (kS HO251) (Kd.S_base ho1) hb)
      have n4_ := am (Kd.S_elder' (kS HO256) (Kd.S_base ho0) hb)
      have n5_ := am (Kd.S_elder' (kS HO259) (Kd.S_base ho1) hb)
      have n6_ := am (Kd.S_elder' (kS HO264) (Kd.S_base ho0) hb)
      have n7_ := am (Kd.S_elder' (kS HO267) (Kd.S_base ho1) hb)
      have n8_ := am (Kd.S_elder' (kS HO273) (Kd.S_base ho0) hb)
      have n9_ := am (Kd.S_elder' (kS HO276) (Kd.S_base ho1) hb)
      have n10_ := am (Kd.S_lower (Kd.S_new' (Kd.S_new' (Kd.S_new' (Kd.S_new' (Kd.S_new' ho0 (Kd.S_lt (kS HO241))) (Kd.S_lt (kS HO248))) (Kd.S_lt (kS HO256))) (Kd.S_lt (kS HO264))) (Kd.S_lt (kS HO273))) (below_size (bw HB)))
      have n11_ := am (Kd.S_lower (Kd.S_new' (Kd.S_new' (Kd.S_new' (Kd.S_new' (Kd.S_new' ho1 (Kd.S_lt (kS HO244))) (Kd.S_lt (kS HO251))) (Kd.S_lt (kS HO259))) (Kd.S_lt (kS HO267))) (Kd.S_lt (kS HO276))) (below_size (bw HB)))
      have n12_ := am (blk_below (g := gb234) (o := .cells #[.int .i64 a0_0, .slice A0_1 l0_1.length c0_1, .slice A0_2 l0_2.length c0_2] 73 (0, 0)) (bp BK234) hb)
      have n13_ := am (blk_below (g := gb235) (o := .cells #[.int .i64 a1_0, .slice A1_1 l1_1.length c1_1, .slice A1_2 l1_2.length c1_2] 73 (0, 0)) (bp BK235) hb)
      have n14_ := am (blk_below (g := gb260) (o := .cells #[.int .i64 t253, .slice Ao131 t254.length co131, .slice Ao132 t257.length co132] 79 (0, 0)) (bp BK260) hb)
      have n15_ := am (blk_below (g := gb268) (o := .cells #[.int .i64 t261, .slice Ao140 t262.length co140, .slice Ao141 t265.length co141] 79 (0, 0)) (bp BK268) hb)
      have n16_ := am (below_step (bw HB) hb)
      clear HO241
      clear HO244
      clear HO248
      clear HO251
      clear HO256
      clear HO259
      clear HO264
      clear HO267
      clear HO273
      clear HO276
      clear BK234
      clear BK235
      clear BK260
      clear BK268
      clear HB
      have HO241 := n0_
      have HO244 := n1_
      have HO248 := n2_
      have HO251 := n3_
      have HO256 := n4_
      have HO259 := n5_
      have HO264 := n6_
      have HO267 := n7_
      have HO273 := n8_
      have HO276 := n9_
      have HO281 := n10_
      have HO284 := n11_
      have BK234 := n12_
      have BK235 := n13_
      have BK260 := n14_
      have BK268 := n15_
      have HB := n16_
      clear n0_ n1_ n2_ n3_ n4_ n5_ n6_ n7_ n8_ n9_ n10_ n11_ n12_ n13_ n14_ n15_ n16_
      (try clear hb)
      (try clear hb2)
      (try clear hk)
      (try clear hi)
      (try clear ho0)
      (try clear ho1)
      obtain ⟨Ao151, co151, eo151⟩ := Kd.S_slice HO281.out
      (first | subst eo151 | (injection eo151 with f1_ f2_ f3_; have f4_ := f1_.symm; have f5_ := f3_.symm; clear f1_ f2_ f3_; subst f4_; subst f5_))
      obtain ⟨Ao152, co152, eo152⟩ := Kd.S_slice HO284.out
      (first | subst eo152 | (injection eo152 with f1_ f2_ f3_; have f4_ := f1_.symm; have f5_ := f3_.symm; clear f1_ f2_ f3_; subst f4_; subst f5_))
      refine hK.out _ _ ⟨bc BK268 0, bc BK268 1, bc BK268 2, bc BK235 0, bc BK235 1, bc BK235 2⟩ (fun hHeld => ?_)
      clear hK K
      refine norm_ (a' := ?_) ?_ ?_
      rotate_left
      ·show Act.put _ (some 42) _ = _
       simp only [Act.put, sa, sz, ss, i64_w, i32_w]
       rfl
      refine one_ (i := 3) (N := some 43) #[true, true, true, true, false] rfl rfl (by kernel_rfl) (by decide) (fun K hK => ?_)
      refine goes_ Try.func51 (by kernel_rfl) rfl #[.agg #[.int .i64 t261, .slice Ao140 t262.length co140, .slice Ao141 t265.length co141], .agg #[.int .i64 t278, .slice Ao151 t279.length co151, .slice Ao152 t282.length co152]] (by rfl) rfl rfl gl ?_
      with_reducible refine (laws_eqAsm.calls k t261 _ _ t262 _ _ t265 t278 _ _ t279 _ _ t282 false _ ?side1 ?side2 ?side3 ?side4 ?side5 ?side6 ?side7 ?side8 A64.out).mono ?_
      (case side1 => exact cc (Kd.S_reads' HO264.out).2.2)
      (case side2 => exact (Kd.S_reads' HO264.out).2.1)
      (case side3 => exact cc (Kd.S_reads' HO267.out).2.2)
      (case side4 => exact (Kd.S_reads' HO267.out).2.1)
      (case side5 => exact cc (Kd.S_reads' HO281.out).2.2)
      (case side6 => exact (Kd.S_reads' HO281.out).2.1)
      (case side7 => exact cc (Kd.S_reads' HO284.out).2.2)
      (case side8 => exact (Kd.S_reads' HO284.out).2.1)
      rintro e w153 ⟨rfl, hb⟩
      refine ⟨_, rfl, ?_⟩
      have n0_ := am (Kd.S_below (kS HO241) hb)
      have n1_ := am (Kd.S_below (kS HO244) hb)
      have n2_ := am (Kd.S_below (kS HO248) hb)
      have n3_ := am (Kd.S_below (kS HO251) hb)
      have n4_ := am (Kd.S_below (kS HO256) hb)
      have n5_ := am (Kd.S_below (kS HO259) hb)
      have n6_ := am (Kd.S_below (kS HO264) hb)
      have n7_ := am (Kd.S_below (kS HO267) hb)
      have n8_ := am (Kd.S_below (kS HO273) hb)
      have n9_ := am (Kd.S_below (kS HO276) hb)
      have n10_ := am (Kd.S_below (kS HO281) hb)
      have n11_ := am (Kd.S_below (kS HO284) hb)
      have n12_ := am (blk_below (g := gb234) (o := .cells #[.int .i64 a0_0, .slice A0_1 l0_1.length c0_1, .slice A0_2 l0_2.length c0_2] 73 (0, 0)) (bp BK234) hb)
      have n13_ := am (blk_below (g := gb235) (o := .cells #[.int .i64 a1_0, .slice A1_1 l1_1.length c1_1, .slice A1_2 l1_2.length c1_2] 73 (0, 0)) (bp BK235) hb)
      have n14_ := am (blk_below (g := gb260) (o := .cells #[.int .i64 t253, .slice Ao131 t254.length co131, .slice Ao132 t257.length co132] 79 (0, 0)) (bp BK260) hb)
      have n15_ := am (blk_below (g := gb268) (o := .cells #[.int .i64 t261, .slice Ao140 t262.length co140, .slice Ao141 t265.length co141] 79 (0, 0)) (bp BK268) hb)
      have n16_ := am (below_step (bw HB) hb)
      clear HO241
      clear HO244
      clear HO248
      clear HO251
      clear HO256
      clear HO259
      clear HO264
      clear HO267
      clear HO273
      clear HO276
      clear HO281
      clear HO284
      clear BK234
      clear BK235
      clear BK260
      clear BK268
      clear HB
      have HO241 := n0_
      have HO244 := n1_
      have HO248 := n2_
      have HO251 := n3_
      have HO256 := n4_
      have HO259 := n5_
      have HO264 := n6_
      have HO267 := n7_
      have HO273 := n8_
      have HO276 := n9_
      have HO281 := n10_
      have HO284 := n11_
      have BK234 := n12_
      have BK235 := n13_
      have BK260 := n14_
      have BK268 := n15_
      have HB := n16_
      clear n0_ n1_ n2_ n3_ n4_ n5_ n6_ n7_ n8_ n9_ n10_ n11_ n12_ n13_ n14_ n15_ n16_
      (try clear hb)
      (try clear hb2)
      (try clear hk)
      (try clear hi)
      refine hK.out _ _ ⟨bc BK268 0, bc BK268 1, bc BK268 2, bc BK235 0, bc BK235 1, bc BK235 2⟩ (fun hHeld => ?_)
      clear hK K
      refine norm_ (a' := ?_) ?_ ?_
      rotate_left
      ·show Act.put _ (some 43) _ = _
       simp only [Act.put, sa, sz, ss, i64_w, i32_w]
       rfl
      refine pure_ (i := 4) (N := some 44) (v := ?_) (a' := ?_) #[true, true, true, true, true] rfl rfl (by kernel_rfl) (fun _ _ _ h => h) (Or.inl ⟨by rfl, ?_⟩) ?_ ?_
      rotate_left
      ·intro w'
       go_simp
       with_reducible rfl
      rotate_left
      ·simp only [Act.put, sa, sz, ss, i64_w, i32_w]
       rfl
      refine done_ (by kernel_rfl) ?_
      try go_wp2
      go_ret
      exact ⟨er, bw HB⟩
    ·replace c62 := Bool.eq_false_iff.mpr c62
     subst c62
     have H1 : (some false) = some r := by rw [if_neg (show ¬ (false = true) by decide)] at H; exact H
     clear H
     have H := H1
     clear H1
     obtain rfl := Option.some.inj H
     go_enter Try.func12, Try.ntmps12
     try go_wp2_with (first | ((with_reducible refine gate_dst (N := 2) rfl ?_); refine box_event ?hg (N := 2) ?hd (cs := #[.int .i64 a0_0, .slice A0_1 l0_1.length c0_1, .slice A0_2 l0_2.length c0_2]) (t := 73) ?hr ?_; (case hd => rfl); (case hg => rfl); (case hr => exact gs); intro gb234 hg w154 hbox hb; have BK234 := am (hbox); have GW234 := am ((by rw [hg]; exact (below_size (bw HB)) : w.heap.size ≤ gb234)); have GE234 := am ((by rw [hg]; exact (below_size (bw HB)) : w.heap.size ≤ gb234)); replace HB := am (below_step (bw HB) hb); clear hb hbox hg) | ((with_reducible refine gate_dst (N := 3) rfl ?_); refine box_event ?hg (N := 3) ?hd (cs := #[.int .i64 a1_0, .slice A1_1 l1_1.length c1_1, .slice A1_2 l1_2.length c1_2]) (t := 73) ?hr ?_; (case hd => rfl); (case hg => rfl); (case hr => exact gs); intro gb235 hg w155 hbox hb; have BK235 := am (hbox); have GW235 := am ((by rw [hg]; exact (below_size (bw HB)) : w.heap.size ≤ gb235)); have GE235 := am ((by rw [hg]; exact (below_size (bw HB)) : w.heap.size ≤ gb235)); replace HB := am (below_step (bw HB) hb); have NB234_235 := am ((by rw [hg]; exact Nat.ne_of_lt (blk_lt (g := gb234) (o := .cells #[.int .i64 a0_0, .slice A0_1 l0_1.length c0_1, .slice A0_2 l0_2.length c0_2] 73 (0, 0)) (bp BK234)) : gb234 ≠ gb235)); have NB235_234 := am ((by rw [hg]; exact Nat.ne_of_gt (blk_lt (g := gb234) (o := .cells #[.int .i64 a0_0, .slice A0_1 l0_1.length c0_1, .slice A0_2 l0_2.length c0_2] 73 (0, 0)) (bp BK234)) : gb235 ≠ gb234)); replace BK234 := am (blk_below (g := gb234) (o := .cells #[.int .i64 a0_0, .slice A0_1 l0_1.length c0_1, .slice A0_2 l0_2.length c0_2] 73 (0, 0)) (bp BK234) hb); clear hb hbox hg; have hnb156 := NB234_235.out; have hnc156 := NB235_234.out; have hcz157_0 : w155.cell? ⟨gb234, 0, none⟩ = some (.int .i64 a0_0) := bc BK234 0; have hcz157_1 : w155.cell? ⟨gb234, 1, none⟩ = some (.slice A0_1 l0_1.length c0_1) := bc BK234 1; have hcz157_2 : w155.cell? ⟨gb234, 2, none⟩ = some (.slice A0_2 l0_2.length c0_2) := bc BK234 2; have hfz157_0 := bf BK234 0; have hfz157_1 := bf BK234 1; have hfz157_2 := bf BK234 2) | ((with_reducible refine gate_callee (f := 47) rfl ?_); refine goesL_ (some 12) rfl rfl Try.func47 (by kernel_rfl) rfl #[.agg #[.int .i64 a0_0, .slice A0_1 l0_1.length c0_1, .slice A0_2 l0_2.length c0_2], .int .i64 1048576] rfl gl ?_; (with_reducible refine (laws_szAsm.calls k a0_0 _ _ l0_1 _ _ l0_2 1048576 t236 _ ?side1 ?side2 ?side3 ?side4 A3.out).mono ?_); (case side1 => exact cc (Kd.C_below HR0_1.out HB.out)); (case side2 => exact HC0_1.out); (case side3 => exact cc (Kd.C_below HR0_2.out HB.out)); (case side4 => exact HC0_2.out); rintro e w158 ⟨rfl, hb⟩; refine ⟨_, rfl, ?_⟩; replace BK234 := am (blk_below (g := gb234) (o := .cells #[.int .i64 a0_0, .slice A0_1 l0_1.length c0_1, .slice A0_2 l0_2.length c0_2] 73 (0, 0)) (bp BK234) hb); replace BK235 := am (blk_below (g := gb235) (o := .cells #[.int .i64 a1_0, .slice A1_1 l1_1.length c1_1, .slice A1_2 l1_2.length c1_2] 73 (0, 0)) (bp BK235) hb); replace HB := am (below_step (bw HB) hb); (try clear hb); (try clear hb2); (try clear hk); (try clear hi); have hcz159_0 : w158.cell? ⟨gb235, 0, none⟩ = some (.int .i64 a1_0) := bc BK235 0; have hcz159_1 : w158.cell? ⟨gb235, 1, none⟩ = some (.slice A1_1 l1_1.length c1_1) := bc BK235 1; have hcz159_2 : w158.cell? ⟨gb235, 2, none⟩ = some (.slice A1_2 l1_2.length c1_2) := bc BK235 2; have hfz159_0 := bf BK235 0; have hfz159_1 := bf BK235 1; have hfz159_2 := bf BK235 2) | ((with_reducible refine gate_callee (f := 47) rfl ?_); refine goesL_ (some 17) rfl rfl Try.func47 (by kernel_rfl) rfl #[.agg #[.int .i64 a1_0, .slice A1_1 l1_1.length c1_1, .slice A1_2 l1_2.length c1_2], .int .i64 t236] rfl gl ?_; (with_reducible refine (laws_szAsm.calls k a1_0 _ _ l1_1 _ _ l1_2 t236 t237 _ ?side1 ?side2 ?side3 ?side4 A10.out).mono ?_); (case side1 => exact cc (Kd.C_below HR1_1.out HB.out)); (case side2 => exact HC1_1.out); (case side3 => exact cc (Kd.C_below HR1_2.out HB.out)); (case side4 => exact HC1_2.out); rintro e w160 ⟨rfl, hb⟩; refine ⟨_, rfl, ?_⟩; replace BK234 := am (blk_below (g := gb234) (o := .cells #[.int .i64 a0_0, .slice A0_1 l0_1.length c0_1, .slice A0_2 l0_2.length c0_2] 73 (0, 0)) (bp BK234) hb); replace BK235 := am (blk_below (g := gb235) (o := .cells #[.int .i64 a1_0, .slice A1_1 l1_1.length c1_1, .slice A1_2 l1_2.length c1_2] 73 (0, 0)) (bp BK235) hb); replace HB := am (below_step (bw HB) hb); (try clear hb); (try clear hb2); (try clear hk); (try clear hi)))
     have n0_ := am (blk_drew BK234.out)
     have n1_ := am (blk_drew BK235.out)
     have n2_ := am (below_drew1 HB.out)
     clear BK234
     clear BK235
     clear HB
     have BK234 := n0_
     have BK235 := n1_
     have HB := n2_
     clear n0_ n1_ n2_
     refine start_ (n := 6) (S := fun w' => w'.cell? ⟨gb234, 0, none⟩ = some (.int .i64 a0_0) ∧ w'.cell? ⟨gb234, 1, none⟩ = some (.slice A0_1 l0_1.length c0_1) ∧ w'.cell? ⟨gb234, 2, none⟩ = some (.slice A0_2 l0_2.length c0_2) ∧ w'.cell? ⟨gb235, 0, none⟩ = some (.int .i64 a1_0) ∧ w'.cell? ⟨gb235, 1, none⟩ = some (.slice A1_1 l1_1.length c1_1) ∧ w'.cell? ⟨gb235, 2, none⟩ = some (.slice A1_2 l1_2.length c1_2)) (ds := []) #[false, false, false, false, false, false] (by kernel_rfl) rfl rfl ⟨bc BK234 0, bc BK234 1, bc BK234 2, bc BK235 0, bc BK235 1, bc BK235 2⟩ (fun hHeld => ?_)
     generalize w160.drew = w161 at BK234 BK235 HB hHeld ⊢
     refine take_ (i := 0) (N := some 20) (v := ?_) (a' := ?_) #[true, false, false, false, false, false] rfl rfl (by kernel_rfl) (fun _ _ _ h => h) (Or.inl ⟨by rfl, ?_⟩) hHeld ?_ ?_
     rotate_left
     ·rintro w' ⟨s0, s1, s2, s3, s4, s5⟩
      go_simp
      with_reducible rfl
     rotate_left
     ·simp only [Act.put, sa, sz, ss, i64_w, i32_w]
      rfl
     refine take_ (i := 2) (N := some 22) (v := ?_) (a' := ?_) #[true, false, true, false, false, false] rfl rfl (by kernel_rfl) (fun _ _ _ h => h) (Or.inl ⟨by rfl, ?_⟩) hHeld ?_ ?_
     rotate_left
     ·rintro w' ⟨s0, s1, s2, s3, s4, s5⟩
      go_simp
      with_reducible rfl
     rotate_left
     ·simp only [Act.put, sa, sz, ss, i64_w, i32_w]
      rfl
     refine one_ (i := 1) (N := some 21) #[true, true, true, false, false, false] rfl rfl (by kernel_rfl) (by decide) (fun K hK => ?_)
     refine goes_ Try.func49 (by kernel_rfl) rfl #[.agg #[.int .i64 a0_0, .slice A0_1 l0_1.length c0_1, .slice A0_2 l0_2.length c0_2]] (by rfl) rfl rfl gl ?_
     with_reducible refine (laws_toAsm.calls k a0_0 _ _ l0_1 _ _ l0_2 t238 t239 t242 _ ?side1 ?side2 ?side3 ?side4 A19.out).mono ?_
     (case side1 => exact cc (Kd.C_below HR0_1.out HB.out))
     (case side2 => exact HC0_1.out)
     (case side3 => exact cc (Kd.C_below HR0_2.out HB.out))
     (case side4 => exact HC0_2.out)
     rintro e w162 ⟨v240, v243, rfl, ho0, ho1, hb⟩
     refine ⟨_, rfl, ?_⟩
     have n0_ := am (Kd.S_lower ho0 (below_size (bw HB)))
     have n1_ := am (Kd.S_lower ho1 (below_size (bw HB)))
     have n2_ := am (blk_below (g := gb234) (o := .cells #[.int .i64 a0_0, .slice A0_1 l0_1.length c0_1, .slice A0_2 l0_2.length c0_2] 73 (0, 0)) (bp BK234) hb)
     have n3_ := am (blk_below (g := gb235) (o := .cells #[.int .i64 a1_0, .slice A1_1 l1_1.length c1_1, .slice A1_2 l1_2.length c1_2] 73 (0, 0)) (bp BK235) hb)
     have n4_ := am (below_step (bw HB) hb)
     clear BK234
     clear BK235
     clear HB
     have HO241 := n0_
     have HO244 := n1_
     have BK234 := n2_
     have BK235 := n3_
     have HB := n4_
     clear n0_ n1_ n2_ n3_ n4_
     (try clear hb)
     (try clear hb2)
     (try clear hk)
     (try clear hi)
     (try clear ho0)
     (try clear ho1)
     refine hK.out _ _ ⟨bc BK234 0, bc BK234 1, bc BK234 2, bc BK235 0, bc BK235 1, bc BK235 2⟩ (fun hHeld => ?_)
     clear hK K
     refine norm_ (a' := ?_) ?_ ?_
     rotate_left
     ·show Act.put _ (some 21) _ = _
      simp only [Act.put, sa, sz, ss, i64_w, i32_w]
      rfl
     refine one_ (i := 3) (N := some 23) #[true, true, true, true, false, false] rfl rfl (by kernel_rfl) (by decide) (fun K hK => ?_)
     refine goes_ Try.func49 (by kernel_rfl) rfl #[.agg #[.int .i64 a1_0, .slice A1_1 l1_1.length c1_1, .slice A1_2 l1_2.length c1_2]] (by rfl) rfl rfl gl ?_
     with_reducible refine (laws_toAsm.calls k a1_0 _ _ l1_1 _ _ l1_2 t245 t246 t249 _ ?side1 ?side2 ?side3 ?side4 A20.out).mono ?_
     (case side1 => exact cc (Kd.C_below HR1_1.out HB.out))
     (case side2 => exact HC1_1.out)
     (case side3 => exact cc (Kd.C_below HR1_2.out HB.out))
     (case side4 => exact HC1_2.out)
     rintro e w163 ⟨v247, v250, rfl, ho0, ho1, hb⟩
     refine ⟨_, rfl, ?_⟩
     have n0_ := am (Kd.S_elder' (kS HO241) (Kd.S_base ho0) hb)
     have n1_ := am (Kd.S_elder' (kS HO244) (Kd.S_base ho1) hb)
     have n2_ := am (Kd.S_lower (Kd.S_new' ho0 (Kd.S_lt (kS HO241))) (below_size (bw HB)))
     have n3_ := am (Kd.S_lower (Kd.S_new' ho1 (Kd.S_lt (kS HO244))) (below_size (bw HB)))
     have n4_ := am (blk_below (g := gb234) (o := .cells #[.int .i64 a0_0, .slice A0_1 l0_1.length c0_1, .slice A0_2 l0_2.length c0_2] 73 (0, 0)) (bp BK234) hb)
     have n5_ := am (blk_below (g := gb235) (o := .cells #[.int .i64 a1_0, .slice A1_1 l1_1.length c1_1, .slice A1_2 l1_2.length c1_2] 73 (0, 0)) (bp BK235) hb)
     have n6_ := am (below_step (bw HB) hb)
     clear HO241
     clear HO244
     clear BK234
     clear BK235
     clear HB
     have HO241 := n0_
     have HO244 := n1_
     have HO248 := n2_
     have HO251 := n3_
     have BK234 := n4_
     have BK235 := n5_
     have HB := n6_
     clear n0_ n1_ n2_ n3_ n4_ n5_ n6_
     (try clear hb)
     (try clear hb2)
     (try clear hk)
     (try clear hi)
     (try clear ho0)
     (try clear ho1)
     obtain ⟨Ao164, co164, eo164⟩ := Kd.S_slice HO241.out
     (first | subst eo164 | (injection eo164 with f1_ f2_ f3_; have f4_ := f1_.symm; have f5_ := f3_.symm; clear f1_ f2_ f3_; subst f4_; subst f5_))
     obtain ⟨Ao165, co165, eo165⟩ := Kd.S_slice HO244.out
     (first | subst eo165 | (injection eo165 with f1_ f2_ f3_; have f4_ := f1_.symm; have f5_ := f3_.symm; clear f1_ f2_ f3_; subst f4_; subst f5_))
     obtain ⟨Ao166, co166, eo166⟩ := Kd.S_slice HO248.out
     (first | subst eo166 | (injection eo166 with f1_ f2_ f3_; have f4_ := f1_.symm; have f5_ := f3_.symm; clear f1_ f2_ f3_; subst f4_; subst f5_))
     obtain ⟨Ao167, co167, eo167⟩ := Kd.S_slice HO251.out
     (first | subst eo167 | (injection eo167 with f1_ f2_ f3_; have f4_ := f1_.symm; have f5_ := f3_.symm; clear f1_ f2_ f3_; subst f4_; subst f5_))
     refine hK.out _ _ ⟨bc BK234 0, bc BK234 1, bc BK234 2, bc BK235 0, bc BK235 1, bc BK235 2⟩ (fun hHeld => ?_)
     clear hK K
     refine norm_ (a' := ?_) ?_ ?_
     rotate_left
     ·show Act.put _ (some 23) _ = _
      simp only [Act.put, sa, sz, ss, i64_w, i32_w]
      rfl
     refine one_ (i := 4) (N := some 24) #[true, true, true, true, true, false] rfl rfl (by kernel_rfl) (by decide) (fun K hK => ?_)
     refine goes_ Try.func48 (by kernel_rfl) rfl #[.agg #[.int .i64 t238, .slice Ao164 t239.length co164, .slice Ao165 t242.length co165], .agg #[.int .i64 t245, .slice Ao166 t246.length co166, .slice Ao167 t249.length co167]] (by rfl) rfl rfl gl ?_
     with_reducible refine (spec_AsmSame.calls k t238 _ _ t239 _ _ t242 t245 _ _ t246 _ _ t249 t252 _ ?side1 ?side2 ?side3 ?side4 ?side5 ?side6 ?side7 ?side8 A21.out).mono ?_
     (case side1 => exact cc (Kd.S_reads' HO241.out).2.2)
     (case side2 => exact (Kd.S_reads' HO241.out).2.1)
     (case side3 => exact cc (Kd.S_reads' HO244.out).2.2)
     (case side4 => exact (Kd.S_reads' HO244.out).2.1)
     (case side5 => exact cc (Kd.S_reads' HO248.out).2.2)
     (case side6 => exact (Kd.S_reads' HO248.out).2.1)
     (case side7 => exact cc (Kd.S_reads' HO251.out).2.2)
     (case side8 => exact (Kd.S_reads' HO251.out).2.1)
     rintro e w168 ⟨rfl, hb⟩
     refine ⟨_, rfl, ?_⟩
     have n0_ := am (Kd.S_below (kS HO241) hb)
     have n1_ := am (Kd.S_below (kS HO244) hb)
     have n2_ := am (Kd.S_below (kS HO248) hb)
     have n3_ := am (Kd.S_below (kS HO251) hb)
     have n4_ := am (blk_below (g := gb234) (o := .cells #[.int .i64 a0_0, .slice A0_1 l0_1.length c0_1, .slice A0_2 l0_2.length c0_2] 73 (0, 0)) (bp BK234) hb)
     have n5_ := am (blk_below (g := gb235) (o := .cells #[.int .i64 a1_0, .slice A1_1 l1_1.length c1_1, .slice A1_2 l1_2.length c1_2] 73 (0, 0)) (bp BK235) hb)
     have n6_ := am (below_step (bw HB) hb)
     clear HO241
     clear HO244
     clear HO248
     clear HO251
     clear BK234
     clear BK235
     clear HB
     have HO241 := n0_
     have HO244 := n1_
     have HO248 := n2_
     have HO251 := n3_
     have BK234 := n4_
     have BK235 := n5_
     have HB := n6_
     clear n0_ n1_ n2_ n3_ n4_ n5_ n6_
     (try clear hb)
     (try clear hb2)
     (try clear hk)
     (try clear hi)
     refine hK.out _ _ ⟨bc BK234 0, bc BK234 1, bc BK234 2, bc BK235 0, bc BK235 1, bc BK235 2⟩ (fun hHeld => ?_)
     clear hK K
     refine norm_ (a' := ?_) ?_ ?_
     rotate_left
     ·show Act.put _ (some 24) _ = _
      simp only [Act.put, sa, sz, ss, i64_w, i32_w]
      rfl
     refine pure_ (i := 5) (N := some 6) (v := ?_) (a' := ?_) #[true, true, true, true, true, true] rfl rfl (by kernel_rfl) (fun _ _ _ h => h) (Or.inl ⟨by rfl, ?_⟩) ?_ ?_
     rotate_left
     ·intro w'
      go_simp
      with_reducible rfl
     rotate_left
     ·simp only [Act.put, sa, sz, ss, i64_w, i32_w]
      rfl
     refine done_ (by kernel_rfl) ?_
     have hcz169_0 : w168.cell? ⟨gb234, 0, none⟩ = some (.int .i64 a0_0) := bc BK234 0
     have hcz169_1 : w168.cell? ⟨gb234, 1, none⟩ = some (.slice A0_1 l0_1.length c0_1) := bc BK234 1
     have hcz169_2 : w168.cell? ⟨gb234, 2, none⟩ = some (.slice A0_2 l0_2.length c0_2) := bc BK234 2
     have hfz169_0 := bf BK234 0
     have hfz169_1 := bf BK234 1
     have hfz169_2 := bf BK234 2
     try go_wp2_with (first | ((with_reducible refine gate_callee (f := 49) rfl ?_); refine goesL_ (some 26) rfl rfl Try.func49 (by kernel_rfl) rfl #[.agg #[.int .i64 a0_0, .slice A0_1 l0_1.length c0_1, .slice A0_2 l0_2.length c0_2]] rfl gl ?_; (with_reducible refine (laws_toAsm.calls k a0_0 _ _ l0_1 _ _ l0_2 t253 t254 t257 _ ?side1 ?side2 ?side3 ?side4 A22.out).mono ?_); (case side1 => exact cc (Kd.C_below HR0_1.out HB.out)); (case side2 => exact HC0_1.out); (case side3 => exact cc (Kd.C_below HR0_2.out HB.out)); (case side4 => exact HC0_2.out); rintro e w170 ⟨v255, v258, rfl, ho0, ho1, hb⟩; refine ⟨_, rfl, ?_⟩; have HO256 := am (Kd.S_lower (Kd.S_new' (Kd.S_new' ho0 (Kd.S_lt (kS HO241))) (Kd.S_lt (kS HO248))) (below_size (bw HB))); replace HO241 := am (Kd.S_elder' (kS HO241) (Kd.S_base ho0) hb); replace HO248 := am (Kd.S_elder' (kS HO248) (Kd.S_base ho0) hb); have HO259 := am (Kd.S_lower (Kd.S_new' (Kd.S_new' ho1 (Kd.S_lt (kS HO244))) (Kd.S_lt (kS HO251))) (below_size (bw HB))); replace HO244 := am (Kd.S_elder' (kS HO244) (Kd.S_base ho1) hb); replace HO251 := am (Kd.S_elder' (kS HO251) (Kd.S_base ho1) hb); replace BK234 := am (blk_below (g := gb234) (o := .cells #[.int .i64 a0_0, .slice A0_1 l0_1.length c0_1, .slice A0_2 l0_2.length c0_2] 73 (0, 0)) (bp BK234) hb); replace BK235 := am (blk_below (g := gb235) (o := .cells #[.int .i64 a1_0, .slice A1_1 l1_1.length c1_1, .slice A1_2 l1_2.length c1_2] 73 (0, 0)) (bp BK235) hb); replace HB := am (below_step (bw HB) hb); (try clear hb); (try clear hb2); (try clear hk); (try clear hi); (try clear ho0); (try clear ho1)) | ((with_reducible refine gate_dst (N := 7) rfl ?_); refine box_event ?hg (N := 7) ?hd (cs := #[.int .i64 0, .slice none 0 0, .slice none 0 0]) (t := 79) ?hr ?_; (case hd => rfl); (case hg => rfl); (case hr => exact gs); intro gb260 hg w171 hbox hb; replace HO241 := am (Kd.S_below (kS HO241) hb); replace HO244 := am (Kd.S_below (kS HO244) hb); replace HO248 := am (Kd.S_below (kS HO248) hb); replace HO251 := am (Kd.S_below (kS HO251) hb); replace HO256 := am (Kd.S_below (kS HO256) hb); replace HO259 := am (Kd.S_below (kS HO259) hb); have BK260 := am (hbox); have GW260 := am ((by rw [hg]; exact (below_size (bw HB)) : w.heap.size ≤ gb260)); have GE260 := am ((by rw [hg]; exact (below_size (bw HB)) : w.heap.size ≤ gb260)); replace HB := am (below_step (bw HB) hb); have NB234_260 := am ((by rw [hg]; exact Nat.ne_of_lt (blk_lt (g := gb234) (o := .cells #[.int .i64 a0_0, .slice A0_1 l0_1.length c0_1, .slice A0_2 l0_2.length c0_2] 73 (0, 0)) (bp BK234)) : gb234 ≠ gb260)); have NB260_234 := am ((by rw [hg]; exact Nat.ne_of_gt (blk_lt (g := gb234) (o := .cells #[.int .i64 a0_0, .slice A0_1 l0_1.length c0_1, .slice A0_2 l0_2.length c0_2] 73 (0, 0)) (bp BK234)) : gb260 ≠ gb234)); replace BK234 := am (blk_below (g := gb234) (o := .cells #[.int .i64 a0_0, .slice A0_1 l0_1.length c0_1, .slice A0_2 l0_2.length c0_2] 73 (0, 0)) (bp BK234) hb); have NB235_260 := am ((by rw [hg]; exact Nat.ne_of_lt (blk_lt (g := gb235) (o := .cells #[.int .i64 a1_0, .slice A1_1 l1_1.length c1_1, .slice A1_2 l1_2.length c1_2] 73 (0, 0)) (bp BK235)) : gb235 ≠ gb260)); have NB260_235 := am ((by rw [hg]; exact Nat.ne_of_gt (blk_lt (g := gb235) (o := .cells #[.int .i64 a1_0, .slice A1_1 l1_1.length c1_1, .slice A1_2 l1_2.length c1_2] 73 (0, 0)) (bp BK235)) : gb260 ≠ gb235)); replace BK235 := am (blk_below (g := gb235) (o := .cells #[.int .i64 a1_0, .slice A1_1 l1_1.length c1_1, .slice A1_2 l1_2.length c1_2] 73 (0, 0)) (bp BK235) hb); clear hb hbox hg; have hnb172 := NB260_234.out; have hnc172 := NB234_260.out; have hnb173 := NB260_235.out; have hnc173 := NB235_260.out; have hcz174_0 : w171.cell? ⟨gb260, 0, none⟩ = some (.int .i64 0) := bc BK260 0; have hcz174_1 : w171.cell? ⟨gb260, 1, none⟩ = some (.slice none 0 0) := bc BK260 1; have hcz174_2 : w171.cell? ⟨gb260, 2, none⟩ = some (.slice none 0 0) := bc BK260 2; have hfz174_0 := bf BK260 0; have hfz174_1 := bf BK260 1; have hfz174_2 := bf BK260 2; obtain ⟨Ao175, co175, eo175⟩ := Kd.S_slice HO256.out; subst eo175; obtain ⟨Ao176, co176, eo176⟩ := Kd.S_slice HO259.out; subst eo176; have hcz177_0 : w171.cell? ⟨gb235, 0, none⟩ = some (.int .i64 a1_0) := bc BK235 0; have hcz177_1 : w171.cell? ⟨gb235, 1, none⟩ = some (.slice A1_1 l1_1.length c1_1) := bc BK235 1; have hcz177_2 : w171.cell? ⟨gb235, 2, none⟩ = some (.slice A1_2 l1_2.length c1_2) := bc BK235 2; have hfz177_0 := bf BK235 0; have hfz177_1 := bf BK235 1; have hfz177_2 := bf BK235 2) | ((with_reducible refine gate_callee (f := 49) rfl ?_); refine goesL_ (some 28) rfl rfl Try.func49 (by kernel_rfl) rfl #[.agg #[.int .i64 a1_0, .slice A1_1 l1_1.length c1_1, .slice A1_2 l1_2.length c1_2]] rfl gl ?_; (with_reducible refine (laws_toAsm.calls k a1_0 _ _ l1_1 _ _ l1_2 t261 t262 t265 _ ?side1 ?side2 ?side3 ?side4 A23.out).mono ?_); (case side1 => exact Kd.C_below HR1_1.out (bw HB)); (case side2 => exact HC1_1.out); (case side3 => exact Kd.C_below HR1_2.out (bw HB)); (case side4 => exact HC1_2.out); rintro e w178 ⟨v263, v266, rfl, ho0, ho1, hb⟩; refine ⟨_, rfl, ?_⟩; have HO264 := am (Kd.S_lower (Kd.S_new' (Kd.S_new' (Kd.S_new' ho0 (Kd.S_lt (by (with_reducible repeat (first | apply Kd.S_alloc | apply Kd.S_drewN | apply Kd.S_drew)); exact (Kd.S_mono (Kd.S_far (p := ⟨gb260, 2, none⟩) (Kd.S_far (p := ⟨gb260, 1, none⟩) (Kd.S_far (p := ⟨gb260, 0, none⟩) (Kd.S_types HO241.out BK260.out (by decide)) (fun _ hk => hk.2) (.int .i64 t253)) (fun _ hk => hk.2) (.slice Ao175 t254.length co175)) (fun _ hk => hk.2) (.slice Ao176 t257.length co176)) (fun _ h_ => h_.1))))) (Kd.S_lt (by (with_reducible repeat (first | apply Kd.S_alloc | apply Kd.S_drewN | apply Kd.S_drew)); exact (Kd.S_mono (Kd.S_far (p := ⟨gb260, 2, none⟩) (Kd.S_far (p := ⟨gb260, 1, none⟩) (Kd.S_far (p := ⟨gb260, 0, none⟩) (Kd.S_types HO248.out BK260.out (by decide)) (fun _ hk => hk.2) (.int .i64 t253)) (fun _ hk => hk.2) (.slice Ao175 t254.length co175)) (fun _ hk => hk.2) (.slice Ao176 t257.length co176)) (fun _ h_ => h_.1))))) (Kd.S_lt (by (with_reducible repeat (first | apply Kd.S_alloc | apply Kd.S_drewN | apply Kd.S_drew)); exact (Kd.S_mono (Kd.S_far (p := ⟨gb260, 2, none⟩) (Kd.S_far (p := ⟨gb260, 1, none⟩) (Kd.S_far (p := ⟨gb260, 0, none⟩) (Kd.S_types HO256.out BK260.out (by decide)) (fun _ hk => hk.2) (.int .i64 t253)) (fun _ hk => hk.2) (.slice Ao175 t254.length co175)) (fun _ hk => hk.2) (.slice Ao176 t257.length co176)) (fun _ h_ => h_.1))))) (below_size (bw HB))); replace HO241 := am (Kd.S_elder' (by (with_reducible repeat (first | apply Kd.S_alloc | apply Kd.S_drewN | apply Kd.S_drew)); exact (Kd.S_mono (Kd.S_far (p := ⟨gb260, 2, none⟩) (Kd.S_far (p := ⟨gb260, 1, none⟩) (Kd.S_far (p := ⟨gb260, 0, none⟩) (Kd.S_types HO241.out BK260.out (by decide)) (fun _ hk => hk.2) (.int .i64 t253)) (fun _ hk => hk.2) (.slice Ao175 t254.length co175)) (fun _ hk => hk.2) (.slice Ao176 t257.length co176)) (fun _ h_ => h_.1))) (Kd.S_base ho0) hb); replace HO248 := am (Kd.S_elder' (by (with_reducible repeat (first | apply Kd.S_alloc | apply Kd.S_drewN | apply Kd.S_drew)); exact (Kd.S_mono (Kd.S_far (p := ⟨gb260, 2, none⟩) (Kd.S_far (p := ⟨gb260, 1, none⟩) (Kd.S_far (p := ⟨gb260, 0, none⟩) (Kd.S_types HO248.out BK260.out (by decide)) (fun _ hk => hk.2) (.int .i64 t253)) (fun _ hk => hk.2) (.slice Ao175 t254.length co175)) (fun _ hk => hk.2) (.slice Ao176 t257.length co176)) (fun _ h_ => h_.1))) (Kd.S_base ho0) hb); replace HO256 := am (Kd.S_elder' (by (with_reducible repeat (first | apply Kd.S_alloc | apply Kd.S_drewN | apply Kd.S_drew)); exact (Kd.S_mono (Kd.S_far (p := ⟨gb260, 2, none⟩) (Kd.S_far (p := ⟨gb260, 1, none⟩) (Kd.S_far (p := ⟨gb260, 0, none⟩) (Kd.S_types HO256.out BK260.out (by decide)) (fun _ hk => hk.2) (.int .i64 t253)) (fun _ hk => hk.2) (.slice Ao175 t254.length co175)) (fun _ hk => hk.2) (.slice Ao176 t257.length co176)) (fun _ h_ => h_.1))) (Kd.S_base ho0) hb); have HO267 := am (Kd.S_lower (Kd.S_new' (Kd.S_new' (Kd.S_new' ho1 (Kd.S_lt (by (with_reducible repeat (first | apply Kd.S_alloc | apply Kd.S_drewN | apply Kd.S_drew)); exact (Kd.S_mono (Kd.S_far (p := ⟨gb260, 2, none⟩) (Kd.S_far (p := ⟨gb260, 1, none⟩) (Kd.S_far (p := ⟨gb260, 0, none⟩) (Kd.S_types HO244.out BK260.out (by decide)) (fun _ hk => hk.2) (.int .i64 t253)) (fun _ hk => hk.2) (.slice Ao175 t254.length co175)) (fun _ hk => hk.2) (.slice Ao176 t257.length co176)) (fun _ h_ => h_.1))))) (Kd.S_lt (by (with_reducible repeat (first | apply Kd.S_alloc | apply Kd.S_drewN | apply Kd.S_drew)); exact (Kd.S_mono (Kd.S_far (p := ⟨gb260, 2, none⟩) (Kd.S_far (p := ⟨gb260, 1, none⟩) (Kd.S_far (p := ⟨gb260, 0, none⟩) (Kd.S_types HO251.out BK260.out (by decide)) (fun _ hk => hk.2) (.int .i64 t253)) (fun _ hk => hk.2) (.slice Ao175 t254.length co175)) (fun _ hk => hk.2) (.slice Ao176 t257.length co176)) (fun _ h_ => h_.1))))) (Kd.S_lt (by (with_reducible repeat (first | apply Kd.S_alloc | apply Kd.S_drewN | apply Kd.S_drew)); exact (Kd.S_mono (Kd.S_far (p := ⟨gb260, 2, none⟩) (Kd.S_far (p := ⟨gb260, 1, none⟩) (Kd.S_far (p := ⟨gb260, 0, none⟩) (Kd.S_types HO259.out BK260.out (by decide)) (fun _ hk => hk.2) (.int .i64 t253)) (fun _ hk => hk.2) (.slice Ao175 t254.length co175)) (fun _ hk => hk.2) (.slice Ao176 t257.length co176)) (fun _ h_ => h_.1))))) (below_size (bw HB))); replace HO244 := am (Kd.S_elder' (by (with_reducible repeat (first | apply Kd.S_alloc | apply Kd.S_drewN | apply Kd.S_drew)); exact (Kd.S_mono (Kd.S_far (p := ⟨gb260, 2, none⟩) (Kd.S_far (p := ⟨gb260, 1, none⟩) (Kd.S_far (p := ⟨gb260, 0, none⟩) (Kd.S_types HO244.out BK260.out (by decide)) (fun _ hk => hk.2) (.int .i64 t253)) (fun _ hk => hk.2) (.slice Ao175 t254.length co175)) (fun _ hk => hk.2) (.slice Ao176 t257.length co176)) (fun _ h_ => h_.1))) (Kd.S_base ho1) hb); replace HO251 := am (Kd.S_elder' (by (with_reducible repeat (first | apply Kd.S_alloc | apply Kd.S_drewN | apply Kd.S_drew)); exact (Kd.S_mono (Kd.S_far (p := ⟨gb260, 2, none⟩) (Kd.S_far (p := ⟨gb260, 1, none⟩) (Kd.S_far (p := ⟨gb260, 0, none⟩) (Kd.S_types HO251.out BK260.out (by decide)) (fun _ hk => hk.2) (.int .i64 t253)) (fun _ hk => hk.2) (.slice Ao175 t254.length co175)) (fun _ hk => hk.2) (.slice Ao176 t257.length co176)) (fun _ h_ => h_.1))) (Kd.S_base ho1) hb); replace HO259 := am (Kd.S_elder' (by (with_reducible repeat (first | apply Kd.S_alloc | apply Kd.S_drewN | apply Kd.S_drew)); exact (Kd.S_mono (Kd.S_far (p := ⟨gb260, 2, none⟩) (Kd.S_far (p := ⟨gb260, 1, none⟩) (Kd.S_far (p := ⟨gb260, 0, none⟩) (Kd.S_types HO259.out BK260.out (by decide)) (fun _ hk => hk.2) (.int .i64 t253)) (fun _ hk => hk.2) (.slice Ao175 t254.length co175)) (fun _ hk => hk.2) (.slice Ao176 t257.length co176)) (fun _ h_ => h_.1))) (Kd.S_base ho1) hb); replace BK234 := am (blk_below (g := gb234) (o := .cells #[.int .i64 a0_0, .slice A0_1 l0_1.length c0_1, .slice A0_2 l0_2.length c0_2] 73 (0, 0)) (by (with_reducible repeat (first | apply dN | apply dW | apply dA)); refine blk_far ?_ NB234_260.out _; (with_reducible repeat (first | apply dN | apply dW | apply dA)); refine blk_far ?_ NB234_260.out _; (with_reducible repeat (first | apply dN | apply dW | apply dA)); refine blk_far ?_ NB234_260.out _; exact bp BK234) hb); replace BK235 := am (blk_below (g := gb235) (o := .cells #[.int .i64 a1_0, .slice A1_1 l1_1.length c1_1, .slice A1_2 l1_2.length c1_2] 73 (0, 0)) (by (with_reducible repeat (first | apply dN | apply dW | apply dA)); refine blk_far ?_ NB235_260.out _; (with_reducible repeat (first | apply dN | apply dW | apply dA)); refine blk_far ?_ NB235_260.out _; (with_reducible repeat (first | apply dN | apply dW | apply dA)); refine blk_far ?_ NB235_260.out _; exact bp BK235) hb); replace BK260 := am (blk_below (g := gb260) (o := .cells #[.int .i64 t253, .slice Ao175 t254.length co175, .slice Ao176 t257.length co176] 79 (0, 0)) (by (with_reducible repeat (first | apply dN | apply dW | apply dA)); refine blk_put (cs := #[.int .i64 t253, .slice Ao175 t254.length co175, .slice none 0 0]) ?_ 2 _ rfl; (with_reducible repeat (first | apply dN | apply dW | apply dA)); refine blk_put (cs := #[.int .i64 t253, .slice none 0 0, .slice none 0 0]) ?_ 1 _ rfl; (with_reducible repeat (first | apply dN | apply dW | apply dA)); refine blk_put (cs := #[.int .i64 0, .slice none 0 0, .slice none 0 0]) ?_ 0 _ rfl; exact bp BK260) hb); replace HB := am (below_step (bw HB) hb); (try clear hb); (try clear hb2); (try clear hk); (try clear hi); (try clear ho0); (try clear ho1)) | ((with_reducible refine gate_dst (N := 8) rfl ?_); refine box_event ?hg (N := 8) ?hd (cs := #[.int .i64 0, .slice none 0 0, .slice none 0 0]) (t := 79) ?hr ?_; (case hd => rfl); (case hg => rfl); (case hr => exact gs); intro gb268 hg w179 hbox hb; replace HO241 := am (Kd.S_below (kS HO241) hb); replace HO244 := am (Kd.S_below (kS HO244) hb); replace HO248 := am (Kd.S_below (kS HO248) hb); replace HO251 := am (Kd.S_below (kS HO251) hb); replace HO256 := am (Kd.S_below (kS HO256) hb); replace HO259 := am (Kd.S_below (kS HO259) hb); replace HO264 := am (Kd.S_below (kS HO264) hb); replace HO267 := am (Kd.S_below (kS HO267) hb); have BK268 := am (hbox); have GW268 := am ((by rw [hg]; exact (below_size (bw HB)) : w.heap.size ≤ gb268)); have GE268 := am ((by rw [hg]; exact (below_size (bw HB)) : w.heap.size ≤ gb268)); replace HB := am (below_step (bw HB) hb); have NB234_268 := am ((by rw [hg]; exact Nat.ne_of_lt (blk_lt (g := gb234) (o := .cells #[.int .i64 a0_0, .slice A0_1 l0_1.length c0_1, .slice A0_2 l0_2.length c0_2] 73 (0, 0)) (bp BK234)) : gb234 ≠ gb268)); have NB268_234 := am ((by rw [hg]; exact Nat.ne_of_gt (blk_lt (g := gb234) (o := .cells #[.int .i64 a0_0, .slice A0_1 l0_1.length c0_1, .slice A0_2 l0_2.length c0_2] 73 (0, 0)) (bp BK234)) : gb268 ≠ gb234)); replace BK234 := am (blk_below (g := gb234) (o := .cells #[.int .i64 a0_0, .slice A0_1 l0_1.length c0_1, .slice A0_2 l0_2.length c0_2] 73 (0, 0)) (bp BK234) hb); have NB235_268 := am ((by rw [hg]; exact Nat.ne_of_lt (blk_lt (g := gb235) (o := .cells #[.int .i64 a1_0, .slice A1_1 l1_1.length c1_1, .slice A1_2 l1_2.length c1_2] 73 (0, 0)) (bp BK235)) : gb235 ≠ gb268)); have NB268_235 := am ((by rw [hg]; exact Nat.ne_of_gt (blk_lt (g := gb235) (o := .cells #[.int .i64 a1_0, .slice A1_1 l1_1.length c1_1, .slice A1_2 l1_2.length c1_2] 73 (0, 0)) (bp BK235)) : gb268 ≠ gb235)); replace BK235 := am (blk_below (g := gb235) (o := .cells #[.int .i64 a1_0, .slice A1_1 l1_1.length c1_1, .slice A1_2 l1_2.length c1_2] 73 (0, 0)) (bp BK235) hb); have NB260_268 := am ((by rw [hg]; exact Nat.ne_of_lt (blk_lt (g := gb260) (o := .cells #[.int .i64 t253, .slice Ao175 t254.length co175, .slice Ao176 t257.length co176] 79 (0, 0)) (bp BK260)) : gb260 ≠ gb268)); have NB268_260 := am ((by rw [hg]; exact Nat.ne_of_gt (blk_lt (g := gb260) (o := .cells #[.int .i64 t253, .slice Ao175 t254.length co175, .slice Ao176 t257.length co176] 79 (0, 0)) (bp BK260)) : gb268 ≠ gb260)); replace BK260 := am (blk_below (g := gb260) (o := .cells #[.int .i64 t253, .slice Ao175 t254.length co175, .slice Ao176 t257.length co176] 79 (0, 0)) (bp BK260) hb); clear hb hbox hg; have hnb180 := NB268_234.out; have hnc180 := NB234_268.out; have hnb181 := NB268_235.out; have hnc181 := NB235_268.out; have hnb182 := NB268_260.out; have hnc182 := NB260_268.out; have hcz183_0 : w179.cell? ⟨gb268, 0, none⟩ = some (.int .i64 0) := bc BK268 0; have hcz183_1 : w179.cell? ⟨gb268, 1, none⟩ = some (.slice none 0 0) := bc BK268 1; have hcz183_2 : w179.cell? ⟨gb268, 2, none⟩ = some (.slice none 0 0) := bc BK268 2; have hfz183_0 := bf BK268 0; have hfz183_1 := bf BK268 1; have hfz183_2 := bf BK268 2; obtain ⟨Ao184, co184, eo184⟩ := Kd.S_slice HO264.out; subst eo184; obtain ⟨Ao185, co185, eo185⟩ := Kd.S_slice HO267.out; subst eo185; have hcz186_0 : w179.cell? ⟨gb260, 0, none⟩ = some (.int .i64 t253) := bc BK260 0; have hcz186_1 : w179.cell? ⟨gb260, 1, none⟩ = some (.slice Ao175 t254.length co175) := bc BK260 1; have hcz186_2 : w179.cell? ⟨gb260, 2, none⟩ = some (.slice Ao176 t257.length co176) := bc BK260 2; have hfz186_0 := bf BK260 0; have hfz186_1 := bf BK260 1; have hfz186_2 := bf BK260 2) | ((with_reducible refine gate_callee (f := 50) rfl ?_); refine goesL_ (some 31) rfl rfl Try.func50 (by kernel_rfl) rfl #[.agg #[.int .i64 t253, .slice Ao175 t254.length co175, .slice Ao176 t257.length co176], .agg #[.int .i64 t261, .slice Ao184 t262.length co184, .slice Ao185 t265.length co185]] rfl gl ?_; (with_reducible refine (impl_AsmSame.calls k t253 _ _ t254 _ _ t257 t261 _ _ t262 _ _ t265 t269 _ ?side1 ?side2 ?side3 ?side4 ?side5 ?side6 ?side7 ?side8 A24.out).mono ?_); (case side1 => refine (Kd.S_reads' (e := 123) (base := w.heap.size) (ok := fun k_ => (((True ∧ some k_ ≠ (.slice Ao164 t239.length co164 : Value).ownBlock) ∧ some k_ ≠ (.slice Ao166 t246.length co166 : Value).ownBlock) ∧ some k_ ≠ (.slice Ao184 t262.length co184 : Value).ownBlock)) (n := t254.length) (c := co175) ?_).2.2; exact (by (with_reducible repeat (first | apply Kd.S_alloc | apply Kd.S_drewN | apply Kd.S_drew)); exact (Kd.S_mono (Kd.S_far (p := ⟨gb268, 2, none⟩) (Kd.S_far (p := ⟨gb268, 1, none⟩) (Kd.S_far (p := ⟨gb268, 0, none⟩) (Kd.S_types HO256.out BK268.out (by decide)) (fun _ hk => hk.2) (.int .i64 t261)) (fun _ hk => hk.2) (.slice Ao184 t262.length co184)) (fun _ hk => hk.2) (.slice Ao185 t265.length co185)) (fun _ h_ => h_.1)))); (case side2 => exact (Kd.S_reads' HO256.out).2.1); (case side3 => refine (Kd.S_reads' (e := 121) (base := w.heap.size) (ok := fun k_ => (((True ∧ some k_ ≠ (.slice Ao165 t242.length co165 : Value).ownBlock) ∧ some k_ ≠ (.slice Ao167 t249.length co167 : Value).ownBlock) ∧ some k_ ≠ (.slice Ao185 t265.length co185 : Value).ownBlock)) (n := t257.length) (c := co176) ?_).2.2; exact (by (with_reducible repeat (first | apply Kd.S_alloc | apply Kd.S_drewN | apply Kd.S_drew)); exact (Kd.S_mono (Kd.S_far (p := ⟨gb268, 2, none⟩) (Kd.S_far (p := ⟨gb268, 1, none⟩) (Kd.S_far (p := ⟨gb268, 0, none⟩) (Kd.S_types HO259.out BK268.out (by decide)) (fun _ hk => hk.2) (.int .i64 t261)) (fun _ hk => hk.2) (.slice Ao184 t262.length co184)) (fun _ hk => hk.2) (.slice Ao185 t265.length co185)) (fun _ h_ => h_.1)))); (case side4 => exact (Kd.S_reads' HO259.out).2.1); (case side5 => refine (Kd.S_reads' (e := 123) (base := w.heap.size) (ok := fun k_ => (((True ∧ some k_ ≠ (.slice Ao164 t239.length co164 : Value).ownBlock) ∧ some k_ ≠ (.slice Ao166 t246.length co166 : Value).ownBlock) ∧ some k_ ≠ (.slice Ao175 t254.length co175 : Value).ownBlock)) (n := t262.length) (c := co184) ?_).2.2; exact (by (with_reducible repeat (first | apply Kd.S_alloc | apply Kd.S_drewN | apply Kd.S_drew)); exact (Kd.S_mono (Kd.S_far (p := ⟨gb268, 2, none⟩) (Kd.S_far (p := ⟨gb268, 1, none⟩) (Kd.S_far (p := ⟨gb268, 0, none⟩) (Kd.S_types HO264.out BK268.out (by decide)) (fun _ hk => hk.2) (.int .i64 t261)) (fun _ hk => hk.2) (.slice Ao184 t262.length co184)) (fun _ hk => hk.2) (.slice Ao185 t265.length co185)) (fun _ h_ => h_.1)))); (case side6 => exact (Kd.S_reads' HO264.out).2.1); (case side7 => refine (Kd.S_reads' (e := 121) (base := w.heap.size) (ok := fun k_ => (((True ∧ some k_ ≠ (.slice Ao165 t242.length co165 : Value).ownBlock) ∧ some k_ ≠ (.slice Ao167 t249.length co167 : Value).ownBlock) ∧ some k_ ≠ (.slice Ao176 t257.length co176 : Value).ownBlock)) (n := t265.length) (c := co185) ?_).2.2; exact (by (with_reducible repeat (first | apply Kd.S_alloc | apply Kd.S_drewN | apply Kd.S_drew)); exact (Kd.S_mono (Kd.S_far (p := ⟨gb268, 2, none⟩) (Kd.S_far (p := ⟨gb268, 1, none⟩) (Kd.S_far (p := ⟨gb268, 0, none⟩) (Kd.S_types HO267.out BK268.out (by decide)) (fun _ hk => hk.2) (.int .i64 t261)) (fun _ hk => hk.2) (.slice Ao184 t262.length co184)) (fun _ hk => hk.2) (.slice Ao185 t265.length co185)) (fun _ h_ => h_.1)))); (case side8 => exact (Kd.S_reads' HO267.out).2.1); rintro e w187 ⟨rfl, hb⟩; refine ⟨_, rfl, ?_⟩; replace HO241 := am (Kd.S_below (by (with_reducible repeat (first | apply Kd.S_alloc | apply Kd.S_drewN | apply Kd.S_drew)); exact (Kd.S_mono (Kd.S_far (p := ⟨gb268, 2, none⟩) (Kd.S_far (p := ⟨gb268, 1, none⟩) (Kd.S_far (p := ⟨gb268, 0, none⟩) (Kd.S_types HO241.out BK268.out (by decide)) (fun _ hk => hk.2) (.int .i64 t261)) (fun _ hk => hk.2) (.slice Ao184 t262.length co184)) (fun _ hk => hk.2) (.slice Ao185 t265.length co185)) (fun _ h_ => h_.1))) hb); replace HO244 := am (Kd.S_below (by (with_reducible repeat (first | apply Kd.S_alloc | apply Kd.S_drewN | apply Kd.S_drew)); exact (Kd.S_mono (Kd.S_far (p := ⟨gb268, 2, none⟩) (Kd.S_far (p := ⟨gb268, 1, none⟩) (Kd.S_far (p := ⟨gb268, 0, none⟩) (Kd.S_types HO244.out BK268.out (by decide)) (fun _ hk => hk.2) (.int .i64 t261)) (fun _ hk => hk.2) (.slice Ao184 t262.length co184)) (fun _ hk => hk.2) (.slice Ao185 t265.length co185)) (fun _ h_ => h_.1))) hb); replace HO248 := am (Kd.S_below (by (with_reducible repeat (first | apply Kd.S_alloc | apply Kd.S_drewN | apply Kd.S_drew)); exact (Kd.S_mono (Kd.S_far (p := ⟨gb268, 2, none⟩) (Kd.S_far (p := ⟨gb268, 1, none⟩) (Kd.S_far (p := ⟨gb268, 0, none⟩) (Kd.S_types HO248.out BK268.out (by decide)) (fun _ hk => hk.2) (.int .i64 t261)) (fun _ hk => hk.2) (.slice Ao184 t262.length co184)) (fun _ hk => hk.2) (.slice Ao185 t265.length co185)) (fun _ h_ => h_.1))) hb); replace HO251 := am (Kd.S_below (by (with_reducible repeat (first | apply Kd.S_alloc | apply Kd.S_drewN | apply Kd.S_drew)); exact (Kd.S_mono (Kd.S_far (p := ⟨gb268, 2, none⟩) (Kd.S_far (p := ⟨gb268, 1, none⟩) (Kd.S_far (p := ⟨gb268, 0, none⟩) (Kd.S_types HO251.out BK268.out (by decide)) (fun _ hk => hk.2) (.int .i64 t261)) (fun _ hk => hk.2) (.slice Ao184 t262.length co184)) (fun _ hk => hk.2) (.slice Ao185 t265.length co185)) (fun _ h_ => h_.1))) hb); replace HO256 := am (Kd.S_below (by (with_reducible repeat (first | apply Kd.S_alloc | apply Kd.S_drewN | apply Kd.S_drew)); exact (Kd.S_mono (Kd.S_far (p := ⟨gb268, 2, none⟩) (Kd.S_far (p := ⟨gb268, 1, none⟩) (Kd.S_far (p := ⟨gb268, 0, none⟩) (Kd.S_types HO256.out BK268.out (by decide)) (fun _ hk => hk.2) (.int .i64 t261)) (fun _ hk => hk.2) (.slice Ao184 t262.length co184)) (fun _ hk => hk.2) (.slice Ao185 t265.length co185)) (fun _ h_ => h_.1))) hb); replace HO259 := am (Kd.S_below (by (with_reducible repeat (first | apply Kd.S_alloc | apply Kd.S_drewN | apply Kd.S_drew)); exact (Kd.S_mono (Kd.S_far (p := ⟨gb268, 2, none⟩) (Kd.S_far (p := ⟨gb268, 1, none⟩) (Kd.S_far (p := ⟨gb268, 0, none⟩) (Kd.S_types HO259.out BK268.out (by decide)) (fun _ hk => hk.2) (.int .i64 t261)) (fun _ hk => hk.2) (.slice Ao184 t262.length co184)) (fun _ hk => hk.2) (.slice Ao185 t265.length co185)) (fun _ h_ => h_.1))) hb); replace HO264 := am (Kd.S_below (by (with_reducible repeat (first | apply Kd.S_alloc | apply Kd.S_drewN | apply Kd.S_drew)); exact (Kd.S_mono (Kd.S_far (p := ⟨gb268, 2, none⟩) (Kd.S_far (p := ⟨gb268, 1, none⟩) (Kd.S_far (p := ⟨gb268, 0, none⟩) (Kd.S_types HO264.out BK268.out (by decide)) (fun _ hk => hk.2) (.int .i64 t261)) (fun _ hk => hk.2) (.slice Ao184 t262.length co184)) (fun _ hk => hk.2) (.slice Ao185 t265.length co185)) (fun _ h_ => h_.1))) hb); replace HO267 := am (Kd.S_below (by (with_reducible repeat (first | apply Kd.S_alloc | apply Kd.S_drewN | apply Kd.S_drew)); exact (Kd.S_mono (Kd.S_far (p := ⟨gb268, 2, none⟩) (Kd.S_far (p := ⟨gb268, 1, none⟩) (Kd.S_far (p := ⟨gb268, 0, none⟩) (Kd.S_types HO267.out BK268.out (by decide)) (fun _ hk => hk.2) (.int .i64 t261)) (fun _ hk => hk.2) (.slice Ao184 t262.length co184)) (fun _ hk => hk.2) (.slice Ao185 t265.length co185)) (fun _ h_ => h_.1))) hb); replace BK234 := am (blk_below (g := gb234) (o := .cells #[.int .i64 a0_0, .slice A0_1 l0_1.length c0_1, .slice A0_2 l0_2.length c0_2] 73 (0, 0)) (by (with_reducible repeat (first | apply dN | apply dW | apply dA)); refine blk_far ?_ NB234_268.out _; (with_reducible repeat (first | apply dN | apply dW | apply dA)); refine blk_far ?_ NB234_268.out _; (with_reducible repeat (first | apply dN | apply dW | apply dA)); refine blk_far ?_ NB234_268.out _; exact bp BK234) hb); replace BK235 := am (blk_below (g := gb235) (o := .cells #[.int .i64 a1_0, .slice A1_1 l1_1.length c1_1, .slice A1_2 l1_2.length c1_2] 73 (0, 0)) (by (with_reducible repeat (first | apply dN | apply dW | apply dA)); refine blk_far ?_ NB235_268.out _; (with_reducible repeat (first | apply dN | apply dW | apply dA)); refine blk_far ?_ NB235_268.out _; (with_reducible repeat (first | apply dN | apply dW | apply dA)); refine blk_far ?_ NB235_268.out _; exact bp BK235) hb); replace BK260 := am (blk_below (g := gb260) (o := .cells #[.int .i64 t253, .slice Ao175 t254.length co175, .slice Ao176 t257.length co176] 79 (0, 0)) (by (with_reducible repeat (first | apply dN | apply dW | apply dA)); refine blk_far ?_ NB260_268.out _; (with_reducible repeat (first | apply dN | apply dW | apply dA)); refine blk_far ?_ NB260_268.out _; (with_reducible repeat (first | apply dN | apply dW | apply dA)); refine blk_far ?_ NB260_268.out _; exact bp BK260) hb); replace BK268 := am (blk_below (g := gb268) (o := .cells #[.int .i64 t261, .slice Ao184 t262.length co184, .slice Ao185 t265.length co185] 79 (0, 0)) (by (with_reducible repeat (first | apply dN | apply dW | apply dA)); refine blk_put (cs := #[.int .i64 t261, .slice Ao184 t262.length co184, .slice none 0 0]) ?_ 2 _ rfl; (with_reducible repeat (first | apply dN | apply dW | apply dA)); refine blk_put (cs := #[.int .i64 t261, .slice none 0 0, .slice none 0 0]) ?_ 1 _ rfl; (with_reducible repeat (first | apply dN | apply dW | apply dA)); refine blk_put (cs := #[.int .i64 0, .slice none 0 0, .slice none 0 0]) ?_ 0 _ rfl; exact bp BK268) hb); replace HB := am (below_step (bw HB) hb); (try clear hb); (try clear hb2); (try clear hk); (try clear hi)))
     have n0_ := am (Kd.S_drew HO241.out)
     have n1_ := am (Kd.S_drew HO244.out)
     have n2_ := am (Kd.S_drew HO248.out)
     have n3_ := am (Kd.S_drew HO251.out)
     have n4_ := am (Kd.S_drew HO256.out)
     have n5_ := am (Kd.S_drew HO259.out)
     have n6_ := am (Kd.S_drew HO264.out)
     have n7_ := am (Kd.S_drew HO267.out)
     have n8_ := am (blk_drew BK234.out)
     have n9_ := am (blk_drew BK235.out)
     have n10_ := am (blk_drew BK260.out)
     have n11_ := am (blk_drew BK268.out)
     have n12_ := am (below_drew1 HB.out)
     clear HO241
     clear HO244
     clear HO248
     clear HO251
     clear HO256
     clear HO259
     clear HO264
     clear HO267
     clear BK234
     clear BK235
     clear BK260
     clear BK268
     clear HB
     have HO241 := n0_
     have HO244 := n1_
     have HO248 := n2_
     have HO251 := n3_
     have HO256 := n4_
     have HO259 := n5_
     have HO264 := n6_
     have HO267 := n7_
     have BK234 := n8_
     have BK235 := n9_
     have BK260 := n10_
     have BK268 := n11_
     have HB := n12_
     clear n0_ n1_ n2_ n3_ n4_ n5_ n6_ n7_ n8_ n9_ n10_ n11_ n12_
     refine start_ (n := 5) (S := fun w' => w'.cell? ⟨gb260, 0, none⟩ = some (.int .i64 t253) ∧ w'.cell? ⟨gb260, 1, none⟩ = some (.slice Ao175 t254.length co175) ∧ w'.cell? ⟨gb260, 2, none⟩ = some (.slice Ao176 t257.length co176) ∧ w'.cell? ⟨gb234, 0, none⟩ = some (.int .i64 a0_0) ∧ w'.cell? ⟨gb234, 1, none⟩ = some (.slice A0_1 l0_1.length c0_1) ∧ w'.cell? ⟨gb234, 2, none⟩ = some (.slice A0_2 l0_2.length c0_2)) (ds := []) #[false, false, false, false, false] (by kernel_rfl) rfl rfl ⟨bc BK260 0, bc BK260 1, bc BK260 2, bc BK234 0, bc BK234 1, bc BK234 2⟩ (fun hHeld => ?_)
     generalize w187.drew = w188 at HO241 HO244 HO248 HO251 HO256 HO259 HO264 HO267 BK234 BK235 BK260 BK268 HB hHeld ⊢
     refine take_ (i := 0) (N := some 35) (v := ?_) (a' := ?_) #[true, false, false, false, false] rfl rfl (by kernel_rfl) (fun _ _ _ h => h) (Or.inl ⟨by rfl, ?_⟩) hHeld ?_ ?_
     rotate_left
     ·rintro w' ⟨s0, s1, s2, s3, s4, s5⟩
      go_simp
      with_reducible rfl
     rotate_left
     ·simp only [Act.put, sa, sz, ss, i64_w, i32_w]
      rfl
     refine take_ (i := 1) (N := some 36) (v := ?_) (a' := ?_) #[true, true, false, false, false] rfl rfl (by kernel_rfl) (fun _ _ _ h => h) (Or.inl ⟨by rfl, ?_⟩) hHeld ?_ ?_
     rotate_left
     ·rintro w' ⟨s0, s1, s2, s3, s4, s5⟩
      go_simp
      with_reducible rfl
     rotate_left
     ·simp only [Act.put, sa, sz, ss, i64_w, i32_w]
      rfl
     refine one_ (i := 2) (N := some 37) #[true, true, true, false, false] rfl rfl (by kernel_rfl) (by decide) (fun K hK => ?_)
     refine goes_ Try.func49 (by kernel_rfl) rfl #[.agg #[.int .i64 a0_0, .slice A0_1 l0_1.length c0_1, .slice A0_2 l0_2.length c0_2]] (by rfl) rfl rfl gl ?_
     with_reducible refine (laws_toAsm.calls k a0_0 _ _ l0_1 _ _ l0_2 t270 t271 t274 _ ?side1 ?side2 ?side3 ?side4 A60.out).mono ?_
     (case side1 => exact cc (Kd.C_below HR0_1.out HB.out))
     (case side2 => exact HC0_1.out)
     (case side3 => exact cc (Kd.C_below HR0_2.out HB.out))
     (case side4 => exact HC0_2.out)
     rintro e w189 ⟨v272, v275, rfl, ho0, ho1, hb⟩
     refine ⟨_, rfl, ?_⟩
     have n0_ := am (Kd.S_elder' (kS HO241) (Kd.S_base ho0) hb)
     have n1_ := am (Kd.S_elder' (kS HO244) (Kd.S_base ho1) hb)
     have n2_ := am (Kd.S_elder' (kS HO248) (Kd.S_base ho0) hb)
     have n3_ := am (Kd.S_elder' (kS HO251) (Kd.S_base ho1) hb)
     have n4_ := am (Kd.S_elder' (kS HO256) (Kd.S_base ho0) hb)
     have n5_ := am (Kd.S_elder' (kS HO259) (Kd.S_base ho1) hb)
     have n6_ := am (Kd.S_elder' (kS HO264) (Kd.S_base ho0) hb)
     have n7_ := am (Kd.S_elder' (kS HO267) (Kd.S_base ho1) hb)
     have n8_ := am (Kd.S_lower (Kd.S_new' (Kd.S_new' (Kd.S_new' (Kd.S_new' ho0 (Kd.S_lt (kS HO241))) (Kd.S_lt (kS HO248))) (Kd.S_lt (kS HO256))) (Kd.S_lt (kS HO264))) (below_size (bw HB)))
     have n9_ := am (Kd.S_lower (Kd.S_new' (Kd.S_new' (Kd.S_new' (Kd.S_new' ho1 (Kd.S_lt (kS HO244))) (Kd.S_lt (kS HO251))) (Kd.S_lt (kS HO259))) (Kd.S_lt (kS HO267))) (below_size (bw HB)))
     have n10_ := am (blk_below (g := gb234) (o := .cells #[.int .i64 a0_0, .slice A0_1 l0_1.length c0_1, .slice A0_2 l0_2.length c0_2] 73 (0, 0)) (bp BK234) hb)
     have n11_ := am (blk_below (g := gb235) (o := .cells #[.int .i64 a1_0, .slice A1_1 l1_1.length c1_1, .slice A1_2 l1_2.length c1_2] 73 (0, 0)) (bp BK235) hb)
     have n12_ := am (blk_below (g := gb260) (o := .cells #[.int .i64 t253, .slice Ao175 t254.length co175, .slice Ao176 t257.length co176] 79 (0, 0)) (bp BK260) hb)
     have n13_ := am (blk_below (g := gb268) (o := .cells #[.int .i64 t261, .slice Ao184 t262.length co184, .slice Ao185 t265.length co185] 79 (0, 0)) (bp BK268) hb)
     have n14_ := am (below_step (bw HB) hb)
     clear HO241
     clear HO244
     clear HO248
     clear HO251
     clear HO256
     clear HO259
     clear HO264
     clear HO267
     clear BK234
     clear BK235
     clear BK260
     clear BK268
     clear HB
     have HO241 := n0_
     have HO244 := n1_
     have HO248 := n2_
     have HO251 := n3_
     have HO256 := n4_
     have HO259 := n5_
     have HO264 := n6_
     have HO267 := n7_
     have HO273 := n8_
     have HO276 := n9_
     have BK234 := n10_
     have BK235 := n11_
     have BK260 := n12_
     have BK268 := n13_
     have HB := n14_
     clear n0_ n1_ n2_ n3_ n4_ n5_ n6_ n7_ n8_ n9_ n10_ n11_ n12_ n13_ n14_
     (try clear hb)
     (try clear hb2)
     (try clear hk)
     (try clear hi)
     (try clear ho0)
     (try clear ho1)
     obtain ⟨Ao190, co190, eo190⟩ := Kd.S_slice HO273.out
     (first | subst eo190 | (injection eo190 with f1_ f2_ f3_; have f4_ := f1_.symm; have f5_ := f3_.symm; clear f1_ f2_ f3_; subst f4_; subst f5_))
     obtain ⟨Ao191, co191, eo191⟩ := Kd.S_slice HO276.out
     (first | subst eo191 | (injection eo191 with f1_ f2_ f3_; have f4_ := f1_.symm; have f5_ := f3_.symm; clear f1_ f2_ f3_; subst f4_; subst f5_))
     refine hK.out _ _ ⟨bc BK260 0, bc BK260 1, bc BK260 2, bc BK234 0, bc BK234 1, bc BK234 2⟩ (fun hHeld => ?_)
     clear hK K
     refine norm_ (a' := ?_) ?_ ?_
     rotate_left
     ·show Act.put _ (some 37) _ = _
      simp only [Act.put, sa, sz, ss, i64_w, i32_w]
      rfl
     refine one_ (i := 3) (N := some 38) #[true, true, true, true, false] rfl rfl (by kernel_rfl) (by decide) (fun K hK => ?_)
     refine goes_ Try.func51 (by kernel_rfl) rfl #[.agg #[.int .i64 t253, .slice Ao175 t254.length co175, .slice Ao176 t257.length co176], .agg #[.int .i64 t270, .slice Ao190 t271.length co190, .slice Ao191 t274.length co191]] (by rfl) rfl rfl gl ?_
     with_reducible refine (laws_eqAsm.calls k t253 _ _ t254 _ _ t257 t270 _ _ t271 _ _ t274 false _ ?side1 ?side2 ?side3 ?side4 ?side5 ?side6 ?side7 ?side8 A61.out).mono ?_
     (case side1 => exact cc (Kd.S_reads' HO256.out).2.2)
     (case side2 => exact (Kd.S_reads' HO256.out).2.1)
     (case side3 => exact cc (Kd.S_reads' HO259.out).2.2)
     (case side4 => exact (Kd.S_reads' HO259.out).2.1)
     (case side5 => exact cc (Kd.S_reads' HO273.out).2.2)
     (case side6 => exact (Kd.S_reads' HO273.out).2.1)
     (case side7 => exact cc (Kd.S_reads' HO276.out).2.2)
     (case side8 => exact (Kd.S_reads' HO276.out).2.1)
     rintro e w192 ⟨rfl, hb⟩
     refine ⟨_, rfl, ?_⟩
     have n0_ := am (Kd.S_below (kS HO241) hb)
     have n1_ := am (Kd.S_below (kS HO244) hb)
     have n2_ := am (Kd.S_below (kS HO248) hb)
     have n3_ := am (Kd.S_below (kS HO251) hb)
     have n4_ := am (Kd.S_below (kS HO256) hb)
     have n5_ := am (Kd.S_below (kS HO259) hb)
     have n6_ := am (Kd.S_below (kS HO264) hb)
     have n7_ := am (Kd.S_below (kS HO267) hb)
     have n8_ := am (Kd.S_below (kS HO273) hb)
     have n9_ := am (Kd.S_below (kS HO276) hb)
     have n10_ := am (blk_below (g := gb234) (o := .cells #[.int .i64 a0_0, .slice A0_1 l0_1.length c0_1, .slice A0_2 l0_2.length c0_2] 73 (0, 0)) (bp BK234) hb)
     have n11_ := am (blk_below (g := gb235) (o := .cells #[.int .i64 a1_0, .slice A1_1 l1_1.length c1_1, .slice A1_2 l1_2.length c1_2] 73 (0, 0)) (bp BK235) hb)
     have n12_ := am (blk_below (g := gb260) (o := .cells #[.int .i64 t253, .slice Ao175 t254.length co175, .slice Ao176 t257.length co176] 79 (0, 0)) (bp BK260) hb)
     have n13_ := am (blk_below (g := gb268) (o := .cells #[.int .i64 t261, .slice Ao184 t262.length co184, .slice Ao185 t265.length co185] 79 (0, 0)) (bp BK268) hb)
     have n14_ := am (below_step (bw HB) hb)
     clear HO241
     clear HO244
     clear HO248
     clear HO251
     clear HO256
     clear HO259
     clear HO264
     clear HO267
     clear HO273
     clear HO276
     clear BK234
     clear BK235
     clear BK260
     clear BK268
     clear HB
     have HO241 := n0_
     have HO244 := n1_
     have HO248 := n2_
     have HO251 := n3_
     have HO256 := n4_
     have HO259 := n5_
     have HO264 := n6_
     have HO267 := n7_
     have HO273 := n8_
     have HO276 := n9_
     have BK234 := n10_
     have BK235 := n11_
     have BK260 := n12_
     have BK268 := n13_
     have HB := n14_
     clear n0_ n1_ n2_ n3_ n4_ n5_ n6_ n7_ n8_ n9_ n10_ n11_ n12_ n13_ n14_
     (try clear hb)
     (try clear hb2)
     (try clear hk)
     (try clear hi)
     refine hK.out _ _ ⟨bc BK260 0, bc BK260 1, bc BK260 2, bc BK234 0, bc BK234 1, bc BK234 2⟩ (fun hHeld => ?_)
     clear hK K
     refine norm_ (a' := ?_) ?_ ?_
     rotate_left
     ·show Act.put _ (some 38) _ = _
      simp only [Act.put, sa, sz, ss, i64_w, i32_w]
      rfl
     refine pure_ (i := 4) (N := some 39) (v := ?_) (a' := ?_) #[true, true, true, true, true] rfl rfl (by kernel_rfl) (fun _ _ _ h => h) (Or.inl ⟨by rfl, ?_⟩) ?_ ?_
     rotate_left
     ·intro w'
      go_simp
      with_reducible rfl
     rotate_left
     ·simp only [Act.put, sa, sz, ss, i64_w, i32_w]
      rfl
     refine done_ (by kernel_rfl) ?_
     try go_wp2
     go_ret
     exact ⟨er, bw HB⟩

end Go.Proofs.Ytkmohnlkldkhdaa.QFnExactAsmSame
