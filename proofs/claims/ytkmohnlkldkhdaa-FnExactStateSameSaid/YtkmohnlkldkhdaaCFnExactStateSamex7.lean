import Derived.Test.YtkmohnlkldkhdaaCFnExactStateSamex0
import Derived.Test.YtkmohnlkldkhdaaCFnExactStateSamex1
import Derived.Test.YtkmohnlkldkhdaaCFnExactStateSamex2
import Derived.Test.YtkmohnlkldkhdaaCFnExactStateSamex3
import Derived.Test.YtkmohnlkldkhdaaCFnExactStateSamex4
import Derived.Test.YtkmohnlkldkhdaaCFnExactStateSamex6
namespace Go.Proofs.Ytkmohnlkldkhdaa.QFnExactStateSame
open Go.RowKit Go.Proofs.YtkmohnlkldkhdaaW
open PrintWords PrintLast PrintMore PrintShort PrintIsh
attribute [local go_sem] max2_int min2_int max_two min_two max_three min_three max_four min_four   -- for this text's walks alone
set_option linter.unusedVariables false
set_option maxHeartbeats 8000000
set_option maxRecDepth 100000
set_option linter.unusedSimpArgs false

def laws_FnExactStateSame.f (k : Nat) (l0_0 : List (S144)) (l0_1 : List (List Int)) (l0_2 : List Int) (a0_3 : Int) (a0_4 : Bool) (a0_5 : Int) (a0_6 : Int) (l1_0 : List (S144)) (l1_1 : List (List Int)) (l1_2 : List Int) (a1_3 : Int) (a1_4 : Bool) (a1_5 : Int) (a1_6 : Int) : Option (Bool) := (laws_szState.f k l0_0 l0_1 l0_2 a0_3 a0_4 a0_5 a0_6 1048576).bind fun t213 => (if t213 < 0 then (some true) else ((laws_szState.f k l1_0 l1_1 l1_2 a1_3 a1_4 a1_5 a1_6 t213).bind fun t214 => (if t214 < 0 then (some true) else ((laws_toState.f k l0_0 l0_1 l0_2 a0_3 a0_4 a0_5 a0_6).bind fun bt215 => ((laws_toState.f k l1_0 l1_1 l1_2 a1_3 a1_4 a1_5 a1_6).bind fun bt228 => ((spec_StateSame.f k bt215.1 bt215.2.1 bt215.2.2.1 bt215.2.2.2.1 bt215.2.2.2.2.1 bt215.2.2.2.2.2.1 bt215.2.2.2.2.2.2 bt228.1 bt228.2.1 bt228.2.2.1 bt228.2.2.2.1 bt228.2.2.2.2.1 bt228.2.2.2.2.2.1 bt228.2.2.2.2.2.2).bind fun t241 => ((laws_toState.f k l0_0 l0_1 l0_2 a0_3 a0_4 a0_5 a0_6).bind fun bt242 => ((laws_toState.f k l1_0 l1_1 l1_2 a1_3 a1_4 a1_5 a1_6).bind fun bt256 => ((impl_StateSame.f k bt242.1 bt242.2.1 bt242.2.2.1 bt242.2.2.2.1 bt242.2.2.2.2.1 bt242.2.2.2.2.2.1 bt242.2.2.2.2.2.2 bt256.1 bt256.2.1 bt256.2.2.1 bt256.2.2.2.1 bt256.2.2.2.2.1 bt256.2.2.2.2.2.1 bt256.2.2.2.2.2.2).bind fun t270 => (if (t270 != t241) = true then (some false) else ((laws_toState.f k l0_0 l0_1 l0_2 a0_3 a0_4 a0_5 a0_6).bind fun bt271 => ((laws_eqState.f k bt242.1 bt242.2.1 bt242.2.2.1 bt242.2.2.2.1 bt242.2.2.2.2.1 bt242.2.2.2.2.2.1 bt242.2.2.2.2.2.2 bt271.1 bt271.2.1 bt271.2.2.1 bt271.2.2.2.1 bt271.2.2.2.2.1 bt271.2.2.2.2.2.1 bt271.2.2.2.2.2.2).bind fun t284 => (if t284 = true then ((laws_toState.f k l1_0 l1_1 l1_2 a1_3 a1_4 a1_5 a1_6).bind fun bt285 => ((laws_eqState.f k bt256.1 bt256.2.1 bt256.2.2.1 bt256.2.2.2.1 bt256.2.2.2.2.1 bt256.2.2.2.2.2.1 bt256.2.2.2.2.2.2 bt285.1 bt285.2.1 bt285.2.2.1 bt285.2.2.2.1 bt285.2.2.2.2.1 bt285.2.2.2.2.2.1 bt285.2.2.2.2.2.2).bind fun t298 => (if t298 = true then (some true) else (some false)))) else (some false))))))))))))))
theorem laws_FnExactStateSame.mono : ∀ a0 a1 a2 a3 a4 a5 a6 a7 a8 a9 a10 a11 a12 a13 k, LeO (laws_FnExactStateSame.f k a0 a1 a2 a3 a4 a5 a6 a7 a8 a9 a10 a11 a12 a13) (laws_FnExactStateSame.f (k + 1) a0 a1 a2 a3 a4 a5 a6 a7 a8 a9 a10 a11 a12 a13) := by
 intro a0 a1 a2 a3 a4 a5 a6 a7 a8 a9 a10 a11 a12 a13 k
 unfold laws_FnExactStateSame.f
 repeat' first
   | (with_reducible exact impl_StateSame.mono _ _ _ _ _ _ _ _ _ _ _ _ _ _ _)
   | (with_reducible exact laws_eqState.mono _ _ _ _ _ _ _ _ _ _ _ _ _ _ _)
   | (with_reducible exact laws_szState.mono _ _ _ _ _ _ _ _ _)
   | (with_reducible exact laws_toState.mono _ _ _ _ _ _ _ _)
   | (with_reducible exact spec_StateSame.mono _ _ _ _ _ _ _ _ _ _ _ _ _ _ _)
   | (with_reducible exact LeO.refl _)
   | (with_reducible exact LeO.none _)
   | (with_reducible refine LeO.ite ?_ ?_)
   | (with_reducible refine LeO.bind ?_ (fun _ => ?_))
theorem laws_FnExactStateSame.calls (k : Nat) (A0_0 : Option Addr) (c0_0 : Nat) (l0_0 : List (S144)) (A0_1 : Option Addr) (c0_1 : Nat) (l0_1 : List (List Int)) (A0_2 : Option Addr) (c0_2 : Nat) (l0_2 : List Int) (a0_3 : Int) (a0_4 : Bool) (a0_5 : Int) (a0_6 : Int) (A1_0 : Option Addr) (c1_0 : Nat) (l1_0 : List (S144)) (A1_1 : Option Addr) (c1_1 : Nat) (l1_1 : List (List Int)) (A1_2 : Option Addr) (c1_2 : Nat) (l1_2 : List Int) (a1_3 : Int) (a1_4 : Bool) (a1_5 : Int) (a1_6 : Int) (r : Bool) (w : World) (hr0_0 : Kd.C k144 w A0_0 l0_0.length l0_0) (hc0_0 : l0_0.length ≤ c0_0) (hr0_1 : Kd.C (Kd.slice 2 (Kd.int .i64)) w A0_1 l0_1.length l0_1) (hc0_1 : l0_1.length ≤ c0_1) (hr0_2 : Kd.C (Kd.int .i64) w A0_2 l0_2.length l0_2) (hc0_2 : l0_2.length ≤ c0_2) (hr1_0 : Kd.C k144 w A1_0 l1_0.length l1_0) (hc1_0 : l1_0.length ≤ c1_0) (hr1_1 : Kd.C (Kd.slice 2 (Kd.int .i64)) w A1_1 l1_1.length l1_1) (hc1_1 : l1_1.length ≤ c1_1) (hr1_2 : Kd.C (Kd.int .i64) w A1_2 l1_2.length l1_2) (hc1_2 : l1_2.length ≤ c1_2) (h : laws_FnExactStateSame.f k l0_0 l0_1 l0_2 a0_3 a0_4 a0_5 a0_6 l1_0 l1_1 l1_2 a1_3 a1_4 a1_5 a1_6 = some r) :
  Calls Try.prog 11 #[.agg #[.slice A0_0 l0_0.length c0_0, .slice A0_1 l0_1.length c0_1, .slice A0_2 l0_2.length c0_2, .int .i64 a0_3, .bool a0_4, .int .i64 a0_5, .int .i64 a0_6], .agg #[.slice A1_0 l1_0.length c1_0, .slice A1_1 l1_1.length c1_1, .slice A1_2 l1_2.length c1_2, .int .i64 a1_3, .bool a1_4, .int .i64 a1_5, .int .i64 a1_6]] w fun e w' => e = .returned (.bool r) ∧ Below w.heap.size w w' := by
 have hu62 := Try.underlying62
 have hu67 := Try.underlying67
 have HR0_0 := am hr0_0
 have HC0_0 := am hc0_0
 clear hr0_0 hc0_0
 have HR0_1 := am hr0_1
 have HC0_1 := am hc0_1
 clear hr0_1 hc0_1
 have HR0_2 := am hr0_2
 have HC0_2 := am hc0_2
 clear hr0_2 hc0_2
 have HR1_0 := am hr1_0
 have HC1_0 := am hc1_0
 clear hr1_0 hc1_0
 have HR1_1 := am hr1_1
 have HC1_1 := am hc1_1
 clear hr1_1 hc1_1
 have HR1_2 := am hr1_2
 have HC1_2 := am hc1_2
 clear hr1_2 hc1_2
 have HB := am (Below.refl w.heap.size w)
 have H : ((laws_szState.f k l0_0 l0_1 l0_2 a0_3 a0_4 a0_5 a0_6 1048576).bind fun t213 => (if t213 < 0 then (some true) else ((laws_szState.f k l1_0 l1_1 l1_2 a1_3 a1_4 a1_5 a1_6 t213).bind fun t214 => (if t214 < 0 then (some true) else ((laws_toState.f k l0_0 l0_1 l0_2 a0_3 a0_4 a0_5 a0_6).bind fun bt215 => ((laws_toState.f k l1_0 l1_1 l1_2 a1_3 a1_4 a1_5 a1_6).bind fun bt228 => ((spec_StateSame.f k bt215.1 bt215.2.1 bt215.2.2.1 bt215.2.2.2.1 bt215.2.2.2.2.1 bt215.2.2.2.2.2.1 bt215.2.2.2.2.2.2 bt228.1 bt228.2.1 bt228.2.2.1 bt228.2.2.2.1 bt228.2.2.2.2.1 bt228.2.2.2.2.2.1 bt228.2.2.2.2.2.2).bind fun t241 => ((laws_toState.f k l0_0 l0_1 l0_2 a0_3 a0_4 a0_5 a0_6).bind fun bt242 => ((laws_toState.f k l1_0 l1_1 l1_2 a1_3 a1_4 a1_5 a1_6).bind fun bt256 => ((impl_StateSame.f k bt242.1 bt242.2.1 bt242.2.2.1 bt242.2.2.2.1 bt242.2.2.2.2.1 bt242.2.2.2.2.2.1 bt242.2.2.2.2.2.2 bt256.1 bt256.2.1 bt256.2.2.1 bt256.2.2.2.1 bt256.2.2.2.2.1 bt256.2.2.2.2.2.1 bt256.2.2.2.2.2.2).bind fun t270 => (if (t270 != t241) = true then (some false) else ((laws_toState.f k l0_0 l0_1 l0_2 a0_3 a0_4 a0_5 a0_6).bind fun bt271 => ((laws_eqState.f k bt242.1 bt242.2.1 bt242.2.2.1 bt242.2.2.2.1 bt242.2.2.2.2.1 bt242.2.2.2.2.2.1 bt242.2.2.2.2.2.2 bt271.1 bt271.2.1 bt271.2.2.1 bt271.2.2.2.1 bt271.2.2.2.2.1 bt271.2.2.2.2.2.1 bt271.2.2.2.2.2.2).bind fun t284 => (if t284 = true then ((laws_toState.f k l1_0 l1_1 l1_2 a1_3 a1_4 a1_5 a1_6).bind fun bt285 => ((laws_eqState.f k bt256.1 bt256.2.1 bt256.2.2.1 bt256.2.2.2.1 bt256.2.2.2.2.1 bt256.2.2.2.2.2.1 bt256.2.2.2.2.2.2 bt285.1 bt285.2.1 bt285.2.2.1 bt285.2.2.2.1 bt285.2.2.2.2.1 bt285.2.2.2.2.2.1 bt285.2.2.2.2.2.2).bind fun t298 => (if t298 = true then (some true) else (some false)))) else (some false))))))))))))))) = some r := h
 clear h
 replace H := Option.bind_eq_some_iff.mp H
 obtain ⟨t213, A30, H⟩ := H
 replace H : (if t213 < 0 then (some true) else ((laws_szState.f k l1_0 l1_1 l1_2 a1_3 a1_4 a1_5 a1_6 t213).bind fun t214 => (if t214 < 0 then (some true) else ((laws_toState.f k l0_0 l0_1 l0_2 a0_3 a0_4 a0_5 a0_6).bind fun bt215 => ((laws_toState.f k l1_0 l1_1 l1_2 a1_3 a1_4 a1_5 a1_6).bind fun bt228 => ((spec_StateSame.f k bt215.1 bt215.2.1 bt215.2.2.1 bt215.2.2.2.1 bt215.2.2.2.2.1 bt215.2.2.2.2.2.1 bt215.2.2.2.2.2.2 bt228.1 bt228.2.1 bt228.2.2.1 bt228.2.2.2.1 bt228.2.2.2.2.1 bt228.2.2.2.2.2.1 bt228.2.2.2.2.2.2).bind fun t241 => ((laws_toState.f k l0_0 l0_1 l0_2 a0_3 a0_4 a0_5 a0_6).bind fun bt242 => ((laws_toState.f k l1_0 l1_1 l1_2 a1_3 a1_4 a1_5 a1_6).bind fun bt256 => ((impl_StateSame.f k bt242.1 bt242.2.1 bt242.2.2.1 bt242.2.2.2.1 bt242.2.2.2.2.1 bt242.2.2.2.2.2.1 bt242.2.2.2.2.2.2 bt256.1 bt256.2.1 bt256.2.2.1 bt256.2.2.2.1 bt256.2.2.2.2.1 bt256.2.2.2.2.2.1 bt256.2.2.2.2.2.2).bind fun t270 => (if (t270 != t241) = true then (some false) else ((laws_toState.f k l0_0 l0_1 l0_2 a0_3 a0_4 a0_5 a0_6).bind fun bt271 => ((laws_eqState.f k bt242.1 bt242.2.1 bt242.2.2.1 bt242.2.2.2.1 bt242.2.2.2.2.1 bt242.2.2.2.2.2.1 bt242.2.2.2.2.2.2 bt271.1 bt271.2.1 bt271.2.2.1 bt271.2.2.2.1 bt271.2.2.2.2.1 bt271.2.2.2.2.2.1 bt271.2.2.2.2.2.2).bind fun t284 => (if t284 = true then ((laws_toState.f k l1_0 l1_1 l1_2 a1_3 a1_4 a1_5 a1_6).bind fun bt285 => ((laws_eqState.f k bt256.1 bt256.2.1 bt256.2.2.1 bt256.2.2.2.1 bt256.2.2.2.2.1 bt256.2.2.2.2.2.1 bt256.2.2.2.2.2.2 bt285.1 bt285.2.1 bt285.2.2.1 bt285.2.2.2.1 bt285.2.2.2.2.1 bt285.2.2.2.2.2.1 bt285.2.2.2.2.2.2).bind fun t298 => (if t298 = true then (some true) else (some false)))) else (some false)))))))))))))) = some r := H
 have A3 := am A30
 clear A30
 by_cases c4 : t213 < 0
 ·rw [if_pos c4] at H
  have c4b0 := decide_eq_true c4
  clear c4
  obtain rfl := Option.some.inj H
  go_enter Try.func11, Try.ntmps11
  go_wp2_with (first | ((with_reducible refine gate_dst (N := 2) rfl ?_); refine box_event ?hg (N := 2) ?hd (cs := #[.slice A0_0 l0_0.length c0_0, .slice A0_1 l0_1.length c0_1, .slice A0_2 l0_2.length c0_2, .int .i64 a0_3, .bool a0_4, .int .i64 a0_5, .int .i64 a0_6]) (t := 62) ?hr ?_; (case hd => rfl); (case hg => rfl); (case hr => exact gs); intro gb211 hg w5 hbox hb; have BK211 := am (hbox); have GW211 := am ((by rw [hg]; exact (below_size (bw HB)) : w.heap.size ≤ gb211)); have GE211 := am ((by rw [hg]; exact (below_size (bw HB)) : w.heap.size ≤ gb211)); replace HB := am (below_step (bw HB) hb); clear hb hbox hg) | ((with_reducible refine gate_dst (N := 3) rfl ?_); refine box_event ?hg (N := 3) ?hd (cs := #[.slice A1_0 l1_0.length c1_0, .slice A1_1 l1_1.length c1_1, .slice A1_2 l1_2.length c1_2, .int .i64 a1_3, .bool a1_4, .int .i64 a1_5, .int .i64 a1_6]) (t := 62) ?hr ?_; (case hd => rfl); (case hg => rfl); (case hr => exact gs); intro gb212 hg w6 hbox hb; have BK212 := am (hbox); have GW212 := am ((by rw [hg]; exact (below_size (bw HB)) : w.heap.size ≤ gb212)); have GE212 := am ((by rw [hg]; exact (below_size (bw HB)) : w.heap.size ≤ gb212)); replace HB := am (below_step (bw HB) hb); have NB211_212 := am ((by rw [hg]; exact Nat.ne_of_lt (blk_lt (g := gb211) (o := .cells #[.slice A0_0 l0_0.length c0_0, .slice A0_1 l0_1.length c0_1, .slice A0_2 l0_2.length c0_2, .int .i64 a0_3, .bool a0_4, .int .i64 a0_5, .int .i64 a0_6] 62 (0, 0)) (bp BK211)) : gb211 ≠ gb212)); have NB212_211 := am ((by rw [hg]; exact Nat.ne_of_gt (blk_lt (g := gb211) (o := .cells #[.slice A0_0 l0_0.length c0_0, .slice A0_1 l0_1.length c0_1, .slice A0_2 l0_2.length c0_2, .int .i64 a0_3, .bool a0_4, .int .i64 a0_5, .int .i64 a0_6] 62 (0, 0)) (bp BK211)) : gb212 ≠ gb211)); replace BK211 := am (blk_below (g := gb211) (o := .cells #[.slice A0_0 l0_0.length c0_0, .slice A0_1 l0_1.length c0_1, .slice A0_2 l0_2.length c0_2, .int .i64 a0_3, .bool a0_4, .int .i64 a0_5, .int .i64 a0_6] 62 (0, 0)) (bp BK211) hb); clear hb hbox hg; have hnb7 := NB211_212.out; have hnc7 := NB212_211.out; have hcz8_0 : w6.cell? ⟨gb211, 0, none⟩ = some (.slice A0_0 l0_0.length c0_0) := bc BK211 0; have hcz8_1 : w6.cell? ⟨gb211, 1, none⟩ = some (.slice A0_1 l0_1.length c0_1) := bc BK211 1; have hcz8_2 : w6.cell? ⟨gb211, 2, none⟩ = some (.slice A0_2 l0_2.length c0_2) := bc BK211 2; have hcz8_3 : w6.cell? ⟨gb211, 3, none⟩ = some (.int .i64 a0_3) := bc BK211 3; have hcz8_4 : w6.cell? ⟨gb211, 4, none⟩ = some (.bool a0_4) := bc BK211 4; have hcz8_5 : w6.cell? ⟨gb211, 5, none⟩ = some (.int .i64 a0_5) := bc BK211 5; have hcz8_6 : w6.cell? ⟨gb211, 6, none⟩ = some (.int .i64 a0_6) := bc BK211 6; have hfz8_0 := bf BK211 0; have hfz8_1 := bf BK211 1; have hfz8_2 := bf BK211 2; have hfz8_3 := bf BK211 3; have hfz8_4 := bf BK211 4; have hfz8_5 := bf BK211 5; have hfz8_6 := bf BK211 6) | ((with_reducible refine gate_callee (f := 42) rfl ?_); refine goesL_ (some 12) rfl rfl Try.func42 (by kernel_rfl) rfl #[.agg #[.slice A0_0 l0_0.length c0_0, .slice A0_1 l0_1.length c0_1, .slice A0_2 l0_2.length c0_2, .int .i64 a0_3, .bool a0_4, .int .i64 a0_5, .int .i64 a0_6], .int .i64 1048576] rfl gl ?_; (with_reducible refine (laws_szState.calls k _ _ l0_0 _ _ l0_1 _ _ l0_2 a0_3 a0_4 a0_5 a0_6 1048576 t213 _ ?side1 ?side2 ?side3 ?side4 ?side5 ?side6 A3.out).mono ?_); (case side1 => exact cc (Kd.C_below HR0_0.out HB.out)); (case side2 => exact HC0_0.out); (case side3 => exact cc (Kd.C_below HR0_1.out HB.out)); (case side4 => exact HC0_1.out); (case side5 => exact cc (Kd.C_below HR0_2.out HB.out)); (case side6 => exact HC0_2.out); rintro e w9 ⟨rfl, hb⟩; refine ⟨_, rfl, ?_⟩; replace BK211 := am (blk_below (g := gb211) (o := .cells #[.slice A0_0 l0_0.length c0_0, .slice A0_1 l0_1.length c0_1, .slice A0_2 l0_2.length c0_2, .int .i64 a0_3, .bool a0_4, .int .i64 a0_5, .int .i64 a0_6] 62 (0, 0)) (bp BK211) hb); replace BK212 := am (blk_below (g := gb212) (o := .cells #[.slice A1_0 l1_0.length c1_0, .slice A1_1 l1_1.length c1_1, .slice A1_2 l1_2.length c1_2, .int .i64 a1_3, .bool a1_4, .int .i64 a1_5, .int .i64 a1_6] 62 (0, 0)) (bp BK212) hb); replace HB := am (below_step (bw HB) hb); (try clear hb); (try clear hb2); (try clear hk); (try clear hi)))
  go_ret
  exact ⟨er, bw HB⟩
 ·rw [if_neg c4] at H
  have c4b0 := decide_eq_false c4
  clear c4
  replace H := Option.bind_eq_some_iff.mp H
  obtain ⟨t214, A100, H⟩ := H
  replace H : (if t214 < 0 then (some true) else ((laws_toState.f k l0_0 l0_1 l0_2 a0_3 a0_4 a0_5 a0_6).bind fun bt215 => ((laws_toState.f k l1_0 l1_1 l1_2 a1_3 a1_4 a1_5 a1_6).bind fun bt228 => ((spec_StateSame.f k bt215.1 bt215.2.1 bt215.2.2.1 bt215.2.2.2.1 bt215.2.2.2.2.1 bt215.2.2.2.2.2.1 bt215.2.2.2.2.2.2 bt228.1 bt228.2.1 bt228.2.2.1 bt228.2.2.2.1 bt228.2.2.2.2.1 bt228.2.2.2.2.2.1 bt228.2.2.2.2.2.2).bind fun t241 => ((laws_toState.f k l0_0 l0_1 l0_2 a0_3 a0_4 a0_5 a0_6).bind fun bt242 => ((laws_toState.f k l1_0 l1_1 l1_2 a1_3 a1_4 a1_5 a1_6).bind fun bt256 => ((impl_StateSame.f k bt242.1 bt242.2.1 bt242.2.2.1 bt242.2.2.2.1 bt242.2.2.2.2.1 bt242.2.2.2.2.2.1 bt242.2.2.2.2.2.2 bt256.1 bt256.2.1 bt256.2.2.1 bt256.2.2.2.1 bt256.2.2.2.2.1 bt256.2.2.2.2.2.1 bt256.2.2.2.2.2.2).bind fun t270 => (if (t270 != t241) = true then (some false) else ((laws_toState.f k l0_0 l0_1 l0_2 a0_3 a0_4 a0_5 a0_6).bind fun bt271 => ((laws_eqState.f k bt242.1 bt242.2.1 bt242.2.2.1 bt242.2.2.2.1 bt242.2.2.2.2.1 bt242.2.2.2.2.2.1 bt242.2.2.2.2.2.2 bt271.1 bt271.2.1 bt271.2.2.1 bt271.2.2.2.1 bt271.2.2.2.2.1 bt271.2.2.2.2.2.1 bt271.2.2.2.2.2.2).bind fun t284 => (if t284 = true then ((laws_toState.f k l1_0 l1_1 l1_2 a1_3 a1_4 a1_5 a1_6).bind fun bt285 => ((laws_eqState.f k bt256.1 bt256.2.1 bt256.2.2.1 bt256.2.2.2.1 bt256.2.2.2.2.1 bt256.2.2.2.2.2.1 bt256.2.2.2.2.2.2 bt285.1 bt285.2.1 bt285.2.2.1 bt285.2.2.2.1 bt285.2.2.2.2.1 bt285.2.2.2.2.2.1 bt285.2.2.2.2.2.2).bind fun t298 => (if t298 = true then (some true) else (some false)))) else (some false)))))))))))) = some r := H
  have A10 := am A100
  clear A100
  have HC11 := am H
  clear H
  go_enter Try.func11, Try.ntmps11
  go_upto_region 5 with (first | ((with_reducible refine gate_dst (N := 2) rfl ?_); refine box_event ?hg (N := 2) ?hd (cs := #[.slice A0_0 l0_0.length c0_0, .slice A0_1 l0_1.length c0_1, .slice A0_2 l0_2.length c0_2, .int .i64 a0_3, .bool a0_4, .int .i64 a0_5, .int .i64 a0_6]) (t := 62) ?hr ?_; (case hd => rfl); (case hg => rfl); (case hr => exact gs); intro gb211 hg w12 hbox hb; have BK211 := am (hbox); have GW211 := am ((by rw [hg]; exact (below_size (bw HB)) : w.heap.size ≤ gb211)); have GE211 := am ((by rw [hg]; exact (below_size (bw HB)) : w.heap.size ≤ gb211)); replace HB := am (below_step (bw HB) hb); clear hb hbox hg) | ((with_reducible refine gate_dst (N := 3) rfl ?_); refine box_event ?hg (N := 3) ?hd (cs := #[.slice A1_0 l1_0.length c1_0, .slice A1_1 l1_1.length c1_1, .slice A1_2 l1_2.length c1_2, .int .i64 a1_3, .bool a1_4, .int .i64 a1_5, .int .i64 a1_6]) (t := 62) ?hr ?_; (case hd => rfl); (case hg => rfl); (case hr => exact gs); intro gb212 hg w13 hbox hb; have BK212 := am (hbox); have GW212 := am ((by rw [hg]; exact (below_size (bw HB)) : w.heap.size ≤ gb212)); have GE212 := am ((by rw [hg]; exact (below_size (bw HB)) : w.heap.size ≤ gb212)); replace HB := am (below_step (bw HB) hb); have NB211_212 := am ((by rw [hg]; exact Nat.ne_of_lt (blk_lt (g := gb211) (o := .cells #[.slice A0_0 l0_0.length c0_0, .slice A0_1 l0_1.length c0_1, .slice A0_2 l0_2.length c0_2, .int .i64 a0_3, .bool a0_4, .int .i64 a0_5, .int .i64 a0_6] 62 (0, 0)) (bp BK211)) : gb211 ≠ gb212)); have NB212_211 := am ((by rw [hg]; exact Nat.ne_of_gt (blk_lt (g := gb211) (o := .cells #[.slice A0_0 l0_0.length c0_0, .slice A0_1 l0_1.length c0_1, .slice A0_2 l0_2.length c0_2, .int .i64 a0_3, .bool a0_4, .int .i64 a0_5, .int .i64 a0_6] 62 (0, 0)) (bp BK211)) : gb212 ≠ gb211)); replace BK211 := am (blk_below (g := gb211) (o := .cells #[.slice A0_0 l0_0.length c0_0, .slice A0_1 l0_1.length c0_1, .slice A0_2 l0_2.length c0_2, .int .i64 a0_3, .bool a0_4, .int .i64 a0_5, .int .i64 a0_6] 62 (0, 0)) (bp BK211) hb); clear hb hbox hg; have hnb14 := NB211_212.out; have hnc14 := NB212_211.out; have hcz15_0 : w13.cell? ⟨gb211, 0, none⟩ = some (.slice A0_0 l0_0.length c0_0) := bc BK211 0; have hcz15_1 : w13.cell? ⟨gb211, 1, none⟩ = some (.slice A0_1 l0_1.length c0_1) := bc BK211 1; have hcz15_2 : w13.cell? ⟨gb211, 2, none⟩ = some (.slice A0_2 l0_2.length c0_2) := bc BK211 2; have hcz15_3 : w13.cell? ⟨gb211, 3, none⟩ = some (.int .i64 a0_3) := bc BK211 3; have hcz15_4 : w13.cell? ⟨gb211, 4, none⟩ = some (.bool a0_4) := bc BK211 4; have hcz15_5 : w13.cell? ⟨gb211, 5, none⟩ = some (.int .i64 a0_5) := bc BK211 5; have hcz15_6 : w13.cell? ⟨gb211, 6, none⟩ = some (.int .i64 a0_6) := bc BK211 6; have hfz15_0 := bf BK211 0; have hfz15_1 := bf BK211 1; have hfz15_2 := bf BK211 2; have hfz15_3 := bf BK211 3; have hfz15_4 := bf BK211 4; have hfz15_5 := bf BK211 5; have hfz15_6 := bf BK211 6) | ((with_reducible refine gate_callee (f := 42) rfl ?_); refine goesL_ (some 12) rfl rfl Try.func42 (by kernel_rfl) rfl #[.agg #[.slice A0_0 l0_0.length c0_0, .slice A0_1 l0_1.length c0_1, .slice A0_2 l0_2.length c0_2, .int .i64 a0_3, .bool a0_4, .int .i64 a0_5, .int .i64 a0_6], .int .i64 1048576] rfl gl ?_; (with_reducible refine (laws_szState.calls k _ _ l0_0 _ _ l0_1 _ _ l0_2 a0_3 a0_4 a0_5 a0_6 1048576 t213 _ ?side1 ?side2 ?side3 ?side4 ?side5 ?side6 A3.out).mono ?_); (case side1 => exact cc (Kd.C_below HR0_0.out HB.out)); (case side2 => exact HC0_0.out); (case side3 => exact cc (Kd.C_below HR0_1.out HB.out)); (case side4 => exact HC0_1.out); (case side5 => exact cc (Kd.C_below HR0_2.out HB.out)); (case side6 => exact HC0_2.out); rintro e w16 ⟨rfl, hb⟩; refine ⟨_, rfl, ?_⟩; replace BK211 := am (blk_below (g := gb211) (o := .cells #[.slice A0_0 l0_0.length c0_0, .slice A0_1 l0_1.length c0_1, .slice A0_2 l0_2.length c0_2, .int .i64 a0_3, .bool a0_4, .int .i64 a0_5, .int .i64 a0_6] 62 (0, 0)) (bp BK211) hb); replace BK212 := am (blk_below (g := gb212) (o := .cells #[.slice A1_0 l1_0.length c1_0, .slice A1_1 l1_1.length c1_1, .slice A1_2 l1_2.length c1_2, .int .i64 a1_3, .bool a1_4, .int .i64 a1_5, .int .i64 a1_6] 62 (0, 0)) (bp BK212) hb); replace HB := am (below_step (bw HB) hb); (try clear hb); (try clear hb2); (try clear hk); (try clear hi)))
  (try simp only [Act.put, sa, sz, ss])
  have H := HC11.out
  clear HC11
  by_cases c17 : t214 < 0
  ·rw [if_pos c17] at H
   have c17b0 := decide_eq_true c17
   clear c17
   obtain rfl := Option.some.inj H
   have hnb18 := NB212_211.out
   have hnc18 := NB211_212.out
   have hcz19_0 : w16.cell? ⟨gb212, 0, none⟩ = some (.slice A1_0 l1_0.length c1_0) := bc BK212 0
   have hcz19_1 : w16.cell? ⟨gb212, 1, none⟩ = some (.slice A1_1 l1_1.length c1_1) := bc BK212 1
   have hcz19_2 : w16.cell? ⟨gb212, 2, none⟩ = some (.slice A1_2 l1_2.length c1_2) := bc BK212 2
   have hcz19_3 : w16.cell? ⟨gb212, 3, none⟩ = some (.int .i64 a1_3) := bc BK212 3
   have hcz19_4 : w16.cell? ⟨gb212, 4, none⟩ = some (.bool a1_4) := bc BK212 4
   have hcz19_5 : w16.cell? ⟨gb212, 5, none⟩ = some (.int .i64 a1_5) := bc BK212 5
   have hcz19_6 : w16.cell? ⟨gb212, 6, none⟩ = some (.int .i64 a1_6) := bc BK212 6
   have hfz19_0 := bf BK212 0
   have hfz19_1 := bf BK212 1
   have hfz19_2 := bf BK212 2
   have hfz19_3 := bf BK212 3
   have hfz19_4 := bf BK212 4
   have hfz19_5 := bf BK212 5
   have hfz19_6 := bf BK212 6
   go_wp2_with (first | ((with_reducible refine gate_callee (f := 42) rfl ?_); refine goesL_ (some 17) rfl rfl Try.func42 (by kernel_rfl) rfl #[.agg #[.slice A1_0 l1_0.length c1_0, .slice A1_1 l1_1.length c1_1, .slice A1_2 l1_2.length c1_2, .int .i64 a1_3, .bool a1_4, .int .i64 a1_5, .int .i64 a1_6], .int .i64 t213] rfl gl ?_; (with_reducible refine (laws_szState.calls k _ _ l1_0 _ _ l1_1 _ _ l1_2 a1_3 a1_4 a1_5 a1_6 t213 t214 _ ?side1 ?side2 ?side3 ?side4 ?side5 ?side6 A10.out).mono ?_); (case side1 => exact cc (Kd.C_below HR1_0.out HB.out)); (case side2 => exact HC1_0.out); (case side3 => exact cc (Kd.C_below HR1_1.out HB.out)); (case side4 => exact HC1_1.out); (case side5 => exact cc (Kd.C_below HR1_2.out HB.out)); (case side6 => exact HC1_2.out); rintro e w20 ⟨rfl, hb⟩; refine ⟨_, rfl, ?_⟩; replace BK211 := am (blk_below (g := gb211) (o := .cells #[.slice A0_0 l0_0.length c0_0, .slice A0_1 l0_1.length c0_1, .slice A0_2 l0_2.length c0_2, .int .i64 a0_3, .bool a0_4, .int .i64 a0_5, .int .i64 a0_6] 62 (0, 0)) (bp BK211) hb); replace BK212 := am (blk_below (g := gb212) (o := .cells #[.slice A1_0 l1_0.length c1_0, .slice A1_1 l1_1.length c1_1, .slice A1_2 l1_2.length c1_2, .int .i64 a1_3, .bool a1_4, .int .i64 a1_5, .int .i64 a1_6] 62 (0, 0)) (bp BK212) hb); replace HB := am (below_step (bw HB) hb); (try clear hb); (try clear hb2); (try clear hk); (try clear hi)))
   go_ret
   exact ⟨er, bw HB⟩
  ·rw [if_neg c17] at H
   have c17b0 := decide_eq_false c17
   clear c17
   replace H := Option.bind_eq_some_iff.mp H
   obtain ⟨⟨t215, t218, t221, t224, t225, t226, t227⟩, A210, H⟩ := H
   replace H : ((laws_toState.f k l1_0 l1_1 l1_2 a1_3 a1_4 a1_5 a1_6).bind fun bt228 => ((spec_StateSame.f k t215 t218 t221 t224 t225 t226 t227 bt228.1 bt228.2.1 bt228.2.2.1 bt228.2.2.2.1 bt228.2.2.2.2.1 bt228.2.2.2.2.2.1 bt228.2.2.2.2.2.2).bind fun t241 => ((laws_toState.f k l0_0 l0_1 l0_2 a0_3 a0_4 a0_5 a0_6).bind fun bt242 => ((laws_toState.f k l1_0 l1_1 l1_2 a1_3 a1_4 a1_5 a1_6).bind fun bt256 => ((impl_StateSame.f k bt242.1 bt242.2.1 bt242.2.2.1 bt242.2.2.2.1 bt242.2.2.2.2.1 bt242.2.2.2.2.2.1 bt242.2.2.2.2.2.2 bt256.1 bt256.2.1 bt256.2.2.1 bt256.2.2.2.1 bt256.2.2.2.2.1 bt256.2.2.2.2.2.1 bt256.2.2.2.2.2.2).bind fun t270 => (if (t270 != t241) = true then (some false) else ((laws_toState.f k l0_0 l0_1 l0_2 a0_3 a0_4 a0_5 a0_6).bind fun bt271 => ((laws_eqState.f k bt242.1 bt242.2.1 bt242.2.2.1 bt242.2.2.2.1 bt242.2.2.2.2.1 bt242.2.2.2.2.2.1 bt242.2.2.2.2.2.2 bt271.1 bt271.2.1 bt271.2.2.1 bt271.2.2.2.1 bt271.2.2.2.2.1 bt271.2.2.2.2.2.1 bt271.2.2.2.2.2.2).bind fun t284 => (if t284 = true then ((laws_toState.f k l1_0 l1_1 l1_2 a1_3 a1_4 a1_5 a1_6).bind fun bt285 => ((laws_eqState.f k bt256.1 bt256.2.1 bt256.2.2.1 bt256.2.2.2.1 bt256.2.2.2.2.1 bt256.2.2.2.2.2.1 bt256.2.2.2.2.2.2 bt285.1 bt285.2.1 bt285.2.2.1 bt285.2.2.2.1 bt285.2.2.2.2.1 bt285.2.2.2.2.2.1 bt285.2.2.2.2.2.2).bind fun t298 => (if t298 = true then (some true) else (some false)))) else (some false)))))))))) = some r := H
   have A21 := am A210
   clear A210
   replace H := Option.bind_eq_some_iff.mp H
   obtain ⟨⟨t228, t231, t234, t237, t238, t239, t240⟩, A220, H⟩ := H
   replace H : ((spec_StateSame.f k t215 t218 t221 t224 t225 t226 t227 t228 t231 t234 t237 t238 t239 t240).bind fun t241 => ((laws_toState.f k l0_0 l0_1 l0_2 a0_3 a0_4 a0_5 a0_6).bind fun bt242 => ((laws_toState.f k l1_0 l1_1 l1_2 a1_3 a1_4 a1_5 a1_6).bind fun bt256 => ((impl_StateSame.f k bt242.1 bt242.2.1 bt242.2.2.1 bt242.2.2.2.1 bt242.2.2.2.2.1 bt242.2.2.2.2.2.1 bt242.2.2.2.2.2.2 bt256.1 bt256.2.1 bt256.2.2.1 bt256.2.2.2.1 bt256.2.2.2.2.1 bt256.2.2.2.2.2.1 bt256.2.2.2.2.2.2).bind fun t270 => (if (t270 != t241) = true then (some false) else ((laws_toState.f k l0_0 l0_1 l0_2 a0_3 a0_4 a0_5 a0_6).bind fun bt271 => ((laws_eqState.f k bt242.1 bt242.2.1 bt242.2.2.1 bt242.2.2.2.1 bt242.2.2.2.2.1 bt242.2.2.2.2.2.1 bt242.2.2.2.2.2.2 bt271.1 bt271.2.1 bt271.2.2.1 bt271.2.2.2.1 bt271.2.2.2.2.1 bt271.2.2.2.2.2.1 bt271.2.2.2.2.2.2).bind fun t284 => (if t284 = true then ((laws_toState.f k l1_0 l1_1 l1_2 a1_3 a1_4 a1_5 a1_6).bind fun bt285 => ((laws_eqState.f k bt256.1 bt256.2.1 bt256.2.2.1 bt256.2.2.2.1 bt256.2.2.2.2.1 bt256.2.2.2.2.2.1 bt256.2.2.2.2.2.2 bt285.1 bt285.2.1 bt285.2.2.1 bt285.2.2.2.1 bt285.2.2.2.2.1 bt285.2.2.2.2.2.1 bt285.2.2.2.2.2.2).bind fun t298 => (if t298 = true then (some true) else (some false)))) else (some false))))))))) = some r := H
   have A22 := am A220
   clear A220
   replace H := Option.bind_eq_some_iff.mp H
   obtain ⟨t241, A230, H⟩ := H
   replace H : ((laws_toState.f k l0_0 l0_1 l0_2 a0_3 a0_4 a0_5 a0_6).bind fun bt242 => ((laws_toState.f k l1_0 l1_1 l1_2 a1_3 a1_4 a1_5 a1_6).bind fun bt256 => ((impl_StateSame.f k bt242.1 bt242.2.1 bt242.2.2.1 bt242.2.2.2.1 bt242.2.2.2.2.1 bt242.2.2.2.2.2.1 bt242.2.2.2.2.2.2 bt256.1 bt256.2.1 bt256.2.2.1 bt256.2.2.2.1 bt256.2.2.2.2.1 bt256.2.2.2.2.2.1 bt256.2.2.2.2.2.2).bind fun t270 => (if (t270 != t241) = true then (some false) else ((laws_toState.f k l0_0 l0_1 l0_2 a0_3 a0_4 a0_5 a0_6).bind fun bt271 => ((laws_eqState.f k bt242.1 bt242.2.1 bt242.2.2.1 bt242.2.2.2.1 bt242.2.2.2.2.1 bt242.2.2.2.2.2.1 bt242.2.2.2.2.2.2 bt271.1 bt271.2.1 bt271.2.2.1 bt271.2.2.2.1 bt271.2.2.2.2.1 bt271.2.2.2.2.2.1 bt271.2.2.2.2.2.2).bind fun t284 => (if t284 = true then ((laws_toState.f k l1_0 l1_1 l1_2 a1_3 a1_4 a1_5 a1_6).bind fun bt285 => ((laws_eqState.f k bt256.1 bt256.2.1 bt256.2.2.1 bt256.2.2.2.1 bt256.2.2.2.2.1 bt256.2.2.2.2.2.1 bt256.2.2.2.2.2.2 bt285.1 bt285.2.1 bt285.2.2.1 bt285.2.2.2.1 bt285.2.2.2.2.1 bt285.2.2.2.2.2.1 bt285.2.2.2.2.2.2).bind fun t298 => (if t298 = true then (some true) else (some false)))) else (some false)))))))) = some r := H
   have A23 := am A230
   clear A230
   replace H := Option.bind_eq_some_iff.mp H
   obtain ⟨⟨t242, t245, t248, t251, t252, t253, t254⟩, A240, H⟩ := H
   replace H : ((laws_toState.f k l1_0 l1_1 l1_2 a1_3 a1_4 a1_5 a1_6).bind fun bt256 => ((impl_StateSame.f k t242 t245 t248 t251 t252 t253 t254 bt256.1 bt256.2.1 bt256.2.2.1 bt256.2.2.2.1 bt256.2.2.2.2.1 bt256.2.2.2.2.2.1 bt256.2.2.2.2.2.2).bind fun t270 => (if (t270 != t241) = true then (some false) else ((laws_toState.f k l0_0 l0_1 l0_2 a0_3 a0_4 a0_5 a0_6).bind fun bt271 => ((laws_eqState.f k t242 t245 t248 t251 t252 t253 t254 bt271.1 bt271.2.1 bt271.2.2.1 bt271.2.2.2.1 bt271.2.2.2.2.1 bt271.2.2.2.2.2.1 bt271.2.2.2.2.2.2).bind fun t284 => (if t284 = true then ((laws_toState.f k l1_0 l1_1 l1_2 a1_3 a1_4 a1_5 a1_6).bind fun bt285 => ((laws_eqState.f k bt256.1 bt256.2.1 bt256.2.2.1 bt256.2.2.2.1 bt256.2.2.2.2.1 bt256.2.2.2.2.2.1 bt256.2.2.2.2.2.2 bt285.1 bt285.2.1 bt285.2.2.1 bt285.2.2.2.1 bt285.2.2.2.2.1 bt285.2.2.2.2.2.1 bt285.2.2.2.2.2.2).bind fun t298 => (if t298 = true then (some true) else (some false)))) else (some false))))))) = some r := H
   have A24 := am A240
   clear A240
   replace H := Option.bind_eq_some_iff.mp H
   obtain ⟨⟨t256, t259, t262, t265, t266, t267, t268⟩, A250, H⟩ := H
   replace H : ((impl_StateSame.f k t242 t245 t248 t251 t252 t253 t254 t256 t259 t262 t265 t266 t267 t268).bind fun t270 => (if (t270 != t241) = true then (some false) else ((laws_toState.f k l0_0 l0_1 l0_2 a0_3 a0_4 a0_5 a0_6).bind fun bt271 => ((laws_eqState.f k t242 t245 t248 t251 t252 t253 t254 bt271.1 bt271.2.1 bt271.2.2.1 bt271.2.2.2.1 bt271.2.2.2.2.1 bt271.2.2.2.2.2.1 bt271.2.2.2.2.2.2).bind fun t284 => (if t284 = true then ((laws_toState.f k l1_0 l1_1 l1_2 a1_3 a1_4 a1_5 a1_6).bind fun bt285 => ((laws_eqState.f k t256 t259 t262 t265 t266 t267 t268 bt285.1 bt285.2.1 bt285.2.2.1 bt285.2.2.2.1 bt285.2.2.2.2.1 bt285.2.2.2.2.2.1 bt285.2.2.2.2.2.2).bind fun t298 => (if t298 = true then (some true) else (some false)))) else (some false)))))) = some r := H
   have A25 := am A250
   clear A250
   replace H := Option.bind_eq_some_iff.mp H
   obtain ⟨t270, A260, H⟩ := H
   replace H : (if (t270 != t241) = true then (some false) else ((laws_toState.f k l0_0 l0_1 l0_2 a0_3 a0_4 a0_5 a0_6).bind fun bt271 => ((laws_eqState.f k t242 t245 t248 t251 t252 t253 t254 bt271.1 bt271.2.1 bt271.2.2.1 bt271.2.2.2.1 bt271.2.2.2.2.1 bt271.2.2.2.2.2.1 bt271.2.2.2.2.2.2).bind fun t284 => (if t284 = true then ((laws_toState.f k l1_0 l1_1 l1_2 a1_3 a1_4 a1_5 a1_6).bind fun bt285 => ((laws_eqState.f k t256 t259 t262 t265 t266 t267 t268 bt285.1 bt285.2.1 bt285.2.2.1 bt285.2.2.2.1 bt285.2.2.2.2.1 bt285.2.2.2.2.2.1 bt285.2.2.2.2.2.2).bind fun t298 => (if t298 = true then (some true) else (some false)))) else (some false))))) = some r := H
   have A26 := am A260
   clear A260
   have HC27 := am H
   clear H
   have hnb28 := NB212_211.out
   have hnc28 := NB211_212.out
   have hcz29_0 : w16.cell? ⟨gb212, 0, none⟩ = some (.slice A1_0 l1_0.length c1_0) := bc BK212 0
   have hcz29_1 : w16.cell? ⟨gb212, 1, none⟩ = some (.slice A1_1 l1_1.length c1_1) := bc BK212 1
   have hcz29_2 : w16.cell? ⟨gb212, 2, none⟩ = some (.slice A1_2 l1_2.length c1_2) := bc BK212 2
   have hcz29_3 : w16.cell? ⟨gb212, 3, none⟩ = some (.int .i64 a1_3) := bc BK212 3
   have hcz29_4 : w16.cell? ⟨gb212, 4, none⟩ = some (.bool a1_4) := bc BK212 4
   have hcz29_5 : w16.cell? ⟨gb212, 5, none⟩ = some (.int .i64 a1_5) := bc BK212 5
   have hcz29_6 : w16.cell? ⟨gb212, 6, none⟩ = some (.int .i64 a1_6) := bc BK212 6
   have hfz29_0 := bf BK212 0
   have hfz29_1 := bf BK212 1
   have hfz29_2 := bf BK212 2
   have hfz29_3 := bf BK212 3
   have hfz29_4 := bf BK212 4
   have hfz29_5 := bf BK212 5
   have hfz29_6 := bf BK212 6
   try go_wp2_with (first | ((with_reducible refine gate_callee (f := 42) rfl ?_); refine goesL_ (some 17) rfl rfl Try.func42 (by kernel_rfl) rfl #[.agg #[.slice A1_0 l1_0.length c1_0, .slice A1_1 l1_1.length c1_1, .slice A1_2 l1_2.length c1_2, .int .i64 a1_3, .bool a1_4, .int .i64 a1_5, .int .i64 a1_6], .int .i64 t213] rfl gl ?_; (with_reducible refine (laws_szState.calls k _ _ l1_0 _ _ l1_1 _ _ l1_2 a1_3 a1_4 a1_5 a1_6 t213 t214 _ ?side1 ?side2 ?side3 ?side4 ?side5 ?side6 A10.out).mono ?_); (case side1 => exact cc (Kd.C_below HR1_0.out HB.out)); (case side2 => exact HC1_0.out); (case side3 => exact cc (Kd.C_below HR1_1.out HB.out)); (case side4 => exact HC1_1.out); (case side5 => exact cc (Kd.C_below HR1_2.out HB.out)); (case side6 => exact HC1_2.out); rintro e w30 ⟨rfl, hb⟩; refine ⟨_, rfl, ?_⟩; replace BK211 := am (blk_below (g := gb211) (o := .cells #[.slice A0_0 l0_0.length c0_0, .slice A0_1 l0_1.length c0_1, .slice A0_2 l0_2.length c0_2, .int .i64 a0_3, .bool a0_4, .int .i64 a0_5, .int .i64 a0_6] 62 (0, 0)) (bp BK211) hb); replace BK212 := am (blk_below (g := gb212) (o := .cells #[.slice A1_0 l1_0.length c1_0, .slice A1_1 l1_1.length c1_1, .slice A1_2 l1_2.length c1_2, .int .i64 a1_3, .bool a1_4, .int .i64 a1_5, .int .i64 a1_6] 62 (0, 0)) (bp BK212) hb); replace HB := am (below_step (bw HB) hb); (try clear hb); (try clear hb2); (try clear hk); (try clear hi)))
   have n0_ := am (blk_drew BK211.out)
   have n1_ := am (blk_drew BK212.out)
   have n2_ := am (below_drew1 HB.out)
   clear BK211
   clear BK212
   clear HB
   have BK211 := n0_
   have BK212 := n1_
   have HB := n2_
   clear n0_ n1_ n2_
   refine start_ (n := 6) (S := fun w' => w'.cell? ⟨gb211, 0, none⟩ = some (.slice A0_0 l0_0.length c0_0) ∧ w'.cell? ⟨gb211, 1, none⟩ = some (.slice A0_1 l0_1.length c0_1) ∧ w'.cell? ⟨gb211, 2, none⟩ = some (.slice A0_2 l0_2.length c0_2) ∧ w'.cell? ⟨gb211, 3, none⟩ = some (.int .i64 a0_3) ∧ w'.cell? ⟨gb211, 4, none⟩ = some (.bool a0_4) ∧ w'.cell? ⟨gb211, 5, none⟩ = some (.int .i64 a0_5) ∧ w'.cell? ⟨gb211, 6, none⟩ = some (.int .i64 a0_6) ∧ w'.cell? ⟨gb212, 0, none⟩ = some (.slice A1_0 l1_0.length c1_0) ∧ w'.cell? ⟨gb212, 1, none⟩ = some (.slice A1_1 l1_1.length c1_1) ∧ w'.cell? ⟨gb212, 2, none⟩ = some (.slice A1_2 l1_2.length c1_2) ∧ w'.cell? ⟨gb212, 3, none⟩ = some (.int .i64 a1_3) ∧ w'.cell? ⟨gb212, 4, none⟩ = some (.bool a1_4) ∧ w'.cell? ⟨gb212, 5, none⟩ = some (.int .i64 a1_5) ∧ w'.cell? ⟨gb212, 6, none⟩ = some (.int .i64 a1_6)) (ds := []) #[false, false, false, false, false, false] (by kernel_rfl) rfl rfl ⟨bc BK211 0, bc BK211 1, bc BK211 2, bc BK211 3, bc BK211 4, bc BK211 5, bc BK211 6, bc BK212 0, bc BK212 1, bc BK212 2, bc BK212 3, bc BK212 4, bc BK212 5, bc BK212 6⟩ (fun hHeld => ?_)
   generalize w30.drew = w31 at BK211 BK212 HB hHeld ⊢
   refine take_ (i := 0) (N := some 20) (v := ?_) (a' := ?_) #[true, false, false, false, false, false] rfl rfl (by kernel_rfl) (fun _ _ _ h => h) (Or.inl ⟨by rfl, ?_⟩) hHeld ?_ ?_
   rotate_left
   ·rintro w' ⟨s0, s1, s2, s3, s4, s5, s6, s7, s8, s9, s10, s11, s12, s13⟩
    go_simp
    with_reducible rfl
   rotate_left
   ·simp only [Act.put, sa, sz, ss, i64_w, i32_w]
    rfl
   refine take_ (i := 2) (N := some 22) (v := ?_) (a' := ?_) #[true, false, true, false, false, false] rfl rfl (by kernel_rfl) (fun _ _ _ h => h) (Or.inl ⟨by rfl, ?_⟩) hHeld ?_ ?_
   rotate_left
   ·rintro w' ⟨s0, s1, s2, s3, s4, s5, s6, s7, s8, s9, s10, s11, s12, s13⟩
    go_simp
    with_reducible rfl
   rotate_left
   ·simp only [Act.put, sa, sz, ss, i64_w, i32_w]
    rfl
   refine one_ (i := 1) (N := some 21) #[true, true, true, false, false, false] rfl rfl (by kernel_rfl) (by decide) (fun K hK => ?_)
   refine goes_ Try.func44 (by kernel_rfl) rfl #[.agg #[.slice A0_0 l0_0.length c0_0, .slice A0_1 l0_1.length c0_1, .slice A0_2 l0_2.length c0_2, .int .i64 a0_3, .bool a0_4, .int .i64 a0_5, .int .i64 a0_6]] (by rfl) rfl rfl gl ?_
   with_reducible refine (laws_toState.calls k _ _ l0_0 _ _ l0_1 _ _ l0_2 a0_3 a0_4 a0_5 a0_6 t215 t218 t221 t224 t225 t226 t227 _ ?side1 ?side2 ?side3 ?side4 ?side5 ?side6 A21.out).mono ?_
   (case side1 => exact cc (Kd.C_below HR0_0.out HB.out))
   (case side2 => exact HC0_0.out)
   (case side3 => exact cc (Kd.C_below HR0_1.out HB.out))
   (case side4 => exact HC0_1.out)
   (case side5 => exact cc (Kd.C_below HR0_2.out HB.out))
   (case side6 => exact HC0_2.out)
   rintro e w32 ⟨v216, v219, v222, rfl, ho0, ho1, ho2, hb⟩
   refine ⟨_, rfl, ?_⟩
   have n0_ := am (Kd.S_lower ho0 (below_size (bw HB)))
   have n1_ := am (Kd.S_lower ho1 (below_size (bw HB)))
   have n2_ := am (Kd.R_lower ho2 (below_size (bw HB)))
   have n3_ := am (blk_below (g := gb211) (o := .cells #[.slice A0_0 l0_0.length c0_0, .slice A0_1 l0_1.length c0_1, .slice A0_2 l0_2.length c0_2, .int .i64 a0_3, .bool a0_4, .int .i64 a0_5, .int .i64 a0_6] 62 (0, 0)) (bp BK211) hb)
   have n4_ := am (blk_below (g := gb212) (o := .cells #[.slice A1_0 l1_0.length c1_0, .slice A1_1 l1_1.length c1_1, .slice A1_2 l1_2.length c1_2, .int .i64 a1_3, .bool a1_4, .int .i64 a1_5, .int .i64 a1_6] 62 (0, 0)) (bp BK212) hb)
   have n5_ := am (below_step (bw HB) hb)
   clear BK211
   clear BK212
   clear HB
   have HO217 := n0_
   have HO220 := n1_
   have HO223 := n2_
   have BK211 := n3_
   have BK212 := n4_
   have HB := n5_
   clear n0_ n1_ n2_ n3_ n4_ n5_
   (try clear hb)
   (try clear hb2)
   (try clear hk)
   (try clear hi)
   (try clear ho0)
   (try clear ho1)
   (try clear ho2)
   refine hK.out _ _ ⟨bc BK211 0, bc BK211 1, bc BK211 2, bc BK211 3, bc BK211 4, bc BK211 5, bc BK211 6, bc BK212 0, bc BK212 1, bc BK212 2, bc BK212 3, bc BK212 4, bc BK212 5, bc BK212 6⟩ (fun hHeld => ?_)
   clear hK K
   refine norm_ (a' := ?_) ?_ ?_
   rotate_left
   ·show Act.put _ (some 21) _ = _
    simp only [Act.put, sa, sz, ss, i64_w, i32_w]
    rfl
   refine one_ (i := 3) (N := some 23) #[true, true, true, true, false, false] rfl rfl (by kernel_rfl) (by decide) (fun K hK => ?_)
   refine goes_ Try.func44 (by kernel_rfl) rfl #[.agg #[.slice A1_0 l1_0.length c1_0, .slice A1_1 l1_1.length c1_1, .slice A1_2 l1_2.length c1_2, .int .i64 a1_3, .bool a1_4, .int .i64 a1_5, .int .i64 a1_6]] (by rfl) rfl rfl gl ?_
   with_reducible refine (laws_toState.calls k _ _ l1_0 _ _ l1_1 _ _ l1_2 a1_3 a1_4 a1_5 a1_6 t228 t231 t234 t237 t238 t239 t240 _ ?side1 ?side2 ?side3 ?side4 ?side5 ?side6 A22.out).mono ?_
   (case side1 => exact cc (Kd.C_below HR1_0.out HB.out))
   (case side2 => exact HC1_0.out)
   (case side3 => exact cc (Kd.C_below HR1_1.out HB.out))
   (case side4 => exact HC1_1.out)
   (case side5 => exact cc (Kd.C_below HR1_2.out HB.out))
   (case side6 => exact HC1_2.out)
   rintro e w33 ⟨v229, v232, v235, rfl, ho0, ho1, ho2, hb⟩
   refine ⟨_, rfl, ?_⟩
   have n0_ := am (Kd.S_mono (Kd.S_told (Kd.S_told (Kd.S_old (kS HO217) hb) (Kd.S_base ho0)) (Kd.R_base ho2)) (fun _ h_ => h_.1))
   have n1_ := am (Kd.S_mono (Kd.S_told (Kd.S_told (Kd.S_old (kS HO220) hb) (Kd.S_base ho1)) (Kd.R_base ho2)) (fun _ h_ => h_.1))
   have n2_ := am (Kd.R_elder' (kR HO223) (Kd.R_base ho2) hb)
   have n3_ := am (Kd.S_lower (Kd.S_new' (Kd.S_new' ho0 (Kd.S_lt (kS HO217))) (Kd.R_lt (kR HO223))) (below_size (bw HB)))
   have n4_ := am (Kd.S_lower (Kd.S_new' (Kd.S_new' ho1 (Kd.S_lt (kS HO220))) (Kd.R_lt (kR HO223))) (below_size (bw HB)))
   have n5_ := am (Kd.R_lower (Kd.R_new' ho2 (Kd.R_lt (kR HO223))) (below_size (bw HB)))
   have n6_ := am (blk_below (g := gb211) (o := .cells #[.slice A0_0 l0_0.length c0_0, .slice A0_1 l0_1.length c0_1, .slice A0_2 l0_2.length c0_2, .int .i64 a0_3, .bool a0_4, .int .i64 a0_5, .int .i64 a0_6] 62 (0, 0)) (bp BK211) hb)
   have n7_ := am (blk_below (g := gb212) (o := .cells #[.slice A1_0 l1_0.length c1_0, .slice A1_1 l1_1.length c1_1, .slice A1_2 l1_2.length c1_2, .int .i64 a1_3, .bool a1_4, .int .i64 a1_5, .int .i64 a1_6] 62 (0, 0)) (bp BK212) hb)
   have n8_ := am (below_step (bw HB) hb)
   clear HO217
   clear HO220
   clear HO223
   clear BK211
   clear BK212
   clear HB
   have HO217 := n0_
   have HO220 := n1_
   have HO223 := n2_
   have HO230 := n3_
   have HO233 := n4_
   have HO236 := n5_
   have BK211 := n6_
   have BK212 := n7_
   have HB := n8_
   clear n0_ n1_ n2_ n3_ n4_ n5_ n6_ n7_ n8_
   (try clear hb)
   (try clear hb2)
   (try clear hk)
   (try clear hi)
   (try clear ho0)
   (try clear ho1)
   (try clear ho2)
   obtain ⟨Ao34, co34, eo34⟩ := Kd.S_slice HO217.out
   (first | subst eo34 | (injection eo34 with f1_ f2_ f3_; have f4_ := f1_.symm; have f5_ := f3_.symm; clear f1_ f2_ f3_; subst f4_; subst f5_))
   obtain ⟨Ao35, co35, eo35⟩ := Kd.S_slice HO220.out
   (first | subst eo35 | (injection eo35 with f1_ f2_ f3_; have f4_ := f1_.symm; have f5_ := f3_.symm; clear f1_ f2_ f3_; subst f4_; subst f5_))
   obtain ⟨Ao36, co36, eo36⟩ := Kd.R_slice HO223.out
   (first | subst eo36 | (injection eo36 with f1_ f2_ f3_; have f4_ := f1_.symm; have f5_ := f3_.symm; clear f1_ f2_ f3_; subst f4_; subst f5_))
   obtain ⟨Ao37, co37, eo37⟩ := Kd.S_slice HO230.out
   (first | subst eo37 | (injection eo37 with f1_ f2_ f3_; have f4_ := f1_.symm; have f5_ := f3_.symm; clear f1_ f2_ f3_; subst f4_; subst f5_))
   obtain ⟨Ao38, co38, eo38⟩ := Kd.S_slice HO233.out
   (first | subst eo38 | (injection eo38 with f1_ f2_ f3_; have f4_ := f1_.symm; have f5_ := f3_.symm; clear f1_ f2_ f3_; subst f4_; subst f5_))
   obtain ⟨Ao39, co39, eo39⟩ := Kd.R_slice HO236.out
   (first | subst eo39 | (injection eo39 with f1_ f2_ f3_; have f4_ := f1_.symm; have f5_ := f3_.symm; clear f1_ f2_ f3_; subst f4_; subst f5_))
   refine hK.out _ _ ⟨bc BK211 0, bc BK211 1, bc BK211 2, bc BK211 3, bc BK211 4, bc BK211 5, bc BK211 6, bc BK212 0, bc BK212 1, bc BK212 2, bc BK212 3, bc BK212 4, bc BK212 5, bc BK212 6⟩ (fun hHeld => ?_)
   clear hK K
   refine norm_ (a' := ?_) ?_ ?_
   rotate_left
   ·show Act.put _ (some 23) _ = _
    simp only [Act.put, sa, sz, ss, i64_w, i32_w]
    rfl
   refine one_ (i := 4) (N := some 24) #[true, true, true, true, true, false] rfl rfl (by kernel_rfl) (by decide) (fun K hK => ?_)
   refine goes_ Try.func43 (by kernel_rfl) rfl #[.agg #[.slice Ao34 t215.length co34, .slice Ao35 t218.length co35, .slice Ao36 t221.length co36, .int .i64 t224, .bool t225, .int .i64 t226, .int .i64 t227], .agg #[.slice Ao37 t228.length co37, .slice Ao38 t231.length co38, .slice Ao39 t234.length co39, .int .i64 t237, .bool t238, .int .i64 t239, .int .i64 t240]] (by rfl) rfl rfl gl ?_
   with_reducible refine (spec_StateSame.calls k _ _ t215 _ _ t218 _ _ t221 t224 t225 t226 t227 _ _ t228 _ _ t231 _ _ t234 t237 t238 t239 t240 t241 _ ?side1 ?side2 ?side3 ?side4 ?side5 ?side6 ?side7 ?side8 ?side9 ?side10 ?side11 ?side12 A23.out).mono ?_
   (case side1 => exact cc (Kd.S_reads' HO217.out).2.2)
   (case side2 => exact (Kd.S_reads' HO217.out).2.1)
   (case side3 => exact cc (Kd.S_reads' HO220.out).2.2)
   (case side4 => exact (Kd.S_reads' HO220.out).2.1)
   (case side5 => exact cc (Kd.R_reads' HO223.out).2.2)
   (case side6 => exact (Kd.R_reads' HO223.out).2.1)
   (case side7 => exact cc (Kd.S_reads' HO230.out).2.2)
   (case side8 => exact (Kd.S_reads' HO230.out).2.1)
   (case side9 => exact cc (Kd.S_reads' HO233.out).2.2)
   (case side10 => exact (Kd.S_reads' HO233.out).2.1)
   (case side11 => exact cc (Kd.R_reads' HO236.out).2.2)
   (case side12 => exact (Kd.R_reads' HO236.out).2.1)
   rintro e w40 ⟨rfl, hb⟩
   refine ⟨_, rfl, ?_⟩
   have n0_ := am (Kd.S_below (kS HO217) hb)
   have n1_ := am (Kd.S_below (kS HO220) hb)
   have n2_ := am (Kd.R_below (kR HO223) hb)
   have n3_ := am (Kd.S_below (kS HO230) hb)
   have n4_ := am (Kd.S_below (kS HO233) hb)
   have n5_ := am (Kd.R_below (kR HO236) hb)
   have n6_ := am (blk_below (g := gb211) (o := .cells #[.slice A0_0 l0_0.length c0_0, .slice A0_1 l0_1.length c0_1, .slice A0_2 l0_2.length c0_2, .int .i64 a0_3, .bool a0_4, .int .i64 a0_5, .int .i64 a0_6] 62 (0, 0)) (bp BK211) hb)
   have n7_ := am (blk_below (g := gb212) (o := .cells #[.slice A1_0 l1_0.length c1_0, .slice A1_1 l1_1.length c1_1, .slice A1_2 l1_2.length c1_2, .int .i64 a1_3, .bool a1_4, .int .i64 a1_5, .int .i64 a1_6] 62 (0, 0)) (bp BK212) hb)
   have n8_ := am (below_step (bw HB) hb)
   clear HO217
   clear HO220
   clear HO223
   clear HO230
   clear HO233
   clear HO236
   clear BK211
   clear BK212
   clear HB
   have HO217 := n0_
   have HO220 := n1_
   have HO223 := n2_
   have HO230 := n3_
   have HO233 := n4_
   have HO236 := n5_
   have BK211 := n6_
   have BK212 := n7_
   have HB := n8_
   clear n0_ n1_ n2_ n3_ n4_ n5_ n6_ n7_ n8_
   (try clear hb)
   (try clear hb2)
   (try clear hk)
   (try clear hi)
   refine hK.out _ _ ⟨bc BK211 0, bc BK211 1, bc BK211 2, bc BK211 3, bc BK211 4, bc BK211 5, bc BK211 6, bc BK212 0, bc BK212 1, bc BK212 2, bc BK212 3, bc BK212 4, bc BK212 5, bc BK212 6⟩ (fun hHeld => ?_)
   clear hK K
   refine norm_ (a' := ?_) ?_ ?_
   rotate_left
   ·show Act.put _ (some 24) _ = _
    simp only [Act.put, sa, sz, ss, i64_w, i32_w]
    rfl
   refine pure_ (i := 5) (N := some 6) (v := ?_) (a' := ?_) #[true, true, true, true, true, true] rfl rfl (by kernel_rfl) (fun _ _ _ h => h) (Or.inl ⟨by rfl, ?_⟩) ?_ ?_
   rotate_left
   ·intro w'
    go_simp
    with_reducible rfl
   rotate_left
   ·simp only [Act.put, sa, sz, ss, i64_w, i32_w]
    rfl
   refine done_ (by kernel_rfl) ?_
   have hcz41_0 : w40.cell? ⟨gb211, 0, none⟩ = some (.slice A0_0 l0_0.length c0_0) := bc BK211 0
   have hcz41_1 : w40.cell? ⟨gb211, 1, none⟩ = some (.slice A0_1 l0_1.length c0_1) := bc BK211 1
   have hcz41_2 : w40.cell? ⟨gb211, 2, none⟩ = some (.slice A0_2 l0_2.length c0_2) := bc BK211 2
   have hcz41_3 : w40.cell? ⟨gb211, 3, none⟩ = some (.int .i64 a0_3) := bc BK211 3
   have hcz41_4 : w40.cell? ⟨gb211, 4, none⟩ = some (.bool a0_4) := bc BK211 4
   have hcz41_5 : w40.cell? ⟨gb211, 5, none⟩ = some (.int .i64 a0_5) := bc BK211 5
   have hcz41_6 : w40.cell? ⟨gb211, 6, none⟩ = some (.int .i64 a0_6) := bc BK211 6
   have hfz41_0 := bf BK211 0
   have hfz41_1 := bf BK211 1
   have hfz41_2 := bf BK211 2
   have hfz41_3 := bf BK211 3
   have hfz41_4 := bf BK211 4
   have hfz41_5 := bf BK211 5
   have hfz41_6 := bf BK211 6
   go_upto_region 11 with (first | ((with_reducible refine gate_callee (f := 44) rfl ?_); refine goesL_ (some 26) rfl rfl Try.func44 (by kernel_rfl) rfl #[.agg #[.slice A0_0 l0_0.length c0_0, .slice A0_1 l0_1.length c0_1, .slice A0_2 l0_2.length c0_2, .int .i64 a0_3, .bool a0_4, .int .i64 a0_5, .int .i64 a0_6]] rfl gl ?_; (with_reducible refine (laws_toState.calls k _ _ l0_0 _ _ l0_1 _ _ l0_2 a0_3 a0_4 a0_5 a0_6 t242 t245 t248 t251 t252 t253 t254 _ ?side1 ?side2 ?side3 ?side4 ?side5 ?side6 A24.out).mono ?_); (case side1 => exact cc (Kd.C_below HR0_0.out HB.out)); (case side2 => exact HC0_0.out); (case side3 => exact cc (Kd.C_below HR0_1.out HB.out)); (case side4 => exact HC0_1.out); (case side5 => exact cc (Kd.C_below HR0_2.out HB.out)); (case side6 => exact HC0_2.out); rintro e w42 ⟨v243, v246, v249, rfl, ho0, ho1, ho2, hb⟩; refine ⟨_, rfl, ?_⟩; have HO244 := am (Kd.S_lower (Kd.S_new' (Kd.S_new' (Kd.S_new' (Kd.S_new' ho0 (Kd.S_lt (kS HO217))) (Kd.R_lt (kR HO223))) (Kd.S_lt (kS HO230))) (Kd.R_lt (kR HO236))) (below_size (bw HB))); replace HO217 := am (Kd.S_mono (Kd.S_told (Kd.S_told (Kd.S_old (kS HO217) hb) (Kd.S_base ho0)) (Kd.R_base ho2)) (fun _ h_ => h_.1)); replace HO230 := am (Kd.S_mono (Kd.S_told (Kd.S_told (Kd.S_old (kS HO230) hb) (Kd.S_base ho0)) (Kd.R_base ho2)) (fun _ h_ => h_.1)); have HO247 := am (Kd.S_lower (Kd.S_new' (Kd.S_new' (Kd.S_new' (Kd.S_new' ho1 (Kd.S_lt (kS HO220))) (Kd.R_lt (kR HO223))) (Kd.S_lt (kS HO233))) (Kd.R_lt (kR HO236))) (below_size (bw HB))); replace HO220 := am (Kd.S_mono (Kd.S_told (Kd.S_told (Kd.S_old (kS HO220) hb) (Kd.S_base ho1)) (Kd.R_base ho2)) (fun _ h_ => h_.1)); replace HO233 := am (Kd.S_mono (Kd.S_told (Kd.S_told (Kd.S_old (kS HO233) hb) (Kd.S_base ho1)) (Kd.R_base ho2)) (fun _ h_ => h_.1)); have HO250 := am (Kd.R_lower (Kd.R_new' (Kd.R_new' ho2 (Kd.R_lt (kR HO223))) (Kd.R_lt (kR HO236))) (below_size (bw HB))); replace HO223 := am (Kd.R_elder' (kR HO223) (Kd.R_base ho2) hb); replace HO236 := am (Kd.R_elder' (kR HO236) (Kd.R_base ho2) hb); replace BK211 := am (blk_below (g := gb211) (o := .cells #[.slice A0_0 l0_0.length c0_0, .slice A0_1 l0_1.length c0_1, .slice A0_2 l0_2.length c0_2, .int .i64 a0_3, .bool a0_4, .int .i64 a0_5, .int .i64 a0_6] 62 (0, 0)) (bp BK211) hb); replace BK212 := am (blk_below (g := gb212) (o := .cells #[.slice A1_0 l1_0.length c1_0, .slice A1_1 l1_1.length c1_1, .slice A1_2 l1_2.length c1_2, .int .i64 a1_3, .bool a1_4, .int .i64 a1_5, .int .i64 a1_6] 62 (0, 0)) (bp BK212) hb); replace HB := am (below_step (bw HB) hb); (try clear hb); (try clear hb2); (try clear hk); (try clear hi); (try clear ho0); (try clear ho1); (try clear ho2)) | ((with_reducible refine gate_dst (N := 7) rfl ?_); refine box_event ?hg (N := 7) ?hd (cs := #[.slice none 0 0, .slice none 0 0, .slice none 0 0, .int .i64 0, .bool false, .int .i64 0, .int .i64 0]) (t := 67) ?hr ?_; (case hd => rfl); (case hg => rfl); (case hr => exact gs); intro gb255 hg w43 hbox hb; replace HO217 := am (Kd.S_below (kS HO217) hb); replace HO220 := am (Kd.S_below (kS HO220) hb); replace HO223 := am (Kd.R_below (kR HO223) hb); replace HO230 := am (Kd.S_below (kS HO230) hb); replace HO233 := am (Kd.S_below (kS HO233) hb); replace HO236 := am (Kd.R_below (kR HO236) hb); replace HO244 := am (Kd.S_below (kS HO244) hb); replace HO247 := am (Kd.S_below (kS HO247) hb); replace HO250 := am (Kd.R_below (kR HO250) hb); have BK255 := am (hbox); have GW255 := am ((by rw [hg]; exact (below_size (bw HB)) : w.heap.size ≤ gb255)); have GE255 := am ((by rw [hg]; exact (below_size (bw HB)) : w.heap.size ≤ gb255)); replace HB := am (below_step (bw HB) hb); have NB211_255 := am ((by rw [hg]; exact Nat.ne_of_lt (blk_lt (g := gb211) (o := .cells #[.slice A0_0 l0_0.length c0_0, .slice A0_1 l0_1.length c0_1, .slice A0_2 l0_2.length c0_2, .int .i64 a0_3, .bool a0_4, .int .i64 a0_5, .int .i64 a0_6] 62 (0, 0)) (bp BK211)) : gb211 ≠ gb255)); have NB255_211 := am ((by rw [hg]; exact Nat.ne_of_gt (blk_lt (g := gb211) (o := .cells #[.slice A0_0 l0_0.length c0_0, .slice A0_1 l0_1.length c0_1, .slice A0_2 l0_2.length c0_2, .int .i64 a0_3, .bool a0_4, .int .i64 a0_5, .int .i64 a0_6] 62 (0, 0)) (bp BK211)) : gb255 ≠ gb211)); replace BK211 := am (blk_below (g := gb211) (o := .cells #[.slice A0_0 l0_0.length c0_0, .slice A0_1 l0_1.length c0_1, .slice A0_2 l0_2.length c0_2, .int .i64 a0_3, .bool a0_4, .int .i64 a0_5, .int .i64 a0_6] 62 (0, 0)) (bp BK211) hb); have NB212_255 := am ((by rw [hg]; exact Nat.ne_of_lt (blk_lt (g := gb212) (o := .cells #[.slice A1_0 l1_0.length c1_0, .slice A1_1 l1_1.length c1_1, .slice A1_2 l1_2.length c1_2, .int .i64 a1_3, .bool a1_4, .int .i64 a1_5, .int .i64 a1_6] 62 (0, 0)) (bp BK212)) : gb212 ≠ gb255)); have NB255_212 := am ((by rw [hg]; exact Nat.ne_of_gt (blk_lt (g := gb212) (o := .cells #[.slice A1_0 l1_0.length c1_0, .slice A1_1 l1_1.length c1_1, .slice A1_2 l1_2.length c1_2, .int .i64 a1_3, .bool a1_4, .int .i64 a1_5, .int .i64 a1_6] 62 (0, 0)) (bp BK212)) : gb255 ≠ gb212)); replace BK212 := am (blk_below (g := gb212) (o := .cells #[.slice A1_0 l1_0.length c1_0, .slice A1_1 l1_1.length c1_1, .slice A1_2 l1_2.length c1_2, .int .i64 a1_3, .bool a1_4, .int .i64 a1_5, .int .i64 a1_6] 62 (0, 0)) (bp BK212) hb); clear hb hbox hg; obtain ⟨Ao44, co44, eo44⟩ := Kd.S_slice HO244.out; subst eo44; have hnb45 := NB255_211.out; have hnc45 := NB211_255.out; have hnb46 := NB255_212.out; have hnc46 := NB212_255.out; have hcz47_0 : w43.cell? ⟨gb255, 0, none⟩ = some (.slice none 0 0) := bc BK255 0; have hcz47_1 : w43.cell? ⟨gb255, 1, none⟩ = some (.slice none 0 0) := bc BK255 1; have hcz47_2 : w43.cell? ⟨gb255, 2, none⟩ = some (.slice none 0 0) := bc BK255 2; have hcz47_3 : w43.cell? ⟨gb255, 3, none⟩ = some (.int .i64 0) := bc BK255 3; have hcz47_4 : w43.cell? ⟨gb255, 4, none⟩ = some (.bool false) := bc BK255 4; have hcz47_5 : w43.cell? ⟨gb255, 5, none⟩ = some (.int .i64 0) := bc BK255 5; have hcz47_6 : w43.cell? ⟨gb255, 6, none⟩ = some (.int .i64 0) := bc BK255 6; have hfz47_0 := bf BK255 0; have hfz47_1 := bf BK255 1; have hfz47_2 := bf BK255 2; have hfz47_3 := bf BK255 3; have hfz47_4 := bf BK255 4; have hfz47_5 := bf BK255 5; have hfz47_6 := bf BK255 6; obtain ⟨Ao48, co48, eo48⟩ := Kd.S_slice HO247.out; subst eo48; obtain ⟨Ao49, co49, eo49⟩ := Kd.R_slice HO250.out; subst eo49; have hcz50_0 : w43.cell? ⟨gb212, 0, none⟩ = some (.slice A1_0 l1_0.length c1_0) := bc BK212 0; have hcz50_1 : w43.cell? ⟨gb212, 1, none⟩ = some (.slice A1_1 l1_1.length c1_1) := bc BK212 1; have hcz50_2 : w43.cell? ⟨gb212, 2, none⟩ = some (.slice A1_2 l1_2.length c1_2) := bc BK212 2; have hcz50_3 : w43.cell? ⟨gb212, 3, none⟩ = some (.int .i64 a1_3) := bc BK212 3; have hcz50_4 : w43.cell? ⟨gb212, 4, none⟩ = some (.bool a1_4) := bc BK212 4; have hcz50_5 : w43.cell? ⟨gb212, 5, none⟩ = some (.int .i64 a1_5) := bc BK212 5; have hcz50_6 : w43.cell? ⟨gb212, 6, none⟩ = some (.int .i64 a1_6) := bc BK212 6; have hfz50_0 := bf BK212 0; have hfz50_1 := bf BK212 1; have hfz50_2 := bf BK212 2; have hfz50_3 := bf BK212 3; have hfz50_4 := bf BK212 4; have hfz50_5 := bf BK212 5; have hfz50_6 := bf BK212 6) | ((with_reducible refine gate_callee (f := 44) rfl ?_); refine goesL_ (some 28) rfl rfl Try.func44 (by kernel_rfl) rfl #[.agg #[.slice A1_0 l1_0.length c1_0, .slice A1_1 l1_1.length c1_1, .slice A1_2 l1_2.length c1_2, .int .i64 a1_3, .bool a1_4, .int .i64 a1_5, .int .i64 a1_6]] rfl gl ?_; (with_reducible refine (laws_toState.calls k _ _ l1_0 _ _ l1_1 _ _ l1_2 a1_3 a1_4 a1_5 a1_6 t256 t259 t262 t265 t266 t267 t268 _ ?side1 ?side2 ?side3 ?side4 ?side5 ?side6 A25.out).mono ?_); (case side1 => exact Kd.C_below HR1_0.out (bw HB)); (case side2 => exact HC1_0.out); (case side3 => exact Kd.C_below HR1_1.out (bw HB)); (case side4 => exact HC1_1.out); (case side5 => exact Kd.C_below HR1_2.out (bw HB)); (case side6 => exact HC1_2.out); rintro e w51 ⟨v257, v260, v263, rfl, ho0, ho1, ho2, hb⟩; refine ⟨_, rfl, ?_⟩; have HO258 := am (Kd.S_lower (Kd.S_new' (Kd.S_new' (Kd.S_new' (Kd.S_new' (Kd.S_new' (Kd.S_new' ho0 (Kd.S_lt (by (with_reducible repeat (first | apply Kd.S_alloc | apply Kd.S_drewN | apply Kd.S_drew)); exact (Kd.S_mono (Kd.S_far (p := ⟨gb255, 6, none⟩) (Kd.S_far (p := ⟨gb255, 5, none⟩) (Kd.S_far (p := ⟨gb255, 4, none⟩) (Kd.S_far (p := ⟨gb255, 3, none⟩) (Kd.S_far (p := ⟨gb255, 2, none⟩) (Kd.S_far (p := ⟨gb255, 1, none⟩) (Kd.S_far (p := ⟨gb255, 0, none⟩) (Kd.S_types HO217.out BK255.out (by decide)) (fun _ hk => hk.2) (.slice Ao44 t242.length co44)) (fun _ hk => hk.2) (.slice Ao48 t245.length co48)) (fun _ hk => hk.2) (.slice Ao49 t248.length co49)) (fun _ hk => hk.2) (.int .i64 t251)) (fun _ hk => hk.2) (.bool t252)) (fun _ hk => hk.2) (.int .i64 t253)) (fun _ hk => hk.2) (.int .i64 t254)) (fun _ h_ => h_.1))))) (Kd.R_lt (by (with_reducible repeat (first | apply Kd.R_alloc | apply Kd.R_drewN | apply Kd.R_drew)); exact (Kd.R_mono (Kd.R_far (p := ⟨gb255, 6, none⟩) (Kd.R_far (p := ⟨gb255, 5, none⟩) (Kd.R_far (p := ⟨gb255, 4, none⟩) (Kd.R_far (p := ⟨gb255, 3, none⟩) (Kd.R_far (p := ⟨gb255, 2, none⟩) (Kd.R_far (p := ⟨gb255, 1, none⟩) (Kd.R_far (p := ⟨gb255, 0, none⟩) (Kd.R_types HO223.out BK255.out (by decide)) (fun _ hk => hk.2) (.slice Ao44 t242.length co44)) (fun _ hk => hk.2) (.slice Ao48 t245.length co48)) (fun _ hk => hk.2) (.slice Ao49 t248.length co49)) (fun _ hk => hk.2) (.int .i64 t251)) (fun _ hk => hk.2) (.bool t252)) (fun _ hk => hk.2) (.int .i64 t253)) (fun _ hk => hk.2) (.int .i64 t254)) (fun _ h_ => h_.1))))) (Kd.S_lt (by (with_reducible repeat (first | apply Kd.S_alloc | apply Kd.S_drewN | apply Kd.S_drew)); exact (Kd.S_mono (Kd.S_far (p := ⟨gb255, 6, none⟩) (Kd.S_far (p := ⟨gb255, 5, none⟩) (Kd.S_far (p := ⟨gb255, 4, none⟩) (Kd.S_far (p := ⟨gb255, 3, none⟩) (Kd.S_far (p := ⟨gb255, 2, none⟩) (Kd.S_far (p := ⟨gb255, 1, none⟩) (Kd.S_far (p := ⟨gb255, 0, none⟩) (Kd.S_types HO230.out BK255.out (by decide)) (fun _ hk => hk.2) (.slice Ao44 t242.length co44)) (fun _ hk => hk.2) (.slice Ao48 t245.length co48)) (fun _ hk => hk.2) (.slice Ao49 t248.length co49)) (fun _ hk => hk.2) (.int .i64 t251)) (fun _ hk => hk.2) (.bool t252)) (fun _ hk => hk.2) (.int .i64 t253)) (fun _ hk => hk.2) (.int .i64 t254)) (fun _ h_ => h_.1))))) (Kd.R_lt (by (with_reducible repeat (first | apply Kd.R_alloc | apply Kd.R_drewN | apply Kd.R_drew)); exact (Kd.R_mono (Kd.R_far (p := ⟨gb255, 6, none⟩) (Kd.R_far (p := ⟨gb255, 5, none⟩) (Kd.R_far (p := ⟨gb255, 4, none⟩) (Kd.R_far (p := ⟨gb255, 3, none⟩) (Kd.R_far (p := ⟨gb255, 2, none⟩) (Kd.R_far (p := ⟨gb255, 1, none⟩) (Kd.R_far (p := ⟨gb255, 0, none⟩) (Kd.R_types HO236.out BK255.out (by decide)) (fun _ hk => hk.2) (.slice Ao44 t242.length co44)) (fun _ hk => hk.2) (.slice Ao48 t245.length co48)) (fun _ hk => hk.2) (.slice Ao49 t248.length co49)) (fun _ hk => hk.2) (.int .i64 t251)) (fun _ hk => hk.2) (.bool t252)) (fun _ hk => hk.2) (.int .i64 t253)) (fun _ hk => hk.2) (.int .i64 t254)) (fun _ h_ => h_.1))))) (Kd.S_lt (by (with_reducible repeat (first | apply Kd.S_alloc | apply Kd.S_drewN | apply Kd.S_drew)); exact (Kd.S_mono (Kd.S_far (p := ⟨gb255, 6, none⟩) (Kd.S_far (p := ⟨gb255, 5, none⟩) (Kd.S_far (p := ⟨gb255, 4, none⟩) (Kd.S_far (p := ⟨gb255, 3, none⟩) (Kd.S_far (p := ⟨gb255, 2, none⟩) (Kd.S_far (p := ⟨gb255, 1, none⟩) (Kd.S_far (p := ⟨gb255, 0, none⟩) (Kd.S_types HO244.out BK255.out (by decide)) (fun _ hk => hk.2) (.slice Ao44 t242.length co44)) (fun _ hk => hk.2) (.slice Ao48 t245.length co48)) (fun _ hk => hk.2) (.slice Ao49 t248.length co49)) (fun _ hk => hk.2) (.int .i64 t251)) (fun _ hk => hk.2) (.bool t252)) (fun _ hk => hk.2) (.int .i64 t253)) (fun _ hk => hk.2) (.int .i64 t254)) (fun _ h_ => h_.1))))) (Kd.R_lt (by (with_reducible repeat (first | apply Kd.R_alloc | apply Kd.R_drewN | apply Kd.R_drew)); exact (Kd.R_mono (Kd.R_far (p := ⟨gb255, 6, none⟩) (Kd.R_far (p := ⟨gb255, 5, none⟩) (Kd.R_far (p := ⟨gb255, 4, none⟩) (Kd.R_far (p := ⟨gb255, 3, none⟩) (Kd.R_far (p := ⟨gb255, 2, none⟩) (Kd.R_far (p := ⟨gb255, 1, none⟩) (Kd.R_far (p := ⟨gb255, 0, none⟩) (Kd.R_types HO250.out BK255.out (by decide)) (fun _ hk => hk.2) (.slice Ao44 t242.length co44)) (fun _ hk => hk.2) (.slice Ao48 t245.length co48)) (fun _ hk => hk.2) (.slice Ao49 t248.length co49)) (fun _ hk => hk.2) (.int .i64 t251)) (fun _ hk => hk.2) (.bool t252)) (fun _ hk => hk.2) (.int .i64 t253)) (fun _ hk => hk.2) (.int .i64 t254)) (fun _ h_ => h_.1))))) (below_size (bw HB))); replace HO217 := am (Kd.S_mono (Kd.S_told (Kd.S_told (Kd.S_old (by (with_reducible repeat (first | apply Kd.S_alloc | apply Kd.S_drewN | apply Kd.S_drew)); exact (Kd.S_mono (Kd.S_far (p := ⟨gb255, 6, none⟩) (Kd.S_far (p := ⟨gb255, 5, none⟩) (Kd.S_far (p := ⟨gb255, 4, none⟩) (Kd.S_far (p := ⟨gb255, 3, none⟩) (Kd.S_far (p := ⟨gb255, 2, none⟩) (Kd.S_far (p := ⟨gb255, 1, none⟩) (Kd.S_far (p := ⟨gb255, 0, none⟩) (Kd.S_types HO217.out BK255.out (by decide)) (fun _ hk => hk.2) (.slice Ao44 t242.length co44)) (fun _ hk => hk.2) (.slice Ao48 t245.length co48)) (fun _ hk => hk.2) (.slice Ao49 t248.length co49)) (fun _ hk => hk.2) (.int .i64 t251)) (fun _ hk => hk.2) (.bool t252)) (fun _ hk => hk.2) (.int .i64 t253)) (fun _ hk => hk.2) (.int .i64 t254)) (fun _ h_ => h_.1))) hb) (Kd.S_base ho0)) (Kd.R_base ho2)) (fun _ h_ => h_.1)); replace HO230 := am (Kd.S_mono (Kd.S_told (Kd.S_told (Kd.S_old (by (with_reducible repeat (first | apply Kd.S_alloc | apply Kd.S_drewN | apply Kd.S_drew)); exact (Kd.S_mono (Kd.S_far (p := ⟨gb255, 6, none⟩) (Kd.S_far (p := ⟨gb255, 5, none⟩) (Kd.S_far (p := ⟨gb255, 4, none⟩) (Kd.S_far (p := ⟨gb255, 3, none⟩) (Kd.S_far (p := ⟨gb255, 2, none⟩) (Kd.S_far (p := ⟨gb255, 1, none⟩) (Kd.S_far (p := ⟨gb255, 0, none⟩) (Kd.S_types HO230.out BK255.out (by decide)) (fun _ hk => hk.2) (.slice Ao44 t242.length co44)) (fun _ hk => hk.2) (.slice Ao48 t245.length co48)) (fun _ hk => hk.2) (.slice Ao49 t248.length co49)) (fun _ hk => hk.2) (.int .i64 t251)) (fun _ hk => hk.2) (.bool t252)) (fun _ hk => hk.2) (.int .i64 t253)) (fun _ hk => hk.2) (.int .i64 t254)) (fun _ h_ => h_.1))) hb) (Kd.S_base ho0)) (Kd.R_base ho2)) (fun _ h_ => h_.1)); replace HO244 := am (Kd.S_mono (Kd.S_told (Kd.S_told (Kd.S_old (by (with_reducible repeat (first | apply Kd.S_alloc | apply Kd.S_drewN | apply Kd.S_drew)); exact (Kd.S_mono (Kd.S_far (p := ⟨gb255, 6, none⟩) (Kd.S_far (p := ⟨gb255, 5, none⟩) (Kd.S_far (p := ⟨gb255, 4, none⟩) (Kd.S_far (p := ⟨gb255, 3, none⟩) (Kd.S_far (p := ⟨gb255, 2, none⟩) (Kd.S_far (p := ⟨gb255, 1, none⟩) (Kd.S_far (p := ⟨gb255, 0, none⟩) (Kd.S_types HO244.out BK255.out (by decide)) (fun _ hk => hk.2) (.slice Ao44 t242.length co44)) (fun _ hk => hk.2) (.slice Ao48 t245.length co48)) (fun _ hk => hk.2) (.slice Ao49 t248.length co49)) (fun _ hk => hk.2) (.int .i64 t251)) (fun _ hk => hk.2) (.bool t252)) (fun _ hk => hk.2) (.int .i64 t253)) (fun _ hk => hk.2) (.int .i64 t254)) (fun _ h_ => h_.1))) hb) (Kd.S_base ho0)) (Kd.R_base ho2)) (fun _ h_ => h_.1)); have HO261 := am (Kd.S_lower (Kd.S_new' (Kd.S_new' (Kd.S_new' (Kd.S_new' (Kd.S_new' (Kd.S_new' ho1 (Kd.S_lt (by (with_reducible repeat (first | apply Kd.S_alloc | apply Kd.S_drewN | apply Kd.S_drew)); exact (Kd.S_mono (Kd.S_far (p := ⟨gb255, 6, none⟩) (Kd.S_far (p := ⟨gb255, 5, none⟩) (Kd.S_far (p := ⟨gb255, 4, none⟩) (Kd.S_far (p := ⟨gb255, 3, none⟩) (Kd.S_far (p := ⟨gb255, 2, none⟩) (Kd.S_far (p := ⟨gb255, 1, none⟩) (Kd.S_far (p := ⟨gb255, 0, none⟩) (Kd.S_types HO220.out BK255.out (by decide)) (fun _ hk => hk.2) (.slice Ao44 t242.length co44)) (fun _ hk => hk.2) (.slice Ao48 t245.length co48)) (fun _ hk => hk.2) (.slice Ao49 t248.length co49)) (fun _ hk => hk.2) (.int .i64 t251)) (fun _ hk => hk.2) (.bool t252)) (fun _ hk => hk.2) (.int .i64 t253)) (fun _ hk => hk.2) (.int .i64 t254)) (fun _ h_ => h_.1))))) (Kd.R_lt (by (with_reducible repeat (first | apply Kd.R_alloc | apply Kd.R_drewN | apply Kd.R_drew)); exact (Kd.R_mono (Kd.R_far (p := ⟨gb255, 6, none⟩) (Kd.R_far (p := ⟨gb255, 5, none⟩) (Kd.R_far (p := ⟨gb255, 4, none⟩) (Kd.R_far (p := ⟨gb255, 3, none⟩) (Kd.R_far (p := ⟨gb255, 2, none⟩) (Kd.R_far (p := ⟨gb255, 1, none⟩) (Kd.R_far (p := ⟨gb255, 0, none⟩) (Kd.R_types HO223.out BK255.out (by decide)) (fun _ hk => hk.2) (.slice Ao44 t242.length co44)) (fun _ hk => hk.2) (.slice Ao48 t245.length co48)) (fun _ hk => hk.2) (.slice Ao49 t248.length co49)) (fun _ hk => hk.2) (.int .i64 t251)) (fun _ hk => hk.2) (.bool t252)) (fun _ hk => hk.2) (.int .i64 t253)) (fun _ hk => hk.2) (.int .i64 t254)) (fun _ h_ => h_.1))))) (Kd.S_lt (by (with_reducible repeat (first | apply Kd.S_alloc | apply Kd.S_drewN | apply Kd.S_drew)); exact (Kd.S_mono (Kd.S_far (p := ⟨gb255, 6, none⟩) (Kd.S_far (p := ⟨gb255, 5, none⟩) (Kd.S_far (p := ⟨gb255, 4, none⟩) (Kd.S_far (p := ⟨gb255, 3, none⟩) (Kd.S_far (p := ⟨gb255, 2, none⟩) (Kd.S_far (p := ⟨gb255, 1, none⟩) (Kd.S_far (p := ⟨gb255, 0, none⟩) (Kd.S_types HO233.out BK255.out (by decide)) (fun _ hk => hk.2) (.slice Ao44 t242.length co44)) (fun _ hk => hk.2) (.slice Ao48 t245.length co48)) (fun _ hk => hk.2) (.slice Ao49 t248.length co49)) (fun _ hk => hk.2) (.int .i64 t251)) (fun _ hk => hk.2) (.bool t252)) (fun _ hk => hk.2) (.int .i64 t253)) (fun _ hk => hk.2) (.int .i64 t254)) (fun _ h_ => h_.1))))) (Kd.R_lt (by (with_reducible repeat (first | apply Kd.R_alloc | apply Kd.R_drewN | apply Kd.R_drew)); exact (Kd.R_mono (Kd.R_far (p := ⟨gb255, 6, none⟩) (Kd.R_far (p := ⟨gb255, 5, none⟩) (Kd.R_far (p := ⟨gb255, 4, none⟩) (Kd.R_far (p := ⟨gb255, 3, none⟩) (Kd.R_far (p := ⟨gb255, 2, none⟩) (Kd.R_far (p := ⟨gb255, 1, none⟩) (Kd.R_far (p := ⟨gb255, 0, none⟩) (Kd.R_types HO236.out BK255.out (by decide)) (fun _ hk => hk.2) (.slice Ao44 t242.length co44)) (fun _ hk => hk.2) (.slice Ao48 t245.length co48)) (fun _ hk => hk.2) (.slice Ao49 t248.length co49)) (fun _ hk => hk.2) (.int .i64 t251)) (fun _ hk => hk.2) (.bool t252)) (fun _ hk => hk.2) (.int .i64 t253)) (fun _ hk => hk.2) (.int .i64 t254)) (fun _ h_ => h_.1))))) (Kd.S_lt (by (with_reducible repeat (first | apply Kd.S_alloc | apply Kd.S_drewN | apply Kd.S_drew)); exact (Kd.S_mono (Kd.S_far (p := ⟨gb255, 6, none⟩) (Kd.S_far (p := ⟨gb255, 5, none⟩) (Kd.S_far (p := ⟨gb255, 4, none⟩) (Kd.S_far (p := ⟨gb255, 3, none⟩) (Kd.S_far (p := ⟨gb255, 2, none⟩) (Kd.S_far (p := ⟨gb255, 1, none⟩) (Kd.S_far (p := ⟨gb255, 0, none⟩) (Kd.S_types HO247.out BK255.out (by decide)) (fun _ hk => hk.2) (.slice Ao44 t242.length co44)) (fun _ hk => hk.2) (.slice Ao48 t245.length co48)) (fun _ hk => hk.2) (.slice Ao49 t248.length co49)) (fun _ hk => hk.2) (.int .i64 t251)) (fun _ hk => hk.2) (.bool t252)) (fun _ hk => hk.2) (.int .i64 t253)) (fun _ hk => hk.2) (.int .i64 t254)) (fun _ h_ => h_.1))))) (Kd.R_lt (by (with_reducible repeat (first | apply Kd.R_alloc | apply Kd.R_drewN | apply Kd.R_drew)); exact (Kd.R_mono (Kd.R_far (p := ⟨gb255, 6, none⟩) (Kd.R_far (p := ⟨gb255, 5, none⟩) (Kd.R_far (p := ⟨gb255, 4, none⟩) (Kd.R_far (p := ⟨gb255, 3, none⟩) (Kd.R_far (p := ⟨gb255, 2, none⟩) (Kd.R_far (p := ⟨gb255, 1, none⟩) (Kd.R_far (p := ⟨gb255, 0, none⟩) (Kd.R_types HO250.out BK255.out (by decide)) (fun _ hk => hk.2) (.slice Ao44 t242.length co44)) (fun _ hk => hk.2) (.slice Ao48 t245.length co48)) (fun _ hk => hk.2) (.slice Ao49 t248.length co49)) (fun _ hk => hk.2) (.int .i64 t251)) (fun _ hk => hk.2) (.bool t252)) (fun _ hk => hk.2) (.int .i64 t253)) (fun _ hk => hk.2) (.int .i64 t254)) (fun _ h_ => h_.1))))) (below_size (bw HB))); replace HO220 := am (Kd.S_mono (Kd.S_told (Kd.S_told (Kd.S_old (by (with_reducible repeat (first | apply Kd.S_alloc | apply Kd.S_drewN | apply Kd.S_drew)); exact (Kd.S_mono (Kd.S_far (p := ⟨gb255, 6, none⟩) (Kd.S_far (p := ⟨gb255, 5, none⟩) (Kd.S_far (p := ⟨gb255, 4, none⟩) (Kd.S_far (p := ⟨gb255, 3, none⟩) (Kd.S_far (p := ⟨gb255, 2, none⟩) (Kd.S_far (p := ⟨gb255, 1, none⟩) (Kd.S_far (p := ⟨gb255, 0, none⟩) (Kd.S_types HO220.out BK255.out (by decide)) (fun _ hk => hk.2) (.slice Ao44 t242.length co44)) (fun _ hk => hk.2) (.slice Ao48 t245.length co48)) (fun _ hk => hk.2) (.slice Ao49 t248.length co49)) (fun _ hk => hk.2) (.int .i64 t251)) (fun _ hk => hk.2) (.bool t252)) (fun _ hk => hk.2) (.int .i64 t253)) (fun _ hk => hk.2) (.int .i64 t254)) (fun _ h_ => h_.1))) hb) (Kd.S_base ho1)) (Kd.R_base ho2)) (fun _ h_ => h_.1)); replace HO233 := am (Kd.S_mono (Kd.S_told (Kd.S_told (Kd.S_old (by (with_reducible repeat (first | apply Kd.S_alloc | apply Kd.S_drewN | apply Kd.S_drew)); exact (Kd.S_mono (Kd.S_far (p := ⟨gb255, 6, none⟩) (Kd.S_far (p := ⟨gb255, 5, none⟩) (Kd.S_far (p := ⟨gb255, 4, none⟩) (Kd.S_far (p := ⟨gb255, 3, none⟩) (Kd.S_far (p := ⟨gb255, 2, none⟩) (Kd.S_far (p := ⟨gb255, 1, none⟩) (Kd.S_far (p := ⟨gb255, 0, none⟩) (Kd.S_types HO233.out BK255.out (by decide)) (fun _ hk => hk.2) (.slice Ao44 t242.length co44)) (fun _ hk => hk.2) (.slice Ao48 t245.length co48)) (fun _ hk => hk.2) (.slice Ao49 t248.length co49)) (fun _ hk => hk.2) (.int .i64 t251)) (fun _ hk => hk.2) (.bool t252)) (fun _ hk => hk.2) (.int .i64 t253)) (fun _ hk => hk.2) (.int .i64 t254)) (fun _ h_ => h_.1))) hb) (Kd.S_base ho1)) (Kd.R_base ho2)) (fun _ h_ => h_.1)); replace HO247 := am (Kd.S_mono (Kd.S_told (Kd.S_told (Kd.S_old (by (with_reducible repeat (first | apply Kd.S_alloc | apply Kd.S_drewN | apply Kd.S_drew)); exact (Kd.S_mono (Kd.S_far (p := ⟨gb255, 6, none⟩) (Kd.S_far (p := ⟨gb255, 5, none⟩) (Kd.S_far (p := ⟨gb255, 4, none⟩) (Kd.S_far (p := ⟨gb255, 3, none⟩) (Kd.S_far (p := ⟨gb255, 2, none⟩) (Kd.S_far (p := ⟨gb255, 1, none⟩) (Kd.S_far (p := ⟨gb255, 0, none⟩) (Kd.S_types HO247.out BK255.out (by decide)) (fun _ hk => hk.2) (.slice Ao44 t242.length co44)) (fun _ hk => hk.2) (.slice Ao48 t245.length co48)) (fun _ hk => hk.2) (.slice Ao49 t248.length co49)) (fun _ hk => hk.2) (.int .i64 t251)) (fun _ hk => hk.2) (.bool t252)) (fun _ hk => hk.2) (.int .i64 t253)) (fun _ hk => hk.2) (.int .i64 t254)) (fun _ h_ => h_.1))) hb) (Kd.S_base ho1)) (Kd.R_base ho2)) (fun _ h_ => h_.1)); have HO264 := am (Kd.R_lower (Kd.R_new' (Kd.R_new' (Kd.R_new' ho2 (Kd.R_lt (by (with_reducible repeat (first | apply Kd.R_alloc | apply Kd.R_drewN | apply Kd.R_drew)); exact (Kd.R_mono (Kd.R_far (p := ⟨gb255, 6, none⟩) (Kd.R_far (p := ⟨gb255, 5, none⟩) (Kd.R_far (p := ⟨gb255, 4, none⟩) (Kd.R_far (p := ⟨gb255, 3, none⟩) (Kd.R_far (p := ⟨gb255, 2, none⟩) (Kd.R_far (p := ⟨gb255, 1, none⟩) (Kd.R_far (p := ⟨gb255, 0, none⟩) (Kd.R_types HO223.out BK255.out (by decide)) (fun _ hk => hk.2) (.slice Ao44 t242.length co44)) (fun _ hk => hk.2) (.slice Ao48 t245.length co48)) (fun _ hk => hk.2) (.slice Ao49 t248.length co49)) (fun _ hk => hk.2) (.int .i64 t251)) (fun _ hk => hk.2) (.bool t252)) (fun _ hk => hk.2) (.int .i64 t253)) (fun _ hk => hk.2) (.int .i64 t254)) (fun _ h_ => h_.1))))) (Kd.R_lt (by (with_reducible repeat (first | apply Kd.R_alloc | apply Kd.R_drewN | apply Kd.R_drew)); exact (Kd.R_mono (Kd.R_far (p := ⟨gb255, 6, none⟩) (Kd.R_far (p := ⟨gb255, 5, none⟩) (Kd.R_far (p := ⟨gb255, 4, none⟩) (Kd.R_far (p := ⟨gb255, 3, none⟩) (Kd.R_far (p := ⟨gb255, 2, none⟩) (Kd.R_far (p := ⟨gb255, 1, none⟩) (Kd.R_far (p := ⟨gb255, 0, none⟩) (Kd.R_types HO236.out BK255.out (by decide)) (fun _ hk => hk.2) (.slice Ao44 t242.length co44)) (fun _ hk => hk.2) (.slice Ao48 t245.length co48)) (fun _ hk => hk.2) (.slice Ao49 t248.length co49)) (fun _ hk => hk.2) (.int .i64 t251)) (fun _ hk => hk.2) (.bool t252)) (fun _ hk => hk.2) (.int .i64 t253)) (fun _ hk => hk.2) (.int .i64 t254)) (fun _ h_ => h_.1))))) (Kd.R_lt (by (with_reducible repeat (first | apply Kd.R_alloc | apply Kd.R_drewN | apply Kd.R_drew)); exact (Kd.R_mono (Kd.R_far (p := ⟨gb255, 6, none⟩) (Kd.R_far (p := ⟨gb255, 5, none⟩) (Kd.R_far (p := ⟨gb255, 4, none⟩) (Kd.R_far (p := ⟨gb255, 3, none⟩) (Kd.R_far (p := ⟨gb255, 2, none⟩) (Kd.R_far (p := ⟨gb255, 1, none⟩) (Kd.R_far (p := ⟨gb255, 0, none⟩) (Kd.R_types HO250.out BK255.out (by decide)) (fun _ hk => hk.2) (.slice Ao44 t242.length co44)) (fun _ hk => hk.2) (.slice Ao48 t245.length co48)) (fun _ hk => hk.2) (.slice Ao49 t248.length co49)) (fun _ hk => hk.2) (.int .i64 t251)) (fun _ hk => hk.2) (.bool t252)) (fun _ hk => hk.2) (.int .i64 t253)) (fun _ hk => hk.2) (.int .i64 t254)) (fun _ h_ => h_.1))))) (below_size (bw HB))); replace HO223 := am (Kd.R_elder' (by (with_reducible repeat (first | apply Kd.R_alloc | apply Kd.R_drewN | apply Kd.R_drew)); exact (Kd.R_mono (Kd.R_far (p := ⟨gb255, 6, none⟩) (Kd.R_far (p := ⟨gb255, 5, none⟩) (Kd.R_far (p := ⟨gb255, 4, none⟩) (Kd.R_far (p := ⟨gb255, 3, none⟩) (Kd.R_far (p := ⟨gb255, 2, none⟩) (Kd.R_far (p := ⟨gb255, 1, none⟩) (Kd.R_far (p := ⟨gb255, 0, none⟩) (Kd.R_types HO223.out BK255.out (by decide)) (fun _ hk => hk.2) (.slice Ao44 t242.length co44)) (fun _ hk => hk.2) (.slice Ao48 t245.length co48)) (fun _ hk => hk.2) (.slice Ao49 t248.length co49)) (fun _ hk => hk.2) (.int .i64 t251)) (fun _ hk => hk.2) (.bool t252)) (fun _ hk => hk.2) (.int .i64 t253)) (fun _ hk => hk.2) (.int .i64 t254)) (fun _ h_ => h_.1))) (Kd.R_base ho2) hb); replace HO236 := am (Kd.R_elder' (by (with_reducible repeat (first | apply Kd.R_alloc | apply Kd.R_drewN | apply Kd.R_drew)); exact (Kd.R_mono (Kd.R_far (p := ⟨gb255, 6, none⟩) (Kd.R_far (p := ⟨gb255, 5, none⟩) (Kd.R_far (p := ⟨gb255, 4, none⟩) (Kd.R_far (p := ⟨gb255, 3, none⟩) (Kd.R_far (p := ⟨gb255, 2, none⟩) (Kd.R_far (p := ⟨gb255, 1, none⟩) (Kd.R_far (p := ⟨gb255, 0, none⟩) (Kd.R_types HO236.out BK255.out (by decide)) (fun _ hk => hk.2) (.slice Ao44 t242.length co44)) (fun _ hk => hk.2) (.slice Ao48 t245.length co48)) (fun _ hk => hk.2) (.slice Ao49 t248.length co49)) (fun _ hk => hk.2) (.int .i64 t251)) (fun _ hk => hk.2) (.bool t252)) (fun _ hk => hk.2) (.int .i64 t253)) (fun _ hk => hk.2) (.int .i64 t254)) (fun _ h_ => h_.1))) (Kd.R_base ho2) hb); replace HO250 := am (Kd.R_elder' (by (with_reducible repeat (first | apply Kd.R_alloc | apply Kd.R_drewN | apply Kd.R_drew)); exact (Kd.R_mono (Kd.R_far (p := ⟨gb255, 6, none⟩) (Kd.R_far (p := ⟨gb255, 5, none⟩) (Kd.R_far (p := ⟨gb255, 4, none⟩) (Kd.R_far (p := ⟨gb255, 3, none⟩) (Kd.R_far (p := ⟨gb255, 2, none⟩) (Kd.R_far (p := ⟨gb255, 1, none⟩) (Kd.R_far (p := ⟨gb255, 0, none⟩) (Kd.R_types HO250.out BK255.out (by decide)) (fun _ hk => hk.2) (.slice Ao44 t242.length co44)) (fun _ hk => hk.2) (.slice Ao48 t245.length co48)) (fun _ hk => hk.2) (.slice Ao49 t248.length co49)) (fun _ hk => hk.2) (.int .i64 t251)) (fun _ hk => hk.2) (.bool t252)) (fun _ hk => hk.2) (.int .i64 t253)) (fun _ hk => hk.2) (.int .i64 t254)) (fun _ h_ => h_.1))) (Kd.R_base ho2) hb); replace BK211 := am (blk_below (g := gb211) (o := .cells #[.slice A0_0 l0_0.length c0_0, .slice A0_1 l0_1.length c0_1, .slice A0_2 l0_2.length c0_2, .int .i64 a0_3, .bool a0_4, .int .i64 a0_5, .int .i64 a0_6] 62 (0, 0)) (by (with_reducible repeat (first | apply dN | apply dW | apply dA)); refine blk_far ?_ NB211_255.out _; (with_reducible repeat (first | apply dN | apply dW | apply dA)); refine blk_far ?_ NB211_255.out _; (with_reducible repeat (first | apply dN | apply dW | apply dA)); refine blk_far ?_ NB211_255.out _; (with_reducible repeat (first | apply dN | apply dW | apply dA)); refine blk_far ?_ NB211_255.out _; (with_reducible repeat (first | apply dN | apply dW | apply dA)); refine blk_far ?_ NB211_255.out _; (with_reducible repeat (first | apply dN | apply dW | apply dA)); refine blk_far ?_ NB211_255.out _; (with_reducible repeat (first | apply dN | apply dW | apply dA)); refine blk_far ?_ NB211_255.out _; exact bp BK211) hb); replace BK212 := am (blk_below (g := gb212) (o := .cells #[.slice A1_0 l1_0.length c1_0, .slice A1_1 l1_1.length c1_1, .slice A1_2 l1_2.length c1_2, .int .i64 a1_3, .bool a1_4, .int .i64 a1_5, .int .i64 a1_6] 62 (0, 0)) (by (with_reducible repeat (first | apply dN | apply dW | apply dA)); refine blk_far ?_ NB212_255.out _; (with_reducible repeat (first | apply dN | apply dW | apply dA)); refine blk_far ?_ NB212_255.out _; (with_reducible repeat (first | apply dN | apply dW | apply dA)); refine blk_far ?_ NB212_255.out _; (with_reducible repeat (first | apply dN | apply dW | apply dA)); refine blk_far ?_ NB212_255.out _; (with_reducible repeat (first | apply dN | apply dW | apply dA)); refine blk_far ?_ NB212_255.out _; (with_reducible repeat (first | apply dN | apply dW | apply dA)); refine blk_far ?_ NB212_255.out _; (with_reducible repeat (first | apply dN | apply dW | apply dA)); refine blk_far ?_ NB212_255.out _; exact bp BK212) hb); replace BK255 := am (blk_below (g := gb255) (o := .cells #[.slice Ao44 t242.length co44, .slice Ao48 t245.length co48, .slice Ao49 t248.length co49, .int .i64 t251, .bool t252, .int .i64 t253, .int .i64 t254] 67 (0, 0)) (by (with_reducible repeat (first | apply dN | apply dW | apply dA)); refine blk_put (cs := #[.slice Ao44 t242.length co44, .slice Ao48 t245.length co48, .slice Ao49 t248.length co49, .int .i64 t251, .bool t252, .int .i64 t253, .int .i64 0]) ?_ 6 _ rfl; (with_reducible repeat (first | apply dN | apply dW | apply dA)); refine blk_put (cs := #[.slice Ao44 t242.length co44, .slice Ao48 t245.length co48, .slice Ao49 t248.length co49, .int .i64 t251, .bool t252, .int .i64 0, .int .i64 0]) ?_ 5 _ rfl; (with_reducible repeat (first | apply dN | apply dW | apply dA)); refine blk_put (cs := #[.slice Ao44 t242.length co44, .slice Ao48 t245.length co48, .slice Ao49 t248.length co49, .int .i64 t251, .bool false, .int .i64 0, .int .i64 0]) ?_ 4 _ rfl; (with_reducible repeat (first | apply dN | apply dW | apply dA)); refine blk_put (cs := #[.slice Ao44 t242.length co44, .slice Ao48 t245.length co48, .slice Ao49 t248.length co49, .int .i64 0, .bool false, .int .i64 0, .int .i64 0]) ?_ 3 _ rfl; (with_reducible repeat (first | apply dN | apply dW | apply dA)); refine blk_put (cs := #[.slice Ao44 t242.length co44, .slice Ao48 t245.length co48, .slice none 0 0, .int .i64 0, .bool false, .int .i64 0, .int .i64 0]) ?_ 2 _ rfl; (with_reducible repeat (first | apply dN | apply dW | apply dA)); refine blk_put (cs := #[.slice Ao44 t242.length co44, .slice none 0 0, .slice none 0 0, .int .i64 0, .bool false, .int .i64 0, .int .i64 0]) ?_ 1 _ rfl; (with_reducible repeat (first | apply dN | apply dW | apply dA)); refine blk_put (cs := #[.slice none 0 0, .slice none 0 0, .slice none 0 0, .int .i64 0, .bool false, .int .i64 0, .int .i64 0]) ?_ 0 _ rfl; exact bp BK255) hb); replace HB := am (below_step (bw HB) hb); (try clear hb); (try clear hb2); (try clear hk); (try clear hi); (try clear ho0); (try clear ho1); (try clear ho2)) | ((with_reducible refine gate_dst (N := 8) rfl ?_); refine box_event ?hg (N := 8) ?hd (cs := #[.slice none 0 0, .slice none 0 0, .slice none 0 0, .int .i64 0, .bool false, .int .i64 0, .int .i64 0]) (t := 67) ?hr ?_; (case hd => rfl); (case hg => rfl); (case hr => exact gs); intro gb269 hg w52 hbox hb; replace HO217 := am (Kd.S_below (kS HO217) hb); replace HO220 := am (Kd.S_below (kS HO220) hb); replace HO223 := am (Kd.R_below (kR HO223) hb); replace HO230 := am (Kd.S_below (kS HO230) hb); replace HO233 := am (Kd.S_below (kS HO233) hb); replace HO236 := am (Kd.R_below (kR HO236) hb); replace HO244 := am (Kd.S_below (kS HO244) hb); replace HO247 := am (Kd.S_below (kS HO247) hb); replace HO250 := am (Kd.R_below (kR HO250) hb); replace HO258 := am (Kd.S_below (kS HO258) hb); replace HO261 := am (Kd.S_below (kS HO261) hb); replace HO264 := am (Kd.R_below (kR HO264) hb); have BK269 := am (hbox); have GW269 := am ((by rw [hg]; exact (below_size (bw HB)) : w.heap.size ≤ gb269)); have GE269 := am ((by rw [hg]; exact (below_size (bw HB)) : w.heap.size ≤ gb269)); replace HB := am (below_step (bw HB) hb); have NB211_269 := am ((by rw [hg]; exact Nat.ne_of_lt (blk_lt (g := gb211) (o := .cells #[.slice A0_0 l0_0.length c0_0, .slice A0_1 l0_1.length c0_1, .slice A0_2 l0_2.length c0_2, .int .i64 a0_3, .bool a0_4, .int .i64 a0_5, .int .i64 a0_6] 62 (0, 0)) (bp BK211)) : gb211 ≠ gb269)); have NB269_211 := am ((by rw [hg]; exact Nat.ne_of_gt (blk_lt (g := gb211) (o := .cells #[.slice A0_0 l0_0.length c0_0, .slice A0_1 l0_1.length c0_1, .slice A0_2 l0_2.length c0_2, .int .i64 a0_3, .bool a0_4, .int .i64 a0_5, .int .i64 a0_6] 62 (0, 0)) (bp BK211)) : gb269 ≠ gb211)); replace BK211 := am (blk_below (g := gb211) (o := .cells #[.slice A0_0 l0_0.length c0_0, .slice A0_1 l0_1.length c0_1, .slice A0_2 l0_2.length c0_2, .int .i64 a0_3, .bool a0_4, .int .i64 a0_5, .int .i64 a0_6] 62 (0, 0)) (bp BK211) hb); have NB212_269 := am ((by rw [hg]; exact Nat.ne_of_lt (blk_lt (g := gb212) (o := .cells #[.slice A1_0 l1_0.length c1_0, .slice A1_1 l1_1.length c1_1, .slice A1_2 l1_2.length c1_2, .int .i64 a1_3, .bool a1_4, .int .i64 a1_5, .int .i64 a1_6] 62 (0, 0)) (bp BK212)) : gb212 ≠ gb269)); have NB269_212 := am ((by rw [hg]; exact Nat.ne_of_gt (blk_lt (g := gb212) (o := .cells #[.slice A1_0 l1_0.length c1_0, .slice A1_1 l1_1.length c1_1, .slice A1_2 l1_2.length c1_2, .int .i64 a1_3, .bool a1_4, .int .i64 a1_5, .int .i64 a1_6] 62 (0, 0)) (bp BK212)) : gb269 ≠ gb212)); replace BK212 := am (blk_below (g := gb212) (o := .cells #[.slice A1_0 l1_0.length c1_0, .slice A1_1 l1_1.length c1_1, .slice A1_2 l1_2.length c1_2, .int .i64 a1_3, .bool a1_4, .int .i64 a1_5, .int .i64 a1_6] 62 (0, 0)) (bp BK212) hb); have NB255_269 := am ((by rw [hg]; exact Nat.ne_of_lt (blk_lt (g := gb255) (o := .cells #[.slice Ao44 t242.length co44, .slice Ao48 t245.length co48, .slice Ao49 t248.length co49, .int .i64 t251, .bool t252, .int .i64 t253, .int .i64 t254] 67 (0, 0)) (bp BK255)) : gb255 ≠ gb269)); have NB269_255 := am ((by rw [hg]; exact Nat.ne_of_gt (blk_lt (g := gb255) (o := .cells #[.slice Ao44 t242.length co44, .slice Ao48 t245.length co48, .slice Ao49 t248.length co49, .int .i64 t251, .bool t252, .int .i64 t253, .int .i64 t254] 67 (0, 0)) (bp BK255)) : gb269 ≠ gb255)); replace BK255 := am (blk_below (g := gb255) (o := .cells #[.slice Ao44 t242.length co44, .slice Ao48 t245.length co48, .slice Ao49 t248.length co49, .int .i64 t251, .bool t252, .int .i64 t253, .int .i64 t254] 67 (0, 0)) (bp BK255) hb); clear hb hbox hg))
   (try simp only [Act.put, sa, sz, ss])
   have H := HC27.out
   clear HC27
   by_cases c53 : (t270 != t241) = true
   ·rw [if_pos c53] at H
    have c53b0 : (t270 != t241) = true := c53
    (try (have c53b1 : decide (t270 = t241) = false := by simpa using c53))
    (try (have c53b2 : (t270 == t241) = false := by simpa using c53))
    (try (have c53b3 : ¬ (t270 = t241) := by simpa using c53))
    clear c53
    obtain rfl := Option.some.inj H
    obtain ⟨Ao54, co54, eo54⟩ := Kd.S_slice HO258.out
    subst eo54
    have hnb55 := NB269_211.out
    have hnc55 := NB211_269.out
    have hnb56 := NB269_212.out
    have hnc56 := NB212_269.out
    have hnb57 := NB269_255.out
    have hnc57 := NB255_269.out
    have hcz58_0 : w52.cell? ⟨gb269, 0, none⟩ = some (.slice none 0 0) := bc BK269 0
    have hcz58_1 : w52.cell? ⟨gb269, 1, none⟩ = some (.slice none 0 0) := bc BK269 1
    have hcz58_2 : w52.cell? ⟨gb269, 2, none⟩ = some (.slice none 0 0) := bc BK269 2
    have hcz58_3 : w52.cell? ⟨gb269, 3, none⟩ = some (.int .i64 0) := bc BK269 3
    have hcz58_4 : w52.cell? ⟨gb269, 4, none⟩ = some (.bool false) := bc BK269 4
    have hcz58_5 : w52.cell? ⟨gb269, 5, none⟩ = some (.int .i64 0) := bc BK269 5
    have hcz58_6 : w52.cell? ⟨gb269, 6, none⟩ = some (.int .i64 0) := bc BK269 6
    have hfz58_0 := bf BK269 0
    have hfz58_1 := bf BK269 1
    have hfz58_2 := bf BK269 2
    have hfz58_3 := bf BK269 3
    have hfz58_4 := bf BK269 4
    have hfz58_5 := bf BK269 5
    have hfz58_6 := bf BK269 6
    obtain ⟨Ao59, co59, eo59⟩ := Kd.S_slice HO261.out
    subst eo59
    obtain ⟨Ao60, co60, eo60⟩ := Kd.R_slice HO264.out
    subst eo60
    have hnb61 := NB255_211.out
    have hnc61 := NB211_255.out
    have hnb62 := NB255_212.out
    have hnc62 := NB212_255.out
    have hcz63_0 : w52.cell? ⟨gb255, 0, none⟩ = some (.slice Ao44 t242.length co44) := bc BK255 0
    have hcz63_1 : w52.cell? ⟨gb255, 1, none⟩ = some (.slice Ao48 t245.length co48) := bc BK255 1
    have hcz63_2 : w52.cell? ⟨gb255, 2, none⟩ = some (.slice Ao49 t248.length co49) := bc BK255 2
    have hcz63_3 : w52.cell? ⟨gb255, 3, none⟩ = some (.int .i64 t251) := bc BK255 3
    have hcz63_4 : w52.cell? ⟨gb255, 4, none⟩ = some (.bool t252) := bc BK255 4
    have hcz63_5 : w52.cell? ⟨gb255, 5, none⟩ = some (.int .i64 t253) := bc BK255 5
    have hcz63_6 : w52.cell? ⟨gb255, 6, none⟩ = some (.int .i64 t254) := bc BK255 6
    have hfz63_0 := bf BK255 0
    have hfz63_1 := bf BK255 1
    have hfz63_2 := bf BK255 2
    have hfz63_3 := bf BK255 3
    have hfz63_4 := bf BK255 4
    have hfz63_5 := bf BK255 5
    have hfz63_6 := bf BK255 6
    go_wp2_with (first | ((with_reducible refine gate_callee (f := 45) rfl ?_); refine goesL_ (some 31) rfl rfl Try.func45 (by kernel_rfl) rfl #[.agg #[.slice Ao44 t242.length co44, .slice Ao48 t245.length co48, .slice Ao49 t248.length co49, .int .i64 t251, .bool t252, .int .i64 t253, .int .i64 t254], .agg #[.slice Ao54 t256.length co54, .slice Ao59 t259.length co59, .slice Ao60 t262.length co60, .int .i64 t265, .bool t266, .int .i64 t267, .int .i64 t268]] rfl gl ?_; (with_reducible refine (impl_StateSame.calls k _ _ t242 _ _ t245 _ _ t248 t251 t252 t253 t254 _ _ t256 _ _ t259 _ _ t262 t265 t266 t267 t268 t270 _ ?side1 ?side2 ?side3 ?side4 ?side5 ?side6 ?side7 ?side8 ?side9 ?side10 ?side11 ?side12 A26.out).mono ?_); (case side1 => refine (Kd.S_reads' (e := 111) (base := w.heap.size) (ok := fun k_ => ((((((some k_ ≠ (.slice Ao49 t248.length co49 : Value).ownBlock ∧ some k_ ≠ (.slice Ao34 t215.length co34 : Value).ownBlock) ∧ some k_ ≠ (.slice Ao36 t221.length co36 : Value).ownBlock) ∧ some k_ ≠ (.slice Ao37 t228.length co37 : Value).ownBlock) ∧ some k_ ≠ (.slice Ao39 t234.length co39 : Value).ownBlock) ∧ some k_ ≠ (.slice Ao54 t256.length co54 : Value).ownBlock) ∧ some k_ ≠ (.slice Ao60 t262.length co60 : Value).ownBlock)) (n := t242.length) (c := co44) ?_).2.2; exact (by (with_reducible repeat (first | apply Kd.S_alloc | apply Kd.S_drewN | apply Kd.S_drew)); exact (Kd.S_mono (Kd.S_far (p := ⟨gb269, 6, none⟩) (Kd.S_far (p := ⟨gb269, 5, none⟩) (Kd.S_far (p := ⟨gb269, 4, none⟩) (Kd.S_far (p := ⟨gb269, 3, none⟩) (Kd.S_far (p := ⟨gb269, 2, none⟩) (Kd.S_far (p := ⟨gb269, 1, none⟩) (Kd.S_far (p := ⟨gb269, 0, none⟩) (Kd.S_types HO244.out BK269.out (by decide)) (fun _ hk => hk.2) (.slice Ao54 t256.length co54)) (fun _ hk => hk.2) (.slice Ao59 t259.length co59)) (fun _ hk => hk.2) (.slice Ao60 t262.length co60)) (fun _ hk => hk.2) (.int .i64 t265)) (fun _ hk => hk.2) (.bool t266)) (fun _ hk => hk.2) (.int .i64 t267)) (fun _ hk => hk.2) (.int .i64 t268)) (fun _ h_ => h_.1)))); (case side2 => exact (Kd.S_reads' HO244.out).2.1); (case side3 => refine (Kd.S_reads' (e := 27) (base := w.heap.size) (ok := fun k_ => ((((((some k_ ≠ (.slice Ao49 t248.length co49 : Value).ownBlock ∧ some k_ ≠ (.slice Ao35 t218.length co35 : Value).ownBlock) ∧ some k_ ≠ (.slice Ao36 t221.length co36 : Value).ownBlock) ∧ some k_ ≠ (.slice Ao38 t231.length co38 : Value).ownBlock) ∧ some k_ ≠ (.slice Ao39 t234.length co39 : Value).ownBlock) ∧ some k_ ≠ (.slice Ao59 t259.length co59 : Value).ownBlock) ∧ some k_ ≠ (.slice Ao60 t262.length co60 : Value).ownBlock)) (n := t245.length) (c := co48) ?_).2.2; exact (by (with_reducible repeat (first | apply Kd.S_alloc | apply Kd.S_drewN | apply Kd.S_drew)); exact (Kd.S_mono (Kd.S_far (p := ⟨gb269, 6, none⟩) (Kd.S_far (p := ⟨gb269, 5, none⟩) (Kd.S_far (p := ⟨gb269, 4, none⟩) (Kd.S_far (p := ⟨gb269, 3, none⟩) (Kd.S_far (p := ⟨gb269, 2, none⟩) (Kd.S_far (p := ⟨gb269, 1, none⟩) (Kd.S_far (p := ⟨gb269, 0, none⟩) (Kd.S_types HO247.out BK269.out (by decide)) (fun _ hk => hk.2) (.slice Ao54 t256.length co54)) (fun _ hk => hk.2) (.slice Ao59 t259.length co59)) (fun _ hk => hk.2) (.slice Ao60 t262.length co60)) (fun _ hk => hk.2) (.int .i64 t265)) (fun _ hk => hk.2) (.bool t266)) (fun _ hk => hk.2) (.int .i64 t267)) (fun _ hk => hk.2) (.int .i64 t268)) (fun _ h_ => h_.1)))); (case side4 => exact (Kd.S_reads' HO247.out).2.1); (case side5 => refine (Kd.R_reads' (e := 2) (base := w.heap.size) (ok := fun k_ => (((True ∧ some k_ ≠ (.slice Ao36 t221.length co36 : Value).ownBlock) ∧ some k_ ≠ (.slice Ao39 t234.length co39 : Value).ownBlock) ∧ some k_ ≠ (.slice Ao60 t262.length co60 : Value).ownBlock)) (n := t248.length) (c := co49) ?_).2.2; exact (by (with_reducible repeat (first | apply Kd.R_alloc | apply Kd.R_drewN | apply Kd.R_drew)); exact (Kd.R_mono (Kd.R_far (p := ⟨gb269, 6, none⟩) (Kd.R_far (p := ⟨gb269, 5, none⟩) (Kd.R_far (p := ⟨gb269, 4, none⟩) (Kd.R_far (p := ⟨gb269, 3, none⟩) (Kd.R_far (p := ⟨gb269, 2, none⟩) (Kd.R_far (p := ⟨gb269, 1, none⟩) (Kd.R_far (p := ⟨gb269, 0, none⟩) (Kd.R_types HO250.out BK269.out (by decide)) (fun _ hk => hk.2) (.slice Ao54 t256.length co54)) (fun _ hk => hk.2) (.slice Ao59 t259.length co59)) (fun _ hk => hk.2) (.slice Ao60 t262.length co60)) (fun _ hk => hk.2) (.int .i64 t265)) (fun _ hk => hk.2) (.bool t266)) (fun _ hk => hk.2) (.int .i64 t267)) (fun _ hk => hk.2) (.int .i64 t268)) (fun _ h_ => h_.1)))); (case side6 => exact (Kd.R_reads' HO250.out).2.1); (case side7 => refine (Kd.S_reads' (e := 111) (base := w.heap.size) (ok := fun k_ => ((((((some k_ ≠ (.slice Ao60 t262.length co60 : Value).ownBlock ∧ some k_ ≠ (.slice Ao34 t215.length co34 : Value).ownBlock) ∧ some k_ ≠ (.slice Ao36 t221.length co36 : Value).ownBlock) ∧ some k_ ≠ (.slice Ao37 t228.length co37 : Value).ownBlock) ∧ some k_ ≠ (.slice Ao39 t234.length co39 : Value).ownBlock) ∧ some k_ ≠ (.slice Ao44 t242.length co44 : Value).ownBlock) ∧ some k_ ≠ (.slice Ao49 t248.length co49 : Value).ownBlock)) (n := t256.length) (c := co54) ?_).2.2; exact (by (with_reducible repeat (first | apply Kd.S_alloc | apply Kd.S_drewN | apply Kd.S_drew)); exact (Kd.S_mono (Kd.S_far (p := ⟨gb269, 6, none⟩) (Kd.S_far (p := ⟨gb269, 5, none⟩) (Kd.S_far (p := ⟨gb269, 4, none⟩) (Kd.S_far (p := ⟨gb269, 3, none⟩) (Kd.S_far (p := ⟨gb269, 2, none⟩) (Kd.S_far (p := ⟨gb269, 1, none⟩) (Kd.S_far (p := ⟨gb269, 0, none⟩) (Kd.S_types HO258.out BK269.out (by decide)) (fun _ hk => hk.2) (.slice Ao54 t256.length co54)) (fun _ hk => hk.2) (.slice Ao59 t259.length co59)) (fun _ hk => hk.2) (.slice Ao60 t262.length co60)) (fun _ hk => hk.2) (.int .i64 t265)) (fun _ hk => hk.2) (.bool t266)) (fun _ hk => hk.2) (.int .i64 t267)) (fun _ hk => hk.2) (.int .i64 t268)) (fun _ h_ => h_.1)))); (case side8 => exact (Kd.S_reads' HO258.out).2.1); (case side9 => refine (Kd.S_reads' (e := 27) (base := w.heap.size) (ok := fun k_ => ((((((some k_ ≠ (.slice Ao60 t262.length co60 : Value).ownBlock ∧ some k_ ≠ (.slice Ao35 t218.length co35 : Value).ownBlock) ∧ some k_ ≠ (.slice Ao36 t221.length co36 : Value).ownBlock) ∧ some k_ ≠ (.slice Ao38 t231.length co38 : Value).ownBlock) ∧ some k_ ≠ (.slice Ao39 t234.length co39 : Value).ownBlock) ∧ some k_ ≠ (.slice Ao48 t245.length co48 : Value).ownBlock) ∧ some k_ ≠ (.slice Ao49 t248.length co49 : Value).ownBlock)) (n := t259.length) (c := co59) ?_).2.2; exact (by (with_reducible repeat (first | apply Kd.S_alloc | apply Kd.S_drewN | apply Kd.S_drew)); exact (Kd.S_mono (Kd.S_far (p := ⟨gb269, 6, none⟩) (Kd.S_far (p := ⟨gb269, 5, none⟩) (Kd.S_far (p := ⟨gb269, 4, none⟩) (Kd.S_far (p := ⟨gb269, 3, none⟩) (Kd.S_far (p := ⟨gb269, 2, none⟩) (Kd.S_far (p := ⟨gb269, 1, none⟩) (Kd.S_far (p := ⟨gb269, 0, none⟩) (Kd.S_types HO261.out BK269.out (by decide)) (fun _ hk => hk.2) (.slice Ao54 t256.length co54)) (fun _ hk => hk.2) (.slice Ao59 t259.length co59)) (fun _ hk => hk.2) (.slice Ao60 t262.length co60)) (fun _ hk => hk.2) (.int .i64 t265)) (fun _ hk => hk.2) (.bool t266)) (fun _ hk => hk.2) (.int .i64 t267)) (fun _ hk => hk.2) (.int .i64 t268)) (fun _ h_ => h_.1)))); (case side10 => exact (Kd.S_reads' HO261.out).2.1); (case side11 => refine (Kd.R_reads' (e := 2) (base := w.heap.size) (ok := fun k_ => (((True ∧ some k_ ≠ (.slice Ao36 t221.length co36 : Value).ownBlock) ∧ some k_ ≠ (.slice Ao39 t234.length co39 : Value).ownBlock) ∧ some k_ ≠ (.slice Ao49 t248.length co49 : Value).ownBlock)) (n := t262.length) (c := co60) ?_).2.2; exact (by (with_reducible repeat (first | apply Kd.R_alloc | apply Kd.R_drewN | apply Kd.R_drew)); exact (Kd.R_mono (Kd.R_far (p := ⟨gb269, 6, none⟩) (Kd.R_far (p := ⟨gb269, 5, none⟩) (Kd.R_far (p := ⟨gb269, 4, none⟩) (Kd.R_far (p := ⟨gb269, 3, none⟩) (Kd.R_far (p := ⟨gb269, 2, none⟩) (Kd.R_far (p := ⟨gb269, 1, none⟩) (Kd.R_far (p := ⟨gb269, 0, none⟩) (Kd.R_types HO264.out BK269.out (by decide)) (fun _ hk => hk.2) (.slice Ao54 t256.length co54)) (fun _ hk => hk.2) (.slice Ao59 t259.length co59)) (fun _ hk => hk.2) (.slice Ao60 t262.length co60)) (fun _ hk => hk.2) (.int .i64 t265)) (fun _ hk => hk.2) (.bool t266)) (fun _ hk => hk.2) (.int .i64 t267)) (fun _ hk => hk.2) (.int .i64 t268)) (fun _ h_ => h_.1)))); (case side12 => exact (Kd.R_reads' HO264.out).2.1); rintro e w64 ⟨rfl, hb⟩; refine ⟨_, rfl, ?_⟩; replace HO217 := am (Kd.S_below (by (with_reducible repeat (first | apply Kd.S_alloc | apply Kd.S_drewN | apply Kd.S_drew)); exact (Kd.S_mono (Kd.S_far (p := ⟨gb269, 6, none⟩) (Kd.S_far (p := ⟨gb269, 5, none⟩) (Kd.S_far (p := ⟨gb269, 4, none⟩) (Kd.S_far (p := ⟨gb269, 3, none⟩) (Kd.S_far (p := ⟨gb269, 2, none⟩) (Kd.S_far (p := ⟨gb269, 1, none⟩) (Kd.S_far (p := ⟨gb269, 0, none⟩) (Kd.S_types HO217.out BK269.out (by decide)) (fun _ hk => hk.2) (.slice Ao54 t256.length co54)) (fun _ hk => hk.2) (.slice Ao59 t259.length co59)) (fun _ hk => hk.2) (.slice Ao60 t262.length co60)) (fun _ hk => hk.2) (.int .i64 t265)) (fun _ hk => hk.2) (.bool t266)) (fun _ hk => hk.2) (.int .i64 t267)) (fun _ hk => hk.2) (.int .i64 t268)) (fun _ h_ => h_.1))) hb); replace HO220 := am (Kd.S_below (by (with_reducible repeat (first | apply Kd.S_alloc | apply Kd.S_drewN | apply Kd.S_drew)); exact (Kd.S_mono (Kd.S_far (p := ⟨gb269, 6, none⟩) (Kd.S_far (p := ⟨gb269, 5, none⟩) (Kd.S_far (p := ⟨gb269, 4, none⟩) (Kd.S_far (p := ⟨gb269, 3, none⟩) (Kd.S_far (p := ⟨gb269, 2, none⟩) (Kd.S_far (p := ⟨gb269, 1, none⟩) (Kd.S_far (p := ⟨gb269, 0, none⟩) (Kd.S_types HO220.out BK269.out (by decide)) (fun _ hk => hk.2) (.slice Ao54 t256.length co54)) (fun _ hk => hk.2) (.slice Ao59 t259.length co59)) (fun _ hk => hk.2) (.slice Ao60 t262.length co60)) (fun _ hk => hk.2) (.int .i64 t265)) (fun _ hk => hk.2) (.bool t266)) (fun _ hk => hk.2) (.int .i64 t267)) (fun _ hk => hk.2) (.int .i64 t268)) (fun _ h_ => h_.1))) hb); replace HO223 := am (Kd.R_below (by (with_reducible repeat (first | apply Kd.R_alloc | apply Kd.R_drewN | apply Kd.R_drew)); exact (Kd.R_mono (Kd.R_far (p := ⟨gb269, 6, none⟩) (Kd.R_far (p := ⟨gb269, 5, none⟩) (Kd.R_far (p := ⟨gb269, 4, none⟩) (Kd.R_far (p := ⟨gb269, 3, none⟩) (Kd.R_far (p := ⟨gb269, 2, none⟩) (Kd.R_far (p := ⟨gb269, 1, none⟩) (Kd.R_far (p := ⟨gb269, 0, none⟩) (Kd.R_types HO223.out BK269.out (by decide)) (fun _ hk => hk.2) (.slice Ao54 t256.length co54)) (fun _ hk => hk.2) (.slice Ao59 t259.length co59)) (fun _ hk => hk.2) (.slice Ao60 t262.length co60)) (fun _ hk => hk.2) (.int .i64 t265)) (fun _ hk => hk.2) (.bool t266)) (fun _ hk => hk.2) (.int .i64 t267)) (fun _ hk => hk.2) (.int .i64 t268)) (fun _ h_ => h_.1))) hb); replace HO230 := am (Kd.S_below (by (with_reducible repeat (first | apply Kd.S_alloc | apply Kd.S_drewN | apply Kd.S_drew)); exact (Kd.S_mono (Kd.S_far (p := ⟨gb269, 6, none⟩) (Kd.S_far (p := ⟨gb269, 5, none⟩) (Kd.S_far (p := ⟨gb269, 4, none⟩) (Kd.S_far (p := ⟨gb269, 3, none⟩) (Kd.S_far (p := ⟨gb269, 2, none⟩) (Kd.S_far (p := ⟨gb269, 1, none⟩) (Kd.S_far (p := ⟨gb269, 0, none⟩) (Kd.S_types HO230.out BK269.out (by decide)) (fun _ hk => hk.2) (.slice Ao54 t256.length co54)) (fun _ hk => hk.2) (.slice Ao59 t259.length co59)) (fun _ hk => hk.2) (.slice Ao60 t262.length co60)) (fun _ hk => hk.2) (.int .i64 t265)) (fun _ hk => hk.2) (.bool t266)) (fun _ hk => hk.2) (.int .i64 t267)) (fun _ hk => hk.2) (.int .i64 t268)) (fun _ h_ => h_.1))) hb); replace HO233 := am (Kd.S_below (by (with_reducible repeat (first | apply Kd.S_alloc | apply Kd.S_drewN | apply Kd.S_drew)); exact (Kd.S_mono (Kd.S_far (p := ⟨gb269, 6, none⟩) (Kd.S_far (p := ⟨gb269, 5, none⟩) (Kd.S_far (p := ⟨gb269, 4, none⟩) (Kd.S_far (p := ⟨gb269, 3, none⟩) (Kd.S_far (p := ⟨gb269, 2, none⟩) (Kd.S_far (p := ⟨gb269, 1, none⟩) (Kd.S_far (p := ⟨gb269, 0, none⟩) (Kd.S_types HO233.out BK269.out (by decide)) (fun _ hk => hk.2) (.slice Ao54 t256.length co54)) (fun _ hk => hk.2) (.slice Ao59 t259.length co59)) (fun _ hk => hk.2) (.slice Ao60 t262.length co60)) (fun _ hk => hk.2) (.int .i64 t265)) (fun _ hk => hk.2) (.bool t266)) (fun _ hk => hk.2) (.int .i64 t267)) (fun _ hk => hk.2) (.int .i64 t268)) (fun _ h_ => h_.1))) hb); replace HO236 := am (Kd.R_below (by (with_reducible repeat (first | apply Kd.R_alloc | apply Kd.R_drewN | apply Kd.R_drew)); exact (Kd.R_mono (Kd.R_far (p := ⟨gb269, 6, none⟩) (Kd.R_far (p := ⟨gb269, 5, none⟩) (Kd.R_far (p := ⟨gb269, 4, none⟩) (Kd.R_far (p := ⟨gb269, 3, none⟩) (Kd.R_far (p := ⟨gb269, 2, none⟩) (Kd.R_far (p := ⟨gb269, 1, none⟩) (Kd.R_far (p := ⟨gb269, 0, none⟩) (Kd.R_types HO236.out BK269.out (by decide)) (fun _ hk => hk.2) (.slice Ao54 t256.length co54)) (fun _ hk => hk.2) (.slice Ao59 t259.length co59)) (fun _ hk => hk.2) (.slice Ao60 t262.length co60)) (fun _ hk => hk.2) (.int .i64 t265)) (fun _ hk => hk.2) (.bool t266)) (fun _ hk => hk.2) (.int .i64 t267)) (fun _ hk => hk.2) (.int .i64 t268)) (fun _ h_ => h_.1))) hb); replace HO244 := am (Kd.S_below (by (with_reducible repeat (first | apply Kd.S_alloc | apply Kd.S_drewN | apply Kd.S_drew)); exact (Kd.S_mono (Kd.S_far (p := ⟨gb269, 6, none⟩) (Kd.S_far (p := ⟨gb269, 5, none⟩) (Kd.S_far (p := ⟨gb269, 4, none⟩) (Kd.S_far (p := ⟨gb269, 3, none⟩) (Kd.S_far (p := ⟨gb269, 2, none⟩) (Kd.S_far (p := ⟨gb269, 1, none⟩) (Kd.S_far (p := ⟨gb269, 0, none⟩) (Kd.S_types HO244.out BK269.out (by decide)) (fun _ hk => hk.2) (.slice Ao54 t256.length co54)) (fun _ hk => hk.2) (.slice Ao59 t259.length co59)) (fun _ hk => hk.2) (.slice Ao60 t262.length co60)) (fun _ hk => hk.2) (.int .i64 t265)) (fun _ hk => hk.2) (.bool t266)) (fun _ hk => hk.2) (.int .i64 t267)) (fun _ hk => hk.2) (.int .i64 t268)) (fun _ h_ => h_.1))) hb); replace HO247 := am (Kd.S_below (by (with_reducible repeat (first | apply Kd.S_alloc | apply Kd.S_drewN | apply Kd.S_drew)); exact (Kd.S_mono (Kd.S_far (p := ⟨gb269, 6, none⟩) (Kd.S_far (p := ⟨gb269, 5, none⟩) (Kd.S_far (p := ⟨gb269, 4, none⟩) (Kd.S_far (p := ⟨gb269, 3, none⟩) (Kd.S_far (p := ⟨gb269, 2, none⟩) (Kd.S_far (p := ⟨gb269, 1, none⟩) (Kd.S_far (p := ⟨gb269, 0, none⟩) (Kd.S_types HO247.out BK269.out (by decide)) (fun _ hk => hk.2) (.slice Ao54 t256.length co54)) (fun _ hk => hk.2) (.slice Ao59 t259.length co59)) (fun _ hk => hk.2) (.slice Ao60 t262.length co60)) (fun _ hk => hk.2) (.int .i64 t265)) (fun _ hk => hk.2) (.bool t266)) (fun _ hk => hk.2) (.int .i64 t267)) (fun _ hk => hk.2) (.int .i64 t268)) (fun _ h_ => h_.1))) hb); replace HO250 := am (Kd.R_below (by (with_reducible repeat (first | apply Kd.R_alloc | apply Kd.R_drewN | apply Kd.R_drew)); exact (Kd.R_mono (Kd.R_far (p := ⟨gb269, 6, none⟩) (Kd.R_far (p := ⟨gb269, 5, none⟩) (Kd.R_far (p := ⟨gb269, 4, none⟩) (Kd.R_far (p := ⟨gb269, 3, none⟩) (Kd.R_far (p := ⟨gb269, 2, none⟩) (Kd.R_far (p := ⟨gb269, 1, none⟩) (Kd.R_far (p := ⟨gb269, 0, none⟩) (Kd.R_types HO250.out BK269.out (by decide)) (fun _ hk => hk.2) (.slice Ao54 t256.length co54)) (fun _ hk => hk.2) (.slice Ao59 t259.length co59)) (fun _ hk => hk.2) (.slice Ao60 t262.length co60)) (fun _ hk => hk.2) (.int .i64 t265)) (fun _ hk => hk.2) (.bool t266)) (fun _ hk => hk.2) (.int .i64 t267)) (fun _ hk => hk.2) (.int .i64 t268)) (fun _ h_ => h_.1))) hb); replace HO258 := am (Kd.S_below (by (with_reducible repeat (first | apply Kd.S_alloc | apply Kd.S_drewN | apply Kd.S_drew)); exact (Kd.S_mono (Kd.S_far (p := ⟨gb269, 6, none⟩) (Kd.S_far (p := ⟨gb269, 5, none⟩) (Kd.S_far (p := ⟨gb269, 4, none⟩) (Kd.S_far (p := ⟨gb269, 3, none⟩) (Kd.S_far (p := ⟨gb269, 2, none⟩) (Kd.S_far (p := ⟨gb269, 1, none⟩) (Kd.S_far (p := ⟨gb269, 0, none⟩) (Kd.S_types HO258.out BK269.out (by decide)) (fun _ hk => hk.2) (.slice Ao54 t256.length co54)) (fun _ hk => hk.2) (.slice Ao59 t259.length co59)) (fun _ hk => hk.2) (.slice Ao60 t262.length co60)) (fun _ hk => hk.2) (.int .i64 t265)) (fun _ hk => hk.2) (.bool t266)) (fun _ hk => hk.2) (.int .i64 t267)) (fun _ hk => hk.2) (.int .i64 t268)) (fun _ h_ => h_.1))) hb); replace HO261 := am (Kd.S_below (by (with_reducible repeat (first | apply Kd.S_alloc | apply Kd.S_drewN | apply Kd.S_drew)); exact (Kd.S_mono (Kd.S_far (p := ⟨gb269, 6, none⟩) (Kd.S_far (p := ⟨gb269, 5, none⟩) (Kd.S_far (p := ⟨gb269, 4, none⟩) (Kd.S_far (p := ⟨gb269, 3, none⟩) (Kd.S_far (p := ⟨gb269, 2, none⟩) (Kd.S_far (p := ⟨gb269, 1, none⟩) (Kd.S_far (p := ⟨gb269, 0, none⟩) (Kd.S_types HO261.out BK269.out (by decide)) (fun _ hk => hk.2) (.slice Ao54 t256.length co54)) (fun _ hk => hk.2) (.slice Ao59 t259.length co59)) (fun _ hk => hk.2) (.slice Ao60 t262.length co60)) (fun _ hk => hk.2) (.int .i64 t265)) (fun _ hk => hk.2) (.bool t266)) (fun _ hk => hk.2) (.int .i64 t267)) (fun _ hk => hk.2) (.int .i64 t268)) (fun _ h_ => h_.1))) hb); replace HO264 := am (Kd.R_below (by (with_reducible repeat (first | apply Kd.R_alloc | apply Kd.R_drewN | apply Kd.R_drew)); exact (Kd.R_mono (Kd.R_far (p := ⟨gb269, 6, none⟩) (Kd.R_far (p := ⟨gb269, 5, none⟩) (Kd.R_far (p := ⟨gb269, 4, none⟩) (Kd.R_far (p := ⟨gb269, 3, none⟩) (Kd.R_far (p := ⟨gb269, 2, none⟩) (Kd.R_far (p := ⟨gb269, 1, none⟩) (Kd.R_far (p := ⟨gb269, 0, none⟩) (Kd.R_types HO264.out BK269.out (by decide)) (fun _ hk => hk.2) (.slice Ao54 t256.length co54)) (fun _ hk => hk.2) (.slice Ao59 t259.length co59)) (fun _ hk => hk.2) (.slice Ao60 t262.length co60)) (fun _ hk => hk.2) (.int .i64 t265)) (fun _ hk => hk.2) (.bool t266)) (fun _ hk => hk.2) (.int .i64 t267)) (fun _ hk => hk.2) (.int .i64 t268)) (fun _ h_ => h_.1))) hb); replace BK211 := am (blk_below (g := gb211) (o := .cells #[.slice A0_0 l0_0.length c0_0, .slice A0_1 l0_1.length c0_1, .slice A0_2 l0_2.length c0_2, .int .i64 a0_3, .bool a0_4, .int .i64 a0_5, .int .i64 a0_6] 62 (0, 0)) (by (with_reducible repeat (first | apply dN | apply dW | apply dA)); refine blk_far ?_ NB211_269.out _; (with_reducible repeat (first | apply dN | apply dW | apply dA)); refine blk_far ?_ NB211_269.out _; (with_reducible repeat (first | apply dN | apply dW | apply dA)); refine blk_far ?_ NB211_269.out _; (with_reducible repeat (first | apply dN | apply dW | apply dA)); refine blk_far ?_ NB211_269.out _; (with_reducible repeat (first | apply dN | apply dW | apply dA)); refine blk_far ?_ NB211_269.out _; (with_reducible repeat (first | apply dN | apply dW | apply dA)); refine blk_far ?_ NB211_269.out _; (with_reducible repeat (first | apply dN | apply dW | apply dA)); refine blk_far ?_ NB211_269.out _; exact bp BK211) hb); replace BK212 := am (blk_below (g := gb212) (o := .cells #[.slice A1_0 l1_0.length c1_0, .slice A1_1 l1_1.length c1_1, .slice A1_2 l1_2.length c1_2, .int .i64 a1_3, .bool a1_4, .int .i64 a1_5, .int .i64 a1_6] 62 (0, 0)) (by (with_reducible repeat (first | apply dN | apply dW | apply dA)); refine blk_far ?_ NB212_269.out _; (with_reducible repeat (first | apply dN | apply dW | apply dA)); refine blk_far ?_ NB212_269.out _; (with_reducible repeat (first | apply dN | apply dW | apply dA)); refine blk_far ?_ NB212_269.out _; (with_reducible repeat (first | apply dN | apply dW | apply dA)); refine blk_far ?_ NB212_269.out _; (with_reducible repeat (first | apply dN | apply dW | apply dA)); refine blk_far ?_ NB212_269.out _; (with_reducible repeat (first | apply dN | apply dW | apply dA)); refine blk_far ?_ NB212_269.out _; (with_reducible repeat (first | apply dN | apply dW | apply dA)); refine blk_far ?_ NB212_269.out _; exact bp BK212) hb); replace BK255 := am (blk_below (g := gb255) (o := .cells #[.slice Ao44 t242.length co44, .slice Ao48 t245.length co48, .slice Ao49 t248.length co49, .int .i64 t251, .bool t252, .int .i64 t253, .int .i64 t254] 67 (0, 0)) (by (with_reducible repeat (first | apply dN | apply dW | apply dA)); refine blk_far ?_ NB255_269.out _; (with_reducible repeat (first | apply dN | apply dW | apply dA)); refine blk_far ?_ NB255_269.out _; (with_reducible repeat (first | apply dN | apply dW | apply dA)); refine blk_far ?_ NB255_269.out _; (with_reducible repeat (first | apply dN | apply dW | apply dA)); refine blk_far ?_ NB255_269.out _; (with_reducible repeat (first | apply dN | apply dW | apply dA)); refine blk_far ?_ NB255_269.out _; (with_reducible repeat (first | apply dN | apply dW | apply dA)); refine blk_far ?_ NB255_269.out _; (with_reducible repeat (first | apply dN | apply dW | apply dA)); refine blk_far ?_ NB255_269.out _; exact bp BK255) hb); replace BK269 := am (blk_below (g := gb269) (o := .cells #[.slice Ao54 t256.length co54, .slice Ao59 t259.length co59, .slice Ao60 t262.length co60, .int .i64 t265, .bool t266, .int .i64 t267, .int .i64 t268] 67 (0, 0)) (by (with_reducible repeat (first | apply dN | apply dW | apply dA)); refine blk_put (cs := #[.slice Ao54 t256.length co54, .slice Ao59 t259.length co59, .slice Ao60 t262.length co60, .int .i64 t265, .bool t266, .int .i64 t267, .int .i64 0]) ?_ 6 _ rfl; (with_reducible repeat (first | apply dN | apply dW | apply dA)); refine blk_put (cs := #[.slice Ao54 t256.length co54, .slice Ao59 t259.length co59, .slice Ao60 t262.length co60, .int .i64 t265, .bool t266, .int .i64 0, .int .i64 0]) ?_ 5 _ rfl; (with_reducible repeat (first | apply dN | apply dW | apply dA)); refine blk_put (cs := #[.slice Ao54 t256.length co54, .slice Ao59 t259.length co59, .slice Ao60 t262.length co60, .int .i64 t265, .bool false, .int .i64 0, .int .i64 0]) ?_ 4 _ rfl; (with_reducible repeat (first | apply dN | apply dW | apply dA)); refine blk_put (cs := #[.slice Ao54 t256.length co54, .slice Ao59 t259.length co59, .slice Ao60 t262.length co60, .int .i64 0, .bool false, .int .i64 0, .int .i64 0]) ?_ 3 _ rfl; (with_reducible repeat (first | apply dN | apply dW | apply dA)); refine blk_put (cs := #[.slice Ao54 t256.length co54, .slice Ao59 t259.length co59, .slice none 0 0, .int .i64 0, .bool false, .int .i64 0, .int .i64 0]) ?_ 2 _ rfl; (with_reducible repeat (first | apply dN | apply dW | apply dA)); refine blk_put (cs := #[.slice Ao54 t256.length co54, .slice none 0 0, .slice none 0 0, .int .i64 0, .bool false, .int .i64 0, .int .i64 0]) ?_ 1 _ rfl; (with_reducible repeat (first | apply dN | apply dW | apply dA)); refine blk_put (cs := #[.slice none 0 0, .slice none 0 0, .slice none 0 0, .int .i64 0, .bool false, .int .i64 0, .int .i64 0]) ?_ 0 _ rfl; exact bp BK269) hb); replace HB := am (below_step (bw HB) hb); (try clear hb); (try clear hb2); (try clear hk); (try clear hi)))
    go_ret
    exact ⟨er, bw HB⟩
   ·rw [if_neg c53] at H
    have c53b0 : (t270 != t241) = false := by simpa using c53
    (try (have c53b1 : decide (t270 = t241) = true := by simpa using c53))
    (try (have c53b2 : (t270 == t241) = true := by simpa using c53))
    clear c53
    replace H := Option.bind_eq_some_iff.mp H
    obtain ⟨⟨t271, t274, t277, t280, t281, t282, t283⟩, A650, H⟩ := H
    replace H : ((laws_eqState.f k t242 t245 t248 t251 t252 t253 t254 t271 t274 t277 t280 t281 t282 t283).bind fun t284 => (if t284 = true then ((laws_toState.f k l1_0 l1_1 l1_2 a1_3 a1_4 a1_5 a1_6).bind fun bt285 => ((laws_eqState.f k t256 t259 t262 t265 t266 t267 t268 bt285.1 bt285.2.1 bt285.2.2.1 bt285.2.2.2.1 bt285.2.2.2.2.1 bt285.2.2.2.2.2.1 bt285.2.2.2.2.2.2).bind fun t298 => (if t298 = true then (some true) else (some false)))) else (some false))) = some r := H
    have A65 := am A650
    clear A650
    replace H := Option.bind_eq_some_iff.mp H
    obtain ⟨t284, A660, H⟩ := H
    replace H : (if t284 = true then ((laws_toState.f k l1_0 l1_1 l1_2 a1_3 a1_4 a1_5 a1_6).bind fun bt285 => ((laws_eqState.f k t256 t259 t262 t265 t266 t267 t268 bt285.1 bt285.2.1 bt285.2.2.1 bt285.2.2.2.1 bt285.2.2.2.2.1 bt285.2.2.2.2.2.1 bt285.2.2.2.2.2.2).bind fun t298 => (if t298 = true then (some true) else (some false)))) else (some false)) = some r := H
    have A66 := am A660
    clear A660
    by_cases c67 : t284 = true
    ·subst c67
     have H1 : ((laws_toState.f k l1_0 l1_1 l1_2 a1_3 a1_4 a1_5 a1_6).bind fun bt285 => ((laws_eqState.f k t256 t259 t262 t265 t266 t267 t268 bt285.1 bt285.2.1 bt285.2.2.1 bt285.2.2.2.1 bt285.2.2.2.2.1 bt285.2.2.2.2.2.1 bt285.2.2.2.2.2.2).bind fun t298 => (if t298 = true then (some true) else (some false)))) = some r := by rw [if_pos rfl] at H; exact H
     clear H
     have H := H1
     clear H1
     replace H := Option.bind_eq_some_iff.mp H
     obtain ⟨⟨t285, t288, t291, t294, t295, t296, t297⟩, A680, H⟩ := H
     replace H : ((laws_eqState.f k t256 t259 t262 t265 t266 t267 t268 t285 t288 t291 t294 t295 t296 t297).bind fun t298 => (if t298 = true then (some true) else (some false))) = some r := H
     have A68 := am A680
     clear A680
     replace H := Option.bind_eq_some_iff.mp H
     obtain ⟨t298, A690, H⟩ := H
     replace H : (if t298 = true then (some true) else (some false)) = some r := H
     have A69 := am A690
     clear A690
     by_cases c70 : t298 = true
     ·subst c70
      have H1 : (some true) = some r := by rw [if_pos rfl] at H; exact H
      clear H
      have H := H1
      clear H1
      obtain rfl := Option.some.inj H
      obtain ⟨Ao71, co71, eo71⟩ := Kd.S_slice HO258.out
      subst eo71
      have hnb72 := NB269_211.out
      have hnc72 := NB211_269.out
      have hnb73 := NB269_212.out
      have hnc73 := NB212_269.out
      have hnb74 := NB269_255.out
      have hnc74 := NB255_269.out
      have hcz75_0 : w52.cell? ⟨gb269, 0, none⟩ = some (.slice none 0 0) := bc BK269 0
      have hcz75_1 : w52.cell? ⟨gb269, 1, none⟩ = some (.slice none 0 0) := bc BK269 1
      have hcz75_2 : w52.cell? ⟨gb269, 2, none⟩ = some (.slice none 0 0) := bc BK269 2
      have hcz75_3 : w52.cell? ⟨gb269, 3, none⟩ = some (.int .i64 0) := bc BK269 3
      have hcz75_4 : w52.cell? ⟨gb269, 4, none⟩ = some (.bool false) := bc BK269 4
      have hcz75_5 : w52.cell? ⟨gb269, 5, none⟩ = some (.int .i64 0) := bc BK269 5
      have hcz75_6 : w52.cell? ⟨gb269, 6, none⟩ = some (.int .i64 0) := bc BK269 6
      have hfz75_0 := bf BK269 0
      have hfz75_1 := bf BK269 1
      have hfz75_2 := bf BK269 2
      have hfz75_3 := bf BK269 3
      have hfz75_4 := bf BK269 4
      have hfz75_5 := bf BK269 5
      have hfz75_6 := bf BK269 6
      obtain ⟨Ao76, co76, eo76⟩ := Kd.S_slice HO261.out
      subst eo76
      obtain ⟨Ao77, co77, eo77⟩ := Kd.R_slice HO264.out
      subst eo77
      have hnb78 := NB255_211.out
      have hnc78 := NB211_255.out
      have hnb79 := NB255_212.out
      have hnc79 := NB212_255.out
      have hcz80_0 : w52.cell? ⟨gb255, 0, none⟩ = some (.slice Ao44 t242.length co44) := bc BK255 0
      have hcz80_1 : w52.cell? ⟨gb255, 1, none⟩ = some (.slice Ao48 t245.length co48) := bc BK255 1
      have hcz80_2 : w52.cell? ⟨gb255, 2, none⟩ = some (.slice Ao49 t248.length co49) := bc BK255 2
      have hcz80_3 : w52.cell? ⟨gb255, 3, none⟩ = some (.int .i64 t251) := bc BK255 3
      have hcz80_4 : w52.cell? ⟨gb255, 4, none⟩ = some (.bool t252) := bc BK255 4
      have hcz80_5 : w52.cell? ⟨gb255, 5, none⟩ = some (.int .i64 t253) := bc BK255 5
      have hcz80_6 : w52.cell? ⟨gb255, 6, none⟩ = some (.int .i64 t254) := bc BK255 6
      have hfz80_0 := bf BK255 0
      have hfz80_1 := bf BK255 1
      have hfz80_2 := bf BK255 2
      have hfz80_3 := bf BK255 3
      have hfz80_4 := bf BK255 4
      have hfz80_5 := bf BK255 5
      have hfz80_6 := bf BK255 6
      try go_wp2_with (first | ((with_reducible refine gate_callee (f := 45) rfl ?_); refine goesL_ (some 31) rfl rfl Try.func45 (by kernel_rfl) rfl #[.agg #[.slice Ao44 t242.length co44, .slice Ao48 t245.length co48, .slice Ao49 t248.length co49, .int .i64 t251, .bool t252, .int .i64 t253, .int .i64 t254], .agg #[.slice Ao71 t256.length co71, .slice Ao76 t259.length co76, .slice Ao77 t262.length co77, .int .i64 t265, .bool t266, .int .i64 t267, .int .i64 t268]] rfl gl ?_; (with_reducible refine (impl_StateSame.calls k _ _ t242 _ _ t245 _ _ t248 t251 t252 t253 t254 _ _ t256 _ _ t259 _ _ t262 t265 t266 t267 t268 t270 _ ?side1 ?side2 ?side3 ?side4 ?side5 ?side6 ?side7 ?side8 ?side9 ?side10 ?side11 ?side12 A26.out).mono ?_); (case side1 => refine (Kd.S_reads' (e := 111) (base := w.heap.size) (ok := fun k_ => ((((((some k_ ≠ (.slice Ao49 t248.length co49 : Value).ownBlock ∧ some k_ ≠ (.slice Ao34 t215.length co34 : Value).ownBlock) ∧ some k_ ≠ (.slice Ao36 t221.length co36 : Value).ownBlock) ∧ some k_ ≠ (.slice Ao37 t228.length co37 : Value).ownBlock) ∧ some k_ ≠ (.slice Ao39 t234.length co39 : Value).ownBlock) ∧ some k_ ≠ (.slice Ao71 t256.length co71 : Value).ownBlock) ∧ some k_ ≠ (.slice Ao77 t262.length co77 : Value).ownBlock)) (n := t242.length) (c := co44) ?_).2.2; exact (by (with_reducible repeat (first | apply Kd.S_alloc | apply Kd.S_drewN | apply Kd.S_drew)); exact (Kd.S_mono (Kd.S_far (p := ⟨gb269, 6, none⟩) (Kd.S_far (p := ⟨gb269, 5, none⟩) (Kd.S_far (p := ⟨gb269, 4, none⟩) (Kd.S_far (p := ⟨gb269, 3, none⟩) (Kd.S_far (p := ⟨gb269, 2, none⟩) (Kd.S_far (p := ⟨gb269, 1, none⟩) (Kd.S_far (p := ⟨gb269, 0, none⟩) (Kd.S_types HO244.out BK269.out (by decide)) (fun _ hk => hk.2) (.slice Ao71 t256.length co71)) (fun _ hk => hk.2) (.slice Ao76 t259.length co76)) (fun _ hk => hk.2) (.slice Ao77 t262.length co77)) (fun _ hk => hk.2) (.int .i64 t265)) (fun _ hk => hk.2) (.bool t266)) (fun _ hk => hk.2) (.int .i64 t267)) (fun _ hk => hk.2) (.int .i64 t268)) (fun _ h_ => h_.1)))); (case side2 => exact (Kd.S_reads' HO244.out).2.1); (case side3 => refine (Kd.S_reads' (e := 27) (base := w.heap.size) (ok := fun k_ => ((((((some k_ ≠ (.slice Ao49 t248.length co49 : Value).ownBlock ∧ some k_ ≠ (.slice Ao35 t218.length co35 : Value).ownBlock) ∧ some k_ ≠ (.slice Ao36 t221.length co36 : Value).ownBlock) ∧ some k_ ≠ (.slice Ao38 t231.length co38 : Value).ownBlock) ∧ some k_ ≠ (.slice Ao39 t234.length co39 : Value).ownBlock) ∧ some k_ ≠ (.slice Ao76 t259.length co76 : Value).ownBlock) ∧ some k_ ≠ (.slice Ao77 t262.length co77 : Value).ownBlock)) (n := t245.length) (c := co48) ?_).2.2; exact (by (with_reducible repeat (first | apply Kd.S_alloc | apply Kd.S_drewN | apply Kd.S_drew)); exact (Kd.S_mono (Kd.S_far (p := ⟨gb269, 6, none⟩) (Kd.S_far (p := ⟨gb269, 5, none⟩) (Kd.S_far (p := ⟨gb269, 4, none⟩) (Kd.S_far (p := ⟨gb269, 3, none⟩) (Kd.S_far (p := ⟨gb269, 2, none⟩) (Kd.S_far (p := ⟨gb269, 1, none⟩) (Kd.S_far (p := ⟨gb269, 0, none⟩) (Kd.S_types HO247.out BK269.out (by decide)) (fun _ hk => hk.2) (.slice Ao71 t256.length co71)) (fun _ hk => hk.2) (.slice Ao76 t259.length co76)) (fun _ hk => hk.2) (.slice Ao77 t262.length co77)) (fun _ hk => hk.2) (.int .i64 t265)) (fun _ hk => hk.2) (.bool t266)) (fun _ hk => hk.2) (.int .i64 t267)) (fun _ hk => hk.2) (.int .i64 t268)) (fun _ h_ => h_.1)))); (case side4 => exact (Kd.S_reads' HO247.out).2.1); (case side5 => refine (Kd.R_reads' (e := 2) (base := w.heap.size) (ok := fun k_ => (((True ∧ some k_ ≠ (.slice Ao36 t221.length co36 : Value).ownBlock) ∧ some k_ ≠ (.slice Ao39 t234.length co39 : Value).ownBlock) ∧ some k_ ≠ (.slice Ao77 t262.length co77 : Value).ownBlock)) (n := t248.length) (c := co49) ?_).2.2; exact (by (with_reducible repeat (first | apply Kd.R_alloc | apply Kd.R_drewN | apply Kd.R_drew)); exact (Kd.R_mono (Kd.R_far (p := ⟨gb269, 6, none⟩) (Kd.R_far (p := ⟨gb269, 5, none⟩) (Kd.R_far (p := ⟨gb269, 4, none⟩) (Kd.R_far (p := ⟨gb269, 3, none⟩) (Kd.R_far (p := ⟨gb269, 2, none⟩) (Kd.R_far (p := ⟨gb269, 1, none⟩) (Kd.R_far (p := ⟨gb269, 0, none⟩) (Kd.R_types HO250.out BK269.out (by decide)) (fun _ hk => hk.2) (.slice Ao71 t256.length co71)) (fun _ hk => hk.2) (.slice Ao76 t259.length co76)) (fun _ hk => hk.2) (.slice Ao77 t262.length co77)) (fun _ hk => hk.2) (.int .i64 t265)) (fun _ hk => hk.2) (.bool t266)) (fun _ hk => hk.2) (.int .i64 t267)) (fun _ hk => hk.2) (.int .i64 t268)) (fun _ h_ => h_.1)))); (case side6 => exact (Kd.R_reads' HO250.out).2.1); (case side7 => refine (Kd.S_reads' (e := 111) (base := w.heap.size) (ok := fun k_ => ((((((some k_ ≠ (.slice Ao77 t262.length co77 : Value).ownBlock ∧ some k_ ≠ (.slice Ao34 t215.length co34 : Value).ownBlock) ∧ some k_ ≠ (.slice Ao36 t221.length co36 : Value).ownBlock) ∧ some k_ ≠ (.slice Ao37 t228.length co37 : Value).ownBlock) ∧ some k_ ≠ (.slice Ao39 t234.length co39 : Value).ownBlock) ∧ some k_ ≠ (.slice Ao44 t242.length co44 : Value).ownBlock) ∧ some k_ ≠ (.slice Ao49 t248.length co49 : Value).ownBlock)) (n := t256.length) (c := co71) ?_).2.2; exact (by (with_reducible repeat (first | apply Kd.S_alloc | apply Kd.S_drewN | apply Kd.S_drew)); exact (Kd.S_mono (Kd.S_far (p := ⟨gb269, 6, none⟩) (Kd.S_far (p := ⟨gb269, 5, none⟩) (Kd.S_far (p := ⟨gb269, 4, none⟩) (Kd.S_far (p := ⟨gb269, 3, none⟩) (Kd.S_far (p := ⟨gb269, 2, none⟩) (Kd.S_far (p := ⟨gb269, 1, none⟩) (Kd.S_far (p := ⟨gb269, 0, none⟩) (Kd.S_types HO258.out BK269.out (by decide)) (fun _ hk => hk.2) (.slice Ao71 t256.length co71)) (fun _ hk => hk.2) (.slice Ao76 t259.length co76)) (fun _ hk => hk.2) (.slice Ao77 t262.length co77)) (fun _ hk => hk.2) (.int .i64 t265)) (fun _ hk => hk.2) (.bool t266)) (fun _ hk => hk.2) (.int .i64 t267)) (fun _ hk => hk.2) (.int .i64 t268)) (fun _ h_ => h_.1)))); (case side8 => exact (Kd.S_reads' HO258.out).2.1); (case side9 => refine (Kd.S_reads' (e := 27) (base := w.heap.size) (ok := fun k_ => ((((((some k_ ≠ (.slice Ao77 t262.length co77 : Value).ownBlock ∧ some k_ ≠ (.slice Ao35 t218.length co35 : Value).ownBlock) ∧ some k_ ≠ (.slice Ao36 t221.length co36 : Value).ownBlock) ∧ some k_ ≠ (.slice Ao38 t231.length co38 : Value).ownBlock) ∧ some k_ ≠ (.slice Ao39 t234.length co39 : Value).ownBlock) ∧ some k_ ≠ (.slice Ao48 t245.length co48 : Value).ownBlock) ∧ some k_ ≠ (.slice Ao49 t248.length co49 : Value).ownBlock)) (n := t259.length) (c := co76) ?_).2.2; exact (by (with_reducible repeat (first | apply Kd.S_alloc | apply Kd.S_drewN | apply Kd.S_drew)); exact (Kd.S_mono (Kd.S_far (p := ⟨gb269, 6, none⟩) (Kd.S_far (p := ⟨gb269, 5, none⟩) (Kd.S_far (p := ⟨gb269, 4, none⟩) (Kd.S_far (p := ⟨gb269, 3, none⟩) (Kd.S_far (p := ⟨gb269, 2, none⟩) (Kd.S_far (p := ⟨gb269, 1, none⟩) (Kd.S_far (p := ⟨gb269, 0, none⟩) (Kd.S_types HO261.out BK269.out (by decide)) (fun _ hk => hk.2) (.slice Ao71 t256.length co71)) (fun _ hk => hk.2) (.slice Ao76 t259.length co76)) (fun _ hk => hk.2) (.slice Ao77 t262.length co77)) (fun _ hk => hk.2) (.int .i64 t265)) (fun _ hk => hk.2) (.bool t266)) (fun _ hk => hk.2) (.int .i64 t267)) (fun _ hk => hk.2) (.int .i64 t268)) (fun _ h_ => h_.1)))); (case side10 => exact (Kd.S_reads' HO261.out).2.1); (case side11 => refine (Kd.R_reads' (e := 2) (base := w.heap.size) (ok := fun k_ => (((True ∧ some k_ ≠ (.slice Ao36 t221.length co36 : Value).ownBlock) ∧ some k_ ≠ (.slice Ao39 t234.length co39 : Value).ownBlock) ∧ some k_ ≠ (.slice Ao49 t248.length co49 : Value).ownBlock)) (n := t262.length) (c := co77) ?_).2.2; exact (by (with_reducible repeat (first | apply Kd.R_alloc | apply Kd.R_drewN | apply Kd.R_drew)); exact (Kd.R_mono (Kd.R_far (p := ⟨gb269, 6, none⟩) (Kd.R_far (p := ⟨gb269, 5, none⟩) (Kd.R_far (p := ⟨gb269, 4, none⟩) (Kd.R_far (p := ⟨gb269, 3, none⟩) (Kd.R_far (p := ⟨gb269, 2, none⟩) (Kd.R_far (p := ⟨gb269, 1, none⟩) (Kd.R_far (p := ⟨gb269, 0, none⟩) (Kd.R_types HO264.out BK269.out (by decide)) (fun _ hk => hk.2) (.slice Ao71 t256.length co71)) (fun _ hk => hk.2) (.slice Ao76 t259.length co76)) (fun _ hk => hk.2) (.slice Ao77 t262.length co77)) (fun _ hk => hk.2) (.int .i64 t265)) (fun _ hk => hk.2) (.bool t266)) (fun _ hk => hk.2) (.int .i64 t267)) (fun _ hk => hk.2) (.int .i64 t268)) (fun _ h_ => h_.1)))); (case side12 => exact (Kd.R_reads' HO264.out).2.1); rintro e w81 ⟨rfl, hb⟩; refine ⟨_, rfl, ?_⟩; replace HO217 := am (Kd.S_below (by (with_reducible repeat (first | apply Kd.S_alloc | apply Kd.S_drewN | apply Kd.S_drew)); exact (Kd.S_mono (Kd.S_far (p := ⟨gb269, 6, none⟩) (Kd.S_far (p := ⟨gb269, 5, none⟩) (Kd.S_far (p := ⟨gb269, 4, none⟩) (Kd.S_far (p := ⟨gb269, 3, none⟩) (Kd.S_far (p := ⟨gb269, 2, none⟩) (Kd.S_far (p := ⟨gb269, 1, none⟩) (Kd.S_far (p := ⟨gb269, 0, none⟩) (Kd.S_types HO217.out BK269.out (by decide)) (fun _ hk => hk.2) (.slice Ao71 t256.length co71)) (fun _ hk => hk.2) (.slice Ao76 t259.length co76)) (fun _ hk => hk.2) (.slice Ao77 t262.length co77)) (fun _ hk => hk.2) (.int .i64 t265)) (fun _ hk => hk.2) (.bool t266)) (fun _ hk => hk.2) (.int .i64 t267)) (fun _ hk => hk.2) (.int .i64 t268)) (fun _ h_ => h_.1))) hb); replace HO220 := am (Kd.S_below (by (with_reducible repeat (first | apply Kd.S_alloc | apply Kd.S_drewN | apply Kd.S_drew)); exact (Kd.S_mono (Kd.S_far (p := ⟨gb269, 6, none⟩) (Kd.S_far (p := ⟨gb269, 5, none⟩) (Kd.S_far (p := ⟨gb269, 4, none⟩) (Kd.S_far (p := ⟨gb269, 3, none⟩) (Kd.S_far (p := ⟨gb269, 2, none⟩) (Kd.S_far (p := ⟨gb269, 1, none⟩) (Kd.S_far (p := ⟨gb269, 0, none⟩) (Kd.S_types HO220.out BK269.out (by decide)) (fun _ hk => hk.2) (.slice Ao71 t256.length co71)) (fun _ hk => hk.2) (.slice Ao76 t259.length co76)) (fun _ hk => hk.2) (.slice Ao77 t262.length co77)) (fun _ hk => hk.2) (.int .i64 t265)) (fun _ hk => hk.2) (.bool t266)) (fun _ hk => hk.2) (.int .i64 t267)) (fun _ hk => hk.2) (.int .i64 t268)) (fun _ h_ => h_.1))) hb); replace HO223 := am (Kd.R_below (by (with_reducible repeat (first | apply Kd.R_alloc | apply Kd.R_drewN | apply Kd.R_drew)); exact (Kd.R_mono (Kd.R_far (p := ⟨gb269, 6, none⟩) (Kd.R_far (p := ⟨gb269, 5, none⟩) (Kd.R_far (p := ⟨gb269, 4, none⟩) (Kd.R_far (p := ⟨gb269, 3, none⟩) (Kd.R_far (p := ⟨gb269, 2, none⟩) (Kd.R_far (p := ⟨gb269, 1, none⟩) (Kd.R_far (p := ⟨gb269, 0, none⟩) (Kd.R_types HO223.out BK269.out (by decide)) (fun _ hk => hk.2) (.slice Ao71 t256.length co71)) (fun _ hk => hk.2) (.slice Ao76 t259.length co76)) (fun _ hk => hk.2) (.slice Ao77 t262.length co77)) (fun _ hk => hk.2) (.int .i64 t265)) (fun _ hk => hk.2) (.bool t266)) (fun _ hk => hk.2) (.int .i64 t267)) (fun _ hk => hk.2) (.int .i64 t268)) (fun _ h_ => h_.1))) hb); replace HO230 := am (Kd.S_below (by (with_reducible repeat (first | apply Kd.S_alloc | apply Kd.S_drewN | apply Kd.S_drew)); exact (Kd.S_mono (Kd.S_far (p := ⟨gb269, 6, none⟩) (Kd.S_far (p := ⟨gb269, 5, none⟩) (Kd.S_far (p := ⟨gb269, 4, none⟩) (Kd.S_far (p := ⟨gb269, 3, none⟩) (Kd.S_far (p := ⟨gb269, 2, none⟩) (Kd.S_far (p := ⟨gb269, 1, none⟩) (Kd.S_far (p := ⟨gb269, 0, none⟩) (Kd.S_types HO230.out BK269.out (by decide)) (fun _ hk => hk.2) (.slice Ao71 t256.length co71)) (fun _ hk => hk.2) (.slice Ao76 t259.length co76)) (fun _ hk => hk.2) (.slice Ao77 t262.length co77)) (fun _ hk => hk.2) (.int .i64 t265)) (fun _ hk => hk.2) (.bool t266)) (fun _ hk => hk.2) (.int .i64 t267)) (fun _ hk => hk.2) (.int .i64 t268)) (fun _ h_ => h_.1))) hb); replace HO233 := am (Kd.S_below (by (with_reducible repeat (first | apply Kd.S_alloc | apply Kd.S_drewN | apply Kd.S_drew)); exact (Kd.S_mono (Kd.S_far (p := ⟨gb269, 6, none⟩) (Kd.S_far (p := ⟨gb269, 5, none⟩) (Kd.S_far (p := ⟨gb269, 4, none⟩) (Kd.S_far (p := ⟨gb269, 3, none⟩) (Kd.S_far (p := ⟨gb269, 2, none⟩) (Kd.S_far (p := ⟨gb269, 1, none⟩) (Kd.S_far (p := ⟨gb269, 0, none⟩) (Kd.S_types HO233.out BK269.out (by decide)) (fun _ hk => hk.2) (.slice Ao71 t256.length co71)) (fun _ hk => hk.2) (.slice Ao76 t259.length co76)) (fun _ hk => hk.2) (.slice Ao77 t262.length co77)) (fun _ hk => hk.2) (.int .i64 t265)) (fun _ hk => hk.2) (.bool t266)) (fun _ hk => hk.2) (.int .i64 t267)) (fun _ hk => hk.2) (.int .i64 t268)) (fun _ h_ => h_.1))) hb); replace HO236 := am (Kd.R_below (by (with_reducible repeat (first | apply Kd.R_alloc | apply Kd.R_drewN | apply Kd.R_drew)); exact (Kd.R_mono (Kd.R_far (p := ⟨gb269, 6, none⟩) (Kd.R_far (p := ⟨gb269, 5, none⟩) (Kd.R_far (p := ⟨gb269, 4, none⟩) (Kd.R_far (p := ⟨gb269, 3, none⟩) (Kd.R_far (p := ⟨gb269, 2, none⟩) (Kd.R_far (p := ⟨gb269, 1, none⟩) (Kd.R_far (p := ⟨gb269, 0, none⟩) (Kd.R_types HO236.out BK269.out (by decide)) (fun _ hk => hk.2) (.slice Ao71 t256.length co71)) (fun _ hk => hk.2) (.slice Ao76 t259.length co76)) (fun _ hk => hk.2) (.slice Ao77 t262.length co77)) (fun _ hk => hk.2) (.int .i64 t265)) (fun _ hk => hk.2) (.bool t266)) (fun _ hk => hk.2) (.int .i64 t267)) (fun _ hk => hk.2) (.int .i64 t268)) (fun _ h_ => h_.1))) hb); replace HO244 := am (Kd.S_below (by (with_reducible repeat (first | apply Kd.S_alloc | apply Kd.S_drewN | apply Kd.S_drew)); exact (Kd.S_mono (Kd.S_far (p := ⟨gb269, 6, none⟩) (Kd.S_far (p := ⟨gb269, 5, none⟩) (Kd.S_far (p := ⟨gb269, 4, none⟩) (Kd.S_far (p := ⟨gb269, 3, none⟩) (Kd.S_far (p := ⟨gb269, 2, none⟩) (Kd.S_far (p := ⟨gb269, 1, none⟩) (Kd.S_far (p := ⟨gb269, 0, none⟩) (Kd.S_types HO244.out BK269.out (by decide)) (fun _ hk => hk.2) (.slice Ao71 t256.length co71)) (fun _ hk => hk.2) (.slice Ao76 t259.length co76)) (fun _ hk => hk.2) (.slice Ao77 t262.length co77)) (fun _ hk => hk.2) (.int .i64 t265)) (fun _ hk => hk.2) (.bool t266)) (fun _ hk => hk.2) (.int .i64 t267)) (fun _ hk => hk.2) (.int .i64 t268)) (fun _ h_ => h_.1))) hb); replace HO247 := am (Kd.S_below (by (with_reducible repeat (first | apply Kd.S_alloc | apply Kd.S_drewN | apply Kd.S_drew)); exact (Kd.S_mono (Kd.S_far (p := ⟨gb269, 6, none⟩) (Kd.S_far (p := ⟨gb269, 5, none⟩) (Kd.S_far (p := ⟨gb269, 4, none⟩) (Kd.S_far (p := ⟨gb269, 3, none⟩) (Kd.S_far (p := ⟨gb269, 2, none⟩) (Kd.S_far (p := ⟨gb269, 1, none⟩) (Kd.S_far (p := ⟨gb269, 0, none⟩) (Kd.S_types HO247.out BK269.out (by decide)) (fun _ hk => hk.2) (.slice Ao71 t256.length co71)) (fun _ hk => hk.2) (.slice Ao76 t259.length co76)) (fun _ hk => hk.2) (.slice Ao77 t262.length co77)) (fun _ hk => hk.2) (.int .i64 t265)) (fun _ hk => hk.2) (.bool t266)) (fun _ hk => hk.2) (.int .i64 t267)) (fun _ hk => hk.2) (.int .i64 t268)) (fun _ h_ => h_.1))) hb); replace HO250 := am (Kd.R_below (by (with_reducible repeat (first | apply Kd.R_alloc | apply Kd.R_drewN | apply Kd.R_drew)); exact (Kd.R_mono (Kd.R_far (p := ⟨gb269, 6, none⟩) (Kd.R_far (p := ⟨gb269, 5, none⟩) (Kd.R_far (p := ⟨gb269, 4, none⟩) (Kd.R_far (p := ⟨gb269, 3, none⟩) (Kd.R_far (p := ⟨gb269, 2, none⟩) (Kd.R_far (p := ⟨gb269, 1, none⟩) (Kd.R_far (p := ⟨gb269, 0, none⟩) (Kd.R_types HO250.out BK269.out (by decide)) (fun _ hk => hk.2) (.slice Ao71 t256.length co71)) (fun _ hk => hk.2) (.slice Ao76 t259.length co76)) (fun _ hk => hk.2) (.slice Ao77 t262.length co77)) (fun _ hk => hk.2) (.int .i64 t265)) (fun _ hk => hk.2) (.bool t266)) (fun _ hk => hk.2) (.int .i64 t267)) (fun _ hk => hk.2) (.int .i64 t268)) (fun _ h_ => h_.1))) hb); replace HO258 := am (Kd.S_below (by (with_reducible repeat (first | apply Kd.S_alloc | apply Kd.S_drewN | apply Kd.S_drew)); exact (Kd.S_mono (Kd.S_far (p := ⟨gb269, 6, none⟩) (Kd.S_far (p := ⟨gb269, 5, none⟩) (Kd.S_far (p := ⟨gb269, 4, none⟩) (Kd.S_far (p := ⟨gb269, 3, none⟩) (Kd.S_far (p := ⟨gb269, 2, none⟩) (Kd.S_far (p := ⟨gb269, 1, none⟩) (Kd.S_far (p := ⟨gb269, 0, none⟩) (Kd.S_types HO258.out BK269.out (by decide)) (fun _ hk => hk.2) (.slice Ao71 t256.length co71)) (fun _ hk => hk.2) (.slice Ao76 t259.length co76)) (fun _ hk => hk.2) (.slice Ao77 t262.length co77)) (fun _ hk => hk.2) (.int .i64 t265)) (fun _ hk => hk.2) (.bool t266)) (fun _ hk => hk.2) (.int .i64 t267)) (fun _ hk => hk.2) (.int .i64 t268)) (fun _ h_ => h_.1))) hb); replace HO261 := am (Kd.S_below (by (with_reducible repeat (first | apply Kd.S_alloc | apply Kd.S_drewN | apply Kd.S_drew)); exact (Kd.S_mono (Kd.S_far (p := ⟨gb269, 6, none⟩) (Kd.S_far (p := ⟨gb269, 5, none⟩) (Kd.S_far (p := ⟨gb269, 4, none⟩) (Kd.S_far (p := ⟨gb269, 3, none⟩) (Kd.S_far (p := ⟨gb269, 2, none⟩) (Kd.S_far (p := ⟨gb269, 1, none⟩) (Kd.S_far (p := ⟨gb269, 0, none⟩) (Kd.S_types HO261.out BK269.out (by decide)) (fun _ hk => hk.2) (.slice Ao71 t256.length co71)) (fun _ hk => hk.2) (.slice Ao76 t259.length co76)) (fun _ hk => hk.2) (.slice Ao77 t262.length co77)) (fun _ hk => hk.2) (.int .i64 t265)) (fun _ hk => hk.2) (.bool t266)) (fun _ hk => hk.2) (.int .i64 t267)) (fun _ hk => hk.2) (.int .i64 t268)) (fun _ h_ => h_.1))) hb); replace HO264 := am (Kd.R_below (by (with_reducible repeat (first | apply Kd.R_alloc | apply Kd.R_drewN | apply Kd.R_drew)); exact (Kd.R_mono (Kd.R_far (p := ⟨gb269, 6, none⟩) (Kd.R_far (p := ⟨gb269, 5, none⟩) (Kd.R_far (p := ⟨gb269, 4, none⟩) (Kd.R_far (p := ⟨gb269, 3, none⟩) (Kd.R_far (p := ⟨gb269, 2, none⟩) (Kd.R_far (p := ⟨gb269, 1, none⟩) (Kd.R_far (p := ⟨gb269, 0, none⟩) (Kd.R_types HO264.out BK269.out (by decide)) (fun _ hk => hk.2) (.slice Ao71 t256.length co71)) (fun _ hk => hk.2) (.slice Ao76 t259.length co76)) (fun _ hk => hk.2) (.slice Ao77 t262.length co77)) (fun _ hk => hk.2) (.int .i64 t265)) (fun _ hk => hk.2) (.bool t266)) (fun _ hk => hk.2) (.int .i64 t267)) (fun _ hk => hk.2) (.int .i64 t268)) (fun _ h_ => h_.1))) hb); replace BK211 := am (blk_below (g := gb211) (o := .cells #[.slice A0_0 l0_0.length c0_0, .slice A0_1 l0_1.length c0_1, .slice A0_2 l0_2.length c0_2, .int .i64 a0_3, .bool a0_4, .int .i64 a0_5, .int .i64 a0_6] 62 (0, 0)) (by (with_reducible repeat (first | apply dN | apply dW | apply dA)); refine blk_far ?_ NB211_269.out _; (with_reducible repeat (first | apply dN | apply dW | apply dA)); refine blk_far ?_ NB211_269.out _; (with_reducible repeat (first | apply dN | apply dW | apply dA)); refine blk_far ?_ NB211_269.out _; (with_reducible repeat (first | apply dN | apply dW | apply dA)); refine blk_far ?_ NB211_269.out _; (with_reducible repeat (first | apply dN | apply dW | apply dA)); refine blk_far ?_ NB211_269.out _; (with_reducible repeat (first | apply dN | apply dW | apply dA)); refine blk_far ?_ NB211_269.out _; (with_reducible repeat (first | apply dN | apply dW | apply dA)); refine blk_far ?_ NB211_269.out _; exact bp BK211) hb); replace BK212 := am (blk_below (g := gb212) (o := .cells #[.slice A1_0 l1_0.length c1_0, .slice A1_1 l1_1.length c1_1, .slice A1_2 l1_2.length c1_2, .int .i64 a1_3, .bool a1_4, .int .i64 a1_5, .int .i64 a1_6] 62 (0, 0)) (by (with_reducible repeat (first | apply dN | apply dW | apply dA)); refine blk_far ?_ NB212_269.out _; (with_reducible repeat (first | apply dN | apply dW | apply dA)); refine blk_far ?_ NB212_269.out _; (with_reducible repeat (first | apply dN | apply dW | apply dA)); refine blk_far ?_ NB212_269.out _; (with_reducible repeat (first | apply dN | apply dW | apply dA)); refine blk_far ?_ NB212_269.out _; (with_reducible repeat (first | apply dN | apply dW | apply dA)); refine blk_far ?_ NB212_269.out _; (with_reducible repeat (first | apply dN | apply dW | apply dA)); refine blk_far ?_ NB212_269.out _; (with_reducible repeat (first | apply dN | apply dW | apply dA)); refine blk_far ?_ NB212_269.out _; exact bp BK212) hb); replace BK255 := am (blk_below (g := gb255) (o := .cells #[.slice Ao44 t242.length co44, .slice Ao48 t245.length co48, .slice Ao49 t248.length co49, .int .i64 t251, .bool t252, .int .i64 t253, .int .i64 t254] 67 (0, 0)) (by (with_reducible repeat (first | apply dN | apply dW | apply dA)); refine blk_far ?_ NB255_269.out _; (with_reducible repeat (first | apply dN | apply dW | apply dA)); refine blk_far ?_ NB255_269.out _; (with_reducible repeat (first | apply dN | apply dW | apply dA)); refine blk_far ?_ NB255_269.out _; (with_reducible repeat (first | apply dN | apply dW | apply dA)); refine blk_far ?_ NB255_269.out _; (with_reducible repeat (first | apply dN | apply dW | apply dA)); refine blk_far ?_ NB255_269.out _; (with_reducible repeat (first | apply dN | apply dW | apply dA)); refine blk_far ?_ NB255_269.out _; (with_reducible repeat (first | apply dN | apply dW | apply dA)); refine blk_far ?_ NB255_269.out _; exact bp BK255) hb); replace BK269 := am (blk_below (g := gb269) (o := .cells #[.slice Ao71 t256.length co71, .slice Ao76 t259.length co76, .slice Ao77 t262.length co77, .int .i64 t265, .bool t266, .int .i64 t267, .int .i64 t268] 67 (0, 0)) (by (with_reducible repeat (first | apply dN | apply dW | apply dA)); refine blk_put (cs := #[.slice Ao71 t256.length co71, .slice Ao76 t259.length co76, .slice Ao77 t262.length co77, .int .i64 t265, .bool t266, .int .i64 t267, .int .i64 0]) ?_ 6 _ rfl; (with_reducible repeat (first | apply dN | apply dW | apply dA)); refine blk_put (cs := #[.slice Ao71 t256.length co71, .slice Ao76 t259.length co76, .slice Ao77 t262.length co77, .int .i64 t265, .bool t266, .int .i64 0, .int .i64 0]) ?_ 5 _ rfl; (with_reducible repeat (first | apply dN | apply dW | apply dA)); refine blk_put (cs := #[.slice Ao71 t256.length co71, .slice Ao76 t259.length co76, .slice Ao77 t262.length co77, .int .i64 t265, .bool false, .int .i64 0, .int .i64 0]) ?_ 4 _ rfl; (with_reducible repeat (first | apply dN | apply dW | apply dA)); refine blk_put (cs := #[.slice Ao71 t256.length co71, .slice Ao76 t259.length co76, .slice Ao77 t262.length co77, .int .i64 0, .bool false, .int .i64 0, .int .i64 0]) ?_ 3 _ rfl; (with_reducible repeat (first | apply dN | apply dW | apply dA)); refine blk_put (cs := #[.slice Ao71 t256.length co71, .slice Ao76 t259.length co76, .slice none 0 0, .int .i64 0, .bool false, .int .i64 0, .int .i64 0]) ?_ 2 _ rfl; (with_reducible repeat (first | apply dN | apply dW | apply dA)); refine blk_put (cs := #[.slice Ao71 t256.length co71, .slice none 0 0, .slice none 0 0, .int .i64 0, .bool false, .int .i64 0, .int .i64 0]) ?_ 1 _ rfl; (with_reducible repeat (first | apply dN | apply dW | apply dA)); refine blk_put (cs := #[.slice none 0 0, .slice none 0 0, .slice none 0 0, .int .i64 0, .bool false, .int .i64 0, .int .i64 0]) ?_ 0 _ rfl; exact bp BK269) hb); replace HB := am (below_step (bw HB) hb); (try clear hb); (try clear hb2); (try clear hk); (try clear hi)))
      have n0_ := am (Kd.S_drew HO217.out)
      have n1_ := am (Kd.S_drew HO220.out)
      have n2_ := am (Kd.R_drew HO223.out)
      have n3_ := am (Kd.S_drew HO230.out)
      have n4_ := am (Kd.S_drew HO233.out)
      have n5_ := am (Kd.R_drew HO236.out)
      have n6_ := am (Kd.S_drew HO244.out)
      have n7_ := am (Kd.S_drew HO247.out)
      have n8_ := am (Kd.R_drew HO250.out)
      have n9_ := am (Kd.S_drew HO258.out)
      have n10_ := am (Kd.S_drew HO261.out)
      have n11_ := am (Kd.R_drew HO264.out)
      have n12_ := am (blk_drew BK211.out)
      have n13_ := am (blk_drew BK212.out)
      have n14_ := am (blk_drew BK255.out)
      have n15_ := am (blk_drew BK269.out)
      have n16_ := am (below_drew1 HB.out)
      clear HO217
      clear HO220
      clear HO223
      clear HO230
      clear HO233
      clear HO236
      clear HO244
      clear HO247
      clear HO250
      clear HO258
      clear HO261
      clear HO264
      clear BK211
      clear BK212
      clear BK255
      clear BK269
      clear HB
      have HO217 := n0_
      have HO220 := n1_
      have HO223 := n2_
      have HO230 := n3_
      have HO233 := n4_
      have HO236 := n5_
      have HO244 := n6_
      have HO247 := n7_
      have HO250 := n8_
      have HO258 := n9_
      have HO261 := n10_
      have HO264 := n11_
      have BK211 := n12_
      have BK212 := n13_
      have BK255 := n14_
      have BK269 := n15_
      have HB := n16_
      clear n0_ n1_ n2_ n3_ n4_ n5_ n6_ n7_ n8_ n9_ n10_ n11_ n12_ n13_ n14_ n15_ n16_
      refine start_ (n := 5) (S := fun w' => w'.cell? ⟨gb255, 0, none⟩ = some (.slice Ao44 t242.length co44) ∧ w'.cell? ⟨gb255, 1, none⟩ = some (.slice Ao48 t245.length co48) ∧ w'.cell? ⟨gb255, 2, none⟩ = some (.slice Ao49 t248.length co49) ∧ w'.cell? ⟨gb255, 3, none⟩ = some (.int .i64 t251) ∧ w'.cell? ⟨gb255, 4, none⟩ = some (.bool t252) ∧ w'.cell? ⟨gb255, 5, none⟩ = some (.int .i64 t253) ∧ w'.cell? ⟨gb255, 6, none⟩ = some (.int .i64 t254) ∧ w'.cell? ⟨gb211, 0, none⟩ = some (.slice A0_0 l0_0.length c0_0) ∧ w'.cell? ⟨gb211, 1, none⟩ = some (.slice A0_1 l0_1.length c0_1) ∧ w'.cell? ⟨gb211, 2, none⟩ = some (.slice A0_2 l0_2.length c0_2) ∧ w'.cell? ⟨gb211, 3, none⟩ = some (.int .i64 a0_3) ∧ w'.cell? ⟨gb211, 4, none⟩ = some (.bool a0_4) ∧ w'.cell? ⟨gb211, 5, none⟩ = some (.int .i64 a0_5) ∧ w'.cell? ⟨gb211, 6, none⟩ = some (.int .i64 a0_6)) (ds := []) #[false, false, false, false, false] (by kernel_rfl) rfl rfl ⟨bc BK255 0, bc BK255 1, bc BK255 2, bc BK255 3, bc BK255 4, bc BK255 5, bc BK255 6, bc BK211 0, bc BK211 1, bc BK211 2, bc BK211 3, bc BK211 4, bc BK211 5, bc BK211 6⟩ (fun hHeld => ?_)
      generalize w81.drew = w82 at HO217 HO220 HO223 HO230 HO233 HO236 HO244 HO247 HO250 HO258 HO261 HO264 BK211 BK212 BK255 BK269 HB hHeld ⊢
      refine take_ (i := 0) (N := some 35) (v := ?_) (a' := ?_) #[true, false, false, false, false] rfl rfl (by kernel_rfl) (fun _ _ _ h => h) (Or.inl ⟨by rfl, ?_⟩) hHeld ?_ ?_
      rotate_left
      ·rintro w' ⟨s0, s1, s2, s3, s4, s5, s6, s7, s8, s9, s10, s11, s12, s13⟩
       go_simp
       with_reducible rfl
      rotate_left
      ·simp only [Act.put, sa, sz, ss, i64_w, i32_w]
       rfl
      refine take_ (i := 1) (N := some 36) (v := ?_) (a' := ?_) #[true, true, false, false, false] rfl rfl (by kernel_rfl) (fun _ _ _ h => h) (Or.inl ⟨by rfl, ?_⟩) hHeld ?_ ?_
      rotate_left
      ·rintro w' ⟨s0, s1, s2, s3, s4, s5, s6, s7, s8, s9, s10, s11, s12, s13⟩
       go_simp
       with_reducible rfl
      rotate_left
      ·simp only [Act.put, sa, sz, ss, i64_w, i32_w]
       rfl
      refine one_ (i := 2) (N := some 37) #[true, true, true, false, false] rfl rfl (by kernel_rfl) (by decide) (fun K hK => ?_)
      refine goes_ Try.func44 (by kernel_rfl) rfl #[.agg #[.slice A0_0 l0_0.length c0_0, .slice A0_1 l0_1.length c0_1, .slice A0_2 l0_2.length c0_2, .int .i64 a0_3, .bool a0_4, .int .i64 a0_5, .int .i64 a0_6]] (by rfl) rfl rfl gl ?_
      with_reducible refine (laws_toState.calls k _ _ l0_0 _ _ l0_1 _ _ l0_2 a0_3 a0_4 a0_5 a0_6 t271 t274 t277 t280 t281 t282 t283 _ ?side1 ?side2 ?side3 ?side4 ?side5 ?side6 A65.out).mono ?_
      (case side1 => exact cc (Kd.C_below HR0_0.out HB.out))
      (case side2 => exact HC0_0.out)
      (case side3 => exact cc (Kd.C_below HR0_1.out HB.out))
      (case side4 => exact HC0_1.out)
      (case side5 => exact cc (Kd.C_below HR0_2.out HB.out))
      (case side6 => exact HC0_2.out)
      rintro e w83 ⟨v272, v275, v278, rfl, ho0, ho1, ho2, hb⟩
      refine ⟨_, rfl, ?_⟩
      have n0_ := am (Kd.S_mono (Kd.S_told (Kd.S_told (Kd.S_old (kS HO217) hb) (Kd.S_base ho0)) (Kd.R_base ho2)) (fun _ h_ => h_.1))
      have n1_ := am (Kd.S_mono (Kd.S_told (Kd.S_told (Kd.S_old (kS HO220) hb) (Kd.S_base ho1)) (Kd.R_base ho2)) (fun _ h_ => h_.1))
      have n2_ := am (Kd.R_elder' (kR HO223) (Kd.R_base ho2) hb)
      have n3_ := am (Kd.S_mono (Kd.S_told (Kd.S_told (Kd.S_old (kS HO230) hb) (Kd.S_base ho0)) (Kd.R_base ho2)) (fun _ h_ => h_.1))
      have n4_ := am (Kd.S_mono (Kd.S_told (Kd.S_told (Kd.S_old (kS HO233) hb) (Kd.S_base ho1)) (Kd.R_base ho2)) (fun _ h_ => h_.1))
      have n5_ := am (Kd.R_elder' (kR HO236) (Kd.R_base ho2) hb)
      have n6_ := am (Kd.S_mono (Kd.S_told (Kd.S_told (Kd.S_old (kS HO244) hb) (Kd.S_base ho0)) (Kd.R_base ho2)) (fun _ h_ => h_.1))
      have n7_ := am (Kd.S_mono (Kd.S_told (Kd.S_told (Kd.S_old (kS HO247) hb) (Kd.S_base ho1)) (Kd.R_base ho2)) (fun _ h_ => h_.1))
      have n8_ := am (Kd.R_elder' (kR HO250) (Kd.R_base ho2) hb)
      have n9_ := am (Kd.S_mono (Kd.S_told (Kd.S_told (Kd.S_old (kS HO258) hb) (Kd.S_base ho0)) (Kd.R_base ho2)) (fun _ h_ => h_.1))
      have n10_ := am (Kd.S_mono (Kd.S_told (Kd.S_told (Kd.S_old (kS HO261) hb) (Kd.S_base ho1)) (Kd.R_base ho2)) (fun _ h_ => h_.1))
      have n11_ := am (Kd.R_elder' (kR HO264) (Kd.R_base ho2) hb)
      have n12_ := am (Kd.S_lower (Kd.S_new' (Kd.S_new' (Kd.S_new' (Kd.S_new' (Kd.S_new' (Kd.S_new' (Kd.S_new' (Kd.S_new' ho0 (Kd.S_lt (kS HO217))) (Kd.R_lt (kR HO223))) (Kd.S_lt (kS HO230))) (Kd.R_lt (kR HO236))) (Kd.S_lt (kS HO244))) (Kd.R_lt (kR HO250))) (Kd.S_lt (kS HO258))) (Kd.R_lt (kR HO264))) (below_size (bw HB)))
      have n13_ := am (Kd.S_lower (Kd.S_new' (Kd.S_new' (Kd.S_new' (Kd.S_new' (Kd.S_new' (Kd.S_new' (Kd.S_new' (Kd.S_new' ho1 (Kd.S_lt (kS HO220))) (Kd.R_lt (kR HO223))) (Kd.S_lt (kS HO233))) (Kd.R_lt (kR HO236))) (Kd.S_lt (kS HO247))) (Kd.R_lt (kR HO250))) (Kd.S_lt (kS HO261))) (Kd.R_lt (kR HO264))) (below_size (bw HB)))
      have n14_ := am (Kd.R_lower (Kd.R_new' (Kd.R_new' (Kd.R_new' (Kd.R_new' ho2 (Kd.R_lt (kR HO223))) (Kd.R_lt (kR HO236))) (Kd.R_lt (kR HO250))) (Kd.R_lt (kR HO264))) (below_size (bw HB)))
      have n15_ := am (blk_below (g := gb211) (o := .cells #[.slice A0_0 l0_0.length c0_0, .slice A0_1 l0_1.length c0_1, .slice A0_2 l0_2.length c0_2, .int .i64 a0_3, .bool a0_4, .int .i64 a0_5, .int .i64 a0_6] 62 (0, 0)) (bp BK211) hb)
      have n16_ := am (blk_below (g := gb212) (o := .cells #[.slice A1_0 l1_0.length c1_0, .slice A1_1 l1_1.length c1_1, .slice A1_2 l1_2.length c1_2, .int .i64 a1_3, .bool a1_4, .int .i64 a1_5, .int .i64 a1_6] 62 (0, 0)) (bp BK212) hb)
      have n17_ := am (blk_below (g := gb255) (o := .cells #[.slice Ao44 t242.length co44, .slice Ao48 t245.length co48, .slice Ao49 t248.length co49, .int .i64 t251, .bool t252, .int .i64 t253, .int .i64 t254] 67 (0, 0)) (bp BK255) hb)
      have n18_ := am (blk_below (g := gb269) (o := .cells #[.slice Ao71 t256.length co71, .slice Ao76 t259.length co76, .slice Ao77 t262.length co77, .int .i64 t265, .bool t266, .int .i64 t267, .int .i64 t268] 67 (0, 0)) (bp BK269) hb)
      have n19_ := am (below_step (bw HB) hb)
      clear HO217
      clear HO220
      clear HO223
      clear HO230
      clear HO233
      clear HO236
      clear HO244
      clear HO247
      clear HO250
      clear HO258
      clear HO261
      clear HO264
      clear BK211
      clear BK212
      clear BK255
      clear BK269
      clear HB
      have HO217 := n0_
      have HO220 := n1_
      have HO223 := n2_
      have HO230 := n3_
      have HO233 := n4_
      have HO236 := n5_
      have HO244 := n6_
      have HO247 := n7_
      have HO250 := n8_
      have HO258 := n9_
      have HO261 := n10_
      have HO264 := n11_
      have HO273 := n12_
      have HO276 := n13_
      have HO279 := n14_
      have BK211 := n15_
      have BK212 := n16_
      have BK255 := n17_
      have BK269 := n18_
      have HB := n19_
      clear n0_ n1_ n2_ n3_ n4_ n5_ n6_ n7_ n8_ n9_ n10_ n11_ n12_ n13_ n14_ n15_ n16_ n17_ n18_ n19_
      (try clear hb)
      (try clear hb2)
      (try clear hk)
      (try clear hi)
      (try clear ho0)
      (try clear ho1)
      (try clear ho2)
      obtain ⟨Ao84, co84, eo84⟩ := Kd.S_slice HO273.out
      (first | subst eo84 | (injection eo84 with f1_ f2_ f3_; have f4_ := f1_.symm; have f5_ := f3_.symm; clear f1_ f2_ f3_; subst f4_; subst f5_))
      obtain ⟨Ao85, co85, eo85⟩ := Kd.S_slice HO276.out
      (first | subst eo85 | (injection eo85 with f1_ f2_ f3_; have f4_ := f1_.symm; have f5_ := f3_.symm; clear f1_ f2_ f3_; subst f4_; subst f5_))
      obtain ⟨Ao86, co86, eo86⟩ := Kd.R_slice HO279.out
      (first | subst eo86 | (injection eo86 with f1_ f2_ f3_; have f4_ := f1_.symm; have f5_ := f3_.symm; clear f1_ f2_ f3_; subst f4_; subst f5_))
      refine hK.out _ _ ⟨bc BK255 0, bc BK255 1, bc BK255 2, bc BK255 3, bc BK255 4, bc BK255 5, bc BK255 6, bc BK211 0, bc BK211 1, bc BK211 2, bc BK211 3, bc BK211 4, bc BK211 5, bc BK211 6⟩ (fun hHeld => ?_)
      clear hK K
      refine norm_ (a' := ?_) ?_ ?_
      rotate_left
      ·show Act.put _ (some 37) _ = _
       simp only [Act.put, sa, sz, ss, i64_w, i32_w]
       rfl
      refine one_ (i := 3) (N := some 38) #[true, true, true, true, false] rfl rfl (by kernel_rfl) (by decide) (fun K hK => ?_)
      refine goes_ Try.func46 (by kernel_rfl) rfl #[.agg #[.slice Ao44 t242.length co44, .slice Ao48 t245.length co48, .slice Ao49 t248.length co49, .int .i64 t251, .bool t252, .int .i64 t253, .int .i64 t254], .agg #[.slice Ao84 t271.length co84, .slice Ao85 t274.length co85, .slice Ao86 t277.length co86, .int .i64 t280, .bool t281, .int .i64 t282, .int .i64 t283]] (by rfl) rfl rfl gl ?_
      with_reducible refine (laws_eqState.calls k _ _ t242 _ _ t245 _ _ t248 t251 t252 t253 t254 _ _ t271 _ _ t274 _ _ t277 t280 t281 t282 t283 true _ ?side1 ?side2 ?side3 ?side4 ?side5 ?side6 ?side7 ?side8 ?side9 ?side10 ?side11 ?side12 A66.out).mono ?_
      (case side1 => exact cc (Kd.S_reads' HO244.out).2.2)
      (case side2 => exact (Kd.S_reads' HO244.out).2.1)
      (case side3 => exact cc (Kd.S_reads' HO247.out).2.2)
      (case side4 => exact (Kd.S_reads' HO247.out).2.1)
      (case side5 => exact cc (Kd.R_reads' HO250.out).2.2)
      (case side6 => exact (Kd.R_reads' HO250.out).2.1)
      (case side7 => exact cc (Kd.S_reads' HO273.out).2.2)
      (case side8 => exact (Kd.S_reads' HO273.out).2.1)
      (case side9 => exact cc (Kd.S_reads' HO276.out).2.2)
      (case side10 => exact (Kd.S_reads' HO276.out).2.1)
      (case side11 => exact cc (Kd.R_reads' HO279.out).2.2)
      (case side12 => exact (Kd.R_reads' HO279.out).2.1)
      rintro e w87 ⟨rfl, hb⟩
      refine ⟨_, rfl, ?_⟩
      have n0_ := am (Kd.S_below (kS HO217) hb)
      have n1_ := am (Kd.S_below (kS HO220) hb)
      have n2_ := am (Kd.R_below (kR HO223) hb)
      have n3_ := am (Kd.S_below (kS HO230) hb)
      have n4_ := am (Kd.S_below (kS HO233) hb)
      have n5_ := am (Kd.R_below (kR HO236) hb)
      have n6_ := am (Kd.S_below (kS HO244) hb)
      have n7_ := am (Kd.S_below (kS HO247) hb)
      have n8_ := am (Kd.R_below (kR HO250) hb)
      have n9_ := am (Kd.S_below (kS HO258) hb)
      have n10_ := am (Kd.S_below (kS HO261) hb)
      have n11_ := am (Kd.R_below (kR HO264) hb)
      have n12_ := am (Kd.S_below (kS HO273) hb)
      have n13_ := am (Kd.S_below (kS HO276) hb)
      have n14_ := am (Kd.R_below (kR HO279) hb)
      have n15_ := am (blk_below (g := gb211) (o := .cells #[.slice A0_0 l0_0.length c0_0, .slice A0_1 l0_1.length c0_1, .slice A0_2 l0_2.length c0_2, .int .i64 a0_3, .bool a0_4, .int .i64 a0_5, .int .i64 a0_6] 62 (0, 0)) (bp BK211) hb)
      have n16_ := am (blk_below (g := gb212) (o := .cells #[.slice A1_0 l1_0.length c1_0, .slice A1_1 l1_1.length c1_1, .slice A1_2 l1_2.length c1_2, .int .i64 a1_3, .bool a1_4, .int .i64 a1_5, .int .i64 a1_6] 62 (0, 0)) (bp BK212) hb)
      have n17_ := am (blk_below (g := gb255) (o := .cells #[.slice Ao44 t242.length co44, .slice Ao48 t245.length co48, .slice Ao49 t248.length co49, .int .i64 t251, .bool t252, .int .i64 t253, .int .i64 t254] 67 (0, 0)) (bp BK255) hb)
      have n18_ := am (blk_below (g := gb269) (o := .cells #[.slice Ao71 t256.length co71, .slice Ao76 t259.length co76, .slice Ao77 t262.length co77, .int .i64 t265, .bool t266, .int .i64 t267, .int .i64 t268] 67 (0, 0)) (bp BK269) hb)
      have n19_ := am (below_step (bw HB) hb)
      clear HO217
      clear HO220
      clear HO223
      clear HO230
      clear HO233
      clear HO236
      clear HO244
      clear HO247
      clear HO250
      clear HO258
      clear HO261
      clear HO264
      clear HO273
      clear HO276
      clear HO279
      clear BK211
      clear BK212
      clear BK255
      clear BK269
      clear HB
      have HO217 := n0_
      have HO220 := n1_
      have HO223 := n2_
      have HO230 := n3_
      have HO233 := n4_
      have HO236 := n5_
      have HO244 := n6_
      have HO247 := n7_
      have HO250 := n8_
      have HO258 := n9_
      have HO261 := n10_
      have HO264 := n11_
      have HO273 := n12_
      have HO276 := n13_
      have HO279 := n14_
      have BK211 := n15_
      have BK212 := n16_
      have BK255 := n17_
      have BK269 := n18_
      have HB := n19_
      clear n0_ n1_ n2_ n3_ n4_ n5_ n6_ n7_ n8_ n9_ n10_ n11_ n12_ n13_ n14_ n15_ n16_ n17_ n18_ n19_
      (try clear hb)
      (try clear hb2)
      (try clear hk)
      (try clear hi)
      refine hK.out _ _ ⟨bc BK255 0, bc BK255 1, bc BK255 2, bc BK255 3, bc BK255 4, bc BK255 5, bc BK255 6, bc BK211 0, bc BK211 1, bc BK211 2, bc BK211 3, bc BK211 4, bc BK211 5, bc BK211 6⟩ (fun hHeld => ?_)
      clear hK K
      refine norm_ (a' := ?_) ?_ ?_
      rotate_left
      ·show Act.put _ (some 38) _ = _
       simp only [Act.put, sa, sz, ss, i64_w, i32_w]
       rfl
      refine pure_ (i := 4) (N := some 39) (v := ?_) (a' := ?_) #[true, true, true, true, true] rfl rfl (by kernel_rfl) (fun _ _ _ h => h) (Or.inl ⟨by rfl, ?_⟩) ?_ ?_
      rotate_left
      ·intro w'
       go_simp
       with_reducible rfl
      rotate_left
      ·simp only [Act.put, sa, sz, ss, i64_w, i32_w]
       rfl
      refine done_ (by kernel_rfl) ?_
      try go_wp2
      have n0_ := am (Kd.S_drew HO217.out)
      have n1_ := am (Kd.S_drew HO220.out)
      have n2_ := am (Kd.R_drew HO223.out)
      have n3_ := am (Kd.S_drew HO230.out)
      have n4_ := am (Kd.S_drew HO233.out)
      have n5_ := am (Kd.R_drew HO236.out)
      have n6_ := am (Kd.S_drew HO244.out)
      have n7_ := am (Kd.S_drew HO247.out)
      have n8_ := am (Kd.R_drew HO250.out)
      have n9_ := am (Kd.S_drew HO258.out)
      have n10_ := am (Kd.S_drew HO261.out)
      have n11_ := am (Kd.R_drew HO264.out)
      have n12_ := am (Kd.S_drew HO273.out)
      have n13_ := am (Kd.S_drew HO276.out)
      have n14_ := am (Kd.R_drew HO279.out)
      have n15_ := am (blk_drew BK211.out)
      have n16_ := am (blk_drew BK212.out)
      have n17_ := am (blk_drew BK255.out)
      have n18_ := am (blk_drew BK269.out)
      have n19_ := am (below_drew1 HB.out)
      clear HO217
      clear HO220
      clear HO223
      clear HO230
      clear HO233
      clear HO236
      clear HO244
      clear HO247
      clear HO250
      clear HO258
      clear HO261
      clear HO264
      clear HO273
      clear HO276
      clear HO279
      clear BK211
      clear BK212
      clear BK255
      clear BK269
      clear HB
      have HO217 := n0_
      have HO220 := n1_
      have HO223 := n2_
      have HO230 := n3_
      have HO233 := n4_
      have HO236 := n5_
      have HO244 := n6_
      have HO247 := n7_
      have HO250 := n8_
      have HO258 := n9_
      have HO261 := n10_
      have HO264 := n11_
      have HO273 := n12_
      have HO276 := n13_
      have HO279 := n14_
      have BK211 := n15_
      have BK212 := n16_
      have BK255 := n17_
      have BK269 := n18_
      have HB := n19_
      clear n0_ n1_ n2_ n3_ n4_ n5_ n6_ n7_ n8_ n9_ n10_ n11_ n12_ n13_ n14_ n15_ n16_ n17_ n18_ n19_
      refine start_ (n := 5) (S := fun w' => w'.cell? ⟨gb269, 0, none⟩ = some (.slice Ao71 t256.length co71) ∧ w'.cell? ⟨gb269, 1, none⟩ = some (.slice Ao76 t259.length co76) ∧ w'.cell? ⟨gb269, 2, none⟩ = some (.slice Ao77 t262.length co77) ∧ w'.cell? ⟨gb269, 3, none⟩ = some (.int .i64 t265) ∧ w'.cell? ⟨gb269, 4, none⟩ = some (.bool t266) ∧ w'.cell? ⟨gb269, 5, none⟩ = some (.int .i64 t267) ∧ w'.cell? ⟨gb269, 6, none⟩ = some (.int .i64 t268) ∧ w'.cell? ⟨gb212, 0, none⟩ = some (.slice A1_0 l1_0.length c1_0) ∧ w'.cell? ⟨gb212, 1, none⟩ = some (.slice A1_1 l1_1.length c1_1) ∧ w'.cell? ⟨gb212, 2, none⟩ = some (.slice A1_2 l1_2.length c1_2) ∧ w'.cell? ⟨gb212, 3, none⟩ = some (.int .i64 a1_3) ∧ w'.cell? ⟨gb212, 4, none⟩ = some (.bool a1_4) ∧ w'.cell? ⟨gb212, 5, none⟩ = some (.int .i64 a1_5) ∧ w'.cell? ⟨gb212, 6, none⟩ = some (.int .i64 a1_6)) (ds := []) #[false, false, false, false, false] (by kernel_rfl) rfl rfl ⟨bc BK269 0, bc BK269 1, bc BK269 2, bc BK269 3, bc BK269 4, bc BK269 5, bc BK269 6, bc BK212 0, bc BK212 1, bc BK212 2, bc BK212 3, bc BK212 4, bc BK212 5, bc BK212 6⟩ (fun hHeld => ?_)
      generalize w87.drew = w88 at HO217 HO220 HO223 HO230 HO233 HO236 HO244 HO247 HO250 HO258 HO261 HO264 HO273 HO276 HO279 BK211 BK212 BK255 BK269 HB hHeld ⊢
      refine take_ (i := 0) (N := some 40) (v := ?_) (a' := ?_) #[true, false, false, false, false] rfl rfl (by kernel_rfl) (fun _ _ _ h => h) (Or.inl ⟨by rfl, ?_⟩) hHeld ?_ ?_
      rotate_left
      ·rintro w' ⟨s0, s1, s2, s3, s4, s5, s6, s7, s8, s9, s10, s11, s12, s13⟩
       go_simp
       with_reducible rfl
      rotate_left
      ·simp only [Act.put, sa, sz, ss, i64_w, i32_w]
       rfl
      refine take_ (i := 1) (N := some 41) (v := ?_) (a' := ?_) #[true, true, false, false, false] rfl rfl (by kernel_rfl) (fun _ _ _ h => h) (Or.inl ⟨by rfl, ?_⟩) hHeld ?_ ?_
      rotate_left
      ·rintro w' ⟨s0, s1, s2, s3, s4, s5, s6, s7, s8, s9, s10, s11, s12, s13⟩
       go_simp
       with_reducible rfl
      rotate_left
      ·simp only [Act.put, sa, sz, ss, i64_w, i32_w]
       rfl
      refine one_ (i := 2) (N := some 42) #[true, true, true, false, false] rfl rfl (by kernel_rfl) (by decide) (fun K hK => ?_)
      refine goes_ Try.func44 (by kernel_rfl) rfl #[.agg #[.slice A1_0 l1_0.length c1_0, .slice A1_1 l1_1.length c1_1, .slice A1_2 l1_2.length c1_2, .int .i64 a1_3, .bool a1_4, .int .i64 a1_5, .int .i64 a1_6]] (by rfl) rfl rfl gl ?_
      with_reducible refine (laws_toState.calls k _ _ l1_0 _ _ l1_1 _ _ l1_2 a1_3 a1_4 a1_5 a1_6 t285 t288 t291 t294 t295 t296 t297 _ ?side1 ?side2 ?side3 ?side4 ?side5 ?side6 A68.out).mono ?_
      (case side1 => exact cc (Kd.C_below HR1_0.out HB.out))
      (case side2 => exact HC1_0.out)
      (case side3 => exact cc (Kd.C_below HR1_1.out HB.out))
      (case side4 => exact HC1_1.out)
      (case side5 => exact cc (Kd.C_below HR1_2.out HB.out))
      (case side6 => exact HC1_2.out)
      rintro e w89 ⟨v286, v289, v292, rfl, ho0, ho1, ho2, hb⟩
      refine ⟨_, rfl, ?_⟩
      have n0_ := am (Kd.S_mono (Kd.S_told (Kd.S_told (Kd.S_old (kS HO217) hb) (Kd.S_base ho0)) (Kd.R_base ho2)) (fun _ h_ => h_.1))
      have n1_ := am (Kd.S_mono (Kd.S_told (Kd.S_told (Kd.S_old (kS HO220) hb) (Kd.S_base ho1)) (Kd.R_base ho2)) (fun _ h_ => h_.1))
      have n2_ := am (Kd.R_elder' (kR HO223) (Kd.R_base ho2) hb)
      have n3_ := am (Kd.S_mono (Kd.S_told (Kd.S_told (Kd.S_old (kS HO230) hb) (Kd.S_base ho0)) (Kd.R_base ho2)) (fun _ h_ => h_.1))
      have n4_ := am (Kd.S_mono (Kd.S_told (Kd.S_told (Kd.S_old (kS HO233) hb) (Kd.S_base ho1)) (Kd.R_base ho2)) (fun _ h_ => h_.1))
      have n5_ := am (Kd.R_elder' (kR HO236) (Kd.R_base ho2) hb)
      have n6_ := am (Kd.S_mono (Kd.S_told (Kd.S_told (Kd.S_old (kS HO244) hb) (Kd.S_base ho0)) (Kd.R_base ho2)) (fun _ h_ => h_.1))
      have n7_ := am (Kd.S_mono (Kd.S_told (Kd.S_told (Kd.S_old (kS HO247) hb) (Kd.S_base ho1)) (Kd.R_base ho2)) (fun _ h_ => h_.1))
      have n8_ := am (Kd.R_elder' (kR HO250) (Kd.R_base ho2) hb)
      have n9_ := am (Kd.S_mono (Kd.S_told (Kd.S_told (Kd.S_old (kS HO258) hb) (Kd.S_base ho0)) (Kd.R_base ho2)) (fun _ h_ => h_.1))
      have n10_ := am (Kd.S_mono (Kd.S_told (Kd.S_told (Kd.S_old (kS HO261) hb) (Kd.S_base ho1)) (Kd.R_base ho2)) (fun _ h_ => h_.1))
      have n11_ := am (Kd.R_elder' (kR HO264) (Kd.R_base ho2) hb)
      have n12_ := am (Kd.S_mono (Kd.S_told (Kd.S_told (Kd.S_old (kS HO273) hb) (Kd.S_base ho0)) (Kd.R_base ho2)) (fun _ h_ => h_.1))
      have n13_ := am (Kd.S_mono (Kd.S_told (Kd.S_told (Kd.S_old (kS HO276) hb) (Kd.S_base ho1)) (Kd.R_base ho2)) (fun _ h_ => h_.1))
      have n14_ := am (Kd.R_elder' (kR HO279) (Kd.R_base ho2) hb)
      have n15_ := am (Kd.S_lower (Kd.S_new' (Kd.S_new' (Kd.S_new' (Kd.S_new' (Kd.S_new' (Kd.S_new' (Kd.S_new' (Kd.S_new' (Kd.S_new' (Kd.S_new' ho0 (Kd.S_lt (kS HO217))) (Kd.R_lt (kR HO223))) (Kd.S_lt (kS HO230))) (Kd.R_lt (kR HO236))) (Kd.S_lt (kS HO244))) (Kd.R_lt (kR HO250))) (Kd.S_lt (kS HO258))) (Kd.R_lt (kR HO264))) (Kd.S_lt (kS HO273))) (Kd.R_lt (kR HO279))) (below_size (bw HB)))
      have n16_ := am (Kd.S_lower (Kd.S_new' (Kd.S_new' (Kd.S_new' (Kd.S_new' (Kd.S_new' (Kd.S_new' (Kd.S_new' (Kd.S_new' (Kd.S_new' (Kd.S_new' ho1 (Kd.S_lt (kS HO220))) (Kd.R_lt (kR HO223))) (Kd.S_lt (kS HO233))) (Kd.R_lt (kR HO236))) (Kd.S_lt (kS HO247))) (Kd.R_lt (kR HO250))) (Kd.S_lt (kS HO261))) (Kd.R_lt (kR HO264))) (Kd.S_lt (kS HO276))) (Kd.R_lt (kR HO279))) (below_size (bw HB)))
      have n17_ := am (Kd.R_lower (Kd.R_new' (Kd.R_new' (Kd.R_new' (Kd.R_new' (Kd.R_new' ho2 (Kd.R_lt (kR HO223))) (Kd.R_lt (kR HO236))) (Kd.R_lt (kR HO250))) (Kd.R_lt (kR HO264))) (Kd.R_lt (kR HO279))) (below_size (bw HB)))
      have n18_ := am (blk_below (g := gb211) (o := .cells #[.slice A0_0 l0_0.length c0_0, .slice A0_1 l0_1.length c0_1, .slice A0_2 l0_2.length c0_2, .int .i64 a0_3, .bool a0_4, .int .i64 a0_5, .int .i64 a0_6] 62 (0, 0)) (bp BK211) hb)
      have n19_ := am (blk_below (g := gb212) (o := .cells #[.slice A1_0 l1_0.length c1_0, .slice A1_1 l1_1.length c1_1, .slice A1_2 l1_2.length c1_2, .int .i64 a1_3, .bool a1_4, .int .i64 a1_5, .int .i64 a1_6] 62 (0, 0)) (bp BK212) hb)
      have n20_ := am (blk_below (g := gb255) (o := .cells #[.slice Ao44 t242.length co44, .slice Ao48 t245.length co48, .slice Ao49 t248.length co49, .int .i64 t251, .bool t252, .int .i64 t253, .int .i64 t254] 67 (0, 0)) (bp BK255) hb)
      have n21_ := am (blk_below (g := gb269) (o := .cells #[.slice Ao71 t256.length co71, .slice Ao76 t259.length co76, .slice Ao77 t262.length co77, .int .i64 t265, .bool t266, .int .i64 t267, .int .i64 t268] 67 (0, 0)) (bp BK269) hb)
      have n22_ := am (below_step (bw HB) hb)
      clear HO217
      clear HO220
      clear HO223
      clear HO230
      clear HO233
      clear HO236
      clear HO244
      clear HO247
      clear HO250
      clear HO258
      clear HO261
      clear HO264
      clear HO273
      clear HO276
      clear HO279
      clear BK211
      clear BK212
      clear BK255
      clear BK269
      clear HB
      have HO217 := n0_
      have HO220 := n1_
      have HO223 := n2_
      have HO230 := n3_
      have HO233 := n4_
      have HO236 := n5_
      have HO244 := n6_
      have HO247 := n7_
      have HO250 := n8_
      have HO258 := n9_
      have HO261 := n10_
      have HO264 := n11_
      have HO273 := n12_
      have HO276 := n13_
      have HO279 := n14_
      have HO287 := n15_
      have HO290 := n16_
      have HO293 := n17_
      have BK211 := n18_
      have BK212 := n19_
      have BK255 := n20_
      have BK269 := n21_
      have HB := n22_
      clear n0_ n1_ n2_ n3_ n4_ n5_ n6_ n7_ n8_ n9_ n10_ n11_ n12_ n13_ n14_ n15_ n16_ n17_ n18_ n19_ n20_ n21_ n22_
      (try clear hb)
      (try clear hb2)
      (try clear hk)
      (try clear hi)
      (try clear ho0)
      (try clear ho1)
      (try clear ho2)
      obtain ⟨Ao90, co90, eo90⟩ := Kd.S_slice HO287.out
      (first | subst eo90 | (injection eo90 with f1_ f2_ f3_; have f4_ := f1_.symm; have f5_ := f3_.symm; clear f1_ f2_ f3_; subst f4_; subst f5_))
      obtain ⟨Ao91, co91, eo91⟩ := Kd.S_slice HO290.out
      (first | subst eo91 | (injection eo91 with f1_ f2_ f3_; have f4_ := f1_.symm; have f5_ := f3_.symm; clear f1_ f2_ f3_; subst f4_; subst f5_))
      obtain ⟨Ao92, co92, eo92⟩ := Kd.R_slice HO293.out
      (first | subst eo92 | (injection eo92 with f1_ f2_ f3_; have f4_ := f1_.symm; have f5_ := f3_.symm; clear f1_ f2_ f3_; subst f4_; subst f5_))
      refine hK.out _ _ ⟨bc BK269 0, bc BK269 1, bc BK269 2, bc BK269 3, bc BK269 4, bc BK269 5, bc BK269 6, bc BK212 0, bc BK212 1, bc BK212 2, bc BK212 3, bc BK212 4, bc BK212 5, bc BK212 6⟩ (fun hHeld => ?_)
      clear hK K
      refine norm_ (a' := ?_) ?_ ?_
      rotate_left
      ·show Act.put _ (some 42) _ = _
       simp only [Act.put, sa, sz, ss, i64_w, i32_w]
       rfl
      refine one_ (i := 3) (N := some 43) #[true, true, true, true, false] rfl rfl (by kernel_rfl) (by decide) (fun K hK => ?_)
      refine goes_ Try.func46 (by kernel_rfl) rfl #[.agg #[.slice Ao71 t256.length co71, .slice Ao76 t259.length co76, .slice Ao77 t262.length co77, .int .i64 t265, .bool t266, .int .i64 t267, .int .i64 t268], .agg #[.slice Ao90 t285.length co90, .slice Ao91 t288.length co91, .slice Ao92 t291.length co92, .int .i64 t294, .bool t295, .int .i64 t296, .int .i64 t297]] (by rfl) rfl rfl gl ?_
      with_reducible refine (laws_eqState.calls k _ _ t256 _ _ t259 _ _ t262 t265 t266 t267 t268 _ _ t285 _ _ t288 _ _ t291 t294 t295 t296 t297 true _ ?side1 ?side2 ?side3 ?side4 ?side5 ?side6 ?side7 ?side8 ?side9 ?side10 ?side11 ?side12 A69.out).mono ?_
      (case side1 => exact cc (Kd.S_reads' HO258.out).2.2)
      (case side2 => exact (Kd.S_reads' HO258.out).2.1)
      (case side3 => exact cc (Kd.S_reads' HO261.out).2.2)
      (case side4 => exact (Kd.S_reads' HO261.out).2.1)
      (case side5 => exact cc (Kd.R_reads' HO264.out).2.2)
      (case side6 => exact (Kd.R_reads' HO264.out).2.1)
      (case side7 => exact cc (Kd.S_reads' HO287.out).2.2)
      (case side8 => exact (Kd.S_reads' HO287.out).2.1)
      (case side9 => exact cc (Kd.S_reads' HO290.out).2.2)
      (case side10 => exact (Kd.S_reads' HO290.out).2.1)
      (case side11 => exact cc (Kd.R_reads' HO293.out).2.2)
      (case side12 => exact (Kd.R_reads' HO293.out).2.1)
      rintro e w93 ⟨rfl, hb⟩
      refine ⟨_, rfl, ?_⟩
      have n0_ := am (Kd.S_below (kS HO217) hb)
      have n1_ := am (Kd.S_below (kS HO220) hb)
      have n2_ := am (Kd.R_below (kR HO223) hb)
      have n3_ := am (Kd.S_below (kS HO230) hb)
      have n4_ := am (Kd.S_below (kS HO233) hb)
      have n5_ := am (Kd.R_below (kR HO236) hb)
      have n6_ := am (Kd.S_below (kS HO244) hb)
      have n7_ := am (Kd.S_below (kS HO247) hb)
      have n8_ := am (Kd.R_below (kR HO250) hb)
      have n9_ := am (Kd.S_below (kS HO258) hb)
      have n10_ := am (Kd.S_below (kS HO261) hb)
      have n11_ := am (Kd.R_below (kR HO264) hb)
      have n12_ := am (Kd.S_below (kS HO273) hb)
      have n13_ := am (Kd.S_below (kS HO276) hb)
      have n14_ := am (Kd.R_below (kR HO279) hb)
      have n15_ := am (Kd.S_below (kS HO287) hb)
      have n16_ := am (Kd.S_below (kS HO290) hb)
      have n17_ := am (Kd.R_below (kR HO293) hb)
      have n18_ := am (blk_below (g := gb211) (o := .cells #[.slice A0_0 l0_0.length c0_0, .slice A0_1 l0_1.length c0_1, .slice A0_2 l0_2.length c0_2, .int .i64 a0_3, .bool a0_4, .int .i64 a0_5, .int .i64 a0_6] 62 (0, 0)) (bp BK211) hb)
      have n19_ := am (blk_below (g := gb212) (o := .cells #[.slice A1_0 l1_0.length c1_0, .slice A1_1 l1_1.length c1_1, .slice A1_2 l1_2.length c1_2, .int .i64 a1_3, .bool a1_4, .int .i64 a1_5, .int .i64 a1_6] 62 (0, 0)) (bp BK212) hb)
      have n20_ := am (blk_below (g := gb255) (o := .cells #[.slice Ao44 t242.length co44, .slice Ao48 t245.length co48, .slice Ao49 t248.length co49, .int .i64 t251, .bool t252, .int .i64 t253, .int .i64 t254] 67 (0, 0)) (bp BK255) hb)
      have n21_ := am (blk_below (g := gb269) (o := .cells #[.slice Ao71 t256.length co71, .slice Ao76 t259.length co76, .slice Ao77 t262.length co77, .int .i64 t265, .bool t266, .int .i64 t267, .int .i64 t268] 67 (0, 0)) (bp BK269) hb)
      have n22_ := am (below_step (bw HB) hb)
      clear HO217
      clear HO220
      clear HO223
      clear HO230
      clear HO233
      clear HO236
      clear HO244
      clear HO247
      clear HO250
      clear HO258
      clear HO261
      clear HO264
      clear HO273
      clear HO276
      clear HO279
      clear HO287
      clear HO290
      clear HO293
      clear BK211
      clear BK212
      clear BK255
      clear BK269
      clear HB
      have HO217 := n0_
      have HO220 := n1_
      have HO223 := n2_
      have HO230 := n3_
      have HO233 := n4_
      have HO236 := n5_
      have HO244 := n6_
      have HO247 := n7_
      have HO250 := n8_
      have HO258 := n9_
      have HO261 := n10_
      have HO264 := n11_
      have HO273 := n12_
      have HO276 := n13_
      have HO279 := n14_
      have HO287 := n15_
      have HO290 := n16_
      have HO293 := n17_
      have BK211 := n18_
      have BK212 := n19_
      have BK255 := n20_
      have BK269 := n21_
      have HB := n22_
      clear n0_ n1_ n2_ n3_ n4_ n5_ n6_ n7_ n8_ n9_ n10_ n11_ n12_ n13_ n14_ n15_ n16_ n17_ n18_ n19_ n20_ n21_ n22_
      (try clear hb)
      (try clear hb2)
      (try clear hk)
      (try clear hi)
      refine hK.out _ _ ⟨bc BK269 0, bc BK269 1, bc BK269 2, bc BK269 3, bc BK269 4, bc BK269 5, bc BK269 6, bc BK212 0, bc BK212 1, bc BK212 2, bc BK212 3, bc BK212 4, bc BK212 5, bc BK212 6⟩ (fun hHeld => ?_)
      clear hK K
      refine norm_ (a' := ?_) ?_ ?_
      rotate_left
      ·show Act.put _ (some 43) _ = _
       simp only [Act.put, sa, sz, ss, i64_w, i32_w]
       rfl
      refine pure_ (i := 4) (N := some 44) (v := ?_) (a' := ?_) #[true, true, true, true, true] rfl rfl (by kernel_rfl) (fun _ _ _ h => h) (Or.inl ⟨by rfl, ?_⟩) ?_ ?_
      rotate_left
      ·intro w'
       go_simp
       with_reducible rfl
      rotate_left
      ·simp only [Act.put, sa, sz, ss, i64_w, i32_w]
       rfl
      refine done_ (by kernel_rfl) ?_
      try go_wp2
      go_ret
      exact ⟨er, bw HB⟩
     ·replace c70 := Bool.eq_false_iff.mpr c70
      subst c70
      have H1 : (some false) = some r := by rw [if_neg (show ¬ (false = true) by decide)] at H; exact H
      clear H
      have H := H1
      clear H1
      obtain rfl := Option.some.inj H
      obtain ⟨Ao94, co94, eo94⟩ := Kd.S_slice HO258.out
      subst eo94
      have hnb95 := NB269_211.out
      have hnc95 := NB211_269.out
      have hnb96 := NB269_212.out
      have hnc96 := NB212_269.out
      have hnb97 := NB269_255.out
      have hnc97 := NB255_269.out
      have hcz98_0 : w52.cell? ⟨gb269, 0, none⟩ = some (.slice none 0 0) := bc BK269 0
      have hcz98_1 : w52.cell? ⟨gb269, 1, none⟩ = some (.slice none 0 0) := bc BK269 1
      have hcz98_2 : w52.cell? ⟨gb269, 2, none⟩ = some (.slice none 0 0) := bc BK269 2
      have hcz98_3 : w52.cell? ⟨gb269, 3, none⟩ = some (.int .i64 0) := bc BK269 3
      have hcz98_4 : w52.cell? ⟨gb269, 4, none⟩ = some (.bool false) := bc BK269 4
      have hcz98_5 : w52.cell? ⟨gb269, 5, none⟩ = some (.int .i64 0) := bc BK269 5
      have hcz98_6 : w52.cell? ⟨gb269, 6, none⟩ = some (.int .i64 0) := bc BK269 6
      have hfz98_0 := bf BK269 0
      have hfz98_1 := bf BK269 1
      have hfz98_2 := bf BK269 2
      have hfz98_3 := bf BK269 3
      have hfz98_4 := bf BK269 4
      have hfz98_5 := bf BK269 5
      have hfz98_6 := bf BK269 6
      obtain ⟨Ao99, co99, eo99⟩ := Kd.S_slice HO261.out
      subst eo99
      obtain ⟨Ao100, co100, eo100⟩ := Kd.R_slice HO264.out
      subst eo100
      have hnb101 := NB255_211.out
      have hnc101 := NB211_255.out
      have hnb102 := NB255_212.out
      have hnc102 := NB212_255.out
      have hcz103_0 : w52.cell? ⟨gb255, 0, none⟩ = some (.slice Ao44 t242.length co44) := bc BK255 0
      have hcz103_1 : w52.cell? ⟨gb255, 1, none⟩ = some (.slice Ao48 t245.length co48) := bc BK255 1
      have hcz103_2 : w52.cell? ⟨gb255, 2, none⟩ = some (.slice Ao49 t248.length co49) := bc BK255 2
      have hcz103_3 : w52.cell? ⟨gb255, 3, none⟩ = some (.int .i64 t251) := bc BK255 3
      have hcz103_4 : w52.cell? ⟨gb255, 4, none⟩ = some (.bool t252) := bc BK255 4
      have hcz103_5 : w52.cell? ⟨gb255, 5, none⟩ = some (.int .i64 t253) := bc BK255 5
      have hcz103_6 : w52.cell? ⟨gb255, 6, none⟩ = some (.int .i64 t254) := bc BK255 6
      have hfz103_0 := bf BK255 0
      have hfz103_1 := bf BK255 1
      have hfz103_2 := bf BK255 2
      have hfz103_3 := bf BK255 3
      have hfz103_4 := bf BK255 4
      have hfz103_5 := bf BK255 5
      have hfz103_6 := bf BK255 6
      try go_wp2_with (first | ((with_reducible refine gate_callee (f := 45) rfl ?_); refine goesL_ (some 31) rfl rfl Try.func45 (by kernel_rfl) rfl #[.agg #[.slice Ao44 t242.length co44, .slice Ao48 t245.length co48, .slice Ao49 t248.length co49, .int .i64 t251, .bool t252, .int .i64 t253, .int .i64 t254], .agg #[.slice Ao94 t256.length co94, .slice Ao99 t259.length co99, .slice Ao100 t262.length co100, .int .i64 t265, .bool t266, .int .i64 t267, .int .i64 t268]] rfl gl ?_; (with_reducible refine (impl_StateSame.calls k _ _ t242 _ _ t245 _ _ t248 t251 t252 t253 t254 _ _ t256 _ _ t259 _ _ t262 t265 t266 t267 t268 t270 _ ?side1 ?side2 ?side3 ?side4 ?side5 ?side6 ?side7 ?side8 ?side9 ?side10 ?side11 ?side12 A26.out).mono ?_); (case side1 => refine (Kd.S_reads' (e := 111) (base := w.heap.size) (ok := fun k_ => ((((((some k_ ≠ (.slice Ao49 t248.length co49 : Value).ownBlock ∧ some k_ ≠ (.slice Ao34 t215.length co34 : Value).ownBlock) ∧ some k_ ≠ (.slice Ao36 t221.length co36 : Value).ownBlock) ∧ some k_ ≠ (.slice Ao37 t228.length co37 : Value).ownBlock) ∧ some k_ ≠ (.slice Ao39 t234.length co39 : Value).ownBlock) ∧ some k_ ≠ (.slice Ao94 t256.length co94 : Value).ownBlock) ∧ some k_ ≠ (.slice Ao100 t262.length co100 : Value).ownBlock)) (n := t242.length) (c := co44) ?_).2.2; exact (by (with_reducible repeat (first | apply Kd.S_alloc | apply Kd.S_drewN | apply Kd.S_drew)); exact (Kd.S_mono (Kd.S_far (p := ⟨gb269, 6, none⟩) (Kd.S_far (p := ⟨gb269, 5, none⟩) (Kd.S_far (p := ⟨gb269, 4, none⟩) (Kd.S_far (p := ⟨gb269, 3, none⟩) (Kd.S_far (p := ⟨gb269, 2, none⟩) (Kd.S_far (p := ⟨gb269, 1, none⟩) (Kd.S_far (p := ⟨gb269, 0, none⟩) (Kd.S_types HO244.out BK269.out (by decide)) (fun _ hk => hk.2) (.slice Ao94 t256.length co94)) (fun _ hk => hk.2) (.slice Ao99 t259.length co99)) (fun _ hk => hk.2) (.slice Ao100 t262.length co100)) (fun _ hk => hk.2) (.int .i64 t265)) (fun _ hk => hk.2) (.bool t266)) (fun _ hk => hk.2) (.int .i64 t267)) (fun _ hk => hk.2) (.int .i64 t268)) (fun _ h_ => h_.1)))); (case side2 => exact (Kd.S_reads' HO244.out).2.1); (case side3 => refine (Kd.S_reads' (e := 27) (base := w.heap.size) (ok := fun k_ => ((((((some k_ ≠ (.slice Ao49 t248.length co49 : Value).ownBlock ∧ some k_ ≠ (.slice Ao35 t218.length co35 : Value).ownBlock) ∧ some k_ ≠ (.slice Ao36 t221.length co36 : Value).ownBlock) ∧ some k_ ≠ (.slice Ao38 t231.length co38 : Value).ownBlock) ∧ some k_ ≠ (.slice Ao39 t234.length co39 : Value).ownBlock) ∧ some k_ ≠ (.slice Ao99 t259.length co99 : Value).ownBlock) ∧ some k_ ≠ (.slice Ao100 t262.length co100 : Value).ownBlock)) (n := t245.length) (c := co48) ?_).2.2; exact (by (with_reducible repeat (first | apply Kd.S_alloc | apply Kd.S_drewN | apply Kd.S_drew)); exact (Kd.S_mono (Kd.S_far (p := ⟨gb269, 6, none⟩) (Kd.S_far (p := ⟨gb269, 5, none⟩) (Kd.S_far (p := ⟨gb269, 4, none⟩) (Kd.S_far (p := ⟨gb269, 3, none⟩) (Kd.S_far (p := ⟨gb269, 2, none⟩) (Kd.S_far (p := ⟨gb269, 1, none⟩) (Kd.S_far (p := ⟨gb269, 0, none⟩) (Kd.S_types HO247.out BK269.out (by decide)) (fun _ hk => hk.2) (.slice Ao94 t256.length co94)) (fun _ hk => hk.2) (.slice Ao99 t259.length co99)) (fun _ hk => hk.2) (.slice Ao100 t262.length co100)) (fun _ hk => hk.2) (.int .i64 t265)) (fun _ hk => hk.2) (.bool t266)) (fun _ hk => hk.2) (.int .i64 t267)) (fun _ hk => hk.2) (.int .i64 t268)) (fun _ h_ => h_.1)))); (case side4 => exact (Kd.S_reads' HO247.out).2.1); (case side5 => refine (Kd.R_reads' (e := 2) (base := w.heap.size) (ok := fun k_ => (((True ∧ some k_ ≠ (.slice Ao36 t221.length co36 : Value).ownBlock) ∧ some k_ ≠ (.slice Ao39 t234.length co39 : Value).ownBlock) ∧ some k_ ≠ (.slice Ao100 t262.length co100 : Value).ownBlock)) (n := t248.length) (c := co49) ?_).2.2; exact (by (with_reducible repeat (first | apply Kd.R_alloc | apply Kd.R_drewN | apply Kd.R_drew)); exact (Kd.R_mono (Kd.R_far (p := ⟨gb269, 6, none⟩) (Kd.R_far (p := ⟨gb269, 5, none⟩) (Kd.R_far (p := ⟨gb269, 4, none⟩) (Kd.R_far (p := ⟨gb269, 3, none⟩) (Kd.R_far (p := ⟨gb269, 2, none⟩) (Kd.R_far (p := ⟨gb269, 1, none⟩) (Kd.R_far (p := ⟨gb269, 0, none⟩) (Kd.R_types HO250.out BK269.out (by decide)) (fun _ hk => hk.2) (.slice Ao94 t256.length co94)) (fun _ hk => hk.2) (.slice Ao99 t259.length co99)) (fun _ hk => hk.2) (.slice Ao100 t262.length co100)) (fun _ hk => hk.2) (.int .i64 t265)) (fun _ hk => hk.2) (.bool t266)) (fun _ hk => hk.2) (.int .i64 t267)) (fun _ hk => hk.2) (.int .i64 t268)) (fun _ h_ => h_.1)))); (case side6 => exact (Kd.R_reads' HO250.out).2.1); (case side7 => refine (Kd.S_reads' (e := 111) (base := w.heap.size) (ok := fun k_ => ((((((some k_ ≠ (.slice Ao100 t262.length co100 : Value).ownBlock ∧ some k_ ≠ (.slice Ao34 t215.length co34 : Value).ownBlock) ∧ some k_ ≠ (.slice Ao36 t221.length co36 : Value).ownBlock) ∧ some k_ ≠ (.slice Ao37 t228.length co37 : Value).ownBlock) ∧ some k_ ≠ (.slice Ao39 t234.length co39 : Value).ownBlock) ∧ some k_ ≠ (.slice Ao44 t242.length co44 : Value).ownBlock) ∧ some k_ ≠ (.slice Ao49 t248.length co49 : Value).ownBlock)) (n := t256.length) (c := co94) ?_).2.2; exact (by (with_reducible repeat (first | apply Kd.S_alloc | apply Kd.S_drewN | apply Kd.S_drew)); exact (Kd.S_mono (Kd.S_far (p := ⟨gb269, 6, none⟩) (Kd.S_far (p := ⟨gb269, 5, none⟩) (Kd.S_far (p := ⟨gb269, 4, none⟩) (Kd.S_far (p := ⟨gb269, 3, none⟩) (Kd.S_far (p := ⟨gb269, 2, none⟩) (Kd.S_far (p := ⟨gb269, 1, none⟩) (Kd.S_far (p := ⟨gb269, 0, none⟩) (Kd.S_types HO258.out BK269.out (by decide)) (fun _ hk => hk.2) (.slice Ao94 t256.length co94)) (fun _ hk => hk.2) (.slice Ao99 t259.length co99)) (fun _ hk => hk.2) (.slice Ao100 t262.length co100)) (fun _ hk => hk.2) (.int .i64 t265)) (fun _ hk => hk.2) (.bool t266)) (fun _ hk => hk.2) (.int .i64 t267)) (fun _ hk => hk.2) (.int .i64 t268)) (fun _ h_ => h_.1)))); (case side8 => exact (Kd.S_reads' HO258.out).2.1); (case side9 => refine (Kd.S_reads' (e := 27) (base := w.heap.size) (ok := fun k_ => ((((((some k_ ≠ (.slice Ao100 t262.length co100 : Value).ownBlock ∧ some k_ ≠ (.slice Ao35 t218.length co35 : Value).ownBlock) ∧ some k_ ≠ (.slice Ao36 t221.length co36 : Value).ownBlock) ∧ some k_ ≠ (.slice Ao38 t231.length co38 : Value).ownBlock) ∧ some k_ ≠ (.slice Ao39 t234.length co39 : Value).ownBlock) ∧ some k_ ≠ (.slice Ao48 t245.length co48 : Value).ownBlock) ∧ some k_ ≠ (.slice Ao49 t248.length co49 : Value).ownBlock)) (n := t259.length) (c := co99) ?_).2.2; exact (by (with_reducible repeat (first | apply Kd.S_alloc | apply Kd.S_drewN | apply Kd.S_drew)); exact (Kd.S_mono (Kd.S_far (p := ⟨gb269, 6, none⟩) (Kd.S_far (p := ⟨gb269, 5, none⟩) (Kd.S_far (p := ⟨gb269, 4, none⟩) (Kd.S_far (p := ⟨gb269, 3, none⟩) (Kd.S_far (p := ⟨gb269, 2, none⟩) (Kd.S_far (p := ⟨gb269, 1, none⟩) (Kd.S_far (p := ⟨gb269, 0, none⟩) (Kd.S_types HO261.out BK269.out (by decide)) (fun _ hk => hk.2) (.slice Ao94 t256.length co94)) (fun _ hk => hk.2) (.slice Ao99 t259.length co99)) (fun _ hk => hk.2) (.slice Ao100 t262.length co100)) (fun _ hk => hk.2) (.int .i64 t265)) (fun _ hk => hk.2) (.bool t266)) (fun _ hk => hk.2) (.int .i64 t267)) (fun _ hk => hk.2) (.int .i64 t268)) (fun _ h_ => h_.1)))); (case side10 => exact (Kd.S_reads' HO261.out).2.1); (case side11 => refine (Kd.R_reads' (e := 2) (base := w.heap.size) (ok := fun k_ => (((True ∧ some k_ ≠ (.slice Ao36 t221.length co36 : Value).ownBlock) ∧ some k_ ≠ (.slice Ao39 t234.length co39 : Value).ownBlock) ∧ some k_ ≠ (.slice Ao49 t248.length co49 : Value).ownBlock)) (n := t262.length) (c := co100) ?_).2.2; exact (by (with_reducible repeat (first | apply Kd.R_alloc | apply Kd.R_drewN | apply Kd.R_drew)); exact (Kd.R_mono (Kd.R_far (p := ⟨gb269, 6, none⟩) (Kd.R_far (p := ⟨gb269, 5, none⟩) (Kd.R_far (p := ⟨gb269, 4, none⟩) (Kd.R_far (p := ⟨gb269, 3, none⟩) (Kd.R_far (p := ⟨gb269, 2, none⟩) (Kd.R_far (p := ⟨gb269, 1, none⟩) (Kd.R_far (p := ⟨gb269, 0, none⟩) (Kd.R_types HO264.out BK269.out (by decide)) (fun _ hk => hk.2) (.slice Ao94 t256.length co94)) (fun _ hk => hk.2) (.slice Ao99 t259.length co99)) (fun _ hk => hk.2) (.slice Ao100 t262.length co100)) (fun _ hk => hk.2) (.int .i64 t265)) (fun _ hk => hk.2) (.bool t266)) (fun _ hk => hk.2) (.int .i64 t267)) (fun _ hk => hk.2) (.int .i64 t268)) (fun _ h_ => h_.1)))); (case side12 => exact (Kd.R_reads' HO264.out).2.1); rintro e w104 ⟨rfl, hb⟩; refine ⟨_, rfl, ?_⟩; replace HO217 := am (Kd.S_below (by (with_reducible repeat (first | apply Kd.S_alloc | apply Kd.S_drewN | apply Kd.S_drew)); exact (Kd.S_mono (Kd.S_far (p := ⟨gb269, 6, none⟩) (Kd.S_far (p := ⟨gb269, 5, none⟩) (Kd.S_far (p := ⟨gb269, 4, none⟩) (Kd.S_far (p := ⟨gb269, 3, none⟩) (Kd.S_far (p := ⟨gb269, 2, none⟩) (Kd.S_far (p := ⟨gb269, 1, none⟩) (Kd.S_far (p := ⟨gb269, 0, none⟩) (Kd.S_types HO217.out BK269.out (by decide)) (fun _ hk => hk.2) (.slice Ao94 t256.length co94)) (fun _ hk => hk.2) (.slice Ao99 t259.length co99)) (fun _ hk => hk.2) (.slice Ao100 t262.length co100)) (fun _ hk => hk.2) (.int .i64 t265)) (fun _ hk => hk.2) (.bool t266)) (fun _ hk => hk.2) (.int .i64 t267)) (fun _ hk => hk.2) (.int .i64 t268)) (fun _ h_ => h_.1))) hb); replace HO220 := am (Kd.S_below (by (with_reducible repeat (first | apply Kd.S_alloc | apply Kd.S_drewN | apply Kd.S_drew)); exact (Kd.S_mono (Kd.S_far (p := ⟨gb269, 6, none⟩) (Kd.S_far (p := ⟨gb269, 5, none⟩) (Kd.S_far (p := ⟨gb269, 4, none⟩) (Kd.S_far (p := ⟨gb269, 3, none⟩) (Kd.S_far (p := ⟨gb269, 2, none⟩) (Kd.S_far (p := ⟨gb269, 1, none⟩) (Kd.S_far (p := ⟨gb269, 0, none⟩) (Kd.S_types HO220.out BK269.out (by decide)) (fun _ hk => hk.2) (.slice Ao94 t256.length co94)) (fun _ hk => hk.2) (.slice Ao99 t259.length co99)) (fun _ hk => hk.2) (.slice Ao100 t262.length co100)) (fun _ hk => hk.2) (.int .i64 t265)) (fun _ hk => hk.2) (.bool t266)) (fun _ hk => hk.2) (.int .i64 t267)) (fun _ hk => hk.2) (.int .i64 t268)) (fun _ h_ => h_.1))) hb); replace HO223 := am (Kd.R_below (by (with_reducible repeat (first | apply Kd.R_alloc | apply Kd.R_drewN | apply Kd.R_drew)); exact (Kd.R_mono (Kd.R_far (p := ⟨gb269, 6, none⟩) (Kd.R_far (p := ⟨gb269, 5, none⟩) (Kd.R_far (p := ⟨gb269, 4, none⟩) (Kd.R_far (p := ⟨gb269, 3, none⟩) (Kd.R_far (p := ⟨gb269, 2, none⟩) (Kd.R_far (p := ⟨gb269, 1, none⟩) (Kd.R_far (p := ⟨gb269, 0, none⟩) (Kd.R_types HO223.out BK269.out (by decide)) (fun _ hk => hk.2) (.slice Ao94 t256.length co94)) (fun _ hk => hk.2) (.slice Ao99 t259.length co99)) (fun _ hk => hk.2) (.slice Ao100 t262.length co100)) (fun _ hk => hk.2) (.int .i64 t265)) (fun _ hk => hk.2) (.bool t266)) (fun _ hk => hk.2) (.int .i64 t267)) (fun _ hk => hk.2) (.int .i64 t268)) (fun _ h_ => h_.1))) hb); replace HO230 := am (Kd.S_below (by (with_reducible repeat (first | apply Kd.S_alloc | apply Kd.S_drewN | apply Kd.S_drew)); exact (Kd.S_mono (Kd.S_far (p := ⟨gb269, 6, none⟩) (Kd.S_far (p := ⟨gb269, 5, none⟩) (Kd.S_far (p := ⟨gb269, 4, none⟩) (Kd.S_far (p := ⟨gb269, 3, none⟩) (Kd.S_far (p := ⟨gb269, 2, none⟩) (Kd.S_far (p := ⟨gb269, 1, none⟩) (Kd.S_far (p := ⟨gb269, 0, none⟩) (Kd.S_types HO230.out BK269.out (by decide)) (fun _ hk => hk.2) (.slice Ao94 t256.length co94)) (fun _ hk => hk.2) (.slice Ao99 t259.length co99)) (fun _ hk => hk.2) (.slice Ao100 t262.length co100)) (fun _ hk => hk.2) (.int .i64 t265)) (fun _ hk => hk.2) (.bool t266)) (fun _ hk => hk.2) (.int .i64 t267)) (fun _ hk => hk.2) (.int .i64 t268)) (fun _ h_ => h_.1))) hb); replace HO233 := am (Kd.S_below (by (with_reducible repeat (first | apply Kd.S_alloc | apply Kd.S_drewN | apply Kd.S_drew)); exact (Kd.S_mono (Kd.S_far (p := ⟨gb269, 6, none⟩) (Kd.S_far (p := ⟨gb269, 5, none⟩) (Kd.S_far (p := ⟨gb269, 4, none⟩) (Kd.S_far (p := ⟨gb269, 3, none⟩) (Kd.S_far (p := ⟨gb269, 2, none⟩) (Kd.S_far (p := ⟨gb269, 1, none⟩) (Kd.S_far (p := ⟨gb269, 0, none⟩) (Kd.S_types HO233.out BK269.out (by decide)) (fun _ hk => hk.2) (.slice Ao94 t256.length co94)) (fun _ hk => hk.2) (.slice Ao99 t259.length co99)) (fun _ hk => hk.2) (.slice Ao100 t262.length co100)) (fun _ hk => hk.2) (.int .i64 t265)) (fun _ hk => hk.2) (.bool t266)) (fun _ hk => hk.2) (.int .i64 t267)) (fun _ hk => hk.2) (.int .i64 t268)) (fun _ h_ => h_.1))) hb); replace HO236 := am (Kd.R_below (by (with_reducible repeat (first | apply Kd.R_alloc | apply Kd.R_drewN | apply Kd.R_drew)); exact (Kd.R_mono (Kd.R_far (p := ⟨gb269, 6, none⟩) (Kd.R_far (p := ⟨gb269, 5, none⟩) (Kd.R_far (p := ⟨gb269, 4, none⟩) (Kd.R_far (p := ⟨gb269, 3, none⟩) (Kd.R_far (p := ⟨gb269, 2, none⟩) (Kd.R_far (p := ⟨gb269, 1, none⟩) (Kd.R_far (p := ⟨gb269, 0, none⟩) (Kd.R_types HO236.out BK269.out (by decide)) (fun _ hk => hk.2) (.slice Ao94 t256.length co94)) (fun _ hk => hk.2) (.slice Ao99 t259.length co99)) (fun _ hk => hk.2) (.slice Ao100 t262.length co100)) (fun _ hk => hk.2) (.int .i64 t265)) (fun _ hk => hk.2) (.bool t266)) (fun _ hk => hk.2) (.int .i64 t267)) (fun _ hk => hk.2) (.int .i64 t268)) (fun _ h_ => h_.1))) hb); replace HO244 := am (Kd.S_below (by (with_reducible repeat (first | apply Kd.S_alloc | apply Kd.S_drewN | apply Kd.S_drew)); exact (Kd.S_mono (Kd.S_far (p := ⟨gb269, 6, none⟩) (Kd.S_far (p := ⟨gb269, 5, none⟩) (Kd.S_far (p := ⟨gb269, 4, none⟩) (Kd.S_far (p := ⟨gb269, 3, none⟩) (Kd.S_far (p := ⟨gb269, 2, none⟩) (Kd.S_far (p := ⟨gb269, 1, none⟩) (Kd.S_far (p := ⟨gb269, 0, none⟩) (Kd.S_types HO244.out BK269.out (by decide)) (fun _ hk => hk.2) (.slice Ao94 t256.length co94)) (fun _ hk => hk.2) (.slice Ao99 t259.length co99)) (fun _ hk => hk.2) (.slice Ao100 t262.length co100)) (fun _ hk => hk.2) (.int .i64 t265)) (fun _ hk => hk.2) (.bool t266)) (fun _ hk => hk.2) (.int .i64 t267)) (fun _ hk => hk.2) (.int .i64 t268)) (fun _ h_ => h_.1))) hb); replace HO247 := am (Kd.S_below (by (with_reducible repeat (first | apply Kd.S_alloc | apply Kd.S_drewN | apply Kd.S_drew)); exact (Kd.S_mono (Kd.S_far (p := ⟨gb269, 6, none⟩) (Kd.S_far (p := ⟨gb269, 5, none⟩) (Kd.S_far (p := ⟨gb269, 4, none⟩) (Kd.S_far (p := ⟨gb269, 3, none⟩) (Kd.S_far (p := ⟨gb269, 2, none⟩) (Kd.S_far (p := ⟨gb269, 1, none⟩) (Kd.S_far (p := ⟨gb269, 0, none⟩) (Kd.S_types HO247.out BK269.out (by decide)) (fun _ hk => hk.2) (.slice Ao94 t256.length co94)) (fun _ hk => hk.2) (.slice Ao99 t259.length co99)) (fun _ hk => hk.2) (.slice Ao100 t262.length co100)) (fun _ hk => hk.2) (.int .i64 t265)) (fun _ hk => hk.2) (.bool t266)) (fun _ hk => hk.2) (.int .i64 t267)) (fun _ hk => hk.2) (.int .i64 t268)) (fun _ h_ => h_.1))) hb); replace HO250 := am (Kd.R_below (by (with_reducible repeat (first | apply Kd.R_alloc | apply Kd.R_drewN | apply Kd.R_drew)); exact (Kd.R_mono (Kd.R_far (p := ⟨gb269, 6, none⟩) (Kd.R_far (p := ⟨gb269, 5, none⟩) (Kd.R_far (p := ⟨gb269, 4, none⟩) (Kd.R_far (p := ⟨gb269, 3, none⟩) (Kd.R_far (p := ⟨gb269, 2, none⟩) (Kd.R_far (p := ⟨gb269, 1, none⟩) (Kd.R_far (p := ⟨gb269, 0, none⟩) (Kd.R_types HO250.out BK269.out (by decide)) (fun _ hk => hk.2) (.slice Ao94 t256.length co94)) (fun _ hk => hk.2) (.slice Ao99 t259.length co99)) (fun _ hk => hk.2) (.slice Ao100 t262.length co100)) (fun _ hk => hk.2) (.int .i64 t265)) (fun _ hk => hk.2) (.bool t266)) (fun _ hk => hk.2) (.int .i64 t267)) (fun _ hk => hk.2) (.int .i64 t268)) (fun _ h_ => h_.1))) hb); replace HO258 := am (Kd.S_below (by (with_reducible repeat (first | apply Kd.S_alloc | apply Kd.S_drewN | apply Kd.S_drew)); exact (Kd.S_mono (Kd.S_far (p := ⟨gb269, 6, none⟩) (Kd.S_far (p := ⟨gb269, 5, none⟩) (Kd.S_far (p := ⟨gb269, 4, none⟩) (Kd.S_far (p := ⟨gb269, 3, none⟩) (Kd.S_far (p := ⟨gb269, 2, none⟩) (Kd.S_far (p := ⟨gb269, 1, none⟩) (Kd.S_far (p := ⟨gb269, 0, none⟩) (Kd.S_types HO258.out BK269.out (by decide)) (fun _ hk => hk.2) (.slice Ao94 t256.length co94)) (fun _ hk => hk.2) (.slice Ao99 t259.length co99)) (fun _ hk => hk.2) (.slice Ao100 t262.length co100)) (fun _ hk => hk.2) (.int .i64 t265)) (fun _ hk => hk.2) (.bool t266)) (fun _ hk => hk.2) (.int .i64 t267)) (fun _ hk => hk.2) (.int .i64 t268)) (fun _ h_ => h_.1))) hb); replace HO261 := am (Kd.S_below (by (with_reducible repeat (first | apply Kd.S_alloc | apply Kd.S_drewN | apply Kd.S_drew)); exact (Kd.S_mono (Kd.S_far (p := ⟨gb269, 6, none⟩) (Kd.S_far (p := ⟨gb269, 5, none⟩) (Kd.S_far (p := ⟨gb269, 4, none⟩) (Kd.S_far (p := ⟨gb269, 3, none⟩) (Kd.S_far (p := ⟨gb269, 2, none⟩) (Kd.S_far (p := ⟨gb269, 1, none⟩) (Kd.S_far (p := ⟨gb269, 0, none⟩) (Kd.S_types HO261.out BK269.out (by decide)) (fun _ hk => hk.2) (.slice Ao94 t256.length co94)) (fun _ hk => hk.2) (.slice Ao99 t259.length co99)) (fun _ hk => hk.2) (.slice Ao100 t262.length co100)) (fun _ hk => hk.2) (.int .i64 t265)) (fun _ hk => hk.2) (.bool t266)) (fun _ hk => hk.2) (.int .i64 t267)) (fun _ hk => hk.2) (.int .i64 t268)) (fun _ h_ => h_.1))) hb); replace HO264 := am (Kd.R_below (by (with_reducible repeat (first | apply Kd.R_alloc | apply Kd.R_drewN | apply Kd.R_drew)); exact (Kd.R_mono (Kd.R_far (p := ⟨gb269, 6, none⟩) (Kd.R_far (p := ⟨gb269, 5, none⟩) (Kd.R_far (p := ⟨gb269, 4, none⟩) (Kd.R_far (p := ⟨gb269, 3, none⟩) (Kd.R_far (p := ⟨gb269, 2, none⟩) (Kd.R_far (p := ⟨gb269, 1, none⟩) (Kd.R_far (p := ⟨gb269, 0, none⟩) (Kd.R_types HO264.out BK269.out (by decide)) (fun _ hk => hk.2) (.slice Ao94 t256.length co94)) (fun _ hk => hk.2) (.slice Ao99 t259.length co99)) (fun _ hk => hk.2) (.slice Ao100 t262.length co100)) (fun _ hk => hk.2) (.int .i64 t265)) (fun _ hk => hk.2) (.bool t266)) (fun _ hk => hk.2) (.int .i64 t267)) (fun _ hk => hk.2) (.int .i64 t268)) (fun _ h_ => h_.1))) hb); replace BK211 := am (blk_below (g := gb211) (o := .cells #[.slice A0_0 l0_0.length c0_0, .slice A0_1 l0_1.length c0_1, .slice A0_2 l0_2.length c0_2, .int .i64 a0_3, .bool a0_4, .int .i64 a0_5, .int .i64 a0_6] 62 (0, 0)) (by (with_reducible repeat (first | apply dN | apply dW | apply dA)); refine blk_far ?_ NB211_269.out _; (with_reducible repeat (first | apply dN | apply dW | apply dA)); refine blk_far ?_ NB211_269.out _; (with_reducible repeat (first | apply dN | apply dW | apply dA)); refine blk_far ?_ NB211_269.out _; (with_reducible repeat (first | apply dN | apply dW | apply dA)); refine blk_far ?_ NB211_269.out _; (with_reducible repeat (first | apply dN | apply dW | apply dA)); refine blk_far ?_ NB211_269.out _; (with_reducible repeat (first | apply dN | apply dW | apply dA)); refine blk_far ?_ NB211_269.out _; (with_reducible repeat (first | apply dN | apply dW | apply dA)); refine blk_far ?_ NB211_269.out _; exact bp BK211) hb); replace BK212 := am (blk_below (g := gb212) (o := .cells #[.slice A1_0 l1_0.length c1_0, .slice A1_1 l1_1.length c1_1, .slice A1_2 l1_2.length c1_2, .int .i64 a1_3, .bool a1_4, .int .i64 a1_5, .int .i64 a1_6] 62 (0, 0)) (by (with_reducible repeat (first | apply dN | apply dW | apply dA)); refine blk_far ?_ NB212_269.out _; (with_reducible repeat (first | apply dN | apply dW | apply dA)); refine blk_far ?_ NB212_269.out _; (with_reducible repeat (first | apply dN | apply dW | apply dA)); refine blk_far ?_ NB212_269.out _; (with_reducible repeat (first | apply dN | apply dW | apply dA)); refine blk_far ?_ NB212_269.out _; (with_reducible repeat (first | apply dN | apply dW | apply dA)); refine blk_far ?_ NB212_269.out _; (with_reducible repeat (first | apply dN | apply dW | apply dA)); refine blk_far ?_ NB212_269.out _; (with_reducible repeat (first | apply dN | apply dW | apply dA)); refine blk_far ?_ NB212_269.out _; exact bp BK212) hb); replace BK255 := am (blk_below (g := gb255) (o := .cells #[.slice Ao44 t242.length co44, .slice Ao48 t245.length co48, .slice Ao49 t248.length co49, .int .i64 t251, .bool t252, .int .i64 t253, .int .i64 t254] 67 (0, 0)) (by (with_reducible repeat (first | apply dN | apply dW | apply dA)); refine blk_far ?_ NB255_269.out _; (with_reducible repeat (first | apply dN | apply dW | apply dA)); refine blk_far ?_ NB255_269.out _; (with_reducible repeat (first | apply dN | apply dW | apply dA)); refine blk_far ?_ NB255_269.out _; (with_reducible repeat (first | apply dN | apply dW | apply dA)); refine blk_far ?_ NB255_269.out _; (with_reducible repeat (first | apply dN | apply dW | apply dA)); refine blk_far ?_ NB255_269.out _; (with_reducible repeat (first | apply dN | apply dW | apply dA)); refine blk_far ?_ NB255_269.out _; (with_reducible repeat (first | apply dN | apply dW | apply dA)); refine blk_far ?_ NB255_269.out _; exact bp BK255) hb); replace BK269 := am (blk_below (g := gb269) (o := .cells #[.slice Ao94 t256.length co94, .slice Ao99 t259.length co99, .slice Ao100 t262.length co100, .int .i64 t265, .bool t266, .int .i64 t267, .int .i64 t268] 67 (0, 0)) (by (with_reducible repeat (first | apply dN | apply dW | apply dA)); refine blk_put (cs := #[.slice Ao94 t256.length co94, .slice Ao99 t259.length co99, .slice Ao100 t262.length co100, .int .i64 t265, .bool t266, .int .i64 t267, .int .i64 0]) ?_ 6 _ rfl; (with_reducible repeat (first | apply dN | apply dW | apply dA)); refine blk_put (cs := #[.slice Ao94 t256.length co94, .slice Ao99 t259.length co99, .slice Ao100 t262.length co100, .int .i64 t265, .bool t266, .int .i64 0, .int .i64 0]) ?_ 5 _ rfl; (with_reducible repeat (first | apply dN | apply dW | apply dA)); refine blk_put (cs := #[.slice Ao94 t256.length co94, .slice Ao99 t259.length co99, .slice Ao100 t262.length co100, .int .i64 t265, .bool false, .int .i64 0, .int .i64 0]) ?_ 4 _ rfl; (with_reducible repeat (first | apply dN | apply dW | apply dA)); refine blk_put (cs := #[.slice Ao94 t256.length co94, .slice Ao99 t259.length co99, .slice Ao100 t262.length co100, .int .i64 0, .bool false, .int .i64 0, .int .i64 0]) ?_ 3 _ rfl; (with_reducible repeat (first | apply dN | apply dW | apply dA)); refine blk_put (cs := #[.slice Ao94 t256.length co94, .slice Ao99 t259.length co99, .slice none 0 0, .int .i64 0, .bool false, .int .i64 0, .int .i64 0]) ?_ 2 _ rfl; (with_reducible repeat (first | apply dN | apply dW | apply dA)); refine blk_put (cs := #[.slice Ao94 t256.length co94, .slice none 0 0, .slice none 0 0, .int .i64 0, .bool false, .int .i64 0, .int .i64 0]) ?_ 1 _ rfl; (with_reducible repeat (first | apply dN | apply dW | apply dA)); refine blk_put (cs := #[.slice none 0 0, .slice none 0 0, .slice none 0 0, .int .i64 0, .bool false, .int .i64 0, .int .i64 0]) ?_ 0 _ rfl; exact bp BK269) hb); replace HB := am (below_step (bw HB) hb); (try clear hb); (try clear hb2); (try clear hk); (try clear hi)))
      have n0_ := am (Kd.S_drew HO217.out)
      have n1_ := am (Kd.S_drew HO220.out)
      have n2_ := am (Kd.R_drew HO223.out)
      have n3_ := am (Kd.S_drew HO230.out)
      have n4_ := am (Kd.S_drew HO233.out)
      have n5_ := am (Kd.R_drew HO236.out)
      have n6_ := am (Kd.S_drew HO244.out)
      have n7_ := am (Kd.S_drew HO247.out)
      have n8_ := am (Kd.R_drew HO250.out)
      have n9_ := am (Kd.S_drew HO258.out)
      have n10_ := am (Kd.S_drew HO261.out)
      have n11_ := am (Kd.R_drew HO264.out)
      have n12_ := am (blk_drew BK211.out)
      have n13_ := am (blk_drew BK212.out)
      have n14_ := am (blk_drew BK255.out)
      have n15_ := am (blk_drew BK269.out)
      have n16_ := am (below_drew1 HB.out)
      clear HO217
      clear HO220
      clear HO223
      clear HO230
      clear HO233
      clear HO236
      clear HO244
      clear HO247
      clear HO250
      clear HO258
      clear HO261
      clear HO264
      clear BK211
      clear BK212
      clear BK255
      clear BK269
      clear HB
      have HO217 := n0_
      have HO220 := n1_
      have HO223 := n2_
      have HO230 := n3_
      have HO233 := n4_
      have HO236 := n5_
      have HO244 := n6_
      have HO247 := n7_
      have HO250 := n8_
      have HO258 := n9_
      have HO261 := n10_
      have HO264 := n11_
      have BK211 := n12_
      have BK212 := n13_
      have BK255 := n14_
      have BK269 := n15_
      have HB := n16_
      clear n0_ n1_ n2_ n3_ n4_ n5_ n6_ n7_ n8_ n9_ n10_ n11_ n12_ n13_ n14_ n15_ n16_
      refine start_ (n := 5) (S := fun w' => w'.cell? ⟨gb255, 0, none⟩ = some (.slice Ao44 t242.length co44) ∧ w'.cell? ⟨gb255, 1, none⟩ = some (.slice Ao48 t245.length co48) ∧ w'.cell? ⟨gb255, 2, none⟩ = some (.slice Ao49 t248.length co49) ∧ w'.cell? ⟨gb255, 3, none⟩ = some (.int .i64 t251) ∧ w'.cell? ⟨gb255, 4, none⟩ = some (.bool t252) ∧ w'.cell? ⟨gb255, 5, none⟩ = some (.int .i64 t253) ∧ w'.cell? ⟨gb255, 6, none⟩ = some (.int .i64 t254) ∧ w'.cell? ⟨gb211, 0, none⟩ = some (.slice A0_0 l0_0.length c0_0) ∧ w'.cell? ⟨gb211, 1, none⟩ = some (.slice A0_1 l0_1.length c0_1) ∧ w'.cell? ⟨gb211, 2, none⟩ = some (.slice A0_2 l0_2.length c0_2) ∧ w'.cell? ⟨gb211, 3, none⟩ = some (.int .i64 a0_3) ∧ w'.cell? ⟨gb211, 4, none⟩ = some (.bool a0_4) ∧ w'.cell? ⟨gb211, 5, none⟩ = some (.int .i64 a0_5) ∧ w'.cell? ⟨gb211, 6, none⟩ = some (.int .i64 a0_6)) (ds := []) #[false, false, false, false, false] (by kernel_rfl) rfl rfl ⟨bc BK255 0, bc BK255 1, bc BK255 2, bc BK255 3, bc BK255 4, bc BK255 5, bc BK255 6, bc BK211 0, bc BK211 1, bc BK211 2, bc BK211 3, bc BK211 4, bc BK211 5, bc BK211 6⟩ (fun hHeld => ?_)
      generalize w104.drew = w105 at HO217 HO220 HO223 HO230 HO233 HO236 HO244 HO247 HO250 HO258 HO261 HO264 BK211 BK212 BK255 BK269 HB hHeld ⊢
      refine take_ (i := 0) (N := some 35) (v := ?_) (a' := ?_) #[true, false, false, false, false] rfl rfl (by kernel_rfl) (fun _ _ _ h => h) (Or.inl ⟨by rfl, ?_⟩) hHeld ?_ ?_
      rotate_left
      ·rintro w' ⟨s0, s1, s2, s3, s4, s5, s6, s7, s8, s9, s10, s11, s12, s13⟩
       go_simp
       with_reducible rfl
      rotate_left
      ·simp only [Act.put, sa, sz, ss, i64_w, i32_w]
       rfl
      refine take_ (i := 1) (N := some 36) (v := ?_) (a' := ?_) #[true, true, false, false, false] rfl rfl (by kernel_rfl) (fun _ _ _ h => h) (Or.inl ⟨by rfl, ?_⟩) hHeld ?_ ?_
      rotate_left
      ·rintro w' ⟨s0, s1, s2, s3, s4, s5, s6, s7, s8, s9, s10, s11, s12, s13⟩
       go_simp
       with_reducible rfl
      rotate_left
      ·simp only [Act.put, sa, sz, ss, i64_w, i32_w]
       rfl
      refine one_ (i := 2) (N := some 37) #[true, true, true, false, false] rfl rfl (by kernel_rfl) (by decide) (fun K hK => ?_)
      refine goes_ Try.func44 (by kernel_rfl) rfl #[.agg #[.slice A0_0 l0_0.length c0_0, .slice A0_1 l0_1.length c0_1, .slice A0_2 l0_2.length c0_2, .int .i64 a0_3, .bool a0_4, .int .i64 a0_5, .int .i64 a0_6]] (by rfl) rfl rfl gl ?_
      with_reducible refine (laws_toState.calls k _ _ l0_0 _ _ l0_1 _ _ l0_2 a0_3 a0_4 a0_5 a0_6 t271 t274 t277 t280 t281 t282 t283 _ ?side1 ?side2 ?side3 ?side4 ?side5 ?side6 A65.out).mono ?_
      (case side1 => exact cc (Kd.C_below HR0_0.out HB.out))
      (case side2 => exact HC0_0.out)
      (case side3 => exact cc (Kd.C_below HR0_1.out HB.out))
      (case side4 => exact HC0_1.out)
      (case side5 => exact cc (Kd.C_below HR0_2.out HB.out))
      (case side6 => exact HC0_2.out)
      rintro e w106 ⟨v272, v275, v278, rfl, ho0, ho1, ho2, hb⟩
      refine ⟨_, rfl, ?_⟩
      have n0_ := am (Kd.S_mono (Kd.S_told (Kd.S_told (Kd.S_old (kS HO217) hb) (Kd.S_base ho0)) (Kd.R_base ho2)) (fun _ h_ => h_.1))
      have n1_ := am (Kd.S_mono (Kd.S_told (Kd.S_told (Kd.S_old (kS HO220) hb) (Kd.S_base ho1)) (Kd.R_base ho2)) (fun _ h_ => h_.1))
      have n2_ := am (Kd.R_elder' (kR HO223) (Kd.R_base ho2) hb)
      have n3_ := am (Kd.S_mono (Kd.S_told (Kd.S_told (Kd.S_old (kS HO230) hb) (Kd.S_base ho0)) (Kd.R_base ho2)) (fun _ h_ => h_.1))
      have n4_ := am (Kd.S_mono (Kd.S_told (Kd.S_told (Kd.S_old (kS HO233) hb) (Kd.S_base ho1)) (Kd.R_base ho2)) (fun _ h_ => h_.1))
      have n5_ := am (Kd.R_elder' (kR HO236) (Kd.R_base ho2) hb)
      have n6_ := am (Kd.S_mono (Kd.S_told (Kd.S_told (Kd.S_old (kS HO244) hb) (Kd.S_base ho0)) (Kd.R_base ho2)) (fun _ h_ => h_.1))
      have n7_ := am (Kd.S_mono (Kd.S_told (Kd.S_told (Kd.S_old (kS HO247) hb) (Kd.S_base ho1)) (Kd.R_base ho2)) (fun _ h_ => h_.1))
      have n8_ := am (Kd.R_elder' (kR HO250) (Kd.R_base ho2) hb)
      have n9_ := am (Kd.S_mono (Kd.S_told (Kd.S_told (Kd.S_old (kS HO258) hb) (Kd.S_base ho0)) (Kd.R_base ho2)) (fun _ h_ => h_.1))
      have n10_ := am (Kd.S_mono (Kd.S_told (Kd.S_told (Kd.S_old (kS HO261) hb) (Kd.S_base ho1)) (Kd.R_base ho2)) (fun _ h_ => h_.1))
      have n11_ := am (Kd.R_elder' (kR HO264) (Kd.R_base ho2) hb)
      have n12_ := am (Kd.S_lower (Kd.S_new' (Kd.S_new' (Kd.S_new' (Kd.S_new' (Kd.S_new' (Kd.S_new' (Kd.S_new' (Kd.S_new' ho0 (Kd.S_lt (kS HO217))) (Kd.R_lt (kR HO223))) (Kd.S_lt (kS HO230))) (Kd.R_lt (kR HO236))) (Kd.S_lt (kS HO244))) (Kd.R_lt (kR HO250))) (Kd.S_lt (kS HO258))) (Kd.R_lt (kR HO264))) (below_size (bw HB)))
      have n13_ := am (Kd.S_lower (Kd.S_new' (Kd.S_new' (Kd.S_new' (Kd.S_new' (Kd.S_new' (Kd.S_new' (Kd.S_new' (Kd.S_new' ho1 (Kd.S_lt (kS HO220))) (Kd.R_lt (kR HO223))) (Kd.S_lt (kS HO233))) (Kd.R_lt (kR HO236))) (Kd.S_lt (kS HO247))) (Kd.R_lt (kR HO250))) (Kd.S_lt (kS HO261))) (Kd.R_lt (kR HO264))) (below_size (bw HB)))
      have n14_ := am (Kd.R_lower (Kd.R_new' (Kd.R_new' (Kd.R_new' (Kd.R_new' ho2 (Kd.R_lt (kR HO223))) (Kd.R_lt (kR HO236))) (Kd.R_lt (kR HO250))) (Kd.R_lt (kR HO264))) (below_size (bw HB)))
      have n15_ := am (blk_below (g := gb211) (o := .cells #[.slice A0_0 l0_0.length c0_0, .slice A0_1 l0_1.length c0_1, .slice A0_2 l0_2.length c0_2, .int .i64 a0_3, .bool a0_4, .int .i64 a0_5, .int .i64 a0_6] 62 (0, 0)) (bp BK211) hb)
      have n16_ := am (blk_below (g := gb212) (o := .cells #[.slice A1_0 l1_0.length c1_0, .slice A1_1 l1_1.length c1_1, .slice A1_2 l1_2.length c1_2, .int .i64 a1_3, .bool a1_4, .int .i64 a1_5, .int .i64 a1_6] 62 (0, 0)) (bp BK212) hb)
      have n17_ := am (blk_below (g := gb255) (o := .cells #[.slice Ao44 t242.length co44, .slice Ao48 t245.length co48, .slice Ao49 t248.length co49, .int .i64 t251, .bool t252, .int .i64 t253, .int .i64 t254] 67 (0, 0)) (bp BK255) hb)
      have n18_ := am (blk_below (g := gb269) (o := .cells #[.slice Ao94 t256.length co94, .slice Ao99 t259.length co99, .slice Ao100 t262.length co100, .int .i64 t265, .bool t266, .int .i64 t267, .int .i64 t268] 67 (0, 0)) (bp BK269) hb)
      have n19_ := am (below_step (bw HB) hb)
      clear HO217
      clear HO220
      clear HO223
      clear HO230
      clear HO233
      clear HO236
      clear HO244
      clear HO247
      clear HO250
      clear HO258
      clear HO261
      clear HO264
      clear BK211
      clear BK212
      clear BK255
      clear BK269
      clear HB
      have HO217 := n0_
      have HO220 := n1_
      have HO223 := n2_
      have HO230 := n3_
      have HO233 := n4_
      have HO236 := n5_
      have HO244 := n6_
      have HO247 := n7_
      have HO250 := n8_
      have HO258 := n9_
      have HO261 := n10_
      have HO264 := n11_
      have HO273 := n12_
      have HO276 := n13_
      have HO279 := n14_
      have BK211 := n15_
      have BK212 := n16_
      have BK255 := n17_
      have BK269 := n18_
      have HB := n19_
      clear n0_ n1_ n2_ n3_ n4_ n5_ n6_ n7_ n8_ n9_ n10_ n11_ n12_ n13_ n14_ n15_ n16_ n17_ n18_ n19_
      (try clear hb)
      (try clear hb2)
      (try clear hk)
      (try clear hi)
      (try clear ho0)
      (try clear ho1)
      (try clear ho2)
      obtain ⟨Ao107, co107, eo107⟩ := Kd.S_slice HO273.out
      (first | subst eo107 | (injection eo107 with f1_ f2_ f3_; have f4_ := f1_.symm; have f5_ := f3_.symm; clear f1_ f2_ f3_; subst f4_; subst f5_))
      obtain ⟨Ao108, co108, eo108⟩ := Kd.S_slice HO276.out
      (first | subst eo108 | (injection eo108 with f1_ f2_ f3_; have f4_ := f1_.symm; have f5_ := f3_.symm; clear f1_ f2_ f3_; subst f4_; subst f5_))
      obtain ⟨Ao109, co109, eo109⟩ := Kd.R_slice HO279.out
      (first | subst eo109 | (injection eo109 with f1_ f2_ f3_; have f4_ := f1_.symm; have f5_ := f3_.symm; clear f1_ f2_ f3_; subst f4_; subst f5_))
      refine hK.out _ _ ⟨bc BK255 0, bc BK255 1, bc BK255 2, bc BK255 3, bc BK255 4, bc BK255 5, bc BK255 6, bc BK211 0, bc BK211 1, bc BK211 2, bc BK211 3, bc BK211 4, bc BK211 5, bc BK211 6⟩ (fun hHeld => ?_)
      clear hK K
      refine norm_ (a' := ?_) ?_ ?_
      rotate_left
      ·show Act.put _ (some 37) _ = _
       simp only [Act.put, sa, sz, ss, i64_w, i32_w]
       rfl
      refine one_ (i := 3) (N := some 38) #[true, true, true, true, false] rfl rfl (by kernel_rfl) (by decide) (fun K hK => ?_)
      refine goes_ Try.func46 (by kernel_rfl) rfl #[.agg #[.slice Ao44 t242.length co44, .slice Ao48 t245.length co48, .slice Ao49 t248.length co49, .int .i64 t251, .bool t252, .int .i64 t253, .int .i64 t254], .agg #[.slice Ao107 t271.length co107, .slice Ao108 t274.length co108, .slice Ao109 t277.length co109, .int .i64 t280, .bool t281, .int .i64 t282, .int .i64 t283]] (by rfl) rfl rfl gl ?_
      with_reducible refine (laws_eqState.calls k _ _ t242 _ _ t245 _ _ t248 t251 t252 t253 t254 _ _ t271 _ _ t274 _ _ t277 t280 t281 t282 t283 true _ ?side1 ?side2 ?side3 ?side4 ?side5 ?side6 ?side7 ?side8 ?side9 ?side10 ?side11 ?side12 A66.out).mono ?_
      (case side1 => exact cc (Kd.S_reads' HO244.out).2.2)
      (case side2 => exact (Kd.S_reads' HO244.out).2.1)
      (case side3 => exact cc (Kd.S_reads' HO247.out).2.2)
      (case side4 => exact (Kd.S_reads' HO247.out).2.1)
      (case side5 => exact cc (Kd.R_reads' HO250.out).2.2)
      (case side6 => exact (Kd.R_reads' HO250.out).2.1)
      (case side7 => exact cc (Kd.S_reads' HO273.out).2.2)
      (case side8 => exact (Kd.S_reads' HO273.out).2.1)
      (case side9 => exact cc (Kd.S_reads' HO276.out).2.2)
      (case side10 => exact (Kd.S_reads' HO276.out).2.1)
      (case side11 => exact cc (Kd.R_reads' HO279.out).2.2)
      (case side12 => exact (Kd.R_reads' HO279.out).2.1)
      rintro e w110 ⟨rfl, hb⟩
      refine ⟨_, rfl, ?_⟩
      have n0_ := am (Kd.S_below (kS HO217) hb)
      have n1_ := am (Kd.S_below (kS HO220) hb)
      have n2_ := am (Kd.R_below (kR HO223) hb)
      have n3_ := am (Kd.S_below (kS HO230) hb)
      have n4_ := am (Kd.S_below (kS HO233) hb)
      have n5_ := am (Kd.R_below (kR HO236) hb)
      have n6_ := am (Kd.S_below (kS HO244) hb)
      have n7_ := am (Kd.S_below (kS HO247) hb)
      have n8_ := am (Kd.R_below (kR HO250) hb)
      have n9_ := am (Kd.S_below (kS HO258) hb)
      have n10_ := am (Kd.S_below (kS HO261) hb)
      have n11_ := am (Kd.R_below (kR HO264) hb)
      have n12_ := am (Kd.S_below (kS HO273) hb)
      have n13_ := am (Kd.S_below (kS HO276) hb)
      have n14_ := am (Kd.R_below (kR HO279) hb)
      have n15_ := am (blk_below (g := gb211) (o := .cells #[.slice A0_0 l0_0.length c0_0, .slice A0_1 l0_1.length c0_1, .slice A0_2 l0_2.length c0_2, .int .i64 a0_3, .bool a0_4, .int .i64 a0_5, .int .i64 a0_6] 62 (0, 0)) (bp BK211) hb)
      have n16_ := am (blk_below (g := gb212) (o := .cells #[.slice A1_0 l1_0.length c1_0, .slice A1_1 l1_1.length c1_1, .slice A1_2 l1_2.length c1_2, .int .i64 a1_3, .bool a1_4, .int .i64 a1_5, .int .i64 a1_6] 62 (0, 0)) (bp BK212) hb)
      have n17_ := am (blk_below (g := gb255) (o := .cells #[.slice Ao44 t242.length co44, .slice Ao48 t245.length co48, .slice Ao49 t248.length co49, .int .i64 t251, .bool t252, .int .i64 t253, .int .i64 t254] 67 (0, 0)) (bp BK255) hb)
      have n18_ := am (blk_below (g := gb269) (o := .cells #[.slice Ao94 t256.length co94, .slice Ao99 t259.length co99, .slice Ao100 t262.length co100, .int .i64 t265, .bool t266, .int .i64 t267, .int .i64 t268] 67 (0, 0)) (bp BK269) hb)
      have n19_ := am (below_step (bw HB) hb)
      clear HO217
      clear HO220
      clear HO223
      clear HO230
      clear HO233
      clear HO236
      clear HO244
      clear HO247
      clear HO250
      clear HO258
      clear HO261
      clear HO264
      clear HO273
      clear HO276
      clear HO279
      clear BK211
      clear BK212
      clear BK255
      clear BK269
      clear HB
      have HO217 := n0_
      have HO220 := n1_
      have HO223 := n2_
      have HO230 := n3_
      have HO233 := n4_
      have HO236 := n5_
      have HO244 := n6_
      have HO247 := n7_
      have HO250 := n8_
      have HO258 := n9_
      have HO261 := n10_
      have HO264 := n11_
      have HO273 := n12_
      have HO276 := n13_
      have HO279 := n14_
      have BK211 := n15_
      have BK212 := n16_
      have BK255 := n17_
      have BK269 := n18_
      have HB := n19_
      clear n0_ n1_ n2_ n3_ n4_ n5_ n6_ n7_ n8_ n9_ n10_ n11_ n12_ n13_ n14_ n15_ n16_ n17_ n18_ n19_
      (try clear hb)
      (try clear hb2)
      (try clear hk)
      (try clear hi)
      refine hK.out _ _ ⟨bc BK255 0, bc BK255 1, bc BK255 2, bc BK255 3, bc BK255 4, bc BK255 5, bc BK255 6, bc BK211 0, bc BK211 1, bc BK211 2, bc BK211 3, bc BK211 4, bc BK211 5, bc BK211 6⟩ (fun hHeld => ?_)
      clear hK K
      refine norm_ (a' := ?_) ?_ ?_
      rotate_left
      ·show Act.put _ (some 38) _ = _
       simp only [Act.put, sa, sz, ss, i64_w, i32_w]
       rfl
      refine pure_ (i := 4) (N := some 39) (v := ?_) (a' := ?_) #[true, true, true, true, true] rfl rfl (by kernel_rfl) (fun _ _ _ h => h) (Or.inl ⟨by rfl, ?_⟩) ?_ ?_
      rotate_left
      ·intro w'
       go_simp
       with_reducible rfl
      rotate_left
      ·simp only [Act.put, sa, sz, ss, i64_w, i32_w]
       rfl
      refine done_ (by kernel_rfl) ?_
      try go_wp2
      have n0_ := am (Kd.S_drew HO217.out)
      have n1_ := am (Kd.S_drew HO220.out)
      have n2_ := am (Kd.R_drew HO223.out)
      have n3_ := am (Kd.S_drew HO230.out)
      have n4_ := am (Kd.S_drew HO233.out)
      have n5_ := am (Kd.R_drew HO236.out)
      have n6_ := am (Kd.S_drew HO244.out)
      have n7_ := am (Kd.S_drew HO247.out)
      have n8_ := am (Kd.R_drew HO250.out)
      have n9_ := am (Kd.S_drew HO258.out)
      have n10_ := am (Kd.S_drew HO261.out)
      have n11_ := am (Kd.R_drew HO264.out)
      have n12_ := am (Kd.S_drew HO273.out)
      have n13_ := am (Kd.S_drew HO276.out)
      have n14_ := am (Kd.R_drew HO279.out)
      have n15_ := am (blk_drew BK211.out)
      have n16_ := am (blk_drew BK212.out)
      have n17_ := am (blk_drew BK255.out)
      have n18_ := am (blk_drew BK269.out)
      have n19_ := am (below_drew1 HB.out)
      clear HO217
      clear HO220
      clear HO223
      clear HO230
      clear HO233
      clear HO236
      clear HO244
      clear HO247
      clear HO250
      clear HO258
      clear HO261
      clear HO264
      clear HO273
      clear HO276
      clear HO279
      clear BK211
      clear BK212
      clear BK255
      clear BK269
      clear HB
      have HO217 := n0_
      have HO220 := n1_
      have HO223 := n2_
      have HO230 := n3_
      have HO233 := n4_
      have HO236 := n5_
      have HO244 := n6_
      have HO247 := n7_
      have HO250 := n8_
      have HO258 := n9_
      have HO261 := n10_
      have HO264 := n11_
      have HO273 := n12_
      have HO276 := n13_
      have HO279 := n14_
      have BK211 := n15_
      have BK212 := n16_
      have BK255 := n17_
      have BK269 := n18_
      have HB := n19_
      clear n0_ n1_ n2_ n3_ n4_ n5_ n6_ n7_ n8_ n9_ n10_ n11_ n12_ n13_ n14_ n15_ n16_ n17_ n18_ n19_
      refine start_ (n := 5) (S := fun w' => w'.cell? ⟨gb269, 0, none⟩ = some (.slice Ao94 t256.length co94) ∧ w'.cell? ⟨gb269, 1, none⟩ = some (.slice Ao99 t259.length co99) ∧ w'.cell? ⟨gb269, 2, none⟩ = some (.slice Ao100 t262.length co100) ∧ w'.cell? ⟨gb269, 3, none⟩ = some (.int .i64 t265) ∧ w'.cell? ⟨gb269, 4, none⟩ = some (.bool t266) ∧ w'.cell? ⟨gb269, 5, none⟩ = some (.int .i64 t267) ∧ w'.cell? ⟨gb269, 6, none⟩ = some (.int .i64 t268) ∧ w'.cell? ⟨gb212, 0, none⟩ = some (.slice A1_0 l1_0.length c1_0) ∧ w'.cell? ⟨gb212, 1, none⟩ = some (.slice A1_1 l1_1.length c1_1) ∧ w'.cell? ⟨gb212, 2, none⟩ = some (.slice A1_2 l1_2.length c1_2) ∧ w'.cell? ⟨gb212, 3, none⟩ = some (.int .i64 a1_3) ∧ w'.cell? ⟨gb212, 4, none⟩ = some (.bool a1_4) ∧ w'.cell? ⟨gb212, 5, none⟩ = some (.int .i64 a1_5) ∧ w'.cell? ⟨gb212, 6, none⟩ = some (.int .i64 a1_6)) (ds := []) #[false, false, false, false, false] (by kernel_rfl) rfl rfl ⟨bc BK269 0, bc BK269 1, bc BK269 2, bc BK269 3, bc BK269 4, bc BK269 5, bc BK269 6, bc BK212 0, bc BK212 1, bc BK212 2, bc BK212 3, bc BK212 4, bc BK212 5, bc BK212 6⟩ (fun hHeld => ?_)
      generalize w110.drew = w111 at HO217 HO220 HO223 HO230 HO233 HO236 HO244 HO247 HO250 HO258 HO261 HO264 HO273 HO276 HO279 BK211 BK212 BK255 BK269 HB hHeld ⊢
      refine take_ (i := 0) (N := some 40) (v := ?_) (a' := ?_) #[true, false, false, false, false] rfl rfl (by kernel_rfl) (fun _ _ _ h => h) (Or.inl ⟨by rfl, ?_⟩) hHeld ?_ ?_
      rotate_left
      ·rintro w' ⟨s0, s1, s2, s3, s4, s5, s6, s7, s8, s9, s10, s11, s12, s13⟩
       go_simp
       with_reducible rfl
      rotate_left
      ·simp only [Act.put, sa, sz, ss, i64_w, i32_w]
       rfl
      refine take_ (i := 1) (N := some 41) (v := ?_) (a' := ?_) #[true, true, false, false, false] rfl rfl (by kernel_rfl) (fun _ _ _ h => h) (Or.inl ⟨by rfl, ?_⟩) hHeld ?_ ?_
      rotate_left
      ·rintro w' ⟨s0, s1, s2, s3, s4, s5, s6, s7, s8, s9, s10, s11, s12, s13⟩
       go_simp
       with_reducible rfl
      rotate_left
      ·simp only [Act.put, sa, sz, ss, i64_w, i32_w]
       rfl
      refine one_ (i := 2) (N := some 42) #[true, true, true, false, false] rfl rfl (by kernel_rfl) (by decide) (fun K hK => ?_)
      refine goes_ Try.func44 (by kernel_rfl) rfl #[.agg #[.slice A1_0 l1_0.length c1_0, .slice A1_1 l1_1.length c1_1, .slice A1_2 l1_2.length c1_2, .int .i64 a1_3, .bool a1_4, .int .i64 a1_5, .int .i64 a1_6]] (by rfl) rfl rfl gl ?_
      with_reducible refine (laws_toState.calls k _ _ l1_0 _ _ l1_1 _ _ l1_2 a1_3 a1_4 a1_5 a1_6 t285 t288 t291 t294 t295 t296 t297 _ ?side1 ?side2 ?side3 ?side4 ?side5 ?side6 A68.out).mono ?_
      (case side1 => exact cc (Kd.C_below HR1_0.out HB.out))
      (case side2 => exact HC1_0.out)
      (case side3 => exact cc (Kd.C_below HR1_1.out HB.out))
      (case side4 => exact HC1_1.out)
      (case side5 => exact cc (Kd.C_below HR1_2.out HB.out))
      (case side6 => exact HC1_2.out)
      rintro e w112 ⟨v286, v289, v292, rfl, ho0, ho1, ho2, hb⟩
      refine ⟨_, rfl, ?_⟩
      have n0_ := am (Kd.S_mono (Kd.S_told (Kd.S_told (Kd.S_old (kS HO217) hb) (Kd.S_base ho0)) (Kd.R_base ho2)) (fun _ h_ => h_.1))
      have n1_ := am (Kd.S_mono (Kd.S_told (Kd.S_told (Kd.S_old (kS HO220) hb) (Kd.S_base ho1)) (Kd.R_base ho2)) (fun _ h_ => h_.1))
      have n2_ := am (Kd.R_elder' (kR HO223) (Kd.R_base ho2) hb)
      have n3_ := am (Kd.S_mono (Kd.S_told (Kd.S_told (Kd.S_old (kS HO230) hb) (Kd.S_base ho0)) (Kd.R_base ho2)) (fun _ h_ => h_.1))
      have n4_ := am (Kd.S_mono (Kd.S_told (Kd.S_told (Kd.S_old (kS HO233) hb) (Kd.S_base ho1)) (Kd.R_base ho2)) (fun _ h_ => h_.1))
      have n5_ := am (Kd.R_elder' (kR HO236) (Kd.R_base ho2) hb)
      have n6_ := am (Kd.S_mono (Kd.S_told (Kd.S_told (Kd.S_old (kS HO244) hb) (Kd.S_base ho0)) (Kd.R_base ho2)) (fun _ h_ => h_.1))
      have n7_ := am (Kd.S_mono (Kd.S_told (Kd.S_told (Kd.S_old (kS HO247) hb) (Kd.S_base ho1)) (Kd.R_base ho2)) (fun _ h_ => h_.1))
      have n8_ := am (Kd.R_elder' (kR HO250) (Kd.R_base ho2) hb)
      have n9_ := am (Kd.S_mono (Kd.S_told (Kd.S_told (Kd.S_old (kS HO258) hb) (Kd.S_base ho0)) (Kd.R_base ho2)) (fun _ h_ => h_.1))
      have n10_ := am (Kd.S_mono (Kd.S_told (Kd.S_told (Kd.S_old (kS HO261) hb) (Kd.S_base ho1)) (Kd.R_base ho2)) (fun _ h_ => h_.1))
      have n11_ := am (Kd.R_elder' (kR HO264) (Kd.R_base ho2) hb)
      have n12_ := am (Kd.S_mono (Kd.S_told (Kd.S_told (Kd.S_old (kS HO273) hb) (Kd.S_base ho0)) (Kd.R_base ho2)) (fun _ h_ => h_.1))
      have n13_ := am (Kd.S_mono (Kd.S_told (Kd.S_told (Kd.S_old (kS HO276) hb) (Kd.S_base ho1)) (Kd.R_base ho2)) (fun _ h_ => h_.1))
      have n14_ := am (Kd.R_elder' (kR HO279) (Kd.R_base ho2) hb)
      have n15_ := am (Kd.S_lower (Kd.S_new' (Kd.S_new' (Kd.S_new' (Kd.S_new' (Kd.S_new' (Kd.S_new' (Kd.S_new' (Kd.S_new' (Kd.S_new' (Kd.S_new' ho0 (Kd.S_lt (kS HO217))) (Kd.R_lt (kR HO223))) (Kd.S_lt (kS HO230))) (Kd.R_lt (kR HO236))) (Kd.S_lt (kS HO244))) (Kd.R_lt (kR HO250))) (Kd.S_lt (kS HO258))) (Kd.R_lt (kR HO264))) (Kd.S_lt (kS HO273))) (Kd.R_lt (kR HO279))) (below_size (bw HB)))
      have n16_ := am (Kd.S_lower (Kd.S_new' (Kd.S_new' (Kd.S_new' (Kd.S_new' (Kd.S_new' (Kd.S_new' (Kd.S_new' (Kd.S_new' (Kd.S_new' (Kd.S_new' ho1 (Kd.S_lt (kS HO220))) (Kd.R_lt (kR HO223))) (Kd.S_lt (kS HO233))) (Kd.R_lt (kR HO236))) (Kd.S_lt (kS HO247))) (Kd.R_lt (kR HO250))) (Kd.S_lt (kS HO261))) (Kd.R_lt (kR HO264))) (Kd.S_lt (kS HO276))) (Kd.R_lt (kR HO279))) (below_size (bw HB)))
      have n17_ := am (Kd.R_lower (Kd.R_new' (Kd.R_new' (Kd.R_new' (Kd.R_new' (Kd.R_new' ho2 (Kd.R_lt (kR HO223))) (Kd.R_lt (kR HO236))) (Kd.R_lt (kR HO250))) (Kd.R_lt (kR HO264))) (Kd.R_lt (kR HO279))) (below_size (bw HB)))
      have n18_ := am (blk_below (g := gb211) (o := .cells #[.slice A0_0 l0_0.length c0_0, .slice A0_1 l0_1.length c0_1, .slice A0_2 l0_2.length c0_2, .int .i64 a0_3, .bool a0_4, .int .i64 a0_5, .int .i64 a0_6] 62 (0, 0)) (bp BK211) hb)
      have n19_ := am (blk_below (g := gb212) (o := .cells #[.slice A1_0 l1_0.length c1_0, .slice A1_1 l1_1.length c1_1, .slice A1_2 l1_2.length c1_2, .int .i64 a1_3, .bool a1_4, .int .i64 a1_5, .int .i64 a1_6] 62 (0, 0)) (bp BK212) hb)
      have n20_ := am (blk_below (g := gb255) (o := .cells #[.slice Ao44 t242.length co44, .slice Ao48 t245.length co48, .slice Ao49 t248.length co49, .int .i64 t251, .bool t252, .int .i64 t253, .int .i64 t254] 67 (0, 0)) (bp BK255) hb)
      have n21_ := am (blk_below (g := gb269) (o := .cells #[.slice Ao94 t256.length co94, .slice Ao99 t259.length co99, .slice Ao100 t262.length co100, .int .i64 t265, .bool t266, .int .i64 t267, .int .i64 t268] 67 (0, 0)) (bp BK269) hb)
      have n22_ := am (below_step (bw HB) hb)
      clear HO217
      clear HO220
      clear HO223
      clear HO230
      clear HO233
      clear HO236
      clear HO244
      clear HO247
      clear HO250
      clear HO258
      clear HO261
      clear HO264
      clear HO273
      clear HO276
      clear HO279
      clear BK211
      clear BK212
      clear BK255
      clear BK269
      clear HB
      have HO217 := n0_
      have HO220 := n1_
      have HO223 := n2_
      have HO230 := n3_
      have HO233 := n4_
      have HO236 := n5_
      have HO244 := n6_
      have HO247 := n7_
      have HO250 := n8_
      have HO258 := n9_
      have HO261 := n10_
      have HO264 := n11_
      have HO273 := n12_
      have HO276 := n13_
      have HO279 := n14_
      have HO287 := n15_
      have HO290 := n16_
      have HO293 := n17_
      have BK211 := n18_
      have BK212 := n19_
      have BK255 := n20_
      have BK269 := n21_
      have HB := n22_
      clear n0_ n1_ n2_ n3_ n4_ n5_ n6_ n7_ n8_ n9_ n10_ n11_ n12_ n13_ n14_ n15_ n16_ n17_ n18_ n19_ n20_ n21_ n22_
      (try clear hb)
      (try clear hb2)
      (try clear hk)
      (try clear hi)
      (try clear ho0)
      (try clear ho1)
      (try clear ho2)
      obtain ⟨Ao113, co113, eo113⟩ := Kd.S_slice HO287.out
      (first | subst eo113 | (injection eo113 with f1_ f2_ f3_; have f4_ := f1_.symm; have f5_ := f3_.symm; clear f1_ f2_ f3_; subst f4_; subst f5_))
      obtain ⟨Ao114, co114, eo114⟩ := Kd.S_slice HO290.out
      (first | subst eo114 | (injection eo114 with f1_ f2_ f3_; have f4_ := f1_.symm; have f5_ := f3_.symm; clear f1_ f2_ f3_; subst f4_; subst f5_))
      obtain ⟨Ao115, co115, eo115⟩ := Kd.R_slice HO293.out
      (first | subst eo115 | (injection eo115 with f1_ f2_ f3_; have f4_ := f1_.symm; have f5_ := f3_.symm; clear f1_ f2_ f3_; subst f4_; subst f5_))
      refine hK.out _ _ ⟨bc BK269 0, bc BK269 1, bc BK269 2, bc BK269 3, bc BK269 4, bc BK269 5, bc BK269 6, bc BK212 0, bc BK212 1, bc BK212 2, bc BK212 3, bc BK212 4, bc BK212 5, bc BK212 6⟩ (fun hHeld => ?_)
      clear hK K
      refine norm_ (a' := ?_) ?_ ?_
      rotate_left
      ·show Act.put _ (some 42) _ = _
       simp only [Act.put, sa, sz, ss, i64_w, i32_w]
       rfl
      refine one_ (i := 3) (N := some 43) #[true, true, true, true, false] rfl rfl (by kernel_rfl) (by decide) (fun K hK => ?_)
      refine goes_ Try.func46 (by kernel_rfl) rfl #[.agg #[.slice Ao94 t256.length co94, .slice Ao99 t259.length co99, .slice Ao100 t262.length co100, .int .i64 t265, .bool t266, .int .i64 t267, .int .i64 t268], .agg #[.slice Ao113 t285.length co113, .slice Ao114 t288.length co114, .slice Ao115 t291.length co115, .int .i64 t294, .bool t295, .int .i64 t296, .int .i64 t297]] (by rfl) rfl rfl gl ?_
      with_reducible refine (laws_eqState.calls k _ _ t256 _ _ t259 _ _ t262 t265 t266 t267 t268 _ _ t285 _ _ t288 _ _ t291 t294 t295 t296 t297 false _ ?side1 ?side2 ?side3 ?side4 ?side5 ?side6 ?side7 ?side8 ?side9 ?side10 ?side11 ?side12 A69.out).mono ?_
      (case side1 => exact cc (Kd.S_reads' HO258.out).2.2)
      (case side2 => exact (Kd.S_reads' HO258.out).2.1)
      (case side3 => exact cc (Kd.S_reads' HO261.out).2.2)
      (case side4 => exact (Kd.S_reads' HO261.out).2.1)
      (case side5 => exact cc (Kd.R_reads' HO264.out).2.2)
      (case side6 => exact (Kd.R_reads' HO264.out).2.1)
      (case side7 => exact cc (Kd.S_reads' HO287.out).2.2)
      (case side8 => exact (Kd.S_reads' HO287.out).2.1)
      (case side9 => exact cc (Kd.S_reads' HO290.out).2.2)
      (case side10 => exact (Kd.S_reads' HO290.out).2.1)
      (case side11 => exact cc (Kd.R_reads' HO293.out).2.2)
      (case side12 => exact (Kd.R_reads' HO293.out).2.1)
      rintro e w116 ⟨rfl, hb⟩
      refine ⟨_, rfl, ?_⟩
      have n0_ := am (Kd.S_below (kS HO217) hb)
      have n1_ := am (Kd.S_below (kS HO220) hb)
      have n2_ := am (Kd.R_below (kR HO223) hb)
      have n3_ := am (Kd.S_below (kS HO230) hb)
      have n4_ := am (Kd.S_below (kS HO233) hb)
      have n5_ := am (Kd.R_below (kR HO236) hb)
      have n6_ := am (Kd.S_below (kS HO244) hb)
      have n7_ := am (Kd.S_below (kS HO247) hb)
      have n8_ := am (Kd.R_below (kR HO250) hb)
      have n9_ := am (Kd.S_below (kS HO258) hb)
      have n10_ := am (Kd.S_below (kS HO261) hb)
      have n11_ := am (Kd.R_below (kR HO264) hb)
      have n12_ := am (Kd.S_below (kS HO273) hb)
      have n13_ := am (Kd.S_below (kS HO276) hb)
      have n14_ := am (Kd.R_below (kR HO279) hb)
      have n15_ := am (Kd.S_below (kS HO287) hb)
      have n16_ := am (Kd.S_below (kS HO290) hb)
      have n17_ := am (Kd.R_below (kR HO293) hb)
      have n18_ := am (blk_below (g := gb211) (o := .cells #[.slice A0_0 l0_0.length c0_0, .slice A0_1 l0_1.length c0_1, .slice A0_2 l0_2.length c0_2, .int .i64 a0_3, .bool a0_4, .int .i64 a0_5, .int .i64 a0_6] 62 (0, 0)) (bp BK211) hb)
      have n19_ := am (blk_below (g := gb212) (o := .cells #[.slice A1_0 l1_0.length c1_0, .slice A1_1 l1_1.length c1_1, .slice A1_2 l1_2.length c1_2, .int .i64 a1_3, .bool a1_4, .int .i64 a1_5, .int .i64 a1_6] 62 (0, 0)) (bp BK212) hb)
      have n20_ := am (blk_below (g := gb255) (o := .cells #[.slice Ao44 t242.length co44, .slice Ao48 t245.length co48, .slice Ao49 t248.length co49, .int .i64 t251, .bool t252, .int .i64 t253, .int .i64 t254] 67 (0, 0)) (bp BK255) hb)
      have n21_ := am (blk_below (g := gb269) (o := .cells #[.slice Ao94 t256.length co94, .slice Ao99 t259.length co99, .slice Ao100 t262.length co100, .int .i64 t265, .bool t266, .int .i64 t267, .int .i64 t268] 67 (0, 0)) (bp BK269) hb)
      have n22_ := am (below_step (bw HB) hb)
      clear HO217
      clear HO220
      clear HO223
      clear HO230
      clear HO233
      clear HO236
      clear HO244
      clear HO247
      clear HO250
      clear HO258
      clear HO261
      clear HO264
      clear HO273
      clear HO276
      clear HO279
      clear HO287
      clear HO290
      clear HO293
      clear BK211
      clear BK212
      clear BK255
      clear BK269
      clear HB
      have HO217 := n0_
      have HO220 := n1_
      have HO223 := n2_
      have HO230 := n3_
      have HO233 := n4_
      have HO236 := n5_
      have HO244 := n6_
      have HO247 := n7_
      have HO250 := n8_
      have HO258 := n9_
      have HO261 := n10_
      have HO264 := n11_
      have HO273 := n12_
      have HO276 := n13_
      have HO279 := n14_
      have HO287 := n15_
      have HO290 := n16_
      have HO293 := n17_
      have BK211 := n18_
      have BK212 := n19_
      have BK255 := n20_
      have BK269 := n21_
      have HB := n22_
      clear n0_ n1_ n2_ n3_ n4_ n5_ n6_ n7_ n8_ n9_ n10_ n11_ n12_ n13_ n14_ n15_ n16_ n17_ n18_ n19_ n20_ n21_ n22_
      (try clear hb)
      (try clear hb2)
      (try clear hk)
      (try clear hi)
      refine hK.out _ _ ⟨bc BK269 0, bc BK269 1, bc BK269 2, bc BK269 3, bc BK269 4, bc BK269 5, bc BK269 6, bc BK212 0, bc BK212 1, bc BK212 2, bc BK212 3, bc BK212 4, bc BK212 5, bc BK212 6⟩ (fun hHeld => ?_)
      clear hK K
      refine norm_ (a' := ?_) ?_ ?_
      rotate_left
      ·show Act.put _ (some 43) _ = _
       simp only [Act.put, sa, sz, ss, i64_w, i32_w]
       rfl
      refine pure_ (i := 4) (N := some 44) (v := ?_) (a' := ?_) #[true, true, true, true, true] rfl rfl (by kernel_rfl) (fun _ _ _ h => h) (Or.inl ⟨by rfl, ?_⟩) ?_ ?_
      rotate_left
      ·intro w'
       go_simp
       with_reducible rfl
      rotate_left
      ·simp only [Act.put, sa, sz, ss, i64_w, i32_w]
       rfl
      refine done_ (by kernel_rfl) ?_
      try go_wp2
      go_ret
      exact ⟨er, bw HB⟩
    ·replace c67 := Bool.eq_false_iff.mpr c67
     subst c67
     have H1 : (some false) = some r := by rw [if_neg (show ¬ (false = true) by decide)] at H; exact H
     clear H
     have H := H1
     clear H1
     obtain rfl := Option.some.inj H
     obtain ⟨Ao117, co117, eo117⟩ := Kd.S_slice HO258.out
     subst eo117
     have hnb118 := NB269_211.out
     have hnc118 := NB211_269.out
     have hnb119 := NB269_212.out
     have hnc119 := NB212_269.out
     have hnb120 := NB269_255.out
     have hnc120 := NB255_269.out
     have hcz121_0 : w52.cell? ⟨gb269, 0, none⟩ = some (.slice none 0 0) := bc BK269 0
     have hcz121_1 : w52.cell? ⟨gb269, 1, none⟩ = some (.slice none 0 0) := bc BK269 1
     have hcz121_2 : w52.cell? ⟨gb269, 2, none⟩ = some (.slice none 0 0) := bc BK269 2
     have hcz121_3 : w52.cell? ⟨gb269, 3, none⟩ = some (.int .i64 0) := bc BK269 3
     have hcz121_4 : w52.cell? ⟨gb269, 4, none⟩ = some (.bool false) := bc BK269 4
     have hcz121_5 : w52.cell? ⟨gb269, 5, none⟩ = some (.int .i64 0) := bc BK269 5
     have hcz121_6 : w52.cell? ⟨gb269, 6, none⟩ = some (.int .i64 0) := bc BK269 6
     have hfz121_0 := bf BK269 0
     have hfz121_1 := bf BK269 1
     have hfz121_2 := bf BK269 2
     have hfz121_3 := bf BK269 3
     have hfz121_4 := bf BK269 4
     have hfz121_5 := bf BK269 5
     have hfz121_6 := bf BK269 6
     obtain ⟨Ao122, co122, eo122⟩ := Kd.S_slice HO261.out
     subst eo122
     obtain ⟨Ao123, co123, eo123⟩ := Kd.R_slice HO264.out
     subst eo123
     have hnb124 := NB255_211.out
     have hnc124 := NB211_255.out
     have hnb125 := NB255_212.out
     have hnc125 := NB212_255.out
     have hcz126_0 : w52.cell? ⟨gb255, 0, none⟩ = some (.slice Ao44 t242.length co44) := bc BK255 0
     have hcz126_1 : w52.cell? ⟨gb255, 1, none⟩ = some (.slice Ao48 t245.length co48) := bc BK255 1
     have hcz126_2 : w52.cell? ⟨gb255, 2, none⟩ = some (.slice Ao49 t248.length co49) := bc BK255 2
     have hcz126_3 : w52.cell? ⟨gb255, 3, none⟩ = some (.int .i64 t251) := bc BK255 3
     have hcz126_4 : w52.cell? ⟨gb255, 4, none⟩ = some (.bool t252) := bc BK255 4
     have hcz126_5 : w52.cell? ⟨gb255, 5, none⟩ = some (.int .i64 t253) := bc BK255 5
     have hcz126_6 : w52.cell? ⟨gb255, 6, none⟩ = some (.int .i64 t254) := bc BK255 6
     have hfz126_0 := bf BK255 0
     have hfz126_1 := bf BK255 1
     have hfz126_2 := bf BK255 2
     have hfz126_3 := bf BK255 3
     have hfz126_4 := bf BK255 4
     have hfz126_5 := bf BK255 5
     have hfz126_6 := bf BK255 6
     try go_wp2_with (first | ((with_reducible refine gate_callee (f := 45) rfl ?_); refine goesL_ (some 31) rfl rfl Try.func45 (by kernel_rfl) rfl #[.agg #[.slice Ao44 t242.length co44, .slice Ao48 t245.length co48, .slice Ao49 t248.length co49, .int .i64 t251, .bool t252, .int .i64 t253, .int .i64 t254], .agg #[.slice Ao117 t256.length co117, .slice Ao122 t259.length co122, .slice Ao123 t262.length co123, .int .i64 t265, .bool t266, .int .i64 t267, .int .i64 t268]] rfl gl ?_; (with_reducible refine (impl_StateSame.calls k _ _ t242 _ _ t245 _ _ t248 t251 t252 t253 t254 _ _ t256 _ _ t259 _ _ t262 t265 t266 t267 t268 t270 _ ?side1 ?side2 ?side3 ?side4 ?side5 ?side6 ?side7 ?side8 ?side9 ?side10 ?side11 ?side12 A26.out).mono ?_); (case side1 => refine (Kd.S_reads' (e := 111) (base := w.heap.size) (ok := fun k_ => ((((((some k_ ≠ (.slice Ao49 t248.length co49 : Value).ownBlock ∧ some k_ ≠ (.slice Ao34 t215.length co34 : Value).ownBlock) ∧ some k_ ≠ (.slice Ao36 t221.length co36 : Value).ownBlock) ∧ some k_ ≠ (.slice Ao37 t228.length co37 : Value).ownBlock) ∧ some k_ ≠ (.slice Ao39 t234.length co39 : Value).ownBlock) ∧ some k_ ≠ (.slice Ao117 t256.length co117 : Value).ownBlock) ∧ some k_ ≠ (.slice Ao123 t262.length co123 : Value).ownBlock)) (n := t242.length) (c := co44) ?_).2.2; exact (by (with_reducible repeat (first | apply Kd.S_alloc | apply Kd.S_drewN | apply Kd.S_drew)); exact (Kd.S_mono (Kd.S_far (p := ⟨gb269, 6, none⟩) (Kd.S_far (p := ⟨gb269, 5, none⟩) (Kd.S_far (p := ⟨gb269, 4, none⟩) (Kd.S_far (p := ⟨gb269, 3, none⟩) (Kd.S_far (p := ⟨gb269, 2, none⟩) (Kd.S_far (p := ⟨gb269, 1, none⟩) (Kd.S_far (p := ⟨gb269, 0, none⟩) (Kd.S_types HO244.out BK269.out (by decide)) (fun _ hk => hk.2) (.slice Ao117 t256.length co117)) (fun _ hk => hk.2) (.slice Ao122 t259.length co122)) (fun _ hk => hk.2) (.slice Ao123 t262.length co123)) (fun _ hk => hk.2) (.int .i64 t265)) (fun _ hk => hk.2) (.bool t266)) (fun _ hk => hk.2) (.int .i64 t267)) (fun _ hk => hk.2) (.int .i64 t268)) (fun _ h_ => h_.1)))); (case side2 => exact (Kd.S_reads' HO244.out).2.1); (case side3 => refine (Kd.S_reads' (e := 27) (base := w.heap.size) (ok := fun k_ => ((((((some k_ ≠ (.slice Ao49 t248.length co49 : Value).ownBlock ∧ some k_ ≠ (.slice Ao35 t218.length co35 : Value).ownBlock) ∧ some k_ ≠ (.slice Ao36 t221.length co36 : Value).ownBlock) ∧ some k_ ≠ (.slice Ao38 t231.length co38 : Value).ownBlock) ∧ some k_ ≠ (.slice Ao39 t234.length co39 : Value).ownBlock) ∧ some k_ ≠ (.slice Ao122 t259.length co122 : Value).ownBlock) ∧ some k_ ≠ (.slice Ao123 t262.length co123 : Value).ownBlock)) (n := t245.length) (c := co48) ?_).2.2; exact (by (with_reducible repeat (first | apply Kd.S_alloc | apply Kd.S_drewN | apply Kd.S_drew)); exact (Kd.S_mono (Kd.S_far (p := ⟨gb269, 6, none⟩) (Kd.S_far (p := ⟨gb269, 5, none⟩) (Kd.S_far (p := ⟨gb269, 4, none⟩) (Kd.S_far (p := ⟨gb269, 3, none⟩) (Kd.S_far (p := ⟨gb269, 2, none⟩) (Kd.S_far (p := ⟨gb269, 1, none⟩) (Kd.S_far (p := ⟨gb269, 0, none⟩) (Kd.S_types HO247.out BK269.out (by decide)) (fun _ hk => hk.2) (.slice Ao117 t256.length co117)) (fun _ hk => hk.2) (.slice Ao122 t259.length co122)) (fun _ hk => hk.2) (.slice Ao123 t262.length co123)) (fun _ hk => hk.2) (.int .i64 t265)) (fun _ hk => hk.2) (.bool t266)) (fun _ hk => hk.2) (.int .i64 t267)) (fun _ hk => hk.2) (.int .i64 t268)) (fun _ h_ => h_.1)))); (case side4 => exact (Kd.S_reads' HO247.out).2.1); (case side5 => refine (Kd.R_reads' (e := 2) (base := w.heap.size) (ok := fun k_ => (((True ∧ some k_ ≠ (.slice Ao36 t221.length co36 : Value).ownBlock) ∧ some k_ ≠ (.slice Ao39 t234.length co39 : Value).ownBlock) ∧ some k_ ≠ (.slice Ao123 t262.length co123 : Value).ownBlock)) (n := t248.length) (c := co49) ?_).2.2; exact (by (with_reducible repeat (first | apply Kd.R_alloc | apply Kd.R_drewN | apply Kd.R_drew)); exact (Kd.R_mono (Kd.R_far (p := ⟨gb269, 6, none⟩) (Kd.R_far (p := ⟨gb269, 5, none⟩) (Kd.R_far (p := ⟨gb269, 4, none⟩) (Kd.R_far (p := ⟨gb269, 3, none⟩) (Kd.R_far (p := ⟨gb269, 2, none⟩) (Kd.R_far (p := ⟨gb269, 1, none⟩) (Kd.R_far (p := ⟨gb269, 0, none⟩) (Kd.R_types HO250.out BK269.out (by decide)) (fun _ hk => hk.2) (.slice Ao117 t256.length co117)) (fun _ hk => hk.2) (.slice Ao122 t259.length co122)) (fun _ hk => hk.2) (.slice Ao123 t262.length co123)) (fun _ hk => hk.2) (.int .i64 t265)) (fun _ hk => hk.2) (.bool t266)) (fun _ hk => hk.2) (.int .i64 t267)) (fun _ hk => hk.2) (.int .i64 t268)) (fun _ h_ => h_.1)))); (case side6 => exact (Kd.R_reads' HO250.out).2.1); (case side7 => refine (Kd.S_reads' (e := 111) (base := w.heap.size) (ok := fun k_ => ((((((some k_ ≠ (.slice Ao123 t262.length co123 : Value).ownBlock ∧ some k_ ≠ (.slice Ao34 t215.length co34 : Value).ownBlock) ∧ some k_ ≠ (.slice Ao36 t221.length co36 : Value).ownBlock) ∧ some k_ ≠ (.slice Ao37 t228.length co37 : Value).ownBlock) ∧ some k_ ≠ (.slice Ao39 t234.length co39 : Value).ownBlock) ∧ some k_ ≠ (.slice Ao44 t242.length co44 : Value).ownBlock) ∧ some k_ ≠ (.slice Ao49 t248.length co49 : Value).ownBlock)) (n := t256.length) (c := co117) ?_).2.2; exact (by (with_reducible repeat (first | apply Kd.S_alloc | apply Kd.S_drewN | apply Kd.S_drew)); exact (Kd.S_mono (Kd.S_far (p := ⟨gb269, 6, none⟩) (Kd.S_far (p := ⟨gb269, 5, none⟩) (Kd.S_far (p := ⟨gb269, 4, none⟩) (Kd.S_far (p := ⟨gb269, 3, none⟩) (Kd.S_far (p := ⟨gb269, 2, none⟩) (Kd.S_far (p := ⟨gb269, 1, none⟩) (Kd.S_far (p := ⟨gb269, 0, none⟩) (Kd.S_types HO258.out BK269.out (by decide)) (fun _ hk => hk.2) (.slice Ao117 t256.length co117)) (fun _ hk => hk.2) (.slice Ao122 t259.length co122)) (fun _ hk => hk.2) (.slice Ao123 t262.length co123)) (fun _ hk => hk.2) (.int .i64 t265)) (fun _ hk => hk.2) (.bool t266)) (fun _ hk => hk.2) (.int .i64 t267)) (fun _ hk => hk.2) (.int .i64 t268)) (fun _ h_ => h_.1)))); (case side8 => exact (Kd.S_reads' HO258.out).2.1); (case side9 => refine (Kd.S_reads' (e := 27) (base := w.heap.size) (ok := fun k_ => ((((((some k_ ≠ (.slice Ao123 t262.length co123 : Value).ownBlock ∧ some k_ ≠ (.slice Ao35 t218.length co35 : Value).ownBlock) ∧ some k_ ≠ (.slice Ao36 t221.length co36 : Value).ownBlock) ∧ some k_ ≠ (.slice Ao38 t231.length co38 : Value).ownBlock) ∧ some k_ ≠ (.slice Ao39 t234.length co39 : Value).ownBlock) ∧ some k_ ≠ (.slice Ao48 t245.length co48 : Value).ownBlock) ∧ some k_ ≠ (.slice Ao49 t248.length co49 : Value).ownBlock)) (n := t259.length) (c := co122) ?_).2.2; exact (by (with_reducible repeat (first | apply Kd.S_alloc | apply Kd.S_drewN | apply Kd.S_drew)); exact (Kd.S_mono (Kd.S_far (p := ⟨gb269, 6, none⟩) (Kd.S_far (p := ⟨gb269, 5, none⟩) (Kd.S_far (p := ⟨gb269, 4, none⟩) (Kd.S_far (p := ⟨gb269, 3, none⟩) (Kd.S_far (p := ⟨gb269, 2, none⟩) (Kd.S_far (p := ⟨gb269, 1, none⟩) (Kd.S_far (p := ⟨gb269, 0, none⟩) (Kd.S_types HO261.out BK269.out (by decide)) (fun _ hk => hk.2) (.slice Ao117 t256.length co117)) (fun _ hk => hk.2) (.slice Ao122 t259.length co122)) (fun _ hk => hk.2) (.slice Ao123 t262.length co123)) (fun _ hk => hk.2) (.int .i64 t265)) (fun _ hk => hk.2) (.bool t266)) (fun _ hk => hk.2) (.int .i64 t267)) (fun _ hk => hk.2) (.int .i64 t268)) (fun _ h_ => h_.1)))); (case side10 => exact (Kd.S_reads' HO261.out).2.1); (case side11 => refine (Kd.R_reads' (e := 2) (base := w.heap.size) (ok := fun k_ => (((True ∧ some k_ ≠ (.slice Ao36 t221.length co36 : Value).ownBlock) ∧ some k_ ≠ (.slice Ao39 t234.length co39 : Value).ownBlock) ∧ some k_ ≠ (.slice Ao49 t248.length co49 : Value).ownBlock)) (n := t262.length) (c := co123) ?_).2.2; exact (by (with_reducible repeat (first | apply Kd.R_alloc | apply Kd.R_drewN | apply Kd.R_drew)); exact (Kd.R_mono (Kd.R_far (p := ⟨gb269, 6, none⟩) (Kd.R_far (p := ⟨gb269, 5, none⟩) (Kd.R_far (p := ⟨gb269, 4, none⟩) (Kd.R_far (p := ⟨gb269, 3, none⟩) (Kd.R_far (p := ⟨gb269, 2, none⟩) (Kd.R_far (p := ⟨gb269, 1, none⟩) (Kd.R_far (p := ⟨gb269, 0, none⟩) (Kd.R_types HO264.out BK269.out (by decide)) (fun _ hk => hk.2) (.slice Ao117 t256.length co117)) (fun _ hk => hk.2) (.slice Ao122 t259.length co122)) (fun _ hk => hk.2) (.slice Ao123 t262.length co123)) (fun _ hk => hk.2) (.int .i64 t265)) (fun _ hk => hk.2) (.bool t266)) (fun _ hk => hk.2) (.int .i64 t267)) (fun _ hk => hk.2) (.int .i64 t268)) (fun _ h_ => h_.1)))); (case side12 => exact (Kd.R_reads' HO264.out).2.1); rintro e w127 ⟨rfl, hb⟩; refine ⟨_, rfl, ?_⟩; replace HO217 := am (Kd.S_below (by (with_reducible repeat (first | apply Kd.S_alloc | apply Kd.S_drewN | apply Kd.S_drew)); exact (Kd.S_mono (Kd.S_far (p := ⟨gb269, 6, none⟩) (Kd.S_far (p := ⟨gb269, 5, none⟩) (Kd.S_far (p := ⟨gb269, 4, none⟩) (Kd.S_far (p := ⟨gb269, 3, none⟩) (Kd.S_far (p := ⟨gb269, 2, none⟩) (Kd.S_far (p := ⟨gb269, 1, none⟩) (Kd.S_far (p := ⟨gb269, 0, none⟩) (Kd.S_types HO217.out BK269.out (by decide)) (fun _ hk => hk.2) (.slice Ao117 t256.length co117)) (fun _ hk => hk.2) (.slice Ao122 t259.length co122)) (fun _ hk => hk.2) (.slice Ao123 t262.length co123)) (fun _ hk => hk.2) (.int .i64 t265)) (fun _ hk => hk.2) (.bool t266)) (fun _ hk => hk.2) (.int .i64 t267)) (fun _ hk => hk.2) (.int .i64 t268)) (fun _ h_ => h_.1))) hb); replace HO220 := am (Kd.S_below (by (with_reducible repeat (first | apply Kd.S_alloc | apply Kd.S_drewN | apply Kd.S_drew)); exact (Kd.S_mono (Kd.S_far (p := ⟨gb269, 6, none⟩) (Kd.S_far (p := ⟨gb269, 5, none⟩) (Kd.S_far (p := ⟨gb269, 4, none⟩) (Kd.S_far (p := ⟨gb269, 3, none⟩) (Kd.S_far (p := ⟨gb269, 2, none⟩) (Kd.S_far (p := ⟨gb269, 1, none⟩) (Kd.S_far (p := ⟨gb269, 0, none⟩) (Kd.S_types HO220.out BK269.out (by decide)) (fun _ hk => hk.2) (.slice Ao117 t256.length co117)) (fun _ hk => hk.2) (.slice Ao122 t259.length co122)) (fun _ hk => hk.2) (.slice Ao123 t262.length co123)) (fun _ hk => hk.2) (.int .i64 t265)) (fun _ hk => hk.2) (.bool t266)) (fun _ hk => hk.2) (.int .i64 t267)) (fun _ hk => hk.2) (.int .i64 t268)) (fun _ h_ => h_.1))) hb); replace HO223 := am (Kd.R_below (by (with_reducible repeat (first | apply Kd.R_alloc | apply Kd.R_drewN | apply Kd.R_drew)); exact (Kd.R_mono (Kd.R_far (p := ⟨gb269, 6, none⟩) (Kd.R_far (p := ⟨gb269, 5, none⟩) (Kd.R_far (p := ⟨gb269, 4, none⟩) (Kd.R_far (p := ⟨gb269, 3, none⟩) (Kd.R_far (p := ⟨gb269, 2, none⟩) (Kd.R_far (p := ⟨gb269, 1, none⟩) (Kd.R_far (p := ⟨gb269, 0, none⟩) (Kd.R_types HO223.out BK269.out (by decide)) (fun _ hk => hk.2) (.slice Ao117 t256.length co117)) (fun _ hk => hk.2) (.slice Ao122 t259.length co122)) (fun _ hk => hk.2) (.slice Ao123 t262.length co123)) (fun _ hk => hk.2) (.int .i64 t265)) (fun _ hk => hk.2) (.bool t266)) (fun _ hk => hk.2) (.int .i64 t267)) (fun _ hk => hk.2) (.int .i64 t268)) (fun _ h_ => h_.1))) hb); replace HO230 := am (Kd.S_below (by (with_reducible repeat (first | apply Kd.S_alloc | apply Kd.S_drewN | apply Kd.S_drew)); exact (Kd.S_mono (Kd.S_far (p := ⟨gb269, 6, none⟩) (Kd.S_far (p := ⟨gb269, 5, none⟩) (Kd.S_far (p := ⟨gb269, 4, none⟩) (Kd.S_far (p := ⟨gb269, 3, none⟩) (Kd.S_far (p := ⟨gb269, 2, none⟩) (Kd.S_far (p := ⟨gb269, 1, none⟩) (Kd.S_far (p := ⟨gb269, 0, none⟩) (Kd.S_types HO230.out BK269.out (by decide)) (fun _ hk => hk.2) (.slice Ao117 t256.length co117)) (fun _ hk => hk.2) (.slice Ao122 t259.length co122)) (fun _ hk => hk.2) (.slice Ao123 t262.length co123)) (fun _ hk => hk.2) (.int .i64 t265)) (fun _ hk => hk.2) (.bool t266)) (fun _ hk => hk.2) (.int .i64 t267)) (fun _ hk => hk.2) (.int .i64 t268)) (fun _ h_ => h_.1))) hb); replace HO233 := am (Kd.S_below (by (with_reducible repeat (first | apply Kd.S_alloc | apply Kd.S_drewN | apply Kd.S_drew)); exact (Kd.S_mono (Kd.S_far (p := ⟨gb269, 6, none⟩) (Kd.S_far (p := ⟨gb269, 5, none⟩) (Kd.S_far (p := ⟨gb269, 4, none⟩) (Kd.S_far (p := ⟨gb269, 3, none⟩) (Kd.S_far (p := ⟨gb269, 2, none⟩) (Kd.S_far (p := ⟨gb269, 1, none⟩) (Kd.S_far (p := ⟨gb269, 0, none⟩) (Kd.S_types HO233.out BK269.out (by decide)) (fun _ hk => hk.2) (.slice Ao117 t256.length co117)) (fun _ hk => hk.2) (.slice Ao122 t259.length co122)) (fun _ hk => hk.2) (.slice Ao123 t262.length co123)) (fun _ hk => hk.2) (.int .i64 t265)) (fun _ hk => hk.2) (.bool t266)) (fun _ hk => hk.2) (.int .i64 t267)) (fun _ hk => hk.2) (.int .i64 t268)) (fun _ h_ => h_.1))) hb); replace HO236 := am (Kd.R_below (by (with_reducible repeat (first | apply Kd.R_alloc | apply Kd.R_drewN | apply Kd.R_drew)); exact (Kd.R_mono (Kd.R_far (p := ⟨gb269, 6, none⟩) (Kd.R_far (p := ⟨gb269, 5, none⟩) (Kd.R_far (p := ⟨gb269, 4, none⟩) (Kd.R_far (p := ⟨gb269, 3, none⟩) (Kd.R_far (p := ⟨gb269, 2, none⟩) (Kd.R_far (p := ⟨gb269, 1, none⟩) (Kd.R_far (p := ⟨gb269, 0, none⟩) (Kd.R_types HO236.out BK269.out (by decide)) (fun _ hk => hk.2) (.slice Ao117 t256.length co117)) (fun _ hk => hk.2) (.slice Ao122 t259.length co122)) (fun _ hk => hk.2) (.slice Ao123 t262.length co123)) (fun _ hk => hk.2) (.int .i64 t265)) (fun _ hk => hk.2) (.bool t266)) (fun _ hk => hk.2) (.int .i64 t267)) (fun _ hk => hk.2) (.int .i64 t268)) (fun _ h_ => h_.1))) hb); replace HO244 := am (Kd.S_below (by (with_reducible repeat (first | apply Kd.S_alloc | apply Kd.S_drewN | apply Kd.S_drew)); exact (Kd.S_mono (Kd.S_far (p := ⟨gb269, 6, none⟩) (Kd.S_far (p := ⟨gb269, 5, none⟩) (Kd.S_far (p := ⟨gb269, 4, none⟩) (Kd.S_far (p := ⟨gb269, 3, none⟩) (Kd.S_far (p := ⟨gb269, 2, none⟩) (Kd.S_far (p := ⟨gb269, 1, none⟩) (Kd.S_far (p := ⟨gb269, 0, none⟩) (Kd.S_types HO244.out BK269.out (by decide)) (fun _ hk => hk.2) (.slice Ao117 t256.length co117)) (fun _ hk => hk.2) (.slice Ao122 t259.length co122)) (fun _ hk => hk.2) (.slice Ao123 t262.length co123)) (fun _ hk => hk.2) (.int .i64 t265)) (fun _ hk => hk.2) (.bool t266)) (fun _ hk => hk.2) (.int .i64 t267)) (fun _ hk => hk.2) (.int .i64 t268)) (fun _ h_ => h_.1))) hb); replace HO247 := am (Kd.S_below (by (with_reducible repeat (first | apply Kd.S_alloc | apply Kd.S_drewN | apply Kd.S_drew)); exact (Kd.S_mono (Kd.S_far (p := ⟨gb269, 6, none⟩) (Kd.S_far (p := ⟨gb269, 5, none⟩) (Kd.S_far (p := ⟨gb269, 4, none⟩) (Kd.S_far (p := ⟨gb269, 3, none⟩) (Kd.S_far (p := ⟨gb269, 2, none⟩) (Kd.S_far (p := ⟨gb269, 1, none⟩) (Kd.S_far (p := ⟨gb269, 0, none⟩) (Kd.S_types HO247.out BK269.out (by decide)) (fun _ hk => hk.2) (.slice Ao117 t256.length co117)) (fun _ hk => hk.2) (.slice Ao122 t259.length co122)) (fun _ hk => hk.2) (.slice Ao123 t262.length co123)) (fun _ hk => hk.2) (.int .i64 t265)) (fun _ hk => hk.2) (.bool t266)) (fun _ hk => hk.2) (.int .i64 t267)) (fun _ hk => hk.2) (.int .i64 t268)) (fun _ h_ => h_.1))) hb); replace HO250 := am (Kd.R_below (by (with_reducible repeat (first | apply Kd.R_alloc | apply Kd.R_drewN | apply Kd.R_drew)); exact (Kd.R_mono (Kd.R_far (p := ⟨gb269, 6, none⟩) (Kd.R_far (p := ⟨gb269, 5, none⟩) (Kd.R_far (p := ⟨gb269, 4, none⟩) (Kd.R_far (p := ⟨gb269, 3, none⟩) (Kd.R_far (p := ⟨gb269, 2, none⟩) (Kd.R_far (p := ⟨gb269, 1, none⟩) (Kd.R_far (p := ⟨gb269, 0, none⟩) (Kd.R_types HO250.out BK269.out (by decide)) (fun _ hk => hk.2) (.slice Ao117 t256.length co117)) (fun _ hk => hk.2) (.slice Ao122 t259.length co122)) (fun _ hk => hk.2) (.slice Ao123 t262.length co123)) (fun _ hk => hk.2) (.int .i64 t265)) (fun _ hk => hk.2) (.bool t266)) (fun _ hk => hk.2) (.int .i64 t267)) (fun _ hk => hk.2) (.int .i64 t268)) (fun _ h_ => h_.1))) hb); replace HO258 := am (Kd.S_below (by (with_reducible repeat (first | apply Kd.S_alloc | apply Kd.S_drewN | apply Kd.S_drew)); exact (Kd.S_mono (Kd.S_far (p := ⟨gb269, 6, none⟩) (Kd.S_far (p := ⟨gb269, 5, none⟩) (Kd.S_far (p := ⟨gb269, 4, none⟩) (Kd.S_far (p := ⟨gb269, 3, none⟩) (Kd.S_far (p := ⟨gb269, 2, none⟩) (Kd.S_far (p := ⟨gb269, 1, none⟩) (Kd.S_far (p := ⟨gb269, 0, none⟩) (Kd.S_types HO258.out BK269.out (by decide)) (fun _ hk => hk.2) (.slice Ao117 t256.length co117)) (fun _ hk => hk.2) (.slice Ao122 t259.length co122)) (fun _ hk => hk.2) (.slice Ao123 t262.length co123)) (fun _ hk => hk.2) (.int .i64 t265)) (fun _ hk => hk.2) (.bool t266)) (fun _ hk => hk.2) (.int .i64 t267)) (fun _ hk => hk.2) (.int .i64 t268)) (fun _ h_ => h_.1))) hb); replace HO261 := am (Kd.S_below (by (with_reducible repeat (first | apply Kd.S_alloc | apply Kd.S_drewN | apply Kd.S_drew)); exact (Kd.S_mono (Kd.S_far (p := ⟨gb269, 6, none⟩) (Kd.S_far (p := ⟨gb269, 5, none⟩) (Kd.S_far (p := ⟨gb269, 4, none⟩) (Kd.S_far (p := ⟨gb269, 3, none⟩) (Kd.S_far (p := ⟨gb269, 2, none⟩) (Kd.S_far (p := ⟨gb269, 1, none⟩) (Kd.S_far (p := ⟨gb269, 0, none⟩) (Kd.S_types HO261.out BK269.out (by decide)) (fun _ hk => hk.2) (.slice Ao117 t256.length co117)) (fun _ hk => hk.2) (.slice Ao122 t259.length co122)) (fun _ hk => hk.2) (.slice Ao123 t262.length co123)) (fun _ hk => hk.2) (.int .i64 t265)) (fun _ hk => hk.2) (.bool t266)) (fun _ hk => hk.2) (.int .i64 t267)) (fun _ hk => hk.2) (.int .i64 t268)) (fun _ h_ => h_.1))) hb); replace HO264 := am (Kd.R_below (by (with_reducible repeat (first | apply Kd.R_alloc | apply Kd.R_drewN | apply Kd.R_drew)); exact (Kd.R_mono (Kd.R_far (p := ⟨gb269, 6, none⟩) (Kd.R_far (p := ⟨gb269, 5, none⟩) (Kd.R_far (p := ⟨gb269, 4, none⟩) (Kd.R_far (p := ⟨gb269, 3, none⟩) (Kd.R_far (p := ⟨gb269, 2, none⟩) (Kd.R_far (p := ⟨gb269, 1, none⟩) (Kd.R_far (p := ⟨gb269, 0, none⟩) (Kd.R_types HO264.out BK269.out (by decide)) (fun _ hk => hk.2) (.slice Ao117 t256.length co117)) (fun _ hk => hk.2) (.slice Ao122 t259.length co122)) (fun _ hk => hk.2) (.slice Ao123 t262.length co123)) (fun _ hk => hk.2) (.int .i64 t265)) (fun _ hk => hk.2) (.bool t266)) (fun _ hk => hk.2) (.int .i64 t267)) (fun _ hk => hk.2) (.int .i64 t268)) (fun _ h_ => h_.1))) hb); replace BK211 := am (blk_below (g := gb211) (o := .cells #[.slice A0_0 l0_0.length c0_0, .slice A0_1 l0_1.length c0_1, .slice A0_2 l0_2.length c0_2, .int .i64 a0_3, .bool a0_4, .int .i64 a0_5, .int .i64 a0_6] 62 (0, 0)) (by (with_reducible repeat (first | apply dN | apply dW | apply dA)); refine blk_far ?_ NB211_269.out _; (with_reducible repeat (first | apply dN | apply dW | apply dA)); refine blk_far ?_ NB211_269.out _; (with_reducible repeat (first | apply dN | apply dW | apply dA)); refine blk_far ?_ NB211_269.out _; (with_reducible repeat (first | apply dN | apply dW | apply dA)); refine blk_far ?_ NB211_269.out _; (with_reducible repeat (first | apply dN | apply dW | apply dA)); refine blk_far ?_ NB211_269.out _; (with_reducible repeat (first | apply dN | apply dW | apply dA)); refine blk_far ?_ NB211_269.out _; (with_reducible repeat (first | apply dN | apply dW | apply dA)); refine blk_far ?_ NB211_269.out _; exact bp BK211) hb); replace BK212 := am (blk_below (g := gb212) (o := .cells #[.slice A1_0 l1_0.length c1_0, .slice A1_1 l1_1.length c1_1, .slice A1_2 l1_2.length c1_2, .int .i64 a1_3, .bool a1_4, .int .i64 a1_5, .int .i64 a1_6] 62 (0, 0)) (by (with_reducible repeat (first | apply dN | apply dW | apply dA)); refine blk_far ?_ NB212_269.out _; (with_reducible repeat (first | apply dN | apply dW | apply dA)); refine blk_far ?_ NB212_269.out _; (with_reducible repeat (first | apply dN | apply dW | apply dA)); refine blk_far ?_ NB212_269.out _; (with_reducible repeat (first | apply dN | apply dW | apply dA)); refine blk_far ?_ NB212_269.out _; (with_reducible repeat (first | apply dN | apply dW | apply dA)); refine blk_far ?_ NB212_269.out _; (with_reducible repeat (first | apply dN | apply dW | apply dA)); refine blk_far ?_ NB212_269.out _; (with_reducible repeat (first | apply dN | apply dW | apply dA)); refine blk_far ?_ NB212_269.out _; exact bp BK212) hb); replace BK255 := am (blk_below (g := gb255) (o := .cells #[.slice Ao44 t242.length co44, .slice Ao48 t245.length co48, .slice Ao49 t248.length co49, .int .i64 t251, .bool t252, .int .i64 t253, .int .i64 t254] 67 (0, 0)) (by (with_reducible repeat (first | apply dN | apply dW | apply dA)); refine blk_far ?_ NB255_269.out _; (with_reducible repeat (first | apply dN | apply dW | apply dA)); refine blk_far ?_ NB255_269.out _; (with_reducible repeat (first | apply dN | apply dW | apply dA)); refine blk_far ?_ NB255_269.out _; (with_reducible repeat (first | apply dN | apply dW | apply dA)); refine blk_far ?_ NB255_269.out _; (with_reducible repeat (first | apply dN | apply dW | apply dA)); refine blk_far ?_ NB255_269.out _; (with_reducible repeat (first | apply dN | apply dW | apply dA)); refine blk_far ?_ NB255_269.out _; (with_reducible repeat (first | apply dN | apply dW | apply dA)); refine blk_far ?_ NB255_269.out _; exact bp BK255) hb); replace BK269 := am (blk_below (g := gb269) (o := .cells #[.slice Ao117 t256.length co117, .slice Ao122 t259.length co122, .slice Ao123 t262.length co123, .int .i64 t265, .bool t266, .int .i64 t267, .int .i64 t268] 67 (0, 0)) (by (with_reducible repeat (first | apply dN | apply dW | apply dA)); refine blk_put (cs := #[.slice Ao117 t256.length co117, .slice Ao122 t259.length co122, .slice Ao123 t262.length co123, .int .i64 t265, .bool t266, .int .i64 t267, .int .i64 0]) ?_ 6 _ rfl; (with_reducible repeat (first | apply dN | apply dW | apply dA)); refine blk_put (cs := #[.slice Ao117 t256.length co117, .slice Ao122 t259.length co122, .slice Ao123 t262.length co123, .int .i64 t265, .bool t266, .int .i64 0, .int .i64 0]) ?_ 5 _ rfl; (with_reducible repeat (first | apply dN | apply dW | apply dA)); refine blk_put (cs := #[.slice Ao117 t256.length co117, .slice Ao122 t259.length co122, .slice Ao123 t262.length co123, .int .i64 t265, .bool false, .int .i64 0, .int .i64 0]) ?_ 4 _ rfl; (with_reducible repeat (first | apply dN | apply dW | apply dA)); refine blk_put (cs := #[.slice Ao117 t256.length co117, .slice Ao122 t259.length co122, .slice Ao123 t262.length co123, .int .i64 0, .bool false, .int .i64 0, .int .i64 0]) ?_ 3 _ rfl; (with_reducible repeat (first | apply dN | apply dW | apply dA)); refine blk_put (cs := #[.slice Ao117 t256.length co117, .slice Ao122 t259.length co122, .slice none 0 0, .int .i64 0, .bool false, .int .i64 0, .int .i64 0]) ?_ 2 _ rfl; (with_reducible repeat (first | apply dN | apply dW | apply dA)); refine blk_put (cs := #[.slice Ao117 t256.length co117, .slice none 0 0, .slice none 0 0, .int .i64 0, .bool false, .int .i64 0, .int .i64 0]) ?_ 1 _ rfl; (with_reducible repeat (first | apply dN | apply dW | apply dA)); refine blk_put (cs := #[.slice none 0 0, .slice none 0 0, .slice none 0 0, .int .i64 0, .bool false, .int .i64 0, .int .i64 0]) ?_ 0 _ rfl; exact bp BK269) hb); replace HB := am (below_step (bw HB) hb); (try clear hb); (try clear hb2); (try clear hk); (try clear hi)))
     have n0_ := am (Kd.S_drew HO217.out)
     have n1_ := am (Kd.S_drew HO220.out)
     have n2_ := am (Kd.R_drew HO223.out)
     have n3_ := am (Kd.S_drew HO230.out)
     have n4_ := am (Kd.S_drew HO233.out)
     have n5_ := am (Kd.R_drew HO236.out)
     have n6_ := am (Kd.S_drew HO244.out)
     have n7_ := am (Kd.S_drew HO247.out)
     have n8_ := am (Kd.R_drew HO250.out)
     have n9_ := am (Kd.S_drew HO258.out)
     have n10_ := am (Kd.S_drew HO261.out)
     have n11_ := am (Kd.R_drew HO264.out)
     have n12_ := am (blk_drew BK211.out)
     have n13_ := am (blk_drew BK212.out)
     have n14_ := am (blk_drew BK255.out)
     have n15_ := am (blk_drew BK269.out)
     have n16_ := am (below_drew1 HB.out)
     clear HO217
     clear HO220
     clear HO223
     clear HO230
     clear HO233
     clear HO236
     clear HO244
     clear HO247
     clear HO250
     clear HO258
     clear HO261
     clear HO264
     clear BK211
     clear BK212
     clear BK255
     clear BK269
     clear HB
     have HO217 := n0_
     have HO220 := n1_
     have HO223 := n2_
     have HO230 := n3_
     have HO233 := n4_
     have HO236 := n5_
     have HO244 := n6_
     have HO247 := n7_
     have HO250 := n8_
     have HO258 := n9_
     have HO261 := n10_
     have HO264 := n11_
     have BK211 := n12_
     have BK212 := n13_
     have BK255 := n14_
     have BK269 := n15_
     have HB := n16_
     clear n0_ n1_ n2_ n3_ n4_ n5_ n6_ n7_ n8_ n9_ n10_ n11_ n12_ n13_ n14_ n15_ n16_
     refine start_ (n := 5) (S := fun w' => w'.cell? ⟨gb255, 0, none⟩ = some (.slice Ao44 t242.length co44) ∧ w'.cell? ⟨gb255, 1, none⟩ = some (.slice Ao48 t245.length co48) ∧ w'.cell? ⟨gb255, 2, none⟩ = some (.slice Ao49 t248.length co49) ∧ w'.cell? ⟨gb255, 3, none⟩ = some (.int .i64 t251) ∧ w'.cell? ⟨gb255, 4, none⟩ = some (.bool t252) ∧ w'.cell? ⟨gb255, 5, none⟩ = some (.int .i64 t253) ∧ w'.cell? ⟨gb255, 6, none⟩ = some (.int .i64 t254) ∧ w'.cell? ⟨gb211, 0, none⟩ = some (.slice A0_0 l0_0.length c0_0) ∧ w'.cell? ⟨gb211, 1, none⟩ = some (.slice A0_1 l0_1.length c0_1) ∧ w'.cell? ⟨gb211, 2, none⟩ = some (.slice A0_2 l0_2.length c0_2) ∧ w'.cell? ⟨gb211, 3, none⟩ = some (.int .i64 a0_3) ∧ w'.cell? ⟨gb211, 4, none⟩ = some (.bool a0_4) ∧ w'.cell? ⟨gb211, 5, none⟩ = some (.int .i64 a0_5) ∧ w'.cell? ⟨gb211, 6, none⟩ = some (.int .i64 a0_6)) (ds := []) #[false, false, false, false, false] (by kernel_rfl) rfl rfl ⟨bc BK255 0, bc BK255 1, bc BK255 2, bc BK255 3, bc BK255 4, bc BK255 5, bc BK255 6, bc BK211 0, bc BK211 1, bc BK211 2, bc BK211 3, bc BK211 4, bc BK211 5, bc BK211 6⟩ (fun hHeld => ?_)
     generalize w127.drew = w128 at HO217 HO220 HO223 HO230 HO233 HO236 HO244 HO247 HO250 HO258 HO261 HO264 BK211 BK212 BK255 BK269 HB hHeld ⊢
     refine take_ (i := 0) (N := some 35) (v := ?_) (a' := ?_) #[true, false, false, false, false] rfl rfl (by kernel_rfl) (fun _ _ _ h => h) (Or.inl ⟨by rfl, ?_⟩) hHeld ?_ ?_
     rotate_left
     ·rintro w' ⟨s0, s1, s2, s3, s4, s5, s6, s7, s8, s9, s10, s11, s12, s13⟩
      go_simp
      with_reducible rfl
     rotate_left
     ·simp only [Act.put, sa, sz, ss, i64_w, i32_w]
      rfl
     refine take_ (i := 1) (N := some 36) (v := ?_) (a' := ?_) #[true, true, false, false, false] rfl rfl (by kernel_rfl) (fun _ _ _ h => h) (Or.inl ⟨by rfl, ?_⟩) hHeld ?_ ?_
     rotate_left
     ·rintro w' ⟨s0, s1, s2, s3, s4, s5, s6, s7, s8, s9, s10, s11, s12, s13⟩
      go_simp
      with_reducible rfl
     rotate_left
     ·simp only [Act.put, sa, sz, ss, i64_w, i32_w]
      rfl
     refine one_ (i := 2) (N := some 37) #[true, true, true, false, false] rfl rfl (by kernel_rfl) (by decide) (fun K hK => ?_)
     refine goes_ Try.func44 (by kernel_rfl) rfl #[.agg #[.slice A0_0 l0_0.length c0_0, .slice A0_1 l0_1.length c0_1, .slice A0_2 l0_2.length c0_2, .int .i64 a0_3, .bool a0_4, .int .i64 a0_5, .int .i64 a0_6]] (by rfl) rfl rfl gl ?_
     with_reducible refine (laws_toState.calls k _ _ l0_0 _ _ l0_1 _ _ l0_2 a0_3 a0_4 a0_5 a0_6 t271 t274 t277 t280 t281 t282 t283 _ ?side1 ?side2 ?side3 ?side4 ?side5 ?side6 A65.out).mono ?_
     (case side1 => exact cc (Kd.C_below HR0_0.out HB.out))
     (case side2 => exact HC0_0.out)
     (case side3 => exact cc (Kd.C_below HR0_1.out HB.out))
     (case side4 => exact HC0_1.out)
     (case side5 => exact cc (Kd.C_below HR0_2.out HB.out))
     (case side6 => exact HC0_2.out)
     rintro e w129 ⟨v272, v275, v278, rfl, ho0, ho1, ho2, hb⟩
     refine ⟨_, rfl, ?_⟩
     have n0_ := am (Kd.S_mono (Kd.S_told (Kd.S_told (Kd.S_old (kS HO217) hb) (Kd.S_base ho0)) (Kd.R_base ho2)) (fun _ h_ => h_.1))
     have n1_ := am (Kd.S_mono (Kd.S_told (Kd.S_told (Kd.S_old (kS HO220) hb) (Kd.S_base ho1)) (Kd.R_base ho2)) (fun _ h_ => h_.1))
     have n2_ := am (Kd.R_elder' (kR HO223) (Kd.R_base ho2) hb)
     have n3_ := am (Kd.S_mono (Kd.S_told (Kd.S_told (Kd.S_old (kS HO230) hb) (Kd.S_base ho0)) (Kd.R_base ho2)) (fun _ h_ => h_.1))
     have n4_ := am (Kd.S_mono (Kd.S_told (Kd.S_told (Kd.S_old (kS HO233) hb) (Kd.S_base ho1)) (Kd.R_base ho2)) (fun _ h_ => h_.1))
     have n5_ := am (Kd.R_elder' (kR HO236) (Kd.R_base ho2) hb)
     have n6_ := am (Kd.S_mono (Kd.S_told (Kd.S_told (Kd.S_old (kS HO244) hb) (Kd.S_base ho0)) (Kd.R_base ho2)) (fun _ h_ => h_.1))
     have n7_ := am (Kd.S_mono (Kd.S_told (Kd.S_told (Kd.S_old (kS HO247) hb) (Kd.S_base ho1)) (Kd.R_base ho2)) (fun _ h_ => h_.1))
     have n8_ := am (Kd.R_elder' (kR HO250) (Kd.R_base ho2) hb)
     have n9_ := am (Kd.S_mono (Kd.S_told (Kd.S_told (Kd.S_old (kS HO258) hb) (Kd.S_base ho0)) (Kd.R_base ho2)) (fun _ h_ => h_.1))
     have n10_ := am (Kd.S_mono (Kd.S_told (Kd.S_told (Kd.S_old (kS HO261) hb) (Kd.S_base ho1)) (Kd.R_base ho2)) (fun _ h_ => h_.1))
     have n11_ := am (Kd.R_elder' (kR HO264) (Kd.R_base ho2) hb)
     have n12_ := am (Kd.S_lower (Kd.S_new' (Kd.S_new' (Kd.S_new' (Kd.S_new' (Kd.S_new' (Kd.S_new' (Kd.S_new' (Kd.S_new' ho0 (Kd.S_lt (kS HO217))) (Kd.R_lt (kR HO223))) (Kd.S_lt (kS HO230))) (Kd.R_lt (kR HO236))) (Kd.S_lt (kS HO244))) (Kd.R_lt (kR HO250))) (Kd.S_lt (kS HO258))) (Kd.R_lt (kR HO264))) (below_size (bw HB)))
     have n13_ := am (Kd.S_lower (Kd.S_new' (Kd.S_new' (Kd.S_new' (Kd.S_new' (Kd.S_new' (Kd.S_new' (Kd.S_new' (Kd.S_new' ho1 (Kd.S_lt (kS HO220))) (Kd.R_lt (kR HO223))) (Kd.S_lt (kS HO233))) (Kd.R_lt (kR HO236))) (Kd.S_lt (kS HO247))) (Kd.R_lt (kR HO250))) (Kd.S_lt (kS HO261))) (Kd.R_lt (kR HO264))) (below_size (bw HB)))
     have n14_ := am (Kd.R_lower (Kd.R_new' (Kd.R_new' (Kd.R_new' (Kd.R_new' ho2 (Kd.R_lt (kR HO223))) (Kd.R_lt (kR HO236))) (Kd.R_lt (kR HO250))) (Kd.R_lt (kR HO264))) (below_size (bw HB)))
     have n15_ := am (blk_below (g := gb211) (o := .cells #[.slice A0_0 l0_0.length c0_0, .slice A0_1 l0_1.length c0_1, .slice A0_2 l0_2.length c0_2, .int .i64 a0_3, .bool a0_4, .int .i64 a0_5, .int .i64 a0_6] 62 (0, 0)) (bp BK211) hb)
     have n16_ := am (blk_below (g := gb212) (o := .cells #[.slice A1_0 l1_0.length c1_0, .slice A1_1 l1_1.length c1_1, .slice A1_2 l1_2.length c1_2, .int .i64 a1_3, .bool a1_4, .int .i64 a1_5, .int .i64 a1_6] 62 (0, 0)) (bp BK212) hb)
     have n17_ := am (blk_below (g := gb255) (o := .cells #[.slice Ao44 t242.length co44, .slice Ao48 t245.length co48, .slice Ao49 t248.length co49, .int .i64 t251, .bool t252, .int .i64 t253, .int .i64 t254] 67 (0, 0)) (bp BK255) hb)
     have n18_ := am (blk_below (g := gb269) (o := .cells #[.slice Ao117 t256.length co117, .slice Ao122 t259.length co122, .slice Ao123 t262.length co123, .int .i64 t265, .bool t266, .int .i64 t267, .int .i64 t268] 67 (0, 0)) (bp BK269) hb)
     have n19_ := am (below_step (bw HB) hb)
     clear HO217
     clear HO220
     clear HO223
     clear HO230
     clear HO233
     clear HO236
     clear HO244
     clear HO247
     clear HO250
     clear HO258
     clear HO261
     clear HO264
     clear BK211
     clear BK212
     clear BK255
     clear BK269
     clear HB
     have HO217 := n0_
     have HO220 := n1_
     have HO223 := n2_
     have HO230 := n3_
     have HO233 := n4_
     have HO236 := n5_
     have HO244 := n6_
     have HO247 := n7_
     have HO250 := n8_
     have HO258 := n9_
     have HO261 := n10_
     have HO264 := n11_
     have HO273 := n12_
     have HO276 := n13_
     have HO279 := n14_
     have BK211 := n15_
     have BK212 := n16_
     have BK255 := n17_
     have BK269 := n18_
     have HB := n19_
     clear n0_ n1_ n2_ n3_ n4_ n5_ n6_ n7_ n8_ n9_ n10_ n11_ n12_ n13_ n14_ n15_ n16_ n17_ n18_ n19_
     (try clear hb)
     (try clear hb2)
     (try clear hk)
     (try clear hi)
     (try clear ho0)
     (try clear ho1)
     (try clear ho2)
     obtain ⟨Ao130, co130, eo130⟩ := Kd.S_slice HO273.out
     (first | subst eo130 | (injection eo130 with f1_ f2_ f3_; have f4_ := f1_.symm; have f5_ := f3_.symm; clear f1_ f2_ f3_; subst f4_; subst f5_))
     obtain ⟨Ao131, co131, eo131⟩ := Kd.S_slice HO276.out
     (first | subst eo131 | (injection eo131 with f1_ f2_ f3_; have f4_ := f1_.symm; have f5_ := f3_.symm; clear f1_ f2_ f3_; subst f4_; subst f5_))
     obtain ⟨Ao132, co132, eo132⟩ := Kd.R_slice HO279.out
     (first | subst eo132 | (injection eo132 with f1_ f2_ f3_; have f4_ := f1_.symm; have f5_ := f3_.symm; clear f1_ f2_ f3_; subst f4_; subst f5_))
     refine hK.out _ _ ⟨bc BK255 0, bc BK255 1, bc BK255 2, bc BK255 3, bc BK255 4, bc BK255 5, bc BK255 6, bc BK211 0, bc BK211 1, bc BK211 2, bc BK211 3, bc BK211 4, bc BK211 5, bc BK211 6⟩ (fun hHeld => ?_)
     clear hK K
     refine norm_ (a' := ?_) ?_ ?_
     rotate_left
     ·show Act.put _ (some 37) _ = _
      simp only [Act.put, sa, sz, ss, i64_w, i32_w]
      rfl
     refine one_ (i := 3) (N := some 38) #[true, true, true, true, false] rfl rfl (by kernel_rfl) (by decide) (fun K hK => ?_)
     refine goes_ Try.func46 (by kernel_rfl) rfl #[.agg #[.slice Ao44 t242.length co44, .slice Ao48 t245.length co48, .slice Ao49 t248.length co49, .int .i64 t251, .bool t252, .int .i64 t253, .int .i64 t254], .agg #[.slice Ao130 t271.length co130, .slice Ao131 t274.length co131, .slice Ao132 t277.length co132, .int .i64 t280, .bool t281, .int .i64 t282, .int .i64 t283]] (by rfl) rfl rfl gl ?_
     with_reducible refine (laws_eqState.calls k _ _ t242 _ _ t245 _ _ t248 t251 t252 t253 t254 _ _ t271 _ _ t274 _ _ t277 t280 t281 t282 t283 false _ ?side1 ?side2 ?side3 ?side4 ?side5 ?side6 ?side7 ?side8 ?side9 ?side10 ?side11 ?side12 A66.out).mono ?_
     (case side1 => exact cc (Kd.S_reads' HO244.out).2.2)
     (case side2 => exact (Kd.S_reads' HO244.out).2.1)
     (case side3 => exact cc (Kd.S_reads' HO247.out).2.2)
     (case side4 => exact (Kd.S_reads' HO247.out).2.1)
     (case side5 => exact cc (Kd.R_reads' HO250.out).2.2)
     (case side6 => exact (Kd.R_reads' HO250.out).2.1)
     (case side7 => exact cc (Kd.S_reads' HO273.out).2.2)
     (case side8 => exact (Kd.S_reads' HO273.out).2.1)
     (case side9 => exact cc (Kd.S_reads' HO276.out).2.2)
     (case side10 => exact (Kd.S_reads' HO276.out).2.1)
     (case side11 => exact cc (Kd.R_reads' HO279.out).2.2)
     (case side12 => exact (Kd.R_reads' HO279.out).2.1)
     rintro e w133 ⟨rfl, hb⟩
     refine ⟨_, rfl, ?_⟩
     have n0_ := am (Kd.S_below (kS HO217) hb)
     have n1_ := am (Kd.S_below (kS HO220) hb)
     have n2_ := am (Kd.R_below (kR HO223) hb)
     have n3_ := am (Kd.S_below (kS HO230) hb)
     have n4_ := am (Kd.S_below (kS HO233) hb)
     have n5_ := am (Kd.R_below (kR HO236) hb)
     have n6_ := am (Kd.S_below (kS HO244) hb)
     have n7_ := am (Kd.S_below (kS HO247) hb)
     have n8_ := am (Kd.R_below (kR HO250) hb)
     have n9_ := am (Kd.S_below (kS HO258) hb)
     have n10_ := am (Kd.S_below (kS HO261) hb)
     have n11_ := am (Kd.R_below (kR HO264) hb)
     have n12_ := am (Kd.S_below (kS HO273) hb)
     have n13_ := am (Kd.S_below (kS HO276) hb)
     have n14_ := am (Kd.R_below (kR HO279) hb)
     have n15_ := am (blk_below (g := gb211) (o := .cells #[.slice A0_0 l0_0.length c0_0, .slice A0_1 l0_1.length c0_1, .slice A0_2 l0_2.length c0_2, .int .i64 a0_3, .bool a0_4, .int .i64 a0_5, .int .i64 a0_6] 62 (0, 0)) (bp BK211) hb)
     have n16_ := am (blk_below (g := gb212) (o := .cells #[.slice A1_0 l1_0.length c1_0, .slice A1_1 l1_1.length c1_1, .slice A1_2 l1_2.length c1_2, .int .i64 a1_3, .bool a1_4, .int .i64 a1_5, .int .i64 a1_6] 62 (0, 0)) (bp BK212) hb)
     have n17_ := am (blk_below (g := gb255) (o := .cells #[.slice Ao44 t242.length co44, .slice Ao48 t245.length co48, .slice Ao49 t248.length co49, .int .i64 t251, .bool t252, .int .i64 t253, .int .i64 t254] 67 (0, 0)) (bp BK255) hb)
     have n18_ := am (blk_below (g := gb269) (o := .cells #[.slice Ao117 t256.length co117, .slice Ao122 t259.length co122, .slice Ao123 t262.length co123, .int .i64 t265, .bool t266, .int .i64 t267, .int .i64 t268] 67 (0, 0)) (bp BK269) hb)
     have n19_ := am (below_step (bw HB) hb)
     clear HO217
     clear HO220
     clear HO223
     clear HO230
     clear HO233
     clear HO236
     clear HO244
     clear HO247
     clear HO250
     clear HO258
     clear HO261
     clear HO264
     clear HO273
     clear HO276
     clear HO279
     clear BK211
     clear BK212
     clear BK255
     clear BK269
     clear HB
     have HO217 := n0_
     have HO220 := n1_
     have HO223 := n2_
     have HO230 := n3_
     have HO233 := n4_
     have HO236 := n5_
     have HO244 := n6_
     have HO247 := n7_
     have HO250 := n8_
     have HO258 := n9_
     have HO261 := n10_
     have HO264 := n11_
     have HO273 := n12_
     have HO276 := n13_
     have HO279 := n14_
     have BK211 := n15_
     have BK212 := n16_
     have BK255 := n17_
     have BK269 := n18_
     have HB := n19_
     clear n0_ n1_ n2_ n3_ n4_ n5_ n6_ n7_ n8_ n9_ n10_ n11_ n12_ n13_ n14_ n15_ n16_ n17_ n18_ n19_
     (try clear hb)
     (try clear hb2)
     (try clear hk)
     (try clear hi)
     refine hK.out _ _ ⟨bc BK255 0, bc BK255 1, bc BK255 2, bc BK255 3, bc BK255 4, bc BK255 5, bc BK255 6, bc BK211 0, bc BK211 1, bc BK211 2, bc BK211 3, bc BK211 4, bc BK211 5, bc BK211 6⟩ (fun hHeld => ?_)
     clear hK K
     refine norm_ (a' := ?_) ?_ ?_
     rotate_left
     ·show Act.put _ (some 38) _ = _
      simp only [Act.put, sa, sz, ss, i64_w, i32_w]
      rfl
     refine pure_ (i := 4) (N := some 39) (v := ?_) (a' := ?_) #[true, true, true, true, true] rfl rfl (by kernel_rfl) (fun _ _ _ h => h) (Or.inl ⟨by rfl, ?_⟩) ?_ ?_
     rotate_left
     ·intro w'
      go_simp
      with_reducible rfl
     rotate_left
     ·simp only [Act.put, sa, sz, ss, i64_w, i32_w]
      rfl
     refine done_ (by kernel_rfl) ?_
     try go_wp2
     go_ret
     exact ⟨er, bw HB⟩

end Go.Proofs.Ytkmohnlkldkhdaa.QFnExactStateSame
