-- Written by this session's own program (wip/tools/xprint.py) on the seat's printed words. Lean checks it.
import Derived.Test.YtbmjmaahcaoajaaCFnExactHeightsx0
import Derived.Test.YtbmjmaahcaoajaaCFnExactHeightsx1
import Derived.Test.YtbmjmaahcaoajaaCFnExactHeightsx6
import Derived.Test.YtbmjmaahcaoajaaCFnExactHeightsx10
import Derived.Test.YtbmjmaahcaoajaaCFnExactHeightsx11
import Derived.Test.YtbmjmaahcaoajaaCFnExactHeightsx12
namespace Go.Proofs.Ytbmjmaahcaoajaa.QFnExactHeights
open Go.RowKit Go.Proofs.YtbmjmaahcaoajaaW.PrintWords Go.Proofs.YtbmjmaahcaoajaaW.PrintLast Go.Proofs.YtbmjmaahcaoajaaW.PrintMore Go.Proofs.YtbmjmaahcaoajaaW.PrintShort Go.Proofs.YtbmjmaahcaoajaaW.PrintIsh
attribute [local go_sem] max2_int min2_int max_two min_two max_three min_three max_four min_four   -- for this text's walks alone
set_option linter.unusedVariables false
set_option maxHeartbeats 8000000
set_option maxRecDepth 100000
set_option linter.unusedSimpArgs false

/-! ### laws_FnExactHeights: function 3 -/
def laws_FnExactHeights.j0 : Nat → Int → List Int → List Int → Bool → List (S165) → Option (Bool)
 | 0, _, _, _, _, _ => none
 | k + 1, x1, x6, x8, x46, x371000 => if x46 = true then (some false) else ((laws_markInt64S.f k x8 1).bind fun bt392 => ((laws_heldInt64S.f k bt392.2 1).bind fun t394 => (if t394 < 0 then (some false) else (if t394 = bt392.1 then ((laws_toProgram.f k x371000).bind fun t395 => ((impl_Heights.f k t395 x1).bind fun t398 => ((laws_eqInt64S.f k t398 x6).bind fun t401 => (if t401 = true then ((laws_heldInt64S.f k bt392.2 1).bind fun t402 => (if t402 < 0 then (some false) else (if t402 = bt392.1 then (some true) else (some false)))) else (some false))))) else (some false)))))
def laws_FnExactHeights.f (k : Nat) (l0_0 : List (S165)) (a1 : Int) : Option (Bool) := (laws_szProgram.f k l0_0 1048576).bind fun t371 => (if t371 < 0 then (some true) else ((laws_toProgram.f k l0_0).bind fun t372 => ((spec_Heights.f k t372 a1).bind fun t375 => ((laws_toProgram.f k l0_0).bind fun t378 => ((impl_Heights.f k t378 a1).bind fun t382 => ((laws_eqInt64S.f k t382 t375).bind fun t385 => (if t385 = true then ((laws_toProgram.f k l0_0).bind fun t386 => ((laws_eqProgram.f k t378 t386).bind fun t389 => (if t389 = true then ((laws_markProgram.f t378 1).bind fun t390 => (if t390 < 0 then (laws_FnExactHeights.j0 k a1 t375 t382 true l0_0) else ((laws_eqInt64S.f k t382 t375).bind fun t391 => (laws_FnExactHeights.j0 k a1 t375 t382 (!t391) l0_0)))) else (some false)))) else (some false))))))))
theorem laws_FnExactHeights.mono_l : ∀ k, (∀ y0 y1 y2 y3 y4, LeO (laws_FnExactHeights.j0 k y0 y1 y2 y3 y4) (laws_FnExactHeights.j0 (k + 1) y0 y1 y2 y3 y4))
 | 0 => fun _ _ _ _ _ r h => by simp [laws_FnExactHeights.j0] at h
 | k + 1 => by
  have ih0 := laws_FnExactHeights.mono_l k
  ·intro y0 y1 y2 y3 y4
   unfold laws_FnExactHeights.j0
   repeat' first
   | (with_reducible exact ih0 _ _ _ _ _)
   | (with_reducible exact impl_Heights.mono _ _ _)
   | (with_reducible exact laws_eqInt64S.mono _ _ _)
   | (with_reducible exact laws_eqProgram.mono _ _ _)
   | (with_reducible exact laws_heldInt64S.mono _ _ _)
   | (with_reducible exact laws_markInt64S.mono _ _ _)
   | (with_reducible exact laws_szProgram.mono _ _ _)
   | (with_reducible exact laws_toProgram.mono _ _)
   | (with_reducible exact spec_Heights.mono _ _ _)
   | (with_reducible exact LeO.refl _)
   | (with_reducible exact LeO.none _)
   | (with_reducible refine LeO.ite ?_ ?_)
   | (with_reducible refine LeO.bind ?_ (fun _ => ?_))
   | exact ih0 _ _ _ _ _
   | exact impl_Heights.mono _ _ _
   | exact laws_eqInt64S.mono _ _ _
   | exact laws_eqProgram.mono _ _ _
   | exact laws_heldInt64S.mono _ _ _
   | exact laws_markInt64S.mono _ _ _
   | exact laws_szProgram.mono _ _ _
   | exact laws_toProgram.mono _ _
   | exact spec_Heights.mono _ _ _
   | exact LeO.none _
   | refine LeO.ite ?_ ?_
   | refine LeO.bind ?_ (fun _ => ?_)
theorem laws_FnExactHeights.mono : ∀ a0 a1 k, LeO (laws_FnExactHeights.f k a0 a1) (laws_FnExactHeights.f (k + 1) a0 a1) := by
 intro a0 a1 k
 have ih0 := laws_FnExactHeights.mono_l k
 unfold laws_FnExactHeights.f
 repeat' first
   | (with_reducible exact ih0 _ _ _ _ _)
   | (with_reducible exact impl_Heights.mono _ _ _)
   | (with_reducible exact laws_eqInt64S.mono _ _ _)
   | (with_reducible exact laws_eqProgram.mono _ _ _)
   | (with_reducible exact laws_heldInt64S.mono _ _ _)
   | (with_reducible exact laws_markInt64S.mono _ _ _)
   | (with_reducible exact laws_szProgram.mono _ _ _)
   | (with_reducible exact laws_toProgram.mono _ _)
   | (with_reducible exact spec_Heights.mono _ _ _)
   | (with_reducible exact LeO.refl _)
   | (with_reducible exact LeO.none _)
   | (with_reducible refine LeO.ite ?_ ?_)
   | (with_reducible refine LeO.bind ?_ (fun _ => ?_))
   | exact ih0 _ _ _ _ _
   | exact impl_Heights.mono _ _ _
   | exact laws_eqInt64S.mono _ _ _
   | exact laws_eqProgram.mono _ _ _
   | exact laws_heldInt64S.mono _ _ _
   | exact laws_markInt64S.mono _ _ _
   | exact laws_szProgram.mono _ _ _
   | exact laws_toProgram.mono _ _
   | exact spec_Heights.mono _ _ _
   | exact LeO.none _
   | refine LeO.ite ?_ ?_
   | refine LeO.bind ?_ (fun _ => ?_)
theorem laws_FnExactHeights.calls (k : Nat) (A0_0 : Option Addr) (c0_0 : Nat) (l0_0 : List (S165)) (a1 : Int) (r : Bool) (w : World) (hr0_0 : Kd.C k165 w A0_0 l0_0.length l0_0) (hc0_0 : l0_0.length ≤ c0_0) (h : laws_FnExactHeights.f k l0_0 a1 = some r) :
  Calls Try.prog 3 #[.agg #[.slice A0_0 l0_0.length c0_0], .int .i64 a1] w fun e w' => e = .returned (.bool r) ∧ Below w.heap.size w w' := by
 have hu24 := Try.underlying24
 have hu30 := Try.underlying30
 have HR0_0 := am hr0_0
 have HC0_0 := am hc0_0
 clear hr0_0 hc0_0
 have HB := am (Below.refl w.heap.size w)
 have H : ((laws_szProgram.f k l0_0 1048576).bind fun t371 => (if t371 < 0 then (some true) else ((laws_toProgram.f k l0_0).bind fun t372 => ((spec_Heights.f k t372 a1).bind fun t375 => ((laws_toProgram.f k l0_0).bind fun t378 => ((impl_Heights.f k t378 a1).bind fun t382 => ((laws_eqInt64S.f k t382 t375).bind fun t385 => (if t385 = true then ((laws_toProgram.f k l0_0).bind fun t386 => ((laws_eqProgram.f k t378 t386).bind fun t389 => (if t389 = true then ((laws_markProgram.f t378 1).bind fun t390 => (if t390 < 0 then (laws_FnExactHeights.j0 k a1 t375 t382 true l0_0) else ((laws_eqInt64S.f k t382 t375).bind fun t391 => (laws_FnExactHeights.j0 k a1 t375 t382 (!t391) l0_0)))) else (some false)))) else (some false))))))))) = some r := h
 clear h
 replace H := Option.bind_eq_some_iff.mp H
 obtain ⟨t371, A30, H⟩ := H
 replace H : (if t371 < 0 then (some true) else ((laws_toProgram.f k l0_0).bind fun t372 => ((spec_Heights.f k t372 a1).bind fun t375 => ((laws_toProgram.f k l0_0).bind fun t378 => ((impl_Heights.f k t378 a1).bind fun t382 => ((laws_eqInt64S.f k t382 t375).bind fun t385 => (if t385 = true then ((laws_toProgram.f k l0_0).bind fun t386 => ((laws_eqProgram.f k t378 t386).bind fun t389 => (if t389 = true then ((laws_markProgram.f t378 1).bind fun t390 => (if t390 < 0 then (laws_FnExactHeights.j0 k a1 t375 t382 true l0_0) else ((laws_eqInt64S.f k t382 t375).bind fun t391 => (laws_FnExactHeights.j0 k a1 t375 t382 (!t391) l0_0)))) else (some false)))) else (some false)))))))) = some r := H
 have A3 := am A30
 clear A30
 by_cases c4 : t371 < 0
 ·rw [if_pos c4] at H
  have c4b0 : decide (t371 < 0) = true := decide_eq_true c4
  clear c4
  obtain rfl := Option.some.inj H
  go_enter Try.func3, Try.ntmps3
  go_wp2_with (first | ((with_reducible refine gate_dst (N := 2) rfl ?_); refine box_event ?hg (N := 2) ?hd (cs := #[.slice A0_0 l0_0.length c0_0]) (t := 24) ?hr ?_; (case hd => rfl); (case hg => rfl); (case hr => exact gs); intro gb370 hg w5 hbox hb; have n0_ := am (below_step (bw HB) hb); have n1_ := am (hbox); have n2_ := am ((by rw [hg]; exact (below_size (bw HB)) : w.heap.size ≤ gb370)); have n3_ := am ((by rw [hg]; exact (below_size (bw HB)) : w.heap.size ≤ gb370)); clear HB; have HB := n0_; have BK370 := n1_; have GW370 := n2_; have GE370 := n3_; clear n0_ n1_ n2_ n3_; clear hb hbox hg; have hcz6_0 : w5.cell? ⟨gb370, 0, none⟩ = some (.slice A0_0 l0_0.length c0_0) := (blk_cell BK370.out 0).trans rfl; have hfz6_0 := blk_frozen BK370.out 0) | ((with_reducible refine gate_callee (f := 14) rfl ?_); refine goesL_ (some 15) rfl rfl Try.func14 (by kernel_rfl) rfl #[.agg #[.slice A0_0 l0_0.length c0_0], .int .i64 1048576] rfl gl ?_; (with_reducible refine (laws_szProgram.calls k _ _ l0_0 1048576 t371 _ ?side1 ?side2 A3.out).mono ?_); (case side1 => exact cc (Kd.C_below HR0_0.out HB.out)); (case side2 => exact HC0_0.out); rintro e w7 ⟨rfl, hb⟩; refine ⟨_, rfl, ?_⟩; have n0_ := am (blk_below (g := gb370) (o := .cells #[.slice A0_0 l0_0.length c0_0] 24 (0, 0)) (bp BK370) hb); have n1_ := am (below_step (bw HB) hb); clear BK370; clear HB; have BK370 := n0_; have HB := n1_; clear n0_ n1_; (try clear hb); (try clear hb2); (try clear hk); (try clear hi)))
  go_ret
  exact ⟨er, bw HB⟩
 ·rw [if_neg c4] at H
  have c4b0 : decide (t371 < 0) = false := decide_eq_false c4
  clear c4
  replace H := Option.bind_eq_some_iff.mp H
  obtain ⟨t372, A80, H⟩ := H
  replace H : ((spec_Heights.f k t372 a1).bind fun t375 => ((laws_toProgram.f k l0_0).bind fun t378 => ((impl_Heights.f k t378 a1).bind fun t382 => ((laws_eqInt64S.f k t382 t375).bind fun t385 => (if t385 = true then ((laws_toProgram.f k l0_0).bind fun t386 => ((laws_eqProgram.f k t378 t386).bind fun t389 => (if t389 = true then ((laws_markProgram.f t378 1).bind fun t390 => (if t390 < 0 then (laws_FnExactHeights.j0 k a1 t375 t382 true l0_0) else ((laws_eqInt64S.f k t382 t375).bind fun t391 => (laws_FnExactHeights.j0 k a1 t375 t382 (!t391) l0_0)))) else (some false)))) else (some false)))))) = some r := H
  have A8 := am A80
  clear A80
  replace H := Option.bind_eq_some_iff.mp H
  obtain ⟨t375, A90, H⟩ := H
  replace H : ((laws_toProgram.f k l0_0).bind fun t378 => ((impl_Heights.f k t378 a1).bind fun t382 => ((laws_eqInt64S.f k t382 t375).bind fun t385 => (if t385 = true then ((laws_toProgram.f k l0_0).bind fun t386 => ((laws_eqProgram.f k t378 t386).bind fun t389 => (if t389 = true then ((laws_markProgram.f t378 1).bind fun t390 => (if t390 < 0 then (laws_FnExactHeights.j0 k a1 t375 t382 true l0_0) else ((laws_eqInt64S.f k t382 t375).bind fun t391 => (laws_FnExactHeights.j0 k a1 t375 t382 (!t391) l0_0)))) else (some false)))) else (some false))))) = some r := H
  have A9 := am A90
  clear A90
  replace H := Option.bind_eq_some_iff.mp H
  obtain ⟨t378, A100, H⟩ := H
  replace H : ((impl_Heights.f k t378 a1).bind fun t382 => ((laws_eqInt64S.f k t382 t375).bind fun t385 => (if t385 = true then ((laws_toProgram.f k l0_0).bind fun t386 => ((laws_eqProgram.f k t378 t386).bind fun t389 => (if t389 = true then ((laws_markProgram.f t378 1).bind fun t390 => (if t390 < 0 then (laws_FnExactHeights.j0 k a1 t375 t382 true l0_0) else ((laws_eqInt64S.f k t382 t375).bind fun t391 => (laws_FnExactHeights.j0 k a1 t375 t382 (!t391) l0_0)))) else (some false)))) else (some false)))) = some r := H
  have A10 := am A100
  clear A100
  replace H := Option.bind_eq_some_iff.mp H
  obtain ⟨t382, A110, H⟩ := H
  replace H : ((laws_eqInt64S.f k t382 t375).bind fun t385 => (if t385 = true then ((laws_toProgram.f k l0_0).bind fun t386 => ((laws_eqProgram.f k t378 t386).bind fun t389 => (if t389 = true then ((laws_markProgram.f t378 1).bind fun t390 => (if t390 < 0 then (laws_FnExactHeights.j0 k a1 t375 t382 true l0_0) else ((laws_eqInt64S.f k t382 t375).bind fun t391 => (laws_FnExactHeights.j0 k a1 t375 t382 (!t391) l0_0)))) else (some false)))) else (some false))) = some r := H
  have A11 := am A110
  clear A110
  replace H := Option.bind_eq_some_iff.mp H
  obtain ⟨t385, A120, H⟩ := H
  replace H : (if t385 = true then ((laws_toProgram.f k l0_0).bind fun t386 => ((laws_eqProgram.f k t378 t386).bind fun t389 => (if t389 = true then ((laws_markProgram.f t378 1).bind fun t390 => (if t390 < 0 then (laws_FnExactHeights.j0 k a1 t375 t382 true l0_0) else ((laws_eqInt64S.f k t382 t375).bind fun t391 => (laws_FnExactHeights.j0 k a1 t375 t382 (!t391) l0_0)))) else (some false)))) else (some false)) = some r := H
  have A12 := am A120
  clear A120
  by_cases c13 : t385 = true
  ·subst c13
   have H1 : ((laws_toProgram.f k l0_0).bind fun t386 => ((laws_eqProgram.f k t378 t386).bind fun t389 => (if t389 = true then ((laws_markProgram.f t378 1).bind fun t390 => (if t390 < 0 then (laws_FnExactHeights.j0 k a1 t375 t382 true l0_0) else ((laws_eqInt64S.f k t382 t375).bind fun t391 => (laws_FnExactHeights.j0 k a1 t375 t382 (!t391) l0_0)))) else (some false)))) = some r := by rw [if_pos rfl] at H; exact H
   clear H
   have H := H1
   clear H1
   replace H := Option.bind_eq_some_iff.mp H
   obtain ⟨t386, A140, H⟩ := H
   replace H : ((laws_eqProgram.f k t378 t386).bind fun t389 => (if t389 = true then ((laws_markProgram.f t378 1).bind fun t390 => (if t390 < 0 then (laws_FnExactHeights.j0 k a1 t375 t382 true l0_0) else ((laws_eqInt64S.f k t382 t375).bind fun t391 => (laws_FnExactHeights.j0 k a1 t375 t382 (!t391) l0_0)))) else (some false))) = some r := H
   have A14 := am A140
   clear A140
   replace H := Option.bind_eq_some_iff.mp H
   obtain ⟨t389, A150, H⟩ := H
   replace H : (if t389 = true then ((laws_markProgram.f t378 1).bind fun t390 => (if t390 < 0 then (laws_FnExactHeights.j0 k a1 t375 t382 true l0_0) else ((laws_eqInt64S.f k t382 t375).bind fun t391 => (laws_FnExactHeights.j0 k a1 t375 t382 (!t391) l0_0)))) else (some false)) = some r := H
   have A15 := am A150
   clear A150
   by_cases c16 : t389 = true
   ·subst c16
    have H1 : ((laws_markProgram.f t378 1).bind fun t390 => (if t390 < 0 then (laws_FnExactHeights.j0 k a1 t375 t382 true l0_0) else ((laws_eqInt64S.f k t382 t375).bind fun t391 => (laws_FnExactHeights.j0 k a1 t375 t382 (!t391) l0_0)))) = some r := by rw [if_pos rfl] at H; exact H
    clear H
    have H := H1
    clear H1
    replace H := Option.bind_eq_some_iff.mp H
    obtain ⟨t390, A170, H⟩ := H
    replace H : (if t390 < 0 then (laws_FnExactHeights.j0 k a1 t375 t382 true l0_0) else ((laws_eqInt64S.f k t382 t375).bind fun t391 => (laws_FnExactHeights.j0 k a1 t375 t382 (!t391) l0_0))) = some r := H
    have A17 := am A170
    clear A170
    have HC18 := am H
    clear H
    go_enter Try.func3, Try.ntmps3
    try go_wp2_with (first | ((with_reducible refine gate_dst (N := 2) rfl ?_); refine box_event ?hg (N := 2) ?hd (cs := #[.slice A0_0 l0_0.length c0_0]) (t := 24) ?hr ?_; (case hd => rfl); (case hg => rfl); (case hr => exact gs); intro gb370 hg w19 hbox hb; have n0_ := am (below_step (bw HB) hb); have n1_ := am (hbox); have n2_ := am ((by rw [hg]; exact (below_size (bw HB)) : w.heap.size ≤ gb370)); have n3_ := am ((by rw [hg]; exact (below_size (bw HB)) : w.heap.size ≤ gb370)); clear HB; have HB := n0_; have BK370 := n1_; have GW370 := n2_; have GE370 := n3_; clear n0_ n1_ n2_ n3_; clear hb hbox hg; have hcz20_0 : w19.cell? ⟨gb370, 0, none⟩ = some (.slice A0_0 l0_0.length c0_0) := (blk_cell BK370.out 0).trans rfl; have hfz20_0 := blk_frozen BK370.out 0) | ((with_reducible refine gate_callee (f := 14) rfl ?_); refine goesL_ (some 15) rfl rfl Try.func14 (by kernel_rfl) rfl #[.agg #[.slice A0_0 l0_0.length c0_0], .int .i64 1048576] rfl gl ?_; (with_reducible refine (laws_szProgram.calls k _ _ l0_0 1048576 t371 _ ?side1 ?side2 A3.out).mono ?_); (case side1 => exact cc (Kd.C_below HR0_0.out HB.out)); (case side2 => exact HC0_0.out); rintro e w21 ⟨rfl, hb⟩; refine ⟨_, rfl, ?_⟩; have n0_ := am (blk_below (g := gb370) (o := .cells #[.slice A0_0 l0_0.length c0_0] 24 (0, 0)) (bp BK370) hb); have n1_ := am (below_step (bw HB) hb); clear BK370; clear HB; have BK370 := n0_; have HB := n1_; clear n0_ n1_; (try clear hb); (try clear hb2); (try clear hk); (try clear hi); have hcz22_0 : w21.cell? ⟨gb370, 0, none⟩ = some (.slice A0_0 l0_0.length c0_0) := (blk_cell BK370.out 0).trans rfl; have hfz22_0 := blk_frozen BK370.out 0) | ((with_reducible refine gate_callee (f := 16) rfl ?_); refine goesL_ (some 19) rfl rfl Try.func16 (by kernel_rfl) rfl #[.agg #[.slice A0_0 l0_0.length c0_0]] rfl gl ?_; (with_reducible refine (laws_toProgram.calls k _ _ l0_0 t372 _ ?side1 ?side2 A8.out).mono ?_); (case side1 => exact cc (Kd.C_below HR0_0.out HB.out)); (case side2 => exact HC0_0.out); rintro e w23 ⟨v373, rfl, ho0, hb⟩; refine ⟨_, rfl, ?_⟩; have n0_ := am (Kd.S_lower ho0 (below_size (bw HB))); have n1_ := am (blk_below (g := gb370) (o := .cells #[.slice A0_0 l0_0.length c0_0] 24 (0, 0)) (bp BK370) hb); have n2_ := am (below_step (bw HB) hb); clear BK370; clear HB; have HO374 := n0_; have BK370 := n1_; have HB := n2_; clear n0_ n1_ n2_; (try clear hb); (try clear hb2); (try clear hk); (try clear hi); (try clear ho0); obtain ⟨Ao24, co24, eo24⟩ := Kd.S_slice HO374.out; subst eo24) | ((with_reducible refine gate_callee (f := 15) rfl ?_); refine goesL_ (some 21) rfl rfl Try.func15 (by kernel_rfl) rfl #[.agg #[.slice Ao24 t372.length co24], .int .i64 a1] rfl gl ?_; (with_reducible refine (spec_Heights.calls k _ _ t372 a1 t375 _ ?side1 ?side2 A9.out).mono ?_); (case side1 => exact cc (Kd.S_reads' HO374.out).2.2); (case side2 => exact (Kd.S_reads' HO374.out).2.1); rintro e w25 ⟨v376, rfl, ho0, hb⟩; refine ⟨_, rfl, ?_⟩; have n0_ := am (Kd.S_below (kS HO374) hb); have n1_ := am (Kd.R_lower ho0 (below_size (bw HB))); have n2_ := am (blk_below (g := gb370) (o := .cells #[.slice A0_0 l0_0.length c0_0] 24 (0, 0)) (bp BK370) hb); have n3_ := am (below_step (bw HB) hb); clear HO374; clear BK370; clear HB; have HO374 := n0_; have HO377 := n1_; have BK370 := n2_; have HB := n3_; clear n0_ n1_ n2_ n3_; (try clear hb); (try clear hb2); (try clear hk); (try clear hi); (try clear ho0); have hcz26_0 : w25.cell? ⟨gb370, 0, none⟩ = some (.slice A0_0 l0_0.length c0_0) := (blk_cell BK370.out 0).trans rfl; have hfz26_0 := blk_frozen BK370.out 0) | ((with_reducible refine gate_callee (f := 16) rfl ?_); refine goesL_ (some 23) rfl rfl Try.func16 (by kernel_rfl) rfl #[.agg #[.slice A0_0 l0_0.length c0_0]] rfl gl ?_; (with_reducible refine (laws_toProgram.calls k _ _ l0_0 t378 _ ?side1 ?side2 A10.out).mono ?_); (case side1 => exact cc (Kd.C_below HR0_0.out HB.out)); (case side2 => exact HC0_0.out); rintro e w27 ⟨v379, rfl, ho0, hb⟩; refine ⟨_, rfl, ?_⟩; have n0_ := am (Kd.S_elder' (kS HO374) (Kd.S_base ho0) hb); have n1_ := am (Kd.R_below (kR HO377) hb); have n2_ := am (Kd.S_lower (Kd.S_new' ho0 (Kd.S_lt (kS HO374))) (below_size (bw HB))); have n3_ := am (blk_below (g := gb370) (o := .cells #[.slice A0_0 l0_0.length c0_0] 24 (0, 0)) (bp BK370) hb); have n4_ := am (below_step (bw HB) hb); clear HO374; clear HO377; clear BK370; clear HB; have HO374 := n0_; have HO377 := n1_; have HO380 := n2_; have BK370 := n3_; have HB := n4_; clear n0_ n1_ n2_ n3_ n4_; (try clear hb); (try clear hb2); (try clear hk); (try clear hi); (try clear ho0)) | ((with_reducible refine gate_dst (N := 7) rfl ?_); refine box_event ?hg (N := 7) ?hd (cs := #[.slice none 0 0]) (t := 30) ?hr ?_; (case hd => rfl); (case hg => rfl); (case hr => exact gs); intro gb381 hg w28 hbox hb; have n0_ := am (Kd.S_below (kS HO374) hb); have n1_ := am (Kd.R_below (kR HO377) hb); have n2_ := am (Kd.S_below (kS HO380) hb); have n3_ := am (blk_below (g := gb370) (o := .cells #[.slice A0_0 l0_0.length c0_0] 24 (0, 0)) (bp BK370) hb); have n4_ := am (below_step (bw HB) hb); have n5_ := am (hbox); have n6_ := am ((by rw [hg]; exact (below_size (bw HB)) : w.heap.size ≤ gb381)); have n7_ := am ((by rw [hg]; exact (below_size (bw HB)) : w.heap.size ≤ gb381)); have n8_ := am ((by rw [hg]; exact Nat.ne_of_lt (blk_lt (g := gb370) (o := .cells #[.slice A0_0 l0_0.length c0_0] 24 (0, 0)) (bp BK370)) : gb370 ≠ gb381)); have n9_ := am ((by rw [hg]; exact Nat.ne_of_gt (blk_lt (g := gb370) (o := .cells #[.slice A0_0 l0_0.length c0_0] 24 (0, 0)) (bp BK370)) : gb381 ≠ gb370)); clear HO374; clear HO377; clear HO380; clear BK370; clear HB; have HO374 := n0_; have HO377 := n1_; have HO380 := n2_; have BK370 := n3_; have HB := n4_; have BK381 := n5_; have GW381 := n6_; have GE381 := n7_; have NB370_381 := n8_; have NB381_370 := n9_; clear n0_ n1_ n2_ n3_ n4_ n5_ n6_ n7_ n8_ n9_; clear hb hbox hg; obtain ⟨Ao29, co29, eo29⟩ := Kd.S_slice HO380.out; subst eo29; have hnb30 := NB381_370.out; have hnc30 := NB370_381.out; have hcz31_0 : w28.cell? ⟨gb381, 0, none⟩ = some (.slice none 0 0) := (blk_cell BK381.out 0).trans rfl; have hfz31_0 := blk_frozen BK381.out 0) | ((with_reducible refine gate_callee (f := 17) rfl ?_); refine goesL_ (some 26) rfl rfl Try.func17 (by kernel_rfl) rfl #[.agg #[.slice Ao29 t378.length co29], .int .i64 a1] rfl gl ?_; (with_reducible refine (impl_Heights.calls k _ _ t378 a1 t382 _ ?side1 ?side2 A11.out).mono ?_); (case side1 => refine (Kd.S_reads' (e := 100) (base := w.heap.size) (ok := fun k_ => (True ∧ some k_ ≠ (.slice Ao24 t372.length co24 : Value).ownBlock)) (n := t378.length) (c := co29) ?_).2.2; exact (by (with_reducible repeat (first | apply Kd.S_alloc | apply Kd.S_drewN | apply Kd.S_drew)); exact (Kd.S_mono (Kd.S_far (p := ⟨gb381, 0, none⟩) (Kd.S_types HO380.out BK381.out (by decide)) (fun _ hk => hk.2) (.slice Ao29 t378.length co29)) (fun _ h_ => h_.1)))); (case side2 => exact (Kd.S_reads' HO380.out).2.1); rintro e w32 ⟨v383, rfl, ho0, hb⟩; refine ⟨_, rfl, ?_⟩; have n0_ := am (Kd.S_below (by (with_reducible repeat (first | apply Kd.S_alloc | apply Kd.S_drewN | apply Kd.S_drew)); exact (Kd.S_mono (Kd.S_far (p := ⟨gb381, 0, none⟩) (Kd.S_types HO374.out BK381.out (by decide)) (fun _ hk => hk.2) (.slice Ao29 t378.length co29)) (fun _ h_ => h_.1))) hb); have n1_ := am (Kd.R_elder' (by (with_reducible repeat (first | apply Kd.R_alloc | apply Kd.R_drewN | apply Kd.R_drew)); exact (Kd.R_mono (Kd.R_far (p := ⟨gb381, 0, none⟩) (Kd.R_types HO377.out BK381.out (by decide)) (fun _ hk => hk.2) (.slice Ao29 t378.length co29)) (fun _ h_ => h_.1))) (Kd.R_base ho0) hb); have n2_ := am (Kd.S_below (by (with_reducible repeat (first | apply Kd.S_alloc | apply Kd.S_drewN | apply Kd.S_drew)); exact (Kd.S_mono (Kd.S_far (p := ⟨gb381, 0, none⟩) (Kd.S_types HO380.out BK381.out (by decide)) (fun _ hk => hk.2) (.slice Ao29 t378.length co29)) (fun _ h_ => h_.1))) hb); have n3_ := am (Kd.R_lower (Kd.R_new' ho0 (Kd.R_lt (by (with_reducible repeat (first | apply Kd.R_alloc | apply Kd.R_drewN | apply Kd.R_drew)); exact (Kd.R_mono (Kd.R_far (p := ⟨gb381, 0, none⟩) (Kd.R_types HO377.out BK381.out (by decide)) (fun _ hk => hk.2) (.slice Ao29 t378.length co29)) (fun _ h_ => h_.1))))) (below_size (bw HB))); have n4_ := am (blk_below (g := gb370) (o := .cells #[.slice A0_0 l0_0.length c0_0] 24 (0, 0)) (by (with_reducible repeat (first | apply dN | apply dW | apply dA)); refine blk_far ?_ NB370_381.out _; exact bp BK370) hb); have n5_ := am (blk_below (g := gb381) (o := .cells #[.slice Ao29 t378.length co29] 30 (0, 0)) (by (with_reducible repeat (first | apply dN | apply dW | apply dA)); refine blk_put (cs := #[.slice none 0 0]) ?_ 0 _ rfl; exact bp BK381) hb); have n6_ := am (below_step (bw HB) hb); clear HO374; clear HO377; clear HO380; clear BK370; clear BK381; clear HB; have HO374 := n0_; have HO377 := n1_; have HO380 := n2_; have HO384 := n3_; have BK370 := n4_; have BK381 := n5_; have HB := n6_; clear n0_ n1_ n2_ n3_ n4_ n5_ n6_; (try clear hb); (try clear hb2); (try clear hk); (try clear hi); (try clear ho0); obtain ⟨Ao33, co33, eo33⟩ := Kd.R_slice HO384.out; subst eo33; obtain ⟨Ao34, co34, eo34⟩ := Kd.R_slice HO377.out; subst eo34) | ((with_reducible refine gate_callee (f := 18) rfl ?_); refine goesL_ (some 29) rfl rfl Try.func18 (by kernel_rfl) rfl #[.slice Ao33 t382.length co33, .slice Ao34 t375.length co34] rfl gl ?_; (with_reducible refine (laws_eqInt64S.calls k _ _ t382 _ _ t375 true _ ?side1 ?side2 ?side3 ?side4 A12.out).mono ?_); (case side1 => exact cc (Kd.R_reads' HO384.out).2.2); (case side2 => exact (Kd.R_reads' HO384.out).2.1); (case side3 => exact cc (Kd.R_reads' HO377.out).2.2); (case side4 => exact (Kd.R_reads' HO377.out).2.1); rintro e w' ⟨rfl, ⟨nd, rfl⟩⟩; refine ⟨_, rfl, ?_⟩))
    (try (rw [drewN_self w32]; generalize hq_ : World.drewN w32 _ = w32; have n0_ : Aside0 (Kd.S k100 100 w32 w.heap.size (fun k_ => some k_ ≠ (.slice Ao29 t378.length co29 : Value).ownBlock) (.slice Ao24 t372.length co24) t372) := ⟨by rw [← hq_]; exact (by (with_reducible repeat (first | apply Kd.S_alloc | apply Kd.S_drewN | apply Kd.S_drew)); exact Kd.S_mono HO374.out (fun _ hk => hk.2))⟩; have n1_ : Aside0 (Kd.R (Kd.int .i64) 2 w32 w.heap.size (fun k_ => some k_ ≠ (.slice Ao33 t382.length co33 : Value).ownBlock) (.slice Ao34 t375.length co34) t375) := ⟨by rw [← hq_]; exact (by (with_reducible repeat (first | apply Kd.R_alloc | apply Kd.R_drewN | apply Kd.R_drew)); exact Kd.R_mono HO377.out (fun _ hk => hk.2))⟩; have n2_ : Aside0 (Kd.S k100 100 w32 w.heap.size (fun k_ => some k_ ≠ (.slice Ao24 t372.length co24 : Value).ownBlock) (.slice Ao29 t378.length co29) t378) := ⟨by rw [← hq_]; exact (by (with_reducible repeat (first | apply Kd.S_alloc | apply Kd.S_drewN | apply Kd.S_drew)); exact Kd.S_mono HO380.out (fun _ hk => hk.2))⟩; have n3_ : Aside0 (Kd.R (Kd.int .i64) 2 w32 w.heap.size (fun k_ => some k_ ≠ (.slice Ao34 t375.length co34 : Value).ownBlock) (.slice Ao33 t382.length co33) t382) := ⟨by rw [← hq_]; exact (by (with_reducible repeat (first | apply Kd.R_alloc | apply Kd.R_drewN | apply Kd.R_drew)); exact Kd.R_mono HO384.out (fun _ hk => hk.2))⟩; have n4_ : Aside0 (w32.heap[gb370]? = some (.cells #[.slice A0_0 l0_0.length c0_0] 24 (0, 0))) := ⟨by rw [← hq_]; exact (bp BK370)⟩; have n5_ : Aside0 (w32.heap[gb381]? = some (.cells #[.slice Ao29 t378.length co29] 30 (0, 0))) := ⟨by rw [← hq_]; exact (bp BK381)⟩; have n6_ : Aside0 (Below w.heap.size w w32) := ⟨by rw [← hq_]; exact (bw HB)⟩; clear HO374 HO377 HO380 HO384 BK370 BK381 HB hq_; have HO374 := n0_; have HO377 := n1_; have HO380 := n2_; have HO384 := n3_; have BK370 := n4_; have BK381 := n5_; have HB := n6_; clear n0_ n1_ n2_ n3_ n4_ n5_ n6_))
    have n0_ := am (Kd.S_drew HO374.out)
    have n1_ := am (Kd.R_drew HO377.out)
    have n2_ := am (Kd.S_drew HO380.out)
    have n3_ := am (Kd.R_drew HO384.out)
    have n4_ := am (blk_drew BK370.out)
    have n5_ := am (blk_drew BK381.out)
    have n6_ := am (below_drew1 HB.out)
    clear HO374
    clear HO377
    clear HO380
    clear HO384
    clear BK370
    clear BK381
    clear HB
    have HO374 := n0_
    have HO377 := n1_
    have HO380 := n2_
    have HO384 := n3_
    have BK370 := n4_
    have BK381 := n5_
    have HB := n6_
    clear n0_ n1_ n2_ n3_ n4_ n5_ n6_
    refine start_ (n := 5) (S := fun w' => w'.cell? ⟨gb381, 0, none⟩ = some (.slice Ao29 t378.length co29) ∧ w'.cell? ⟨gb370, 0, none⟩ = some (.slice A0_0 l0_0.length c0_0)) (ds := []) #[false, false, false, false, false] (by kernel_rfl) rfl rfl ⟨(blk_cell BK381.out 0).trans rfl, (blk_cell BK370.out 0).trans rfl⟩ (fun hHeld => ?_)
    generalize w32.drew = w35 at HO374 HO377 HO380 HO384 BK370 BK381 HB hHeld ⊢
    refine take_ (i := 0) (N := some 31) (v := ?_) (a' := ?_) #[true, false, false, false, false] rfl rfl (by kernel_rfl) (fun _ _ _ h => h) (Or.inl ⟨by rfl, ?_⟩) hHeld ?_ ?_
    rotate_left
    ·rintro w' ⟨s0, s1⟩
     go_simp
     with_reducible rfl
    rotate_left
    ·simp only [Act.put, sa, sz, ss, i64_w, i32_w]
     rfl
    refine take_ (i := 1) (N := some 32) (v := ?_) (a' := ?_) #[true, true, false, false, false] rfl rfl (by kernel_rfl) (fun _ _ _ h => h) (Or.inl ⟨by rfl, ?_⟩) hHeld ?_ ?_
    rotate_left
    ·rintro w' ⟨s0, s1⟩
     go_simp
     with_reducible rfl
    rotate_left
    ·simp only [Act.put, sa, sz, ss, i64_w, i32_w]
     rfl
    refine one_ (i := 2) (N := some 33) #[true, true, true, false, false] rfl rfl (by kernel_rfl) (by decide) (fun K hK => ?_)
    refine goes_ Try.func16 (by kernel_rfl) rfl #[.agg #[.slice A0_0 l0_0.length c0_0]] (by rfl) rfl rfl gl ?_
    with_reducible refine (laws_toProgram.calls k _ _ l0_0 t386 _ ?side1 ?side2 A14.out).mono ?_
    (case side1 => exact cc (Kd.C_below HR0_0.out HB.out))
    (case side2 => exact HC0_0.out)
    rintro e w36 ⟨v387, rfl, ho0, hb⟩
    refine ⟨_, rfl, ?_⟩
    have n0_ := am (Kd.S_elder' (kS HO374) (Kd.S_base ho0) hb)
    have n1_ := am (Kd.R_below (kR HO377) hb)
    have n2_ := am (Kd.S_elder' (kS HO380) (Kd.S_base ho0) hb)
    have n3_ := am (Kd.R_below (kR HO384) hb)
    have n4_ := am (Kd.S_lower (Kd.S_new' (Kd.S_new' ho0 (Kd.S_lt (kS HO374))) (Kd.S_lt (kS HO380))) (below_size (bw HB)))
    have n5_ := am (blk_below (g := gb370) (o := .cells #[.slice A0_0 l0_0.length c0_0] 24 (0, 0)) (bp BK370) hb)
    have n6_ := am (blk_below (g := gb381) (o := .cells #[.slice Ao29 t378.length co29] 30 (0, 0)) (bp BK381) hb)
    have n7_ := am (below_step (bw HB) hb)
    clear HO374
    clear HO377
    clear HO380
    clear HO384
    clear BK370
    clear BK381
    clear HB
    have HO374 := n0_
    have HO377 := n1_
    have HO380 := n2_
    have HO384 := n3_
    have HO388 := n4_
    have BK370 := n5_
    have BK381 := n6_
    have HB := n7_
    clear n0_ n1_ n2_ n3_ n4_ n5_ n6_ n7_
    (try clear hb)
    (try clear hb2)
    (try clear hk)
    (try clear hi)
    (try clear ho0)
    obtain ⟨Ao37, co37, eo37⟩ := Kd.S_slice HO388.out
    (first | subst eo37 | (injection eo37 with f1_ f2_ f3_; have f4_ := f1_.symm; have f5_ := f3_.symm; clear f1_ f2_ f3_; subst f4_; subst f5_))
    refine hK.out _ _ ⟨(blk_cell BK381.out 0).trans rfl, (blk_cell BK370.out 0).trans rfl⟩ (fun hHeld => ?_)
    clear hK K
    refine norm_ (a' := ?_) ?_ ?_
    rotate_left
    ·show Act.put _ (some 33) _ = _
     simp only [Act.put, sa, sz, ss, i64_w, i32_w]
     rfl
    refine one_ (i := 3) (N := some 34) #[true, true, true, true, false] rfl rfl (by kernel_rfl) (by decide) (fun K hK => ?_)
    refine goes_ Try.func19 (by kernel_rfl) rfl #[.agg #[.slice Ao29 t378.length co29], .agg #[.slice Ao37 t386.length co37]] (by rfl) rfl rfl gl ?_
    with_reducible refine (laws_eqProgram.calls k _ _ t378 _ _ t386 true _ ?side1 ?side2 ?side3 ?side4 A15.out).mono ?_
    (case side1 => exact cc (Kd.S_reads' HO380.out).2.2)
    (case side2 => exact (Kd.S_reads' HO380.out).2.1)
    (case side3 => exact cc (Kd.S_reads' HO388.out).2.2)
    (case side4 => exact (Kd.S_reads' HO388.out).2.1)
    rintro e w38 ⟨rfl, hb⟩
    refine ⟨_, rfl, ?_⟩
    have n0_ := am (Kd.S_below (kS HO374) hb)
    have n1_ := am (Kd.R_below (kR HO377) hb)
    have n2_ := am (Kd.S_below (kS HO380) hb)
    have n3_ := am (Kd.R_below (kR HO384) hb)
    have n4_ := am (Kd.S_below (kS HO388) hb)
    have n5_ := am (blk_below (g := gb370) (o := .cells #[.slice A0_0 l0_0.length c0_0] 24 (0, 0)) (bp BK370) hb)
    have n6_ := am (blk_below (g := gb381) (o := .cells #[.slice Ao29 t378.length co29] 30 (0, 0)) (bp BK381) hb)
    have n7_ := am (below_step (bw HB) hb)
    clear HO374
    clear HO377
    clear HO380
    clear HO384
    clear HO388
    clear BK370
    clear BK381
    clear HB
    have HO374 := n0_
    have HO377 := n1_
    have HO380 := n2_
    have HO384 := n3_
    have HO388 := n4_
    have BK370 := n5_
    have BK381 := n6_
    have HB := n7_
    clear n0_ n1_ n2_ n3_ n4_ n5_ n6_ n7_
    (try clear hb)
    (try clear hb2)
    (try clear hk)
    (try clear hi)
    refine hK.out _ _ ⟨(blk_cell BK381.out 0).trans rfl, (blk_cell BK370.out 0).trans rfl⟩ (fun hHeld => ?_)
    clear hK K
    refine norm_ (a' := ?_) ?_ ?_
    rotate_left
    ·show Act.put _ (some 34) _ = _
     simp only [Act.put, sa, sz, ss, i64_w, i32_w]
     rfl
    refine pure_ (i := 4) (N := some 35) (v := ?_) (a' := ?_) #[true, true, true, true, true] rfl rfl (by kernel_rfl) (fun _ _ _ h => h) (Or.inl ⟨by rfl, ?_⟩) ?_ ?_
    rotate_left
    ·intro w'
     go_simp
     with_reducible rfl
    rotate_left
    ·simp only [Act.put, sa, sz, ss, i64_w, i32_w]
     rfl
    refine done_ (by kernel_rfl) ?_
    have hcz39_0 : w38.cell? ⟨gb381, 0, none⟩ = some (.slice Ao29 t378.length co29) := (blk_cell BK381.out 0).trans rfl
    have hfz39_0 := blk_frozen BK381.out 0
    go_upto_region 14 with (first | ((with_reducible refine gate_callee (f := 20) rfl ?_); refine goesL_ (some 38) rfl rfl Try.func20 (by kernel_rfl) rfl #[.agg #[.slice Ao29 t378.length co29], .int .i64 1] rfl gl ?_; (with_reducible refine (laws_markProgram.calls (fun k_ => w.heap.size ≤ k_ ∧ tyIn w38 (100 :: Kd.E k100) k_) (.slice Ao29 t378.length co29) t378 1 t390 w _ ?side1 ?side2 A17.out).mono ?_); (case side1 => repeat (first | (with_reducible first | exact HB.out | apply below_alloc | apply pw_below_drewN | apply below_drew1 | refine below_set ?_ GE370.out | refine below_set ?_ GE381.out) | exact HB.out)); (case side2 => exact R_typedIn (Kd.S_R HO380.out)); rintro e w40 ⟨rfl, hb, hkp⟩; refine ⟨_, rfl, ?_⟩; have n0_ := am (blk_kept (bp BK370) hkp (fun hs_ => (fun e_ => tyIn_blk e_.2 (bp BK370) (by decide)) hs_)); have n1_ := am (Kd.R_mono (ok' := fun k_ => some k_ ≠ (.slice Ao33 t382.length co33 : Value).ownBlock) (Kd.R_keptB ((Kd.R_mono (Kd.R_bound HO377.out) (fun k_ h_ => (⟨h_.1, fun e_ => tyIn_no e_ h_.2.2.2 (by decide)⟩ : _ ∧ ¬ tyIn _ (100 :: Kd.E k100) k_)))) hkp (fun k_ hk_ hs_ => (fun e_ => (hk_.2) e_.2) hs_)) (fun k_ hk_ => (by have h1_ := hk_.1.1; first | exact hk_.1.1.2 | exact h1_ | exact h1_.2 | exact h1_.1 | exact h1_.1.2 | exact h1_.2.2 | exact h1_.2.1 | exact h1_.1.1 | exact h1_.1.1.2 | exact h1_.1.2.1 | exact h1_.1.1.1))); have n2_ := am (blk_kept (bp BK381) hkp (fun hs_ => (fun e_ => tyIn_blk e_.2 (bp BK381) (by decide)) hs_)); have n3_ := am (Kd.R_mono (ok' := fun k_ => some k_ ≠ (.slice Ao34 t375.length co34 : Value).ownBlock) (Kd.R_keptB ((Kd.R_mono (Kd.R_bound HO384.out) (fun k_ h_ => (⟨h_.1, fun e_ => tyIn_no e_ h_.2.2.2 (by decide)⟩ : _ ∧ ¬ tyIn _ (100 :: Kd.E k100) k_)))) hkp (fun k_ hk_ hs_ => (fun e_ => (hk_.2) e_.2) hs_)) (fun k_ hk_ => (by have h1_ := hk_.1.1; first | exact hk_.1.1.2 | exact h1_ | exact h1_.2 | exact h1_.1 | exact h1_.1.2 | exact h1_.2.2 | exact h1_.2.1 | exact h1_.1.1 | exact h1_.1.1.2 | exact h1_.1.2.1 | exact h1_.1.1.1))); have n4_ := am (hb); clear BK370; clear HO377; clear BK381; clear HO384; clear HB; clear HO374; clear HO388; clear HO380; have BK370 := n0_; have HO377 := n1_; have BK381 := n2_; have HO384 := n3_; have HB := n4_; clear n0_ n1_ n2_ n3_ n4_; (try clear hb); (try clear hkp)))
    (try simp only [Act.put, sa, sz, ss])
    go_cut [46] (fun v46 wc => ∃ (kq : Nat) (x46_17 : Bool), v46 = .bool x46_17 ∧ Aside0 (laws_FnExactHeights.j0 kq a1 t375 t382 x46_17 l0_0 = some r) ∧ Aside0 (kq ≤ k) ∧ Aside0 (Kd.R (Kd.int .i64) 2 wc w.heap.size (fun k_ => some k_ ≠ ((.slice Ao33 t382.length co33) : Value).ownBlock) (.slice Ao34 t375.length co34) t375) ∧ Aside0 (Kd.R (Kd.int .i64) 2 wc w.heap.size (fun k_ => some k_ ≠ ((.slice Ao34 t375.length co34) : Value).ownBlock) (.slice Ao33 t382.length co33) t382) ∧ Aside0 (wc.heap[gb370]? = some (.cells #[(.slice A0_0 l0_0.length c0_0)] 24 (0, 0))) ∧ Aside0 (Below w.heap.size w wc))
    case first =>
     have H := HC18.out
     clear HC18
     by_cases c41 : t390 < 0
     ·rw [if_pos c41] at H
      have c41b0 : decide (t390 < 0) = true := decide_eq_true c41
      clear c41
      (first | rw [c41b0] | (simp only [i64_w, i32_w]; rw [c41b0]) | skip)
      have H' := am H
      clear H
      go_wp2
      go_meet
      case rel => exact ⟨_, (true), dr, H', ⟨by first | omega | exact Nat.le_refl _⟩, ⟨kR HO377⟩, ⟨kR HO384⟩, ⟨bp BK370⟩, ⟨bw HB⟩⟩
     ·rw [if_neg c41] at H
      have c41b0 : decide (t390 < 0) = false := decide_eq_false c41
      clear c41
      (first | rw [c41b0] | (simp only [i64_w, i32_w]; rw [c41b0]) | skip)
      replace H := Option.bind_eq_some_iff.mp H
      obtain ⟨t391, A420, H⟩ := H
      replace H : (laws_FnExactHeights.j0 k a1 t375 t382 (!t391) l0_0) = some r := H
      have A42 := am A420
      clear A420
      have H' := am H
      clear H
      go_wp2_with (first | (go_at_call 18; (with_reducible refine (laws_eqInt64S.calls k _ _ t382 _ _ t375 t391 _ ?side1 ?side2 ?side3 ?side4 A42.out).mono ?_); (case side1 => exact cc (Kd.R_reads' HO384.out).2.2); (case side2 => exact (Kd.R_reads' HO384.out).2.1); (case side3 => exact cc (Kd.R_reads' HO377.out).2.2); (case side4 => exact (Kd.R_reads' HO377.out).2.1); rintro e w' ⟨rfl, ⟨nd, rfl⟩⟩))
      go_meet
      case rel => exact ⟨_, (!t391), dr, H', ⟨by first | omega | exact Nat.le_refl _⟩, ⟨kR HO377⟩, ⟨kR HO384⟩, ⟨bp BK370⟩, ⟨bw HB⟩⟩
    case rest =>
     clear HC18
     (try clear c1); (try clear c2); (try clear p2); (try clear c3); (try clear c4); (try clear c4b0); (try clear c13); (try clear c14); (try clear c15); (try clear c16); (try clear c17); (try clear c18); (try clear c19); (try clear c20); (try clear c30); (try clear c41); (try clear c41b0); (try clear hcz20_0); (try clear hcz22_0); (try clear hcz26_0); (try clear hcz31_0); (try clear hcz39_0); (try clear hcz6_0); (try clear hfz20_0); (try clear hfz22_0); (try clear hfz26_0); (try clear hfz31_0); (try clear hfz39_0); (try clear hfz6_0)
     obtain ⟨kq, x46_17, rfl, HA, HJ17, HO_6, HO_8, BK370, HB⟩ := hcut
     cases kq with
     | zero => exact absurd HA.out (by simp [laws_FnExactHeights.j0])
     | succ kj17 =>
      have H := HA.out
      clear HA
      simp only [laws_FnExactHeights.j0] at H
      by_cases c43 : x46_17 = true
      ·subst c43
       have H1 : (some false) = some r := by rw [if_pos rfl] at H; exact H
       clear H
       have H := H1
       clear H1
       obtain rfl := Option.some.inj H
       go_wp2
       go_ret
       exact ⟨er, bw HB⟩
      ·replace c43 := Bool.eq_false_iff.mpr c43
       subst c43
       have H1 : ((laws_markInt64S.f kj17 t382 1).bind fun bt392 => ((laws_heldInt64S.f kj17 bt392.2 1).bind fun t394 => (if t394 < 0 then (some false) else (if t394 = bt392.1 then ((laws_toProgram.f kj17 l0_0).bind fun t395 => ((impl_Heights.f kj17 t395 a1).bind fun t398 => ((laws_eqInt64S.f kj17 t398 t375).bind fun t401 => (if t401 = true then ((laws_heldInt64S.f kj17 bt392.2 1).bind fun t402 => (if t402 < 0 then (some false) else (if t402 = bt392.1 then (some true) else (some false)))) else (some false))))) else (some false))))) = some r := by rw [if_neg (show ¬ (false = true) by decide)] at H; exact H
       clear H
       have H := H1
       clear H1
       replace H := Option.bind_eq_some_iff.mp H
       obtain ⟨⟨t392, t393⟩, A440, H⟩ := H
       replace H : ((laws_heldInt64S.f kj17 t393 1).bind fun t394 => (if t394 < 0 then (some false) else (if t394 = t392 then ((laws_toProgram.f kj17 l0_0).bind fun t395 => ((impl_Heights.f kj17 t395 a1).bind fun t398 => ((laws_eqInt64S.f kj17 t398 t375).bind fun t401 => (if t401 = true then ((laws_heldInt64S.f kj17 t393 1).bind fun t402 => (if t402 < 0 then (some false) else (if t402 = t392 then (some true) else (some false)))) else (some false))))) else (some false)))) = some r := H
       have A44 := am A440
       clear A440
       replace H := Option.bind_eq_some_iff.mp H
       obtain ⟨t394, A450, H⟩ := H
       replace H : (if t394 < 0 then (some false) else (if t394 = t392 then ((laws_toProgram.f kj17 l0_0).bind fun t395 => ((impl_Heights.f kj17 t395 a1).bind fun t398 => ((laws_eqInt64S.f kj17 t398 t375).bind fun t401 => (if t401 = true then ((laws_heldInt64S.f kj17 t393 1).bind fun t402 => (if t402 < 0 then (some false) else (if t402 = t392 then (some true) else (some false)))) else (some false))))) else (some false))) = some r := H
       have A45 := am A450
       clear A450
       by_cases c46 : t394 < 0
       ·rw [if_pos c46] at H
        have c46b0 : decide (t394 < 0) = true := decide_eq_true c46
        clear c46
        obtain rfl := Option.some.inj H
        go_wp2_with (first | ((with_reducible refine gate_callee (f := 21) rfl ?_); refine goesL_ (some 49) rfl rfl Try.func21 (by kernel_rfl) rfl #[.slice Ao33 t382.length co33, .int .i64 1] rfl gl ?_; (with_reducible refine (laws_markInt64S.calls kj17 (fun k_ => some k_ = (.slice Ao33 t382.length co33 : Value).ownBlock) (.slice Ao33 t382.length co33) t382 1 t392 t393 w _ ?side1 ?side2 A44.out).mono ?_); (case side1 => repeat (first | (with_reducible first | exact HB.out | apply below_alloc | apply pw_below_drewN | apply below_drew1 | refine below_set ?_ GE370.out) | exact HB.out)); (case side2 => exact Kd.R_tight rfl HO_8.out); rintro e w47 ⟨rfl, hy0, hb, hkp⟩; refine ⟨_, rfl, ?_⟩; have n0_ := am (Kd.R_mono (ok' := fun k_ => some k_ ≠ (.slice Ao33 t382.length co33 : Value).ownBlock) (Kd.R_keptB (HO_6.out) hkp (fun k_ hk_ hs_ => (hk_) hs_)) (fun k_ hk_ => hk_.1)); have n1_ := am (Kd.R_reok rfl hy0 (fun k_ e_ => HO_8.out.1 k_ e_)); have n2_ := am (blk_kept (bp BK370) hkp (fun hs_ => (fun e_ => (Kd.R_ne HO_8.out BK370.out (by decide)) e_) hs_)); have n3_ := am (hb); clear HO_6; clear HO_8; clear BK370; clear HB; have HO_6 := n0_; have HO_8 := n1_; have BK370 := n2_; have HB := n3_; clear n0_ n1_ n2_ n3_; (try clear hb); (try clear hkp); (try clear hy0)) | ((with_reducible refine gate_callee (f := 22) rfl ?_); refine goesL_ (some 52) rfl rfl Try.func22 (by kernel_rfl) rfl #[.slice Ao33 t393.length co33, .int .i64 1] rfl (by (try simp only [List.map_toArray, List.map_cons, List.map_nil]); first | done | (rw [show t393.length = t382.length from (Kd.R_reads' HO_8.out).1.symm] <;> rfl) | rfl | (simp only [List.length_drop, List.length_take]; rfl)) ?_; (with_reducible refine (laws_heldInt64S.calls kj17 _ _ t393 1 t394 _ ?side1 ?side2 A45.out).mono ?_); (case side1 => exact cc (Kd.R_reads' HO_8.out).2.2); (case side2 => rw [show t393.length = t382.length from (Kd.R_reads' HO_8.out).1.symm]; exact (Kd.R_reads' HO_8.out).2.1); rintro e w' ⟨rfl, ⟨nd, rfl⟩⟩; refine ⟨_, rfl, ?_⟩))
        go_ret
        exact ⟨er, bw HB⟩
       ·rw [if_neg c46] at H
        have c46b0 : decide (t394 < 0) = false := decide_eq_false c46
        clear c46
        by_cases c48 : t394 = t392
        ·rw [if_pos c48] at H
         have c48b0 : (t394 == t392) = true := beq_iff_eq.mpr c48
         have c48b1 : (t394 != t392) = false := bne_eq_false_iff_eq.mpr c48
         clear c48
         replace H := Option.bind_eq_some_iff.mp H
         obtain ⟨t395, A490, H⟩ := H
         replace H : ((impl_Heights.f kj17 t395 a1).bind fun t398 => ((laws_eqInt64S.f kj17 t398 t375).bind fun t401 => (if t401 = true then ((laws_heldInt64S.f kj17 t393 1).bind fun t402 => (if t402 < 0 then (some false) else (if t402 = t392 then (some true) else (some false)))) else (some false)))) = some r := H
         have A49 := am A490
         clear A490
         replace H := Option.bind_eq_some_iff.mp H
         obtain ⟨t398, A500, H⟩ := H
         replace H : ((laws_eqInt64S.f kj17 t398 t375).bind fun t401 => (if t401 = true then ((laws_heldInt64S.f kj17 t393 1).bind fun t402 => (if t402 < 0 then (some false) else (if t402 = t392 then (some true) else (some false)))) else (some false))) = some r := H
         have A50 := am A500
         clear A500
         replace H := Option.bind_eq_some_iff.mp H
         obtain ⟨t401, A510, H⟩ := H
         replace H : (if t401 = true then ((laws_heldInt64S.f kj17 t393 1).bind fun t402 => (if t402 < 0 then (some false) else (if t402 = t392 then (some true) else (some false)))) else (some false)) = some r := H
         have A51 := am A510
         clear A510
         by_cases c52 : t401 = true
         ·subst c52
          have H1 : ((laws_heldInt64S.f kj17 t393 1).bind fun t402 => (if t402 < 0 then (some false) else (if t402 = t392 then (some true) else (some false)))) = some r := by rw [if_pos rfl] at H; exact H
          clear H
          have H := H1
          clear H1
          replace H := Option.bind_eq_some_iff.mp H
          obtain ⟨t402, A530, H⟩ := H
          replace H : (if t402 < 0 then (some false) else (if t402 = t392 then (some true) else (some false))) = some r := H
          have A53 := am A530
          clear A530
          by_cases c54 : t402 < 0
          ·rw [if_pos c54] at H
           have c54b0 : decide (t402 < 0) = true := decide_eq_true c54
           clear c54
           obtain rfl := Option.some.inj H
           go_wp2_with (first | ((with_reducible refine gate_callee (f := 21) rfl ?_); refine goesL_ (some 49) rfl rfl Try.func21 (by kernel_rfl) rfl #[.slice Ao33 t382.length co33, .int .i64 1] rfl gl ?_; (with_reducible refine (laws_markInt64S.calls kj17 (fun k_ => some k_ = (.slice Ao33 t382.length co33 : Value).ownBlock) (.slice Ao33 t382.length co33) t382 1 t392 t393 w _ ?side1 ?side2 A44.out).mono ?_); (case side1 => repeat (first | (with_reducible first | exact HB.out | apply below_alloc | apply pw_below_drewN | apply below_drew1 | refine below_set ?_ GE370.out) | exact HB.out)); (case side2 => exact Kd.R_tight rfl HO_8.out); rintro e w55 ⟨rfl, hy0, hb, hkp⟩; refine ⟨_, rfl, ?_⟩; have n0_ := am (Kd.R_mono (ok' := fun k_ => some k_ ≠ (.slice Ao33 t382.length co33 : Value).ownBlock) (Kd.R_keptB (HO_6.out) hkp (fun k_ hk_ hs_ => (hk_) hs_)) (fun k_ hk_ => hk_.1)); have n1_ := am (Kd.R_reok rfl hy0 (fun k_ e_ => HO_8.out.1 k_ e_)); have n2_ := am (blk_kept (bp BK370) hkp (fun hs_ => (fun e_ => (Kd.R_ne HO_8.out BK370.out (by decide)) e_) hs_)); have n3_ := am (hb); clear HO_6; clear HO_8; clear BK370; clear HB; have HO_6 := n0_; have HO_8 := n1_; have BK370 := n2_; have HB := n3_; clear n0_ n1_ n2_ n3_; (try clear hb); (try clear hkp); (try clear hy0)) | ((with_reducible refine gate_callee (f := 22) rfl ?_); refine goesL_ (some 52) rfl rfl Try.func22 (by kernel_rfl) rfl #[.slice Ao33 t393.length co33, .int .i64 1] rfl (by (try simp only [List.map_toArray, List.map_cons, List.map_nil]); first | done | (rw [show t393.length = t382.length from (Kd.R_reads' HO_8.out).1.symm] <;> rfl) | rfl | (simp only [List.length_drop, List.length_take]; rfl)) ?_; (with_reducible refine (laws_heldInt64S.calls kj17 _ _ t393 1 t394 _ ?side1 ?side2 A45.out).mono ?_); (case side1 => exact cc (Kd.R_reads' HO_8.out).2.2); (case side2 => rw [show t393.length = t382.length from (Kd.R_reads' HO_8.out).1.symm]; exact (Kd.R_reads' HO_8.out).2.1); rintro e w' ⟨rfl, ⟨nd, rfl⟩⟩; refine ⟨_, rfl, ?_⟩; have hcz56_0 : w55.cell? ⟨gb370, 0, none⟩ = some (.slice A0_0 l0_0.length c0_0) := (blk_cell BK370.out 0).trans rfl; have hfz56_0 := blk_frozen BK370.out 0) | ((with_reducible refine gate_callee (f := 16) rfl ?_); refine goesL_ (some 59) rfl rfl Try.func16 (by kernel_rfl) rfl #[.agg #[.slice A0_0 l0_0.length c0_0]] rfl gl ?_; (with_reducible refine (laws_toProgram.calls kj17 _ _ l0_0 t395 _ ?side1 ?side2 A49.out).mono ?_); (case side1 => exact cc (Kd.C_below HR0_0.out (bw HB))); (case side2 => exact HC0_0.out); rintro e w57 ⟨v396, rfl, ho0, hb⟩; refine ⟨_, rfl, ?_⟩; have n0_ := am (Kd.R_below (kR HO_6) hb); have n1_ := am (Kd.R_below (kR HO_8) hb); have n2_ := am (Kd.S_lower ho0 (below_size (bw HB))); have n3_ := am (blk_below (g := gb370) (o := .cells #[.slice A0_0 l0_0.length c0_0] 24 (0, 0)) (bp BK370) hb); have n4_ := am (below_step (bw HB) hb); clear HO_6; clear HO_8; clear BK370; clear HB; have HO_6 := n0_; have HO_8 := n1_; have HO397 := n2_; have BK370 := n3_; have HB := n4_; clear n0_ n1_ n2_ n3_ n4_; (try clear hb); (try clear hb2); (try clear hk); (try clear hi); (try clear ho0); obtain ⟨Ao58, co58, eo58⟩ := Kd.S_slice HO397.out; subst eo58) | ((with_reducible refine gate_callee (f := 17) rfl ?_); refine goesL_ (some 61) rfl rfl Try.func17 (by kernel_rfl) rfl #[.agg #[.slice Ao58 t395.length co58], .int .i64 a1] rfl gl ?_; (with_reducible refine (impl_Heights.calls kj17 _ _ t395 a1 t398 _ ?side1 ?side2 A50.out).mono ?_); (case side1 => exact cc (Kd.S_reads' HO397.out).2.2); (case side2 => exact (Kd.S_reads' HO397.out).2.1); rintro e w59 ⟨v399, rfl, ho0, hb⟩; refine ⟨_, rfl, ?_⟩; have n0_ := am (Kd.R_elder' (kR HO_6) (Kd.R_base ho0) hb); have n1_ := am (Kd.R_elder' (kR HO_8) (Kd.R_base ho0) hb); have n2_ := am (Kd.S_below (kS HO397) hb); have n3_ := am (Kd.R_lower (Kd.R_new' (Kd.R_new' ho0 (Kd.R_lt (kR HO_6))) (Kd.R_lt (kR HO_8))) (below_size (bw HB))); have n4_ := am (blk_below (g := gb370) (o := .cells #[.slice A0_0 l0_0.length c0_0] 24 (0, 0)) (bp BK370) hb); have n5_ := am (below_step (bw HB) hb); clear HO_6; clear HO_8; clear HO397; clear BK370; clear HB; have HO_6 := n0_; have HO_8 := n1_; have HO397 := n2_; have HO400 := n3_; have BK370 := n4_; have HB := n5_; clear n0_ n1_ n2_ n3_ n4_ n5_; (try clear hb); (try clear hb2); (try clear hk); (try clear hi); (try clear ho0); obtain ⟨Ao60, co60, eo60⟩ := Kd.R_slice HO400.out; subst eo60) | ((with_reducible refine gate_callee (f := 18) rfl ?_); refine goesL_ (some 64) rfl rfl Try.func18 (by kernel_rfl) rfl #[.slice Ao60 t398.length co60, .slice Ao34 t375.length co34] rfl gl ?_; (with_reducible refine (laws_eqInt64S.calls kj17 _ _ t398 _ _ t375 true _ ?side1 ?side2 ?side3 ?side4 A51.out).mono ?_); (case side1 => exact cc (Kd.R_reads' HO400.out).2.2); (case side2 => exact (Kd.R_reads' HO400.out).2.1); (case side3 => exact cc (Kd.R_reads' HO_6.out).2.2); (case side4 => exact (Kd.R_reads' HO_6.out).2.1); rintro e w' ⟨rfl, ⟨nd, rfl⟩⟩; refine ⟨_, rfl, ?_⟩) | ((with_reducible refine gate_callee (f := 22) rfl ?_); refine goesL_ (some 68) rfl rfl Try.func22 (by kernel_rfl) rfl #[.slice Ao33 t393.length co33, .int .i64 1] rfl (by (try simp only [List.map_toArray, List.map_cons, List.map_nil]); first | done | (rw [show t393.length = t382.length from (Kd.R_reads' HO_8.out).1.symm] <;> rfl) | rfl | (simp only [List.length_drop, List.length_take]; rfl)) ?_; (with_reducible refine (laws_heldInt64S.calls kj17 _ _ t393 1 t402 _ ?side1 ?side2 A53.out).mono ?_); (case side1 => exact cc (Kd.R_reads' HO_8.out).2.2); (case side2 => rw [show t393.length = t382.length from (Kd.R_reads' HO_8.out).1.symm]; exact (Kd.R_reads' HO_8.out).2.1); rintro e w' ⟨rfl, ⟨nd, rfl⟩⟩; refine ⟨_, rfl, ?_⟩))
           go_ret
           exact ⟨er, bw HB⟩
          ·rw [if_neg c54] at H
           have c54b0 : decide (t402 < 0) = false := decide_eq_false c54
           clear c54
           by_cases c61 : t402 = t392
           ·rw [if_pos c61] at H
            have c61b0 : (t402 == t392) = true := beq_iff_eq.mpr c61
            have c61b1 : (t402 != t392) = false := bne_eq_false_iff_eq.mpr c61
            clear c61
            obtain rfl := Option.some.inj H
            go_wp2_with (first | ((with_reducible refine gate_callee (f := 21) rfl ?_); refine goesL_ (some 49) rfl rfl Try.func21 (by kernel_rfl) rfl #[.slice Ao33 t382.length co33, .int .i64 1] rfl gl ?_; (with_reducible refine (laws_markInt64S.calls kj17 (fun k_ => some k_ = (.slice Ao33 t382.length co33 : Value).ownBlock) (.slice Ao33 t382.length co33) t382 1 t392 t393 w _ ?side1 ?side2 A44.out).mono ?_); (case side1 => repeat (first | (with_reducible first | exact HB.out | apply below_alloc | apply pw_below_drewN | apply below_drew1 | refine below_set ?_ GE370.out) | exact HB.out)); (case side2 => exact Kd.R_tight rfl HO_8.out); rintro e w62 ⟨rfl, hy0, hb, hkp⟩; refine ⟨_, rfl, ?_⟩; have n0_ := am (Kd.R_mono (ok' := fun k_ => some k_ ≠ (.slice Ao33 t382.length co33 : Value).ownBlock) (Kd.R_keptB (HO_6.out) hkp (fun k_ hk_ hs_ => (hk_) hs_)) (fun k_ hk_ => hk_.1)); have n1_ := am (Kd.R_reok rfl hy0 (fun k_ e_ => HO_8.out.1 k_ e_)); have n2_ := am (blk_kept (bp BK370) hkp (fun hs_ => (fun e_ => (Kd.R_ne HO_8.out BK370.out (by decide)) e_) hs_)); have n3_ := am (hb); clear HO_6; clear HO_8; clear BK370; clear HB; have HO_6 := n0_; have HO_8 := n1_; have BK370 := n2_; have HB := n3_; clear n0_ n1_ n2_ n3_; (try clear hb); (try clear hkp); (try clear hy0)) | ((with_reducible refine gate_callee (f := 22) rfl ?_); refine goesL_ (some 52) rfl rfl Try.func22 (by kernel_rfl) rfl #[.slice Ao33 t393.length co33, .int .i64 1] rfl (by (try simp only [List.map_toArray, List.map_cons, List.map_nil]); first | done | (rw [show t393.length = t382.length from (Kd.R_reads' HO_8.out).1.symm] <;> rfl) | rfl | (simp only [List.length_drop, List.length_take]; rfl)) ?_; (with_reducible refine (laws_heldInt64S.calls kj17 _ _ t393 1 t394 _ ?side1 ?side2 A45.out).mono ?_); (case side1 => exact cc (Kd.R_reads' HO_8.out).2.2); (case side2 => rw [show t393.length = t382.length from (Kd.R_reads' HO_8.out).1.symm]; exact (Kd.R_reads' HO_8.out).2.1); rintro e w' ⟨rfl, ⟨nd, rfl⟩⟩; refine ⟨_, rfl, ?_⟩; have hcz63_0 : w62.cell? ⟨gb370, 0, none⟩ = some (.slice A0_0 l0_0.length c0_0) := (blk_cell BK370.out 0).trans rfl; have hfz63_0 := blk_frozen BK370.out 0) | ((with_reducible refine gate_callee (f := 16) rfl ?_); refine goesL_ (some 59) rfl rfl Try.func16 (by kernel_rfl) rfl #[.agg #[.slice A0_0 l0_0.length c0_0]] rfl gl ?_; (with_reducible refine (laws_toProgram.calls kj17 _ _ l0_0 t395 _ ?side1 ?side2 A49.out).mono ?_); (case side1 => exact cc (Kd.C_below HR0_0.out (bw HB))); (case side2 => exact HC0_0.out); rintro e w64 ⟨v396, rfl, ho0, hb⟩; refine ⟨_, rfl, ?_⟩; have n0_ := am (Kd.R_below (kR HO_6) hb); have n1_ := am (Kd.R_below (kR HO_8) hb); have n2_ := am (Kd.S_lower ho0 (below_size (bw HB))); have n3_ := am (blk_below (g := gb370) (o := .cells #[.slice A0_0 l0_0.length c0_0] 24 (0, 0)) (bp BK370) hb); have n4_ := am (below_step (bw HB) hb); clear HO_6; clear HO_8; clear BK370; clear HB; have HO_6 := n0_; have HO_8 := n1_; have HO397 := n2_; have BK370 := n3_; have HB := n4_; clear n0_ n1_ n2_ n3_ n4_; (try clear hb); (try clear hb2); (try clear hk); (try clear hi); (try clear ho0); obtain ⟨Ao65, co65, eo65⟩ := Kd.S_slice HO397.out; subst eo65) | ((with_reducible refine gate_callee (f := 17) rfl ?_); refine goesL_ (some 61) rfl rfl Try.func17 (by kernel_rfl) rfl #[.agg #[.slice Ao65 t395.length co65], .int .i64 a1] rfl gl ?_; (with_reducible refine (impl_Heights.calls kj17 _ _ t395 a1 t398 _ ?side1 ?side2 A50.out).mono ?_); (case side1 => exact cc (Kd.S_reads' HO397.out).2.2); (case side2 => exact (Kd.S_reads' HO397.out).2.1); rintro e w66 ⟨v399, rfl, ho0, hb⟩; refine ⟨_, rfl, ?_⟩; have n0_ := am (Kd.R_elder' (kR HO_6) (Kd.R_base ho0) hb); have n1_ := am (Kd.R_elder' (kR HO_8) (Kd.R_base ho0) hb); have n2_ := am (Kd.S_below (kS HO397) hb); have n3_ := am (Kd.R_lower (Kd.R_new' (Kd.R_new' ho0 (Kd.R_lt (kR HO_6))) (Kd.R_lt (kR HO_8))) (below_size (bw HB))); have n4_ := am (blk_below (g := gb370) (o := .cells #[.slice A0_0 l0_0.length c0_0] 24 (0, 0)) (bp BK370) hb); have n5_ := am (below_step (bw HB) hb); clear HO_6; clear HO_8; clear HO397; clear BK370; clear HB; have HO_6 := n0_; have HO_8 := n1_; have HO397 := n2_; have HO400 := n3_; have BK370 := n4_; have HB := n5_; clear n0_ n1_ n2_ n3_ n4_ n5_; (try clear hb); (try clear hb2); (try clear hk); (try clear hi); (try clear ho0); obtain ⟨Ao67, co67, eo67⟩ := Kd.R_slice HO400.out; subst eo67) | ((with_reducible refine gate_callee (f := 18) rfl ?_); refine goesL_ (some 64) rfl rfl Try.func18 (by kernel_rfl) rfl #[.slice Ao67 t398.length co67, .slice Ao34 t375.length co34] rfl gl ?_; (with_reducible refine (laws_eqInt64S.calls kj17 _ _ t398 _ _ t375 true _ ?side1 ?side2 ?side3 ?side4 A51.out).mono ?_); (case side1 => exact cc (Kd.R_reads' HO400.out).2.2); (case side2 => exact (Kd.R_reads' HO400.out).2.1); (case side3 => exact cc (Kd.R_reads' HO_6.out).2.2); (case side4 => exact (Kd.R_reads' HO_6.out).2.1); rintro e w' ⟨rfl, ⟨nd, rfl⟩⟩; refine ⟨_, rfl, ?_⟩) | ((with_reducible refine gate_callee (f := 22) rfl ?_); refine goesL_ (some 68) rfl rfl Try.func22 (by kernel_rfl) rfl #[.slice Ao33 t393.length co33, .int .i64 1] rfl (by (try simp only [List.map_toArray, List.map_cons, List.map_nil]); first | done | (rw [show t393.length = t382.length from (Kd.R_reads' HO_8.out).1.symm] <;> rfl) | rfl | (simp only [List.length_drop, List.length_take]; rfl)) ?_; (with_reducible refine (laws_heldInt64S.calls kj17 _ _ t393 1 t402 _ ?side1 ?side2 A53.out).mono ?_); (case side1 => exact cc (Kd.R_reads' HO_8.out).2.2); (case side2 => rw [show t393.length = t382.length from (Kd.R_reads' HO_8.out).1.symm]; exact (Kd.R_reads' HO_8.out).2.1); rintro e w' ⟨rfl, ⟨nd, rfl⟩⟩; refine ⟨_, rfl, ?_⟩))
            go_ret
            exact ⟨er, bw HB⟩
           ·rw [if_neg c61] at H
            have c61b0 : (t402 == t392) = false := beq_eq_false_iff_ne.mpr c61
            have c61b1 : (t402 != t392) = true := bne_iff_ne.mpr c61
            obtain rfl := Option.some.inj H
            go_wp2_with (first | ((with_reducible refine gate_callee (f := 21) rfl ?_); refine goesL_ (some 49) rfl rfl Try.func21 (by kernel_rfl) rfl #[.slice Ao33 t382.length co33, .int .i64 1] rfl gl ?_; (with_reducible refine (laws_markInt64S.calls kj17 (fun k_ => some k_ = (.slice Ao33 t382.length co33 : Value).ownBlock) (.slice Ao33 t382.length co33) t382 1 t392 t393 w _ ?side1 ?side2 A44.out).mono ?_); (case side1 => repeat (first | (with_reducible first | exact HB.out | apply below_alloc | apply pw_below_drewN | apply below_drew1 | refine below_set ?_ GE370.out) | exact HB.out)); (case side2 => exact Kd.R_tight rfl HO_8.out); rintro e w68 ⟨rfl, hy0, hb, hkp⟩; refine ⟨_, rfl, ?_⟩; have n0_ := am (Kd.R_mono (ok' := fun k_ => some k_ ≠ (.slice Ao33 t382.length co33 : Value).ownBlock) (Kd.R_keptB (HO_6.out) hkp (fun k_ hk_ hs_ => (hk_) hs_)) (fun k_ hk_ => hk_.1)); have n1_ := am (Kd.R_reok rfl hy0 (fun k_ e_ => HO_8.out.1 k_ e_)); have n2_ := am (blk_kept (bp BK370) hkp (fun hs_ => (fun e_ => (Kd.R_ne HO_8.out BK370.out (by decide)) e_) hs_)); have n3_ := am (hb); clear HO_6; clear HO_8; clear BK370; clear HB; have HO_6 := n0_; have HO_8 := n1_; have BK370 := n2_; have HB := n3_; clear n0_ n1_ n2_ n3_; (try clear hb); (try clear hkp); (try clear hy0)) | ((with_reducible refine gate_callee (f := 22) rfl ?_); refine goesL_ (some 52) rfl rfl Try.func22 (by kernel_rfl) rfl #[.slice Ao33 t393.length co33, .int .i64 1] rfl (by (try simp only [List.map_toArray, List.map_cons, List.map_nil]); first | done | (rw [show t393.length = t382.length from (Kd.R_reads' HO_8.out).1.symm] <;> rfl) | rfl | (simp only [List.length_drop, List.length_take]; rfl)) ?_; (with_reducible refine (laws_heldInt64S.calls kj17 _ _ t393 1 t394 _ ?side1 ?side2 A45.out).mono ?_); (case side1 => exact cc (Kd.R_reads' HO_8.out).2.2); (case side2 => rw [show t393.length = t382.length from (Kd.R_reads' HO_8.out).1.symm]; exact (Kd.R_reads' HO_8.out).2.1); rintro e w' ⟨rfl, ⟨nd, rfl⟩⟩; refine ⟨_, rfl, ?_⟩; have hcz69_0 : w68.cell? ⟨gb370, 0, none⟩ = some (.slice A0_0 l0_0.length c0_0) := (blk_cell BK370.out 0).trans rfl; have hfz69_0 := blk_frozen BK370.out 0) | ((with_reducible refine gate_callee (f := 16) rfl ?_); refine goesL_ (some 59) rfl rfl Try.func16 (by kernel_rfl) rfl #[.agg #[.slice A0_0 l0_0.length c0_0]] rfl gl ?_; (with_reducible refine (laws_toProgram.calls kj17 _ _ l0_0 t395 _ ?side1 ?side2 A49.out).mono ?_); (case side1 => exact cc (Kd.C_below HR0_0.out (bw HB))); (case side2 => exact HC0_0.out); rintro e w70 ⟨v396, rfl, ho0, hb⟩; refine ⟨_, rfl, ?_⟩; have n0_ := am (Kd.R_below (kR HO_6) hb); have n1_ := am (Kd.R_below (kR HO_8) hb); have n2_ := am (Kd.S_lower ho0 (below_size (bw HB))); have n3_ := am (blk_below (g := gb370) (o := .cells #[.slice A0_0 l0_0.length c0_0] 24 (0, 0)) (bp BK370) hb); have n4_ := am (below_step (bw HB) hb); clear HO_6; clear HO_8; clear BK370; clear HB; have HO_6 := n0_; have HO_8 := n1_; have HO397 := n2_; have BK370 := n3_; have HB := n4_; clear n0_ n1_ n2_ n3_ n4_; (try clear hb); (try clear hb2); (try clear hk); (try clear hi); (try clear ho0); obtain ⟨Ao71, co71, eo71⟩ := Kd.S_slice HO397.out; subst eo71) | ((with_reducible refine gate_callee (f := 17) rfl ?_); refine goesL_ (some 61) rfl rfl Try.func17 (by kernel_rfl) rfl #[.agg #[.slice Ao71 t395.length co71], .int .i64 a1] rfl gl ?_; (with_reducible refine (impl_Heights.calls kj17 _ _ t395 a1 t398 _ ?side1 ?side2 A50.out).mono ?_); (case side1 => exact cc (Kd.S_reads' HO397.out).2.2); (case side2 => exact (Kd.S_reads' HO397.out).2.1); rintro e w72 ⟨v399, rfl, ho0, hb⟩; refine ⟨_, rfl, ?_⟩; have n0_ := am (Kd.R_elder' (kR HO_6) (Kd.R_base ho0) hb); have n1_ := am (Kd.R_elder' (kR HO_8) (Kd.R_base ho0) hb); have n2_ := am (Kd.S_below (kS HO397) hb); have n3_ := am (Kd.R_lower (Kd.R_new' (Kd.R_new' ho0 (Kd.R_lt (kR HO_6))) (Kd.R_lt (kR HO_8))) (below_size (bw HB))); have n4_ := am (blk_below (g := gb370) (o := .cells #[.slice A0_0 l0_0.length c0_0] 24 (0, 0)) (bp BK370) hb); have n5_ := am (below_step (bw HB) hb); clear HO_6; clear HO_8; clear HO397; clear BK370; clear HB; have HO_6 := n0_; have HO_8 := n1_; have HO397 := n2_; have HO400 := n3_; have BK370 := n4_; have HB := n5_; clear n0_ n1_ n2_ n3_ n4_ n5_; (try clear hb); (try clear hb2); (try clear hk); (try clear hi); (try clear ho0); obtain ⟨Ao73, co73, eo73⟩ := Kd.R_slice HO400.out; subst eo73) | ((with_reducible refine gate_callee (f := 18) rfl ?_); refine goesL_ (some 64) rfl rfl Try.func18 (by kernel_rfl) rfl #[.slice Ao73 t398.length co73, .slice Ao34 t375.length co34] rfl gl ?_; (with_reducible refine (laws_eqInt64S.calls kj17 _ _ t398 _ _ t375 true _ ?side1 ?side2 ?side3 ?side4 A51.out).mono ?_); (case side1 => exact cc (Kd.R_reads' HO400.out).2.2); (case side2 => exact (Kd.R_reads' HO400.out).2.1); (case side3 => exact cc (Kd.R_reads' HO_6.out).2.2); (case side4 => exact (Kd.R_reads' HO_6.out).2.1); rintro e w' ⟨rfl, ⟨nd, rfl⟩⟩; refine ⟨_, rfl, ?_⟩) | ((with_reducible refine gate_callee (f := 22) rfl ?_); refine goesL_ (some 68) rfl rfl Try.func22 (by kernel_rfl) rfl #[.slice Ao33 t393.length co33, .int .i64 1] rfl (by (try simp only [List.map_toArray, List.map_cons, List.map_nil]); first | done | (rw [show t393.length = t382.length from (Kd.R_reads' HO_8.out).1.symm] <;> rfl) | rfl | (simp only [List.length_drop, List.length_take]; rfl)) ?_; (with_reducible refine (laws_heldInt64S.calls kj17 _ _ t393 1 t402 _ ?side1 ?side2 A53.out).mono ?_); (case side1 => exact cc (Kd.R_reads' HO_8.out).2.2); (case side2 => rw [show t393.length = t382.length from (Kd.R_reads' HO_8.out).1.symm]; exact (Kd.R_reads' HO_8.out).2.1); rintro e w' ⟨rfl, ⟨nd, rfl⟩⟩; refine ⟨_, rfl, ?_⟩))
            go_ret
            exact ⟨er, bw HB⟩
         ·replace c52 := Bool.eq_false_iff.mpr c52
          subst c52
          have H1 : (some false) = some r := by rw [if_neg (show ¬ (false = true) by decide)] at H; exact H
          clear H
          have H := H1
          clear H1
          obtain rfl := Option.some.inj H
          go_wp2_with (first | ((with_reducible refine gate_callee (f := 21) rfl ?_); refine goesL_ (some 49) rfl rfl Try.func21 (by kernel_rfl) rfl #[.slice Ao33 t382.length co33, .int .i64 1] rfl gl ?_; (with_reducible refine (laws_markInt64S.calls kj17 (fun k_ => some k_ = (.slice Ao33 t382.length co33 : Value).ownBlock) (.slice Ao33 t382.length co33) t382 1 t392 t393 w _ ?side1 ?side2 A44.out).mono ?_); (case side1 => repeat (first | (with_reducible first | exact HB.out | apply below_alloc | apply pw_below_drewN | apply below_drew1 | refine below_set ?_ GE370.out) | exact HB.out)); (case side2 => exact Kd.R_tight rfl HO_8.out); rintro e w74 ⟨rfl, hy0, hb, hkp⟩; refine ⟨_, rfl, ?_⟩; have n0_ := am (Kd.R_mono (ok' := fun k_ => some k_ ≠ (.slice Ao33 t382.length co33 : Value).ownBlock) (Kd.R_keptB (HO_6.out) hkp (fun k_ hk_ hs_ => (hk_) hs_)) (fun k_ hk_ => hk_.1)); have n1_ := am (Kd.R_reok rfl hy0 (fun k_ e_ => HO_8.out.1 k_ e_)); have n2_ := am (blk_kept (bp BK370) hkp (fun hs_ => (fun e_ => (Kd.R_ne HO_8.out BK370.out (by decide)) e_) hs_)); have n3_ := am (hb); clear HO_6; clear HO_8; clear BK370; clear HB; have HO_6 := n0_; have HO_8 := n1_; have BK370 := n2_; have HB := n3_; clear n0_ n1_ n2_ n3_; (try clear hb); (try clear hkp); (try clear hy0)) | ((with_reducible refine gate_callee (f := 22) rfl ?_); refine goesL_ (some 52) rfl rfl Try.func22 (by kernel_rfl) rfl #[.slice Ao33 t393.length co33, .int .i64 1] rfl (by (try simp only [List.map_toArray, List.map_cons, List.map_nil]); first | done | (rw [show t393.length = t382.length from (Kd.R_reads' HO_8.out).1.symm] <;> rfl) | rfl | (simp only [List.length_drop, List.length_take]; rfl)) ?_; (with_reducible refine (laws_heldInt64S.calls kj17 _ _ t393 1 t394 _ ?side1 ?side2 A45.out).mono ?_); (case side1 => exact cc (Kd.R_reads' HO_8.out).2.2); (case side2 => rw [show t393.length = t382.length from (Kd.R_reads' HO_8.out).1.symm]; exact (Kd.R_reads' HO_8.out).2.1); rintro e w' ⟨rfl, ⟨nd, rfl⟩⟩; refine ⟨_, rfl, ?_⟩; have hcz75_0 : w74.cell? ⟨gb370, 0, none⟩ = some (.slice A0_0 l0_0.length c0_0) := (blk_cell BK370.out 0).trans rfl; have hfz75_0 := blk_frozen BK370.out 0) | ((with_reducible refine gate_callee (f := 16) rfl ?_); refine goesL_ (some 59) rfl rfl Try.func16 (by kernel_rfl) rfl #[.agg #[.slice A0_0 l0_0.length c0_0]] rfl gl ?_; (with_reducible refine (laws_toProgram.calls kj17 _ _ l0_0 t395 _ ?side1 ?side2 A49.out).mono ?_); (case side1 => exact cc (Kd.C_below HR0_0.out (bw HB))); (case side2 => exact HC0_0.out); rintro e w76 ⟨v396, rfl, ho0, hb⟩; refine ⟨_, rfl, ?_⟩; have n0_ := am (Kd.R_below (kR HO_6) hb); have n1_ := am (Kd.R_below (kR HO_8) hb); have n2_ := am (Kd.S_lower ho0 (below_size (bw HB))); have n3_ := am (blk_below (g := gb370) (o := .cells #[.slice A0_0 l0_0.length c0_0] 24 (0, 0)) (bp BK370) hb); have n4_ := am (below_step (bw HB) hb); clear HO_6; clear HO_8; clear BK370; clear HB; have HO_6 := n0_; have HO_8 := n1_; have HO397 := n2_; have BK370 := n3_; have HB := n4_; clear n0_ n1_ n2_ n3_ n4_; (try clear hb); (try clear hb2); (try clear hk); (try clear hi); (try clear ho0); obtain ⟨Ao77, co77, eo77⟩ := Kd.S_slice HO397.out; subst eo77) | ((with_reducible refine gate_callee (f := 17) rfl ?_); refine goesL_ (some 61) rfl rfl Try.func17 (by kernel_rfl) rfl #[.agg #[.slice Ao77 t395.length co77], .int .i64 a1] rfl gl ?_; (with_reducible refine (impl_Heights.calls kj17 _ _ t395 a1 t398 _ ?side1 ?side2 A50.out).mono ?_); (case side1 => exact cc (Kd.S_reads' HO397.out).2.2); (case side2 => exact (Kd.S_reads' HO397.out).2.1); rintro e w78 ⟨v399, rfl, ho0, hb⟩; refine ⟨_, rfl, ?_⟩; have n0_ := am (Kd.R_elder' (kR HO_6) (Kd.R_base ho0) hb); have n1_ := am (Kd.R_elder' (kR HO_8) (Kd.R_base ho0) hb); have n2_ := am (Kd.S_below (kS HO397) hb); have n3_ := am (Kd.R_lower (Kd.R_new' (Kd.R_new' ho0 (Kd.R_lt (kR HO_6))) (Kd.R_lt (kR HO_8))) (below_size (bw HB))); have n4_ := am (blk_below (g := gb370) (o := .cells #[.slice A0_0 l0_0.length c0_0] 24 (0, 0)) (bp BK370) hb); have n5_ := am (below_step (bw HB) hb); clear HO_6; clear HO_8; clear HO397; clear BK370; clear HB; have HO_6 := n0_; have HO_8 := n1_; have HO397 := n2_; have HO400 := n3_; have BK370 := n4_; have HB := n5_; clear n0_ n1_ n2_ n3_ n4_ n5_; (try clear hb); (try clear hb2); (try clear hk); (try clear hi); (try clear ho0); obtain ⟨Ao79, co79, eo79⟩ := Kd.R_slice HO400.out; subst eo79) | ((with_reducible refine gate_callee (f := 18) rfl ?_); refine goesL_ (some 64) rfl rfl Try.func18 (by kernel_rfl) rfl #[.slice Ao79 t398.length co79, .slice Ao34 t375.length co34] rfl gl ?_; (with_reducible refine (laws_eqInt64S.calls kj17 _ _ t398 _ _ t375 false _ ?side1 ?side2 ?side3 ?side4 A51.out).mono ?_); (case side1 => exact cc (Kd.R_reads' HO400.out).2.2); (case side2 => exact (Kd.R_reads' HO400.out).2.1); (case side3 => exact cc (Kd.R_reads' HO_6.out).2.2); (case side4 => exact (Kd.R_reads' HO_6.out).2.1); rintro e w' ⟨rfl, ⟨nd, rfl⟩⟩; refine ⟨_, rfl, ?_⟩))
          go_ret
          exact ⟨er, bw HB⟩
        ·rw [if_neg c48] at H
         have c48b0 : (t394 == t392) = false := beq_eq_false_iff_ne.mpr c48
         have c48b1 : (t394 != t392) = true := bne_iff_ne.mpr c48
         obtain rfl := Option.some.inj H
         go_wp2_with (first | ((with_reducible refine gate_callee (f := 21) rfl ?_); refine goesL_ (some 49) rfl rfl Try.func21 (by kernel_rfl) rfl #[.slice Ao33 t382.length co33, .int .i64 1] rfl gl ?_; (with_reducible refine (laws_markInt64S.calls kj17 (fun k_ => some k_ = (.slice Ao33 t382.length co33 : Value).ownBlock) (.slice Ao33 t382.length co33) t382 1 t392 t393 w _ ?side1 ?side2 A44.out).mono ?_); (case side1 => repeat (first | (with_reducible first | exact HB.out | apply below_alloc | apply pw_below_drewN | apply below_drew1 | refine below_set ?_ GE370.out) | exact HB.out)); (case side2 => exact Kd.R_tight rfl HO_8.out); rintro e w80 ⟨rfl, hy0, hb, hkp⟩; refine ⟨_, rfl, ?_⟩; have n0_ := am (Kd.R_mono (ok' := fun k_ => some k_ ≠ (.slice Ao33 t382.length co33 : Value).ownBlock) (Kd.R_keptB (HO_6.out) hkp (fun k_ hk_ hs_ => (hk_) hs_)) (fun k_ hk_ => hk_.1)); have n1_ := am (Kd.R_reok rfl hy0 (fun k_ e_ => HO_8.out.1 k_ e_)); have n2_ := am (blk_kept (bp BK370) hkp (fun hs_ => (fun e_ => (Kd.R_ne HO_8.out BK370.out (by decide)) e_) hs_)); have n3_ := am (hb); clear HO_6; clear HO_8; clear BK370; clear HB; have HO_6 := n0_; have HO_8 := n1_; have BK370 := n2_; have HB := n3_; clear n0_ n1_ n2_ n3_; (try clear hb); (try clear hkp); (try clear hy0)) | ((with_reducible refine gate_callee (f := 22) rfl ?_); refine goesL_ (some 52) rfl rfl Try.func22 (by kernel_rfl) rfl #[.slice Ao33 t393.length co33, .int .i64 1] rfl (by (try simp only [List.map_toArray, List.map_cons, List.map_nil]); first | done | (rw [show t393.length = t382.length from (Kd.R_reads' HO_8.out).1.symm] <;> rfl) | rfl | (simp only [List.length_drop, List.length_take]; rfl)) ?_; (with_reducible refine (laws_heldInt64S.calls kj17 _ _ t393 1 t394 _ ?side1 ?side2 A45.out).mono ?_); (case side1 => exact cc (Kd.R_reads' HO_8.out).2.2); (case side2 => rw [show t393.length = t382.length from (Kd.R_reads' HO_8.out).1.symm]; exact (Kd.R_reads' HO_8.out).2.1); rintro e w' ⟨rfl, ⟨nd, rfl⟩⟩; refine ⟨_, rfl, ?_⟩))
         go_ret
         exact ⟨er, bw HB⟩
   ·replace c16 := Bool.eq_false_iff.mpr c16
    subst c16
    have H1 : (some false) = some r := by rw [if_neg (show ¬ (false = true) by decide)] at H; exact H
    clear H
    have H := H1
    clear H1
    obtain rfl := Option.some.inj H
    go_enter Try.func3, Try.ntmps3
    try go_wp2_with (first | ((with_reducible refine gate_dst (N := 2) rfl ?_); refine box_event ?hg (N := 2) ?hd (cs := #[.slice A0_0 l0_0.length c0_0]) (t := 24) ?hr ?_; (case hd => rfl); (case hg => rfl); (case hr => exact gs); intro gb370 hg w81 hbox hb; have n0_ := am (below_step (bw HB) hb); have n1_ := am (hbox); have n2_ := am ((by rw [hg]; exact (below_size (bw HB)) : w.heap.size ≤ gb370)); have n3_ := am ((by rw [hg]; exact (below_size (bw HB)) : w.heap.size ≤ gb370)); clear HB; have HB := n0_; have BK370 := n1_; have GW370 := n2_; have GE370 := n3_; clear n0_ n1_ n2_ n3_; clear hb hbox hg; have hcz82_0 : w81.cell? ⟨gb370, 0, none⟩ = some (.slice A0_0 l0_0.length c0_0) := (blk_cell BK370.out 0).trans rfl; have hfz82_0 := blk_frozen BK370.out 0) | ((with_reducible refine gate_callee (f := 14) rfl ?_); refine goesL_ (some 15) rfl rfl Try.func14 (by kernel_rfl) rfl #[.agg #[.slice A0_0 l0_0.length c0_0], .int .i64 1048576] rfl gl ?_; (with_reducible refine (laws_szProgram.calls k _ _ l0_0 1048576 t371 _ ?side1 ?side2 A3.out).mono ?_); (case side1 => exact cc (Kd.C_below HR0_0.out HB.out)); (case side2 => exact HC0_0.out); rintro e w83 ⟨rfl, hb⟩; refine ⟨_, rfl, ?_⟩; have n0_ := am (blk_below (g := gb370) (o := .cells #[.slice A0_0 l0_0.length c0_0] 24 (0, 0)) (bp BK370) hb); have n1_ := am (below_step (bw HB) hb); clear BK370; clear HB; have BK370 := n0_; have HB := n1_; clear n0_ n1_; (try clear hb); (try clear hb2); (try clear hk); (try clear hi); have hcz84_0 : w83.cell? ⟨gb370, 0, none⟩ = some (.slice A0_0 l0_0.length c0_0) := (blk_cell BK370.out 0).trans rfl; have hfz84_0 := blk_frozen BK370.out 0) | ((with_reducible refine gate_callee (f := 16) rfl ?_); refine goesL_ (some 19) rfl rfl Try.func16 (by kernel_rfl) rfl #[.agg #[.slice A0_0 l0_0.length c0_0]] rfl gl ?_; (with_reducible refine (laws_toProgram.calls k _ _ l0_0 t372 _ ?side1 ?side2 A8.out).mono ?_); (case side1 => exact cc (Kd.C_below HR0_0.out HB.out)); (case side2 => exact HC0_0.out); rintro e w85 ⟨v373, rfl, ho0, hb⟩; refine ⟨_, rfl, ?_⟩; have n0_ := am (Kd.S_lower ho0 (below_size (bw HB))); have n1_ := am (blk_below (g := gb370) (o := .cells #[.slice A0_0 l0_0.length c0_0] 24 (0, 0)) (bp BK370) hb); have n2_ := am (below_step (bw HB) hb); clear BK370; clear HB; have HO374 := n0_; have BK370 := n1_; have HB := n2_; clear n0_ n1_ n2_; (try clear hb); (try clear hb2); (try clear hk); (try clear hi); (try clear ho0); obtain ⟨Ao86, co86, eo86⟩ := Kd.S_slice HO374.out; subst eo86) | ((with_reducible refine gate_callee (f := 15) rfl ?_); refine goesL_ (some 21) rfl rfl Try.func15 (by kernel_rfl) rfl #[.agg #[.slice Ao86 t372.length co86], .int .i64 a1] rfl gl ?_; (with_reducible refine (spec_Heights.calls k _ _ t372 a1 t375 _ ?side1 ?side2 A9.out).mono ?_); (case side1 => exact cc (Kd.S_reads' HO374.out).2.2); (case side2 => exact (Kd.S_reads' HO374.out).2.1); rintro e w87 ⟨v376, rfl, ho0, hb⟩; refine ⟨_, rfl, ?_⟩; have n0_ := am (Kd.S_below (kS HO374) hb); have n1_ := am (Kd.R_lower ho0 (below_size (bw HB))); have n2_ := am (blk_below (g := gb370) (o := .cells #[.slice A0_0 l0_0.length c0_0] 24 (0, 0)) (bp BK370) hb); have n3_ := am (below_step (bw HB) hb); clear HO374; clear BK370; clear HB; have HO374 := n0_; have HO377 := n1_; have BK370 := n2_; have HB := n3_; clear n0_ n1_ n2_ n3_; (try clear hb); (try clear hb2); (try clear hk); (try clear hi); (try clear ho0); have hcz88_0 : w87.cell? ⟨gb370, 0, none⟩ = some (.slice A0_0 l0_0.length c0_0) := (blk_cell BK370.out 0).trans rfl; have hfz88_0 := blk_frozen BK370.out 0) | ((with_reducible refine gate_callee (f := 16) rfl ?_); refine goesL_ (some 23) rfl rfl Try.func16 (by kernel_rfl) rfl #[.agg #[.slice A0_0 l0_0.length c0_0]] rfl gl ?_; (with_reducible refine (laws_toProgram.calls k _ _ l0_0 t378 _ ?side1 ?side2 A10.out).mono ?_); (case side1 => exact cc (Kd.C_below HR0_0.out HB.out)); (case side2 => exact HC0_0.out); rintro e w89 ⟨v379, rfl, ho0, hb⟩; refine ⟨_, rfl, ?_⟩; have n0_ := am (Kd.S_elder' (kS HO374) (Kd.S_base ho0) hb); have n1_ := am (Kd.R_below (kR HO377) hb); have n2_ := am (Kd.S_lower (Kd.S_new' ho0 (Kd.S_lt (kS HO374))) (below_size (bw HB))); have n3_ := am (blk_below (g := gb370) (o := .cells #[.slice A0_0 l0_0.length c0_0] 24 (0, 0)) (bp BK370) hb); have n4_ := am (below_step (bw HB) hb); clear HO374; clear HO377; clear BK370; clear HB; have HO374 := n0_; have HO377 := n1_; have HO380 := n2_; have BK370 := n3_; have HB := n4_; clear n0_ n1_ n2_ n3_ n4_; (try clear hb); (try clear hb2); (try clear hk); (try clear hi); (try clear ho0)) | ((with_reducible refine gate_dst (N := 7) rfl ?_); refine box_event ?hg (N := 7) ?hd (cs := #[.slice none 0 0]) (t := 30) ?hr ?_; (case hd => rfl); (case hg => rfl); (case hr => exact gs); intro gb381 hg w90 hbox hb; have n0_ := am (Kd.S_below (kS HO374) hb); have n1_ := am (Kd.R_below (kR HO377) hb); have n2_ := am (Kd.S_below (kS HO380) hb); have n3_ := am (blk_below (g := gb370) (o := .cells #[.slice A0_0 l0_0.length c0_0] 24 (0, 0)) (bp BK370) hb); have n4_ := am (below_step (bw HB) hb); have n5_ := am (hbox); have n6_ := am ((by rw [hg]; exact (below_size (bw HB)) : w.heap.size ≤ gb381)); have n7_ := am ((by rw [hg]; exact (below_size (bw HB)) : w.heap.size ≤ gb381)); have n8_ := am ((by rw [hg]; exact Nat.ne_of_lt (blk_lt (g := gb370) (o := .cells #[.slice A0_0 l0_0.length c0_0] 24 (0, 0)) (bp BK370)) : gb370 ≠ gb381)); have n9_ := am ((by rw [hg]; exact Nat.ne_of_gt (blk_lt (g := gb370) (o := .cells #[.slice A0_0 l0_0.length c0_0] 24 (0, 0)) (bp BK370)) : gb381 ≠ gb370)); clear HO374; clear HO377; clear HO380; clear BK370; clear HB; have HO374 := n0_; have HO377 := n1_; have HO380 := n2_; have BK370 := n3_; have HB := n4_; have BK381 := n5_; have GW381 := n6_; have GE381 := n7_; have NB370_381 := n8_; have NB381_370 := n9_; clear n0_ n1_ n2_ n3_ n4_ n5_ n6_ n7_ n8_ n9_; clear hb hbox hg; obtain ⟨Ao91, co91, eo91⟩ := Kd.S_slice HO380.out; subst eo91; have hnb92 := NB381_370.out; have hnc92 := NB370_381.out; have hcz93_0 : w90.cell? ⟨gb381, 0, none⟩ = some (.slice none 0 0) := (blk_cell BK381.out 0).trans rfl; have hfz93_0 := blk_frozen BK381.out 0) | ((with_reducible refine gate_callee (f := 17) rfl ?_); refine goesL_ (some 26) rfl rfl Try.func17 (by kernel_rfl) rfl #[.agg #[.slice Ao91 t378.length co91], .int .i64 a1] rfl gl ?_; (with_reducible refine (impl_Heights.calls k _ _ t378 a1 t382 _ ?side1 ?side2 A11.out).mono ?_); (case side1 => refine (Kd.S_reads' (e := 100) (base := w.heap.size) (ok := fun k_ => (True ∧ some k_ ≠ (.slice Ao86 t372.length co86 : Value).ownBlock)) (n := t378.length) (c := co91) ?_).2.2; exact (by (with_reducible repeat (first | apply Kd.S_alloc | apply Kd.S_drewN | apply Kd.S_drew)); exact (Kd.S_mono (Kd.S_far (p := ⟨gb381, 0, none⟩) (Kd.S_types HO380.out BK381.out (by decide)) (fun _ hk => hk.2) (.slice Ao91 t378.length co91)) (fun _ h_ => h_.1)))); (case side2 => exact (Kd.S_reads' HO380.out).2.1); rintro e w94 ⟨v383, rfl, ho0, hb⟩; refine ⟨_, rfl, ?_⟩; have n0_ := am (Kd.S_below (by (with_reducible repeat (first | apply Kd.S_alloc | apply Kd.S_drewN | apply Kd.S_drew)); exact (Kd.S_mono (Kd.S_far (p := ⟨gb381, 0, none⟩) (Kd.S_types HO374.out BK381.out (by decide)) (fun _ hk => hk.2) (.slice Ao91 t378.length co91)) (fun _ h_ => h_.1))) hb); have n1_ := am (Kd.R_elder' (by (with_reducible repeat (first | apply Kd.R_alloc | apply Kd.R_drewN | apply Kd.R_drew)); exact (Kd.R_mono (Kd.R_far (p := ⟨gb381, 0, none⟩) (Kd.R_types HO377.out BK381.out (by decide)) (fun _ hk => hk.2) (.slice Ao91 t378.length co91)) (fun _ h_ => h_.1))) (Kd.R_base ho0) hb); have n2_ := am (Kd.S_below (by (with_reducible repeat (first | apply Kd.S_alloc | apply Kd.S_drewN | apply Kd.S_drew)); exact (Kd.S_mono (Kd.S_far (p := ⟨gb381, 0, none⟩) (Kd.S_types HO380.out BK381.out (by decide)) (fun _ hk => hk.2) (.slice Ao91 t378.length co91)) (fun _ h_ => h_.1))) hb); have n3_ := am (Kd.R_lower (Kd.R_new' ho0 (Kd.R_lt (by (with_reducible repeat (first | apply Kd.R_alloc | apply Kd.R_drewN | apply Kd.R_drew)); exact (Kd.R_mono (Kd.R_far (p := ⟨gb381, 0, none⟩) (Kd.R_types HO377.out BK381.out (by decide)) (fun _ hk => hk.2) (.slice Ao91 t378.length co91)) (fun _ h_ => h_.1))))) (below_size (bw HB))); have n4_ := am (blk_below (g := gb370) (o := .cells #[.slice A0_0 l0_0.length c0_0] 24 (0, 0)) (by (with_reducible repeat (first | apply dN | apply dW | apply dA)); refine blk_far ?_ NB370_381.out _; exact bp BK370) hb); have n5_ := am (blk_below (g := gb381) (o := .cells #[.slice Ao91 t378.length co91] 30 (0, 0)) (by (with_reducible repeat (first | apply dN | apply dW | apply dA)); refine blk_put (cs := #[.slice none 0 0]) ?_ 0 _ rfl; exact bp BK381) hb); have n6_ := am (below_step (bw HB) hb); clear HO374; clear HO377; clear HO380; clear BK370; clear BK381; clear HB; have HO374 := n0_; have HO377 := n1_; have HO380 := n2_; have HO384 := n3_; have BK370 := n4_; have BK381 := n5_; have HB := n6_; clear n0_ n1_ n2_ n3_ n4_ n5_ n6_; (try clear hb); (try clear hb2); (try clear hk); (try clear hi); (try clear ho0); obtain ⟨Ao95, co95, eo95⟩ := Kd.R_slice HO384.out; subst eo95; obtain ⟨Ao96, co96, eo96⟩ := Kd.R_slice HO377.out; subst eo96) | ((with_reducible refine gate_callee (f := 18) rfl ?_); refine goesL_ (some 29) rfl rfl Try.func18 (by kernel_rfl) rfl #[.slice Ao95 t382.length co95, .slice Ao96 t375.length co96] rfl gl ?_; (with_reducible refine (laws_eqInt64S.calls k _ _ t382 _ _ t375 true _ ?side1 ?side2 ?side3 ?side4 A12.out).mono ?_); (case side1 => exact cc (Kd.R_reads' HO384.out).2.2); (case side2 => exact (Kd.R_reads' HO384.out).2.1); (case side3 => exact cc (Kd.R_reads' HO377.out).2.2); (case side4 => exact (Kd.R_reads' HO377.out).2.1); rintro e w' ⟨rfl, ⟨nd, rfl⟩⟩; refine ⟨_, rfl, ?_⟩))
    (try (rw [drewN_self w94]; generalize hq_ : World.drewN w94 _ = w94; have n0_ : Aside0 (Kd.S k100 100 w94 w.heap.size (fun k_ => some k_ ≠ (.slice Ao91 t378.length co91 : Value).ownBlock) (.slice Ao86 t372.length co86) t372) := ⟨by rw [← hq_]; exact (by (with_reducible repeat (first | apply Kd.S_alloc | apply Kd.S_drewN | apply Kd.S_drew)); exact Kd.S_mono HO374.out (fun _ hk => hk.2))⟩; have n1_ : Aside0 (Kd.R (Kd.int .i64) 2 w94 w.heap.size (fun k_ => some k_ ≠ (.slice Ao95 t382.length co95 : Value).ownBlock) (.slice Ao96 t375.length co96) t375) := ⟨by rw [← hq_]; exact (by (with_reducible repeat (first | apply Kd.R_alloc | apply Kd.R_drewN | apply Kd.R_drew)); exact Kd.R_mono HO377.out (fun _ hk => hk.2))⟩; have n2_ : Aside0 (Kd.S k100 100 w94 w.heap.size (fun k_ => some k_ ≠ (.slice Ao86 t372.length co86 : Value).ownBlock) (.slice Ao91 t378.length co91) t378) := ⟨by rw [← hq_]; exact (by (with_reducible repeat (first | apply Kd.S_alloc | apply Kd.S_drewN | apply Kd.S_drew)); exact Kd.S_mono HO380.out (fun _ hk => hk.2))⟩; have n3_ : Aside0 (Kd.R (Kd.int .i64) 2 w94 w.heap.size (fun k_ => some k_ ≠ (.slice Ao96 t375.length co96 : Value).ownBlock) (.slice Ao95 t382.length co95) t382) := ⟨by rw [← hq_]; exact (by (with_reducible repeat (first | apply Kd.R_alloc | apply Kd.R_drewN | apply Kd.R_drew)); exact Kd.R_mono HO384.out (fun _ hk => hk.2))⟩; have n4_ : Aside0 (w94.heap[gb370]? = some (.cells #[.slice A0_0 l0_0.length c0_0] 24 (0, 0))) := ⟨by rw [← hq_]; exact (bp BK370)⟩; have n5_ : Aside0 (w94.heap[gb381]? = some (.cells #[.slice Ao91 t378.length co91] 30 (0, 0))) := ⟨by rw [← hq_]; exact (bp BK381)⟩; have n6_ : Aside0 (Below w.heap.size w w94) := ⟨by rw [← hq_]; exact (bw HB)⟩; clear HO374 HO377 HO380 HO384 BK370 BK381 HB hq_; have HO374 := n0_; have HO377 := n1_; have HO380 := n2_; have HO384 := n3_; have BK370 := n4_; have BK381 := n5_; have HB := n6_; clear n0_ n1_ n2_ n3_ n4_ n5_ n6_))
    have n0_ := am (Kd.S_drew HO374.out)
    have n1_ := am (Kd.R_drew HO377.out)
    have n2_ := am (Kd.S_drew HO380.out)
    have n3_ := am (Kd.R_drew HO384.out)
    have n4_ := am (blk_drew BK370.out)
    have n5_ := am (blk_drew BK381.out)
    have n6_ := am (below_drew1 HB.out)
    clear HO374
    clear HO377
    clear HO380
    clear HO384
    clear BK370
    clear BK381
    clear HB
    have HO374 := n0_
    have HO377 := n1_
    have HO380 := n2_
    have HO384 := n3_
    have BK370 := n4_
    have BK381 := n5_
    have HB := n6_
    clear n0_ n1_ n2_ n3_ n4_ n5_ n6_
    refine start_ (n := 5) (S := fun w' => w'.cell? ⟨gb381, 0, none⟩ = some (.slice Ao91 t378.length co91) ∧ w'.cell? ⟨gb370, 0, none⟩ = some (.slice A0_0 l0_0.length c0_0)) (ds := []) #[false, false, false, false, false] (by kernel_rfl) rfl rfl ⟨(blk_cell BK381.out 0).trans rfl, (blk_cell BK370.out 0).trans rfl⟩ (fun hHeld => ?_)
    generalize w94.drew = w97 at HO374 HO377 HO380 HO384 BK370 BK381 HB hHeld ⊢
    refine take_ (i := 0) (N := some 31) (v := ?_) (a' := ?_) #[true, false, false, false, false] rfl rfl (by kernel_rfl) (fun _ _ _ h => h) (Or.inl ⟨by rfl, ?_⟩) hHeld ?_ ?_
    rotate_left
    ·rintro w' ⟨s0, s1⟩
     go_simp
     with_reducible rfl
    rotate_left
    ·simp only [Act.put, sa, sz, ss, i64_w, i32_w]
     rfl
    refine take_ (i := 1) (N := some 32) (v := ?_) (a' := ?_) #[true, true, false, false, false] rfl rfl (by kernel_rfl) (fun _ _ _ h => h) (Or.inl ⟨by rfl, ?_⟩) hHeld ?_ ?_
    rotate_left
    ·rintro w' ⟨s0, s1⟩
     go_simp
     with_reducible rfl
    rotate_left
    ·simp only [Act.put, sa, sz, ss, i64_w, i32_w]
     rfl
    refine one_ (i := 2) (N := some 33) #[true, true, true, false, false] rfl rfl (by kernel_rfl) (by decide) (fun K hK => ?_)
    refine goes_ Try.func16 (by kernel_rfl) rfl #[.agg #[.slice A0_0 l0_0.length c0_0]] (by rfl) rfl rfl gl ?_
    with_reducible refine (laws_toProgram.calls k _ _ l0_0 t386 _ ?side1 ?side2 A14.out).mono ?_
    (case side1 => exact cc (Kd.C_below HR0_0.out HB.out))
    (case side2 => exact HC0_0.out)
    rintro e w98 ⟨v387, rfl, ho0, hb⟩
    refine ⟨_, rfl, ?_⟩
    have n0_ := am (Kd.S_elder' (kS HO374) (Kd.S_base ho0) hb)
    have n1_ := am (Kd.R_below (kR HO377) hb)
    have n2_ := am (Kd.S_elder' (kS HO380) (Kd.S_base ho0) hb)
    have n3_ := am (Kd.R_below (kR HO384) hb)
    have n4_ := am (Kd.S_lower (Kd.S_new' (Kd.S_new' ho0 (Kd.S_lt (kS HO374))) (Kd.S_lt (kS HO380))) (below_size (bw HB)))
    have n5_ := am (blk_below (g := gb370) (o := .cells #[.slice A0_0 l0_0.length c0_0] 24 (0, 0)) (bp BK370) hb)
    have n6_ := am (blk_below (g := gb381) (o := .cells #[.slice Ao91 t378.length co91] 30 (0, 0)) (bp BK381) hb)
    have n7_ := am (below_step (bw HB) hb)
    clear HO374
    clear HO377
    clear HO380
    clear HO384
    clear BK370
    clear BK381
    clear HB
    have HO374 := n0_
    have HO377 := n1_
    have HO380 := n2_
    have HO384 := n3_
    have HO388 := n4_
    have BK370 := n5_
    have BK381 := n6_
    have HB := n7_
    clear n0_ n1_ n2_ n3_ n4_ n5_ n6_ n7_
    (try clear hb)
    (try clear hb2)
    (try clear hk)
    (try clear hi)
    (try clear ho0)
    obtain ⟨Ao99, co99, eo99⟩ := Kd.S_slice HO388.out
    (first | subst eo99 | (injection eo99 with f1_ f2_ f3_; have f4_ := f1_.symm; have f5_ := f3_.symm; clear f1_ f2_ f3_; subst f4_; subst f5_))
    refine hK.out _ _ ⟨(blk_cell BK381.out 0).trans rfl, (blk_cell BK370.out 0).trans rfl⟩ (fun hHeld => ?_)
    clear hK K
    refine norm_ (a' := ?_) ?_ ?_
    rotate_left
    ·show Act.put _ (some 33) _ = _
     simp only [Act.put, sa, sz, ss, i64_w, i32_w]
     rfl
    refine one_ (i := 3) (N := some 34) #[true, true, true, true, false] rfl rfl (by kernel_rfl) (by decide) (fun K hK => ?_)
    refine goes_ Try.func19 (by kernel_rfl) rfl #[.agg #[.slice Ao91 t378.length co91], .agg #[.slice Ao99 t386.length co99]] (by rfl) rfl rfl gl ?_
    with_reducible refine (laws_eqProgram.calls k _ _ t378 _ _ t386 false _ ?side1 ?side2 ?side3 ?side4 A15.out).mono ?_
    (case side1 => exact cc (Kd.S_reads' HO380.out).2.2)
    (case side2 => exact (Kd.S_reads' HO380.out).2.1)
    (case side3 => exact cc (Kd.S_reads' HO388.out).2.2)
    (case side4 => exact (Kd.S_reads' HO388.out).2.1)
    rintro e w100 ⟨rfl, hb⟩
    refine ⟨_, rfl, ?_⟩
    have n0_ := am (Kd.S_below (kS HO374) hb)
    have n1_ := am (Kd.R_below (kR HO377) hb)
    have n2_ := am (Kd.S_below (kS HO380) hb)
    have n3_ := am (Kd.R_below (kR HO384) hb)
    have n4_ := am (Kd.S_below (kS HO388) hb)
    have n5_ := am (blk_below (g := gb370) (o := .cells #[.slice A0_0 l0_0.length c0_0] 24 (0, 0)) (bp BK370) hb)
    have n6_ := am (blk_below (g := gb381) (o := .cells #[.slice Ao91 t378.length co91] 30 (0, 0)) (bp BK381) hb)
    have n7_ := am (below_step (bw HB) hb)
    clear HO374
    clear HO377
    clear HO380
    clear HO384
    clear HO388
    clear BK370
    clear BK381
    clear HB
    have HO374 := n0_
    have HO377 := n1_
    have HO380 := n2_
    have HO384 := n3_
    have HO388 := n4_
    have BK370 := n5_
    have BK381 := n6_
    have HB := n7_
    clear n0_ n1_ n2_ n3_ n4_ n5_ n6_ n7_
    (try clear hb)
    (try clear hb2)
    (try clear hk)
    (try clear hi)
    refine hK.out _ _ ⟨(blk_cell BK381.out 0).trans rfl, (blk_cell BK370.out 0).trans rfl⟩ (fun hHeld => ?_)
    clear hK K
    refine norm_ (a' := ?_) ?_ ?_
    rotate_left
    ·show Act.put _ (some 34) _ = _
     simp only [Act.put, sa, sz, ss, i64_w, i32_w]
     rfl
    refine pure_ (i := 4) (N := some 35) (v := ?_) (a' := ?_) #[true, true, true, true, true] rfl rfl (by kernel_rfl) (fun _ _ _ h => h) (Or.inl ⟨by rfl, ?_⟩) ?_ ?_
    rotate_left
    ·intro w'
     go_simp
     with_reducible rfl
    rotate_left
    ·simp only [Act.put, sa, sz, ss, i64_w, i32_w]
     rfl
    refine done_ (by kernel_rfl) ?_
    try go_wp2
    go_ret
    exact ⟨er, bw HB⟩
  ·replace c13 := Bool.eq_false_iff.mpr c13
   subst c13
   have H1 : (some false) = some r := by rw [if_neg (show ¬ (false = true) by decide)] at H; exact H
   clear H
   have H := H1
   clear H1
   obtain rfl := Option.some.inj H
   go_enter Try.func3, Try.ntmps3
   go_wp2_with (first | ((with_reducible refine gate_dst (N := 2) rfl ?_); refine box_event ?hg (N := 2) ?hd (cs := #[.slice A0_0 l0_0.length c0_0]) (t := 24) ?hr ?_; (case hd => rfl); (case hg => rfl); (case hr => exact gs); intro gb370 hg w101 hbox hb; have n0_ := am (below_step (bw HB) hb); have n1_ := am (hbox); have n2_ := am ((by rw [hg]; exact (below_size (bw HB)) : w.heap.size ≤ gb370)); have n3_ := am ((by rw [hg]; exact (below_size (bw HB)) : w.heap.size ≤ gb370)); clear HB; have HB := n0_; have BK370 := n1_; have GW370 := n2_; have GE370 := n3_; clear n0_ n1_ n2_ n3_; clear hb hbox hg; have hcz102_0 : w101.cell? ⟨gb370, 0, none⟩ = some (.slice A0_0 l0_0.length c0_0) := (blk_cell BK370.out 0).trans rfl; have hfz102_0 := blk_frozen BK370.out 0) | ((with_reducible refine gate_callee (f := 14) rfl ?_); refine goesL_ (some 15) rfl rfl Try.func14 (by kernel_rfl) rfl #[.agg #[.slice A0_0 l0_0.length c0_0], .int .i64 1048576] rfl gl ?_; (with_reducible refine (laws_szProgram.calls k _ _ l0_0 1048576 t371 _ ?side1 ?side2 A3.out).mono ?_); (case side1 => exact cc (Kd.C_below HR0_0.out HB.out)); (case side2 => exact HC0_0.out); rintro e w103 ⟨rfl, hb⟩; refine ⟨_, rfl, ?_⟩; have n0_ := am (blk_below (g := gb370) (o := .cells #[.slice A0_0 l0_0.length c0_0] 24 (0, 0)) (bp BK370) hb); have n1_ := am (below_step (bw HB) hb); clear BK370; clear HB; have BK370 := n0_; have HB := n1_; clear n0_ n1_; (try clear hb); (try clear hb2); (try clear hk); (try clear hi); have hcz104_0 : w103.cell? ⟨gb370, 0, none⟩ = some (.slice A0_0 l0_0.length c0_0) := (blk_cell BK370.out 0).trans rfl; have hfz104_0 := blk_frozen BK370.out 0) | ((with_reducible refine gate_callee (f := 16) rfl ?_); refine goesL_ (some 19) rfl rfl Try.func16 (by kernel_rfl) rfl #[.agg #[.slice A0_0 l0_0.length c0_0]] rfl gl ?_; (with_reducible refine (laws_toProgram.calls k _ _ l0_0 t372 _ ?side1 ?side2 A8.out).mono ?_); (case side1 => exact cc (Kd.C_below HR0_0.out HB.out)); (case side2 => exact HC0_0.out); rintro e w105 ⟨v373, rfl, ho0, hb⟩; refine ⟨_, rfl, ?_⟩; have n0_ := am (Kd.S_lower ho0 (below_size (bw HB))); have n1_ := am (blk_below (g := gb370) (o := .cells #[.slice A0_0 l0_0.length c0_0] 24 (0, 0)) (bp BK370) hb); have n2_ := am (below_step (bw HB) hb); clear BK370; clear HB; have HO374 := n0_; have BK370 := n1_; have HB := n2_; clear n0_ n1_ n2_; (try clear hb); (try clear hb2); (try clear hk); (try clear hi); (try clear ho0); obtain ⟨Ao106, co106, eo106⟩ := Kd.S_slice HO374.out; subst eo106) | ((with_reducible refine gate_callee (f := 15) rfl ?_); refine goesL_ (some 21) rfl rfl Try.func15 (by kernel_rfl) rfl #[.agg #[.slice Ao106 t372.length co106], .int .i64 a1] rfl gl ?_; (with_reducible refine (spec_Heights.calls k _ _ t372 a1 t375 _ ?side1 ?side2 A9.out).mono ?_); (case side1 => exact cc (Kd.S_reads' HO374.out).2.2); (case side2 => exact (Kd.S_reads' HO374.out).2.1); rintro e w107 ⟨v376, rfl, ho0, hb⟩; refine ⟨_, rfl, ?_⟩; have n0_ := am (Kd.S_below (kS HO374) hb); have n1_ := am (Kd.R_lower ho0 (below_size (bw HB))); have n2_ := am (blk_below (g := gb370) (o := .cells #[.slice A0_0 l0_0.length c0_0] 24 (0, 0)) (bp BK370) hb); have n3_ := am (below_step (bw HB) hb); clear HO374; clear BK370; clear HB; have HO374 := n0_; have HO377 := n1_; have BK370 := n2_; have HB := n3_; clear n0_ n1_ n2_ n3_; (try clear hb); (try clear hb2); (try clear hk); (try clear hi); (try clear ho0); have hcz108_0 : w107.cell? ⟨gb370, 0, none⟩ = some (.slice A0_0 l0_0.length c0_0) := (blk_cell BK370.out 0).trans rfl; have hfz108_0 := blk_frozen BK370.out 0) | ((with_reducible refine gate_callee (f := 16) rfl ?_); refine goesL_ (some 23) rfl rfl Try.func16 (by kernel_rfl) rfl #[.agg #[.slice A0_0 l0_0.length c0_0]] rfl gl ?_; (with_reducible refine (laws_toProgram.calls k _ _ l0_0 t378 _ ?side1 ?side2 A10.out).mono ?_); (case side1 => exact cc (Kd.C_below HR0_0.out HB.out)); (case side2 => exact HC0_0.out); rintro e w109 ⟨v379, rfl, ho0, hb⟩; refine ⟨_, rfl, ?_⟩; have n0_ := am (Kd.S_elder' (kS HO374) (Kd.S_base ho0) hb); have n1_ := am (Kd.R_below (kR HO377) hb); have n2_ := am (Kd.S_lower (Kd.S_new' ho0 (Kd.S_lt (kS HO374))) (below_size (bw HB))); have n3_ := am (blk_below (g := gb370) (o := .cells #[.slice A0_0 l0_0.length c0_0] 24 (0, 0)) (bp BK370) hb); have n4_ := am (below_step (bw HB) hb); clear HO374; clear HO377; clear BK370; clear HB; have HO374 := n0_; have HO377 := n1_; have HO380 := n2_; have BK370 := n3_; have HB := n4_; clear n0_ n1_ n2_ n3_ n4_; (try clear hb); (try clear hb2); (try clear hk); (try clear hi); (try clear ho0)) | ((with_reducible refine gate_dst (N := 7) rfl ?_); refine box_event ?hg (N := 7) ?hd (cs := #[.slice none 0 0]) (t := 30) ?hr ?_; (case hd => rfl); (case hg => rfl); (case hr => exact gs); intro gb381 hg w110 hbox hb; have n0_ := am (Kd.S_below (kS HO374) hb); have n1_ := am (Kd.R_below (kR HO377) hb); have n2_ := am (Kd.S_below (kS HO380) hb); have n3_ := am (blk_below (g := gb370) (o := .cells #[.slice A0_0 l0_0.length c0_0] 24 (0, 0)) (bp BK370) hb); have n4_ := am (below_step (bw HB) hb); have n5_ := am (hbox); have n6_ := am ((by rw [hg]; exact (below_size (bw HB)) : w.heap.size ≤ gb381)); have n7_ := am ((by rw [hg]; exact (below_size (bw HB)) : w.heap.size ≤ gb381)); have n8_ := am ((by rw [hg]; exact Nat.ne_of_lt (blk_lt (g := gb370) (o := .cells #[.slice A0_0 l0_0.length c0_0] 24 (0, 0)) (bp BK370)) : gb370 ≠ gb381)); have n9_ := am ((by rw [hg]; exact Nat.ne_of_gt (blk_lt (g := gb370) (o := .cells #[.slice A0_0 l0_0.length c0_0] 24 (0, 0)) (bp BK370)) : gb381 ≠ gb370)); clear HO374; clear HO377; clear HO380; clear BK370; clear HB; have HO374 := n0_; have HO377 := n1_; have HO380 := n2_; have BK370 := n3_; have HB := n4_; have BK381 := n5_; have GW381 := n6_; have GE381 := n7_; have NB370_381 := n8_; have NB381_370 := n9_; clear n0_ n1_ n2_ n3_ n4_ n5_ n6_ n7_ n8_ n9_; clear hb hbox hg; obtain ⟨Ao111, co111, eo111⟩ := Kd.S_slice HO380.out; subst eo111; have hnb112 := NB381_370.out; have hnc112 := NB370_381.out; have hcz113_0 : w110.cell? ⟨gb381, 0, none⟩ = some (.slice none 0 0) := (blk_cell BK381.out 0).trans rfl; have hfz113_0 := blk_frozen BK381.out 0) | ((with_reducible refine gate_callee (f := 17) rfl ?_); refine goesL_ (some 26) rfl rfl Try.func17 (by kernel_rfl) rfl #[.agg #[.slice Ao111 t378.length co111], .int .i64 a1] rfl gl ?_; (with_reducible refine (impl_Heights.calls k _ _ t378 a1 t382 _ ?side1 ?side2 A11.out).mono ?_); (case side1 => refine (Kd.S_reads' (e := 100) (base := w.heap.size) (ok := fun k_ => (True ∧ some k_ ≠ (.slice Ao106 t372.length co106 : Value).ownBlock)) (n := t378.length) (c := co111) ?_).2.2; exact (by (with_reducible repeat (first | apply Kd.S_alloc | apply Kd.S_drewN | apply Kd.S_drew)); exact (Kd.S_mono (Kd.S_far (p := ⟨gb381, 0, none⟩) (Kd.S_types HO380.out BK381.out (by decide)) (fun _ hk => hk.2) (.slice Ao111 t378.length co111)) (fun _ h_ => h_.1)))); (case side2 => exact (Kd.S_reads' HO380.out).2.1); rintro e w114 ⟨v383, rfl, ho0, hb⟩; refine ⟨_, rfl, ?_⟩; have n0_ := am (Kd.S_below (by (with_reducible repeat (first | apply Kd.S_alloc | apply Kd.S_drewN | apply Kd.S_drew)); exact (Kd.S_mono (Kd.S_far (p := ⟨gb381, 0, none⟩) (Kd.S_types HO374.out BK381.out (by decide)) (fun _ hk => hk.2) (.slice Ao111 t378.length co111)) (fun _ h_ => h_.1))) hb); have n1_ := am (Kd.R_elder' (by (with_reducible repeat (first | apply Kd.R_alloc | apply Kd.R_drewN | apply Kd.R_drew)); exact (Kd.R_mono (Kd.R_far (p := ⟨gb381, 0, none⟩) (Kd.R_types HO377.out BK381.out (by decide)) (fun _ hk => hk.2) (.slice Ao111 t378.length co111)) (fun _ h_ => h_.1))) (Kd.R_base ho0) hb); have n2_ := am (Kd.S_below (by (with_reducible repeat (first | apply Kd.S_alloc | apply Kd.S_drewN | apply Kd.S_drew)); exact (Kd.S_mono (Kd.S_far (p := ⟨gb381, 0, none⟩) (Kd.S_types HO380.out BK381.out (by decide)) (fun _ hk => hk.2) (.slice Ao111 t378.length co111)) (fun _ h_ => h_.1))) hb); have n3_ := am (Kd.R_lower (Kd.R_new' ho0 (Kd.R_lt (by (with_reducible repeat (first | apply Kd.R_alloc | apply Kd.R_drewN | apply Kd.R_drew)); exact (Kd.R_mono (Kd.R_far (p := ⟨gb381, 0, none⟩) (Kd.R_types HO377.out BK381.out (by decide)) (fun _ hk => hk.2) (.slice Ao111 t378.length co111)) (fun _ h_ => h_.1))))) (below_size (bw HB))); have n4_ := am (blk_below (g := gb370) (o := .cells #[.slice A0_0 l0_0.length c0_0] 24 (0, 0)) (by (with_reducible repeat (first | apply dN | apply dW | apply dA)); refine blk_far ?_ NB370_381.out _; exact bp BK370) hb); have n5_ := am (blk_below (g := gb381) (o := .cells #[.slice Ao111 t378.length co111] 30 (0, 0)) (by (with_reducible repeat (first | apply dN | apply dW | apply dA)); refine blk_put (cs := #[.slice none 0 0]) ?_ 0 _ rfl; exact bp BK381) hb); have n6_ := am (below_step (bw HB) hb); clear HO374; clear HO377; clear HO380; clear BK370; clear BK381; clear HB; have HO374 := n0_; have HO377 := n1_; have HO380 := n2_; have HO384 := n3_; have BK370 := n4_; have BK381 := n5_; have HB := n6_; clear n0_ n1_ n2_ n3_ n4_ n5_ n6_; (try clear hb); (try clear hb2); (try clear hk); (try clear hi); (try clear ho0); obtain ⟨Ao115, co115, eo115⟩ := Kd.R_slice HO384.out; subst eo115; obtain ⟨Ao116, co116, eo116⟩ := Kd.R_slice HO377.out; subst eo116) | ((with_reducible refine gate_callee (f := 18) rfl ?_); refine goesL_ (some 29) rfl rfl Try.func18 (by kernel_rfl) rfl #[.slice Ao115 t382.length co115, .slice Ao116 t375.length co116] rfl gl ?_; (with_reducible refine (laws_eqInt64S.calls k _ _ t382 _ _ t375 false _ ?side1 ?side2 ?side3 ?side4 A12.out).mono ?_); (case side1 => exact cc (Kd.R_reads' HO384.out).2.2); (case side2 => exact (Kd.R_reads' HO384.out).2.1); (case side3 => exact cc (Kd.R_reads' HO377.out).2.2); (case side4 => exact (Kd.R_reads' HO377.out).2.1); rintro e w' ⟨rfl, ⟨nd, rfl⟩⟩; refine ⟨_, rfl, ?_⟩))
   go_ret
   exact ⟨er, bw HB⟩

end Go.Proofs.Ytbmjmaahcaoajaa.QFnExactHeights
