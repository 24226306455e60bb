import Derived.Test.YtbmjmaahcaoajaaCFnExactHeadersx0
import Derived.Test.YtbmjmaahcaoajaaCFnExactHeadersx1
import Derived.Test.YtbmjmaahcaoajaaCFnExactHeadersx3
import Derived.Test.YtbmjmaahcaoajaaCFnExactHeadersx8
import Derived.Test.YtbmjmaahcaoajaaCFnExactHeadersx13
namespace Go.Proofs.Ytbmjmaahcaoajaa.QFnExactHeaders
open Go.RowKit Go.Proofs.YtbmjmaahcaoajaaW
open PrintWords PrintLast PrintMore PrintShort PrintIsh
attribute [local go_sem] max2_int min2_int max_two min_two max_three min_three max_four min_four   -- for this text's walks alone
set_option linter.unusedVariables false
set_option maxHeartbeats 8000000
set_option maxRecDepth 100000
set_option linter.unusedSimpArgs false

def laws_FnExactHeaders.j0 : Nat → Int → List Int → List Int → Bool → List (S165) → Option (Bool)
 | 0, _, _, _, _, _ => none
 | k + 1, x1, x6, x8, x46, x401000 => if x46 = true then (some false) else ((laws_markInt64S.f k x8 1).bind fun bt422 => ((laws_heldInt64S.f k bt422.2 1).bind fun t424 => (if t424 < 0 then (some false) else (if t424 = bt422.1 then ((laws_toProgram.f k x401000).bind fun t425 => ((impl_Headers.f k t425 x1).bind fun t428 => ((laws_eqInt64S.f k t428 x6).bind fun t431 => (if t431 = true then ((laws_heldInt64S.f k bt422.2 1).bind fun t432 => (if t432 < 0 then (some false) else (if t432 = bt422.1 then (some true) else (some false)))) else (some false))))) else (some false)))))
def laws_FnExactHeaders.f (k : Nat) (l0_0 : List (S165)) (a1 : Int) : Option (Bool) := (laws_szProgram.f k l0_0 1048576).bind fun t401 => (if t401 < 0 then (some true) else ((laws_toProgram.f k l0_0).bind fun t402 => ((spec_Headers.f k t402 a1).bind fun t405 => ((laws_toProgram.f k l0_0).bind fun t408 => ((impl_Headers.f k t408 a1).bind fun t412 => ((laws_eqInt64S.f k t412 t405).bind fun t415 => (if t415 = true then ((laws_toProgram.f k l0_0).bind fun t416 => ((laws_eqProgram.f k t408 t416).bind fun t419 => (if t419 = true then ((laws_markProgram.f t408 1).bind fun t420 => (if t420 < 0 then (laws_FnExactHeaders.j0 k a1 t405 t412 true l0_0) else ((laws_eqInt64S.f k t412 t405).bind fun t421 => (laws_FnExactHeaders.j0 k a1 t405 t412 (!t421) l0_0)))) else (some false)))) else (some false))))))))
theorem laws_FnExactHeaders.mono_l : ∀ k, (∀ y0 y1 y2 y3 y4, LeO (laws_FnExactHeaders.j0 k y0 y1 y2 y3 y4) (laws_FnExactHeaders.j0 (k + 1) y0 y1 y2 y3 y4))
 | 0 => fun _ _ _ _ _ r h => by simp [laws_FnExactHeaders.j0] at h
 | k + 1 => by
  have ih0 := laws_FnExactHeaders.mono_l k
  ·intro y0 y1 y2 y3 y4
   unfold laws_FnExactHeaders.j0
   repeat' first
   | (with_reducible exact ih0 _ _ _ _ _)
   | (with_reducible exact impl_Headers.mono _ _ _)
   | (with_reducible exact laws_eqInt64S.mono _ _ _)
   | (with_reducible exact laws_eqProgram.mono _ _ _)
   | (with_reducible exact laws_heldInt64S.mono _ _ _)
   | (with_reducible exact laws_markInt64S.mono _ _ _)
   | (with_reducible exact laws_szProgram.mono _ _ _)
   | (with_reducible exact laws_toProgram.mono _ _)
   | (with_reducible exact spec_Headers.mono _ _ _)
   | (with_reducible exact LeO.refl _)
   | (with_reducible exact LeO.none _)
   | (with_reducible refine LeO.ite ?_ ?_)
   | (with_reducible refine LeO.bind ?_ (fun _ => ?_))
theorem laws_FnExactHeaders.mono : ∀ a0 a1 k, LeO (laws_FnExactHeaders.f k a0 a1) (laws_FnExactHeaders.f (k + 1) a0 a1) := by
 intro a0 a1 k
 have ih0 := laws_FnExactHeaders.mono_l k
 unfold laws_FnExactHeaders.f
 repeat' first
   | (with_reducible exact ih0 _ _ _ _ _)
   | (with_reducible exact impl_Headers.mono _ _ _)
   | (with_reducible exact laws_eqInt64S.mono _ _ _)
   | (with_reducible exact laws_eqProgram.mono _ _ _)
   | (with_reducible exact laws_heldInt64S.mono _ _ _)
   | (with_reducible exact laws_markInt64S.mono _ _ _)
   | (with_reducible exact laws_szProgram.mono _ _ _)
   | (with_reducible exact laws_toProgram.mono _ _)
   | (with_reducible exact spec_Headers.mono _ _ _)
   | (with_reducible exact LeO.refl _)
   | (with_reducible exact LeO.none _)
   | (with_reducible refine LeO.ite ?_ ?_)
   | (with_reducible refine LeO.bind ?_ (fun _ => ?_))
theorem laws_FnExactHeaders.calls (k : Nat) (A0_0 : Option Addr) (c0_0 : Nat) (l0_0 : List (S165)) (a1 : Int) (r : Bool) (w : World) (hr0_0 : Kd.C k165 w A0_0 l0_0.length l0_0) (hc0_0 : l0_0.length ≤ c0_0) (h : laws_FnExactHeaders.f k l0_0 a1 = some r) :
  Calls Try.prog 5 #[.agg #[.slice A0_0 l0_0.length c0_0], .int .i64 a1] w fun e w' => e = .returned (.bool r) ∧ Below w.heap.size w w' := by
 have hu24 := Try.underlying24
 have hu30 := Try.underlying30
 have HR0_0 := am hr0_0
 have HC0_0 := am hc0_0
 clear hr0_0 hc0_0
 have HB := am (Below.refl w.heap.size w)
 have H : ((laws_szProgram.f k l0_0 1048576).bind fun t401 => (if t401 < 0 then (some true) else ((laws_toProgram.f k l0_0).bind fun t402 => ((spec_Headers.f k t402 a1).bind fun t405 => ((laws_toProgram.f k l0_0).bind fun t408 => ((impl_Headers.f k t408 a1).bind fun t412 => ((laws_eqInt64S.f k t412 t405).bind fun t415 => (if t415 = true then ((laws_toProgram.f k l0_0).bind fun t416 => ((laws_eqProgram.f k t408 t416).bind fun t419 => (if t419 = true then ((laws_markProgram.f t408 1).bind fun t420 => (if t420 < 0 then (laws_FnExactHeaders.j0 k a1 t405 t412 true l0_0) else ((laws_eqInt64S.f k t412 t405).bind fun t421 => (laws_FnExactHeaders.j0 k a1 t405 t412 (!t421) l0_0)))) else (some false)))) else (some false))))))))) = some r := h
 clear h
 replace H := Option.bind_eq_some_iff.mp H
 obtain ⟨t401, A30, H⟩ := H
 replace H : (if t401 < 0 then (some true) else ((laws_toProgram.f k l0_0).bind fun t402 => ((spec_Headers.f k t402 a1).bind fun t405 => ((laws_toProgram.f k l0_0).bind fun t408 => ((impl_Headers.f k t408 a1).bind fun t412 => ((laws_eqInt64S.f k t412 t405).bind fun t415 => (if t415 = true then ((laws_toProgram.f k l0_0).bind fun t416 => ((laws_eqProgram.f k t408 t416).bind fun t419 => (if t419 = true then ((laws_markProgram.f t408 1).bind fun t420 => (if t420 < 0 then (laws_FnExactHeaders.j0 k a1 t405 t412 true l0_0) else ((laws_eqInt64S.f k t412 t405).bind fun t421 => (laws_FnExactHeaders.j0 k a1 t405 t412 (!t421) l0_0)))) else (some false)))) else (some false)))))))) = some r := H
 have A3 := am A30
 clear A30
 by_cases c4 : t401 < 0
 ·rw [if_pos c4] at H
  have c4b0 := decide_eq_true c4
  clear c4
  obtain rfl := Option.some.inj H
  go_enter Try.func5, Try.ntmps5
  go_wp2_with (first | ((with_reducible refine gate_dst (N := 2) rfl ?_); refine box_event ?hg (N := 2) ?hd (cs := #[.slice A0_0 l0_0.length c0_0]) (t := 24) ?hr ?_; (case hd => rfl); (case hg => rfl); (case hr => exact gs); intro gb400 hg w5 hbox hb; have BK400 := am (hbox); have GW400 := am ((by rw [hg]; exact (below_size (bw HB)) : w.heap.size ≤ gb400)); have GE400 := am ((by rw [hg]; exact (below_size (bw HB)) : w.heap.size ≤ gb400)); replace HB := am (below_step (bw HB) hb); clear hb hbox hg; have hcz6_0 : w5.cell? ⟨gb400, 0, none⟩ = some (.slice A0_0 l0_0.length c0_0) := bc BK400 0; have hfz6_0 := bf BK400 0) | ((with_reducible refine gate_callee (f := 14) rfl ?_); refine goesL_ (some 15) rfl rfl Try.func14 (by kernel_rfl) rfl #[.agg #[.slice A0_0 l0_0.length c0_0], .int .i64 1048576] rfl gl ?_; (with_reducible refine (laws_szProgram.calls k _ _ l0_0 1048576 t401 _ ?side1 ?side2 A3.out).mono ?_); (case side1 => exact cc (Kd.C_below HR0_0.out HB.out)); (case side2 => exact HC0_0.out); rintro e w7 ⟨rfl, hb⟩; refine ⟨_, rfl, ?_⟩; replace BK400 := am (blk_below (g := gb400) (o := .cells #[.slice A0_0 l0_0.length c0_0] 24 (0, 0)) (bp BK400) hb); replace HB := am (below_step (bw HB) hb); (try clear hb); (try clear hb2); (try clear hk); (try clear hi)))
  go_ret
  exact ⟨er, bw HB⟩
 ·rw [if_neg c4] at H
  have c4b0 := decide_eq_false c4
  clear c4
  replace H := Option.bind_eq_some_iff.mp H
  obtain ⟨t402, A80, H⟩ := H
  replace H : ((spec_Headers.f k t402 a1).bind fun t405 => ((laws_toProgram.f k l0_0).bind fun t408 => ((impl_Headers.f k t408 a1).bind fun t412 => ((laws_eqInt64S.f k t412 t405).bind fun t415 => (if t415 = true then ((laws_toProgram.f k l0_0).bind fun t416 => ((laws_eqProgram.f k t408 t416).bind fun t419 => (if t419 = true then ((laws_markProgram.f t408 1).bind fun t420 => (if t420 < 0 then (laws_FnExactHeaders.j0 k a1 t405 t412 true l0_0) else ((laws_eqInt64S.f k t412 t405).bind fun t421 => (laws_FnExactHeaders.j0 k a1 t405 t412 (!t421) l0_0)))) else (some false)))) else (some false)))))) = some r := H
  have A8 := am A80
  clear A80
  replace H := Option.bind_eq_some_iff.mp H
  obtain ⟨t405, A90, H⟩ := H
  replace H : ((laws_toProgram.f k l0_0).bind fun t408 => ((impl_Headers.f k t408 a1).bind fun t412 => ((laws_eqInt64S.f k t412 t405).bind fun t415 => (if t415 = true then ((laws_toProgram.f k l0_0).bind fun t416 => ((laws_eqProgram.f k t408 t416).bind fun t419 => (if t419 = true then ((laws_markProgram.f t408 1).bind fun t420 => (if t420 < 0 then (laws_FnExactHeaders.j0 k a1 t405 t412 true l0_0) else ((laws_eqInt64S.f k t412 t405).bind fun t421 => (laws_FnExactHeaders.j0 k a1 t405 t412 (!t421) l0_0)))) else (some false)))) else (some false))))) = some r := H
  have A9 := am A90
  clear A90
  replace H := Option.bind_eq_some_iff.mp H
  obtain ⟨t408, A100, H⟩ := H
  replace H : ((impl_Headers.f k t408 a1).bind fun t412 => ((laws_eqInt64S.f k t412 t405).bind fun t415 => (if t415 = true then ((laws_toProgram.f k l0_0).bind fun t416 => ((laws_eqProgram.f k t408 t416).bind fun t419 => (if t419 = true then ((laws_markProgram.f t408 1).bind fun t420 => (if t420 < 0 then (laws_FnExactHeaders.j0 k a1 t405 t412 true l0_0) else ((laws_eqInt64S.f k t412 t405).bind fun t421 => (laws_FnExactHeaders.j0 k a1 t405 t412 (!t421) l0_0)))) else (some false)))) else (some false)))) = some r := H
  have A10 := am A100
  clear A100
  replace H := Option.bind_eq_some_iff.mp H
  obtain ⟨t412, A110, H⟩ := H
  replace H : ((laws_eqInt64S.f k t412 t405).bind fun t415 => (if t415 = true then ((laws_toProgram.f k l0_0).bind fun t416 => ((laws_eqProgram.f k t408 t416).bind fun t419 => (if t419 = true then ((laws_markProgram.f t408 1).bind fun t420 => (if t420 < 0 then (laws_FnExactHeaders.j0 k a1 t405 t412 true l0_0) else ((laws_eqInt64S.f k t412 t405).bind fun t421 => (laws_FnExactHeaders.j0 k a1 t405 t412 (!t421) l0_0)))) else (some false)))) else (some false))) = some r := H
  have A11 := am A110
  clear A110
  replace H := Option.bind_eq_some_iff.mp H
  obtain ⟨t415, A120, H⟩ := H
  replace H : (if t415 = true then ((laws_toProgram.f k l0_0).bind fun t416 => ((laws_eqProgram.f k t408 t416).bind fun t419 => (if t419 = true then ((laws_markProgram.f t408 1).bind fun t420 => (if t420 < 0 then (laws_FnExactHeaders.j0 k a1 t405 t412 true l0_0) else ((laws_eqInt64S.f k t412 t405).bind fun t421 => (laws_FnExactHeaders.j0 k a1 t405 t412 (!t421) l0_0)))) else (some false)))) else (some false)) = some r := H
  have A12 := am A120
  clear A120
  by_cases c13 : t415 = true
  ·subst c13
   have H1 : ((laws_toProgram.f k l0_0).bind fun t416 => ((laws_eqProgram.f k t408 t416).bind fun t419 => (if t419 = true then ((laws_markProgram.f t408 1).bind fun t420 => (if t420 < 0 then (laws_FnExactHeaders.j0 k a1 t405 t412 true l0_0) else ((laws_eqInt64S.f k t412 t405).bind fun t421 => (laws_FnExactHeaders.j0 k a1 t405 t412 (!t421) l0_0)))) else (some false)))) = some r := by rw [if_pos rfl] at H; exact H
   clear H
   have H := H1
   clear H1
   replace H := Option.bind_eq_some_iff.mp H
   obtain ⟨t416, A140, H⟩ := H
   replace H : ((laws_eqProgram.f k t408 t416).bind fun t419 => (if t419 = true then ((laws_markProgram.f t408 1).bind fun t420 => (if t420 < 0 then (laws_FnExactHeaders.j0 k a1 t405 t412 true l0_0) else ((laws_eqInt64S.f k t412 t405).bind fun t421 => (laws_FnExactHeaders.j0 k a1 t405 t412 (!t421) l0_0)))) else (some false))) = some r := H
   have A14 := am A140
   clear A140
   replace H := Option.bind_eq_some_iff.mp H
   obtain ⟨t419, A150, H⟩ := H
   replace H : (if t419 = true then ((laws_markProgram.f t408 1).bind fun t420 => (if t420 < 0 then (laws_FnExactHeaders.j0 k a1 t405 t412 true l0_0) else ((laws_eqInt64S.f k t412 t405).bind fun t421 => (laws_FnExactHeaders.j0 k a1 t405 t412 (!t421) l0_0)))) else (some false)) = some r := H
   have A15 := am A150
   clear A150
   by_cases c16 : t419 = true
   ·subst c16
    have H1 : ((laws_markProgram.f t408 1).bind fun t420 => (if t420 < 0 then (laws_FnExactHeaders.j0 k a1 t405 t412 true l0_0) else ((laws_eqInt64S.f k t412 t405).bind fun t421 => (laws_FnExactHeaders.j0 k a1 t405 t412 (!t421) l0_0)))) = some r := by rw [if_pos rfl] at H; exact H
    clear H
    have H := H1
    clear H1
    replace H := Option.bind_eq_some_iff.mp H
    obtain ⟨t420, A170, H⟩ := H
    replace H : (if t420 < 0 then (laws_FnExactHeaders.j0 k a1 t405 t412 true l0_0) else ((laws_eqInt64S.f k t412 t405).bind fun t421 => (laws_FnExactHeaders.j0 k a1 t405 t412 (!t421) l0_0))) = some r := H
    have A17 := am A170
    clear A170
    have HC18 := am H
    clear H
    go_enter Try.func5, Try.ntmps5
    try go_wp2_with (first | ((with_reducible refine gate_dst (N := 2) rfl ?_); refine box_event ?hg (N := 2) ?hd (cs := #[.slice A0_0 l0_0.length c0_0]) (t := 24) ?hr ?_; (case hd => rfl); (case hg => rfl); (case hr => exact gs); intro gb400 hg w19 hbox hb; have BK400 := am (hbox); have GW400 := am ((by rw [hg]; exact (below_size (bw HB)) : w.heap.size ≤ gb400)); have GE400 := am ((by rw [hg]; exact (below_size (bw HB)) : w.heap.size ≤ gb400)); replace HB := am (below_step (bw HB) hb); clear hb hbox hg; have hcz20_0 : w19.cell? ⟨gb400, 0, none⟩ = some (.slice A0_0 l0_0.length c0_0) := bc BK400 0; have hfz20_0 := bf BK400 0) | ((with_reducible refine gate_callee (f := 14) rfl ?_); refine goesL_ (some 15) rfl rfl Try.func14 (by kernel_rfl) rfl #[.agg #[.slice A0_0 l0_0.length c0_0], .int .i64 1048576] rfl gl ?_; (with_reducible refine (laws_szProgram.calls k _ _ l0_0 1048576 t401 _ ?side1 ?side2 A3.out).mono ?_); (case side1 => exact cc (Kd.C_below HR0_0.out HB.out)); (case side2 => exact HC0_0.out); rintro e w21 ⟨rfl, hb⟩; refine ⟨_, rfl, ?_⟩; replace BK400 := am (blk_below (g := gb400) (o := .cells #[.slice A0_0 l0_0.length c0_0] 24 (0, 0)) (bp BK400) hb); replace HB := am (below_step (bw HB) hb); (try clear hb); (try clear hb2); (try clear hk); (try clear hi); have hcz22_0 : w21.cell? ⟨gb400, 0, none⟩ = some (.slice A0_0 l0_0.length c0_0) := bc BK400 0; have hfz22_0 := bf BK400 0) | ((with_reducible refine gate_callee (f := 16) rfl ?_); refine goesL_ (some 19) rfl rfl Try.func16 (by kernel_rfl) rfl #[.agg #[.slice A0_0 l0_0.length c0_0]] rfl gl ?_; (with_reducible refine (laws_toProgram.calls k _ _ l0_0 t402 _ ?side1 ?side2 A8.out).mono ?_); (case side1 => exact cc (Kd.C_below HR0_0.out HB.out)); (case side2 => exact HC0_0.out); rintro e w23 ⟨v403, rfl, ho0, hb⟩; refine ⟨_, rfl, ?_⟩; have HO404 := am (Kd.S_lower ho0 (below_size (bw HB))); replace BK400 := am (blk_below (g := gb400) (o := .cells #[.slice A0_0 l0_0.length c0_0] 24 (0, 0)) (bp BK400) hb); replace HB := am (below_step (bw HB) hb); (try clear hb); (try clear hb2); (try clear hk); (try clear hi); (try clear ho0); obtain ⟨Ao24, co24, eo24⟩ := Kd.S_slice HO404.out; subst eo24) | ((with_reducible refine gate_callee (f := 25) rfl ?_); refine goesL_ (some 21) rfl rfl Try.func25 (by kernel_rfl) rfl #[.agg #[.slice Ao24 t402.length co24], .int .i64 a1] rfl gl ?_; (with_reducible refine (spec_Headers.calls k _ _ t402 a1 t405 _ ?side1 ?side2 A9.out).mono ?_); (case side1 => exact cc (Kd.S_reads' HO404.out).2.2); (case side2 => exact (Kd.S_reads' HO404.out).2.1); rintro e w25 ⟨v406, rfl, ho0, hb⟩; refine ⟨_, rfl, ?_⟩; replace HO404 := am (Kd.S_below (kS HO404) hb); have HO407 := am (Kd.R_lower ho0 (below_size (bw HB))); replace BK400 := am (blk_below (g := gb400) (o := .cells #[.slice A0_0 l0_0.length c0_0] 24 (0, 0)) (bp BK400) hb); replace HB := am (below_step (bw HB) hb); (try clear hb); (try clear hb2); (try clear hk); (try clear hi); (try clear ho0); have hcz26_0 : w25.cell? ⟨gb400, 0, none⟩ = some (.slice A0_0 l0_0.length c0_0) := bc BK400 0; have hfz26_0 := bf BK400 0) | ((with_reducible refine gate_callee (f := 16) rfl ?_); refine goesL_ (some 23) rfl rfl Try.func16 (by kernel_rfl) rfl #[.agg #[.slice A0_0 l0_0.length c0_0]] rfl gl ?_; (with_reducible refine (laws_toProgram.calls k _ _ l0_0 t408 _ ?side1 ?side2 A10.out).mono ?_); (case side1 => exact cc (Kd.C_below HR0_0.out HB.out)); (case side2 => exact HC0_0.out); rintro e w27 ⟨v409, rfl, ho0, hb⟩; refine ⟨_, rfl, ?_⟩; replace HO407 := am (Kd.R_below (kR HO407) hb); have HO410 := am (Kd.S_lower (Kd.S_new' ho0 (Kd.S_lt (kS HO404))) (below_size (bw HB))); replace HO404 := am (Kd.S_elder' (kS HO404) (Kd.S_base ho0) hb); replace BK400 := am (blk_below (g := gb400) (o := .cells #[.slice A0_0 l0_0.length c0_0] 24 (0, 0)) (bp BK400) hb); replace HB := am (below_step (bw HB) hb); (try clear hb); (try clear hb2); (try clear hk); (try clear hi); (try clear ho0)) | ((with_reducible refine gate_dst (N := 7) rfl ?_); refine box_event ?hg (N := 7) ?hd (cs := #[.slice none 0 0]) (t := 30) ?hr ?_; (case hd => rfl); (case hg => rfl); (case hr => exact gs); intro gb411 hg w28 hbox hb; replace HO404 := am (Kd.S_below (kS HO404) hb); replace HO407 := am (Kd.R_below (kR HO407) hb); replace HO410 := am (Kd.S_below (kS HO410) hb); have BK411 := am (hbox); have GW411 := am ((by rw [hg]; exact (below_size (bw HB)) : w.heap.size ≤ gb411)); have GE411 := am ((by rw [hg]; exact (below_size (bw HB)) : w.heap.size ≤ gb411)); replace HB := am (below_step (bw HB) hb); have NB400_411 := am ((by rw [hg]; exact Nat.ne_of_lt (blk_lt (g := gb400) (o := .cells #[.slice A0_0 l0_0.length c0_0] 24 (0, 0)) (bp BK400)) : gb400 ≠ gb411)); have NB411_400 := am ((by rw [hg]; exact Nat.ne_of_gt (blk_lt (g := gb400) (o := .cells #[.slice A0_0 l0_0.length c0_0] 24 (0, 0)) (bp BK400)) : gb411 ≠ gb400)); replace BK400 := am (blk_below (g := gb400) (o := .cells #[.slice A0_0 l0_0.length c0_0] 24 (0, 0)) (bp BK400) hb); clear hb hbox hg; obtain ⟨Ao29, co29, eo29⟩ := Kd.S_slice HO410.out; subst eo29; have hnb30 := NB411_400.out; have hnc30 := NB400_411.out; have hcz31_0 : w28.cell? ⟨gb411, 0, none⟩ = some (.slice none 0 0) := bc BK411 0; have hfz31_0 := bf BK411 0) | ((with_reducible refine gate_callee (f := 26) rfl ?_); refine goesL_ (some 26) rfl rfl Try.func26 (by kernel_rfl) rfl #[.agg #[.slice Ao29 t408.length co29], .int .i64 a1] rfl gl ?_; (with_reducible refine (impl_Headers.calls k _ _ t408 a1 t412 _ ?side1 ?side2 A11.out).mono ?_); (case side1 => refine (Kd.S_reads' (e := 100) (base := w.heap.size) (ok := fun k_ => (True ∧ some k_ ≠ (.slice Ao24 t402.length co24 : Value).ownBlock)) (n := t408.length) (c := co29) ?_).2.2; exact (by (with_reducible repeat (first | apply Kd.S_alloc | apply Kd.S_drewN | apply Kd.S_drew)); exact (Kd.S_mono (Kd.S_far (p := ⟨gb411, 0, none⟩) (Kd.S_types HO410.out BK411.out (by decide)) (fun _ hk => hk.2) (.slice Ao29 t408.length co29)) (fun _ h_ => h_.1)))); (case side2 => exact (Kd.S_reads' HO410.out).2.1); rintro e w32 ⟨v413, rfl, ho0, hb⟩; refine ⟨_, rfl, ?_⟩; replace HO404 := am (Kd.S_below (by (with_reducible repeat (first | apply Kd.S_alloc | apply Kd.S_drewN | apply Kd.S_drew)); exact (Kd.S_mono (Kd.S_far (p := ⟨gb411, 0, none⟩) (Kd.S_types HO404.out BK411.out (by decide)) (fun _ hk => hk.2) (.slice Ao29 t408.length co29)) (fun _ h_ => h_.1))) hb); replace HO410 := am (Kd.S_below (by (with_reducible repeat (first | apply Kd.S_alloc | apply Kd.S_drewN | apply Kd.S_drew)); exact (Kd.S_mono (Kd.S_far (p := ⟨gb411, 0, none⟩) (Kd.S_types HO410.out BK411.out (by decide)) (fun _ hk => hk.2) (.slice Ao29 t408.length co29)) (fun _ h_ => h_.1))) hb); have HO414 := am (Kd.R_lower (Kd.R_new' ho0 (Kd.R_lt (by (with_reducible repeat (first | apply Kd.R_alloc | apply Kd.R_drewN | apply Kd.R_drew)); exact (Kd.R_mono (Kd.R_far (p := ⟨gb411, 0, none⟩) (Kd.R_types HO407.out BK411.out (by decide)) (fun _ hk => hk.2) (.slice Ao29 t408.length co29)) (fun _ h_ => h_.1))))) (below_size (bw HB))); replace HO407 := am (Kd.R_elder' (by (with_reducible repeat (first | apply Kd.R_alloc | apply Kd.R_drewN | apply Kd.R_drew)); exact (Kd.R_mono (Kd.R_far (p := ⟨gb411, 0, none⟩) (Kd.R_types HO407.out BK411.out (by decide)) (fun _ hk => hk.2) (.slice Ao29 t408.length co29)) (fun _ h_ => h_.1))) (Kd.R_base ho0) hb); replace BK400 := am (blk_below (g := gb400) (o := .cells #[.slice A0_0 l0_0.length c0_0] 24 (0, 0)) (by (with_reducible repeat (first | apply dN | apply dW | apply dA)); refine blk_far ?_ NB400_411.out _; exact bp BK400) hb); replace BK411 := am (blk_below (g := gb411) (o := .cells #[.slice Ao29 t408.length co29] 30 (0, 0)) (by (with_reducible repeat (first | apply dN | apply dW | apply dA)); refine blk_put (cs := #[.slice none 0 0]) ?_ 0 _ rfl; exact bp BK411) hb); replace HB := am (below_step (bw HB) hb); (try clear hb); (try clear hb2); (try clear hk); (try clear hi); (try clear ho0); obtain ⟨Ao33, co33, eo33⟩ := Kd.R_slice HO414.out; subst eo33; obtain ⟨Ao34, co34, eo34⟩ := Kd.R_slice HO407.out; subst eo34) | ((with_reducible refine gate_callee (f := 18) rfl ?_); refine goesL_ (some 29) rfl rfl Try.func18 (by kernel_rfl) rfl #[.slice Ao33 t412.length co33, .slice Ao34 t405.length co34] rfl gl ?_; (with_reducible refine (laws_eqInt64S.calls k _ _ t412 _ _ t405 true _ ?side1 ?side2 ?side3 ?side4 A12.out).mono ?_); (case side1 => exact cc (Kd.R_reads' HO414.out).2.2); (case side2 => exact (Kd.R_reads' HO414.out).2.1); (case side3 => exact cc (Kd.R_reads' HO407.out).2.2); (case side4 => exact (Kd.R_reads' HO407.out).2.1); rintro e w' ⟨rfl, ⟨nd, rfl⟩⟩; refine ⟨_, rfl, ?_⟩))
    (try (rw [drewN_self w32]; generalize hq_ : World.drewN w32 _ = w32; have n0_ : Aside0 (Kd.S k100 100 w32 w.heap.size (fun k_ => some k_ ≠ (.slice Ao29 t408.length co29 : Value).ownBlock) (.slice Ao24 t402.length co24) t402) := ⟨by rw [← hq_]; exact (by (with_reducible repeat (first | apply Kd.S_alloc | apply Kd.S_drewN | apply Kd.S_drew)); exact Kd.S_mono HO404.out (fun _ hk => hk.2))⟩; have n1_ : Aside0 (Kd.R (Kd.int .i64) 2 w32 w.heap.size (fun k_ => some k_ ≠ (.slice Ao33 t412.length co33 : Value).ownBlock) (.slice Ao34 t405.length co34) t405) := ⟨by rw [← hq_]; exact (by (with_reducible repeat (first | apply Kd.R_alloc | apply Kd.R_drewN | apply Kd.R_drew)); exact Kd.R_mono HO407.out (fun _ hk => hk.2))⟩; have n2_ : Aside0 (Kd.S k100 100 w32 w.heap.size (fun k_ => some k_ ≠ (.slice Ao24 t402.length co24 : Value).ownBlock) (.slice Ao29 t408.length co29) t408) := ⟨by rw [← hq_]; exact (by (with_reducible repeat (first | apply Kd.S_alloc | apply Kd.S_drewN | apply Kd.S_drew)); exact Kd.S_mono HO410.out (fun _ hk => hk.2))⟩; have n3_ : Aside0 (Kd.R (Kd.int .i64) 2 w32 w.heap.size (fun k_ => some k_ ≠ (.slice Ao34 t405.length co34 : Value).ownBlock) (.slice Ao33 t412.length co33) t412) := ⟨by rw [← hq_]; exact (by (with_reducible repeat (first | apply Kd.R_alloc | apply Kd.R_drewN | apply Kd.R_drew)); exact Kd.R_mono HO414.out (fun _ hk => hk.2))⟩; have n4_ : Aside0 (w32.heap[gb400]? = some (.cells #[.slice A0_0 l0_0.length c0_0] 24 (0, 0))) := ⟨by rw [← hq_]; exact (bp BK400)⟩; have n5_ : Aside0 (w32.heap[gb411]? = some (.cells #[.slice Ao29 t408.length co29] 30 (0, 0))) := ⟨by rw [← hq_]; exact (bp BK411)⟩; have n6_ : Aside0 (Below w.heap.size w w32) := ⟨by rw [← hq_]; exact (bw HB)⟩; clear HO404 HO407 HO410 HO414 BK400 BK411 HB hq_; have HO404 := n0_; have HO407 := n1_; have HO410 := n2_; have HO414 := n3_; have BK400 := n4_; have BK411 := n5_; have HB := n6_; clear n0_ n1_ n2_ n3_ n4_ n5_ n6_))
    have n0_ := am (Kd.S_drew HO404.out)
    have n1_ := am (Kd.R_drew HO407.out)
    have n2_ := am (Kd.S_drew HO410.out)
    have n3_ := am (Kd.R_drew HO414.out)
    have n4_ := am (blk_drew BK400.out)
    have n5_ := am (blk_drew BK411.out)
    have n6_ := am (below_drew1 HB.out)
    clear HO404
    clear HO407
    clear HO410
    clear HO414
    clear BK400
    clear BK411
    clear HB
    have HO404 := n0_
    have HO407 := n1_
    have HO410 := n2_
    have HO414 := n3_
    have BK400 := n4_
    have BK411 := n5_
    have HB := n6_
    clear n0_ n1_ n2_ n3_ n4_ n5_ n6_
    refine start_ (n := 5) (S := fun w' => w'.cell? ⟨gb411, 0, none⟩ = some (.slice Ao29 t408.length co29) ∧ w'.cell? ⟨gb400, 0, none⟩ = some (.slice A0_0 l0_0.length c0_0)) (ds := []) #[false, false, false, false, false] (by kernel_rfl) rfl rfl ⟨bc BK411 0, bc BK400 0⟩ (fun hHeld => ?_)
    generalize w32.drew = w35 at HO404 HO407 HO410 HO414 BK400 BK411 HB hHeld ⊢
    refine take_ (i := 0) (N := some 31) (v := ?_) (a' := ?_) #[true, false, false, false, false] rfl rfl (by kernel_rfl) (fun _ _ _ h => h) (Or.inl ⟨by rfl, ?_⟩) hHeld ?_ ?_
    rotate_left
    ·rintro w' ⟨s0, s1⟩
     go_simp
     with_reducible rfl
    rotate_left
    ·simp only [Act.put, sa, sz, ss, i64_w, i32_w]
     rfl
    refine take_ (i := 1) (N := some 32) (v := ?_) (a' := ?_) #[true, true, false, false, false] rfl rfl (by kernel_rfl) (fun _ _ _ h => h) (Or.inl ⟨by rfl, ?_⟩) hHeld ?_ ?_
    rotate_left
    ·rintro w' ⟨s0, s1⟩
     go_simp
     with_reducible rfl
    rotate_left
    ·simp only [Act.put, sa, sz, ss, i64_w, i32_w]
     rfl
    refine one_ (i := 2) (N := some 33) #[true, true, true, false, false] rfl rfl (by kernel_rfl) (by decide) (fun K hK => ?_)
    refine goes_ Try.func16 (by kernel_rfl) rfl #[.agg #[.slice A0_0 l0_0.length c0_0]] (by rfl) rfl rfl gl ?_
    with_reducible refine (laws_toProgram.calls k _ _ l0_0 t416 _ ?side1 ?side2 A14.out).mono ?_
    (case side1 => exact cc (Kd.C_below HR0_0.out HB.out))
    (case side2 => exact HC0_0.out)
    rintro e w36 ⟨v417, rfl, ho0, hb⟩
    refine ⟨_, rfl, ?_⟩
    have n0_ := am (Kd.S_elder' (kS HO404) (Kd.S_base ho0) hb)
    have n1_ := am (Kd.R_below (kR HO407) hb)
    have n2_ := am (Kd.S_elder' (kS HO410) (Kd.S_base ho0) hb)
    have n3_ := am (Kd.R_below (kR HO414) hb)
    have n4_ := am (Kd.S_lower (Kd.S_new' (Kd.S_new' ho0 (Kd.S_lt (kS HO404))) (Kd.S_lt (kS HO410))) (below_size (bw HB)))
    have n5_ := am (blk_below (g := gb400) (o := .cells #[.slice A0_0 l0_0.length c0_0] 24 (0, 0)) (bp BK400) hb)
    have n6_ := am (blk_below (g := gb411) (o := .cells #[.slice Ao29 t408.length co29] 30 (0, 0)) (bp BK411) hb)
    have n7_ := am (below_step (bw HB) hb)
    clear HO404
    clear HO407
    clear HO410
    clear HO414
    clear BK400
    clear BK411
    clear HB
    have HO404 := n0_
    have HO407 := n1_
    have HO410 := n2_
    have HO414 := n3_
    have HO418 := n4_
    have BK400 := n5_
    have BK411 := n6_
    have HB := n7_
    clear n0_ n1_ n2_ n3_ n4_ n5_ n6_ n7_
    (try clear hb)
    (try clear hb2)
    (try clear hk)
    (try clear hi)
    (try clear ho0)
    obtain ⟨Ao37, co37, eo37⟩ := Kd.S_slice HO418.out
    (first | subst eo37 | (injection eo37 with f1_ f2_ f3_; have f4_ := f1_.symm; have f5_ := f3_.symm; clear f1_ f2_ f3_; subst f4_; subst f5_))
    refine hK.out _ _ ⟨bc BK411 0, bc BK400 0⟩ (fun hHeld => ?_)
    clear hK K
    refine norm_ (a' := ?_) ?_ ?_
    rotate_left
    ·show Act.put _ (some 33) _ = _
     simp only [Act.put, sa, sz, ss, i64_w, i32_w]
     rfl
    refine one_ (i := 3) (N := some 34) #[true, true, true, true, false] rfl rfl (by kernel_rfl) (by decide) (fun K hK => ?_)
    refine goes_ Try.func19 (by kernel_rfl) rfl #[.agg #[.slice Ao29 t408.length co29], .agg #[.slice Ao37 t416.length co37]] (by rfl) rfl rfl gl ?_
    with_reducible refine (laws_eqProgram.calls k _ _ t408 _ _ t416 true _ ?side1 ?side2 ?side3 ?side4 A15.out).mono ?_
    (case side1 => exact cc (Kd.S_reads' HO410.out).2.2)
    (case side2 => exact (Kd.S_reads' HO410.out).2.1)
    (case side3 => exact cc (Kd.S_reads' HO418.out).2.2)
    (case side4 => exact (Kd.S_reads' HO418.out).2.1)
    rintro e w38 ⟨rfl, hb⟩
    refine ⟨_, rfl, ?_⟩
    have n0_ := am (Kd.S_below (kS HO404) hb)
    have n1_ := am (Kd.R_below (kR HO407) hb)
    have n2_ := am (Kd.S_below (kS HO410) hb)
    have n3_ := am (Kd.R_below (kR HO414) hb)
    have n4_ := am (Kd.S_below (kS HO418) hb)
    have n5_ := am (blk_below (g := gb400) (o := .cells #[.slice A0_0 l0_0.length c0_0] 24 (0, 0)) (bp BK400) hb)
    have n6_ := am (blk_below (g := gb411) (o := .cells #[.slice Ao29 t408.length co29] 30 (0, 0)) (bp BK411) hb)
    have n7_ := am (below_step (bw HB) hb)
    clear HO404
    clear HO407
    clear HO410
    clear HO414
    clear HO418
    clear BK400
    clear BK411
    clear HB
    have HO404 := n0_
    have HO407 := n1_
    have HO410 := n2_
    have HO414 := n3_
    have HO418 := n4_
    have BK400 := n5_
    have BK411 := n6_
    have HB := n7_
    clear n0_ n1_ n2_ n3_ n4_ n5_ n6_ n7_
    (try clear hb)
    (try clear hb2)
    (try clear hk)
    (try clear hi)
    refine hK.out _ _ ⟨bc BK411 0, bc BK400 0⟩ (fun hHeld => ?_)
    clear hK K
    refine norm_ (a' := ?_) ?_ ?_
    rotate_left
    ·show Act.put _ (some 34) _ = _
     simp only [Act.put, sa, sz, ss, i64_w, i32_w]
     rfl
    refine pure_ (i := 4) (N := some 35) (v := ?_) (a' := ?_) #[true, true, true, true, true] rfl rfl (by kernel_rfl) (fun _ _ _ h => h) (Or.inl ⟨by rfl, ?_⟩) ?_ ?_
    rotate_left
    ·intro w'
     go_simp
     with_reducible rfl
    rotate_left
    ·simp only [Act.put, sa, sz, ss, i64_w, i32_w]
     rfl
    refine done_ (by kernel_rfl) ?_
    have hcz39_0 : w38.cell? ⟨gb411, 0, none⟩ = some (.slice Ao29 t408.length co29) := bc BK411 0
    have hfz39_0 := bf BK411 0
    go_upto_region 14 with (first | ((with_reducible refine gate_callee (f := 20) rfl ?_); refine goesL_ (some 38) rfl rfl Try.func20 (by kernel_rfl) rfl #[.agg #[.slice Ao29 t408.length co29], .int .i64 1] rfl gl ?_; (with_reducible refine (laws_markProgram.calls (fun k_ => w.heap.size ≤ k_ ∧ tyIn w38 (100 :: Kd.E k100) k_) (.slice Ao29 t408.length co29) t408 1 t420 w _ ?side1 ?side2 A17.out).mono ?_); (case side1 => repeat (first | (with_reducible first | exact HB.out | apply below_alloc | apply pw_below_drewN | apply below_drew1 | refine below_set ?_ GE400.out | refine below_set ?_ GE411.out) | exact HB.out)); (case side2 => exact R_typedIn (Kd.S_R HO410.out)); rintro e w40 ⟨rfl, hb, hkp⟩; refine ⟨_, rfl, ?_⟩; replace BK400 := am (blk_kept (bp BK400) hkp (fun hs_ => (fun e_ => tyIn_blk e_.2 (bp BK400) (by decide)) hs_)); replace HO407 := am (Kd.R_mono (ok' := fun k_ => some k_ ≠ (.slice Ao33 t412.length co33 : Value).ownBlock) (Kd.R_keptB ((Kd.R_mono (Kd.R_bound HO407.out) (fun k_ h_ => (⟨h_.1, fun e_ => tyIn_no e_ h_.2.2.2 (by decide)⟩ : _ ∧ ¬ tyIn _ (100 :: Kd.E k100) k_)))) hkp (fun k_ hk_ hs_ => (fun e_ => (hk_.2) e_.2) hs_)) (fun k_ hk_ => (by have h1_ := hk_.1.1; first | exact hk_.1.1.2 | exact h1_ | exact h1_.2 | exact h1_.1 | exact h1_.1.2 | exact h1_.2.2 | exact h1_.2.1 | exact h1_.1.1 | exact h1_.1.1.2 | exact h1_.1.2.1 | exact h1_.1.1.1))); replace BK411 := am (blk_kept (bp BK411) hkp (fun hs_ => (fun e_ => tyIn_blk e_.2 (bp BK411) (by decide)) hs_)); replace HO414 := am (Kd.R_mono (ok' := fun k_ => some k_ ≠ (.slice Ao34 t405.length co34 : Value).ownBlock) (Kd.R_keptB ((Kd.R_mono (Kd.R_bound HO414.out) (fun k_ h_ => (⟨h_.1, fun e_ => tyIn_no e_ h_.2.2.2 (by decide)⟩ : _ ∧ ¬ tyIn _ (100 :: Kd.E k100) k_)))) hkp (fun k_ hk_ hs_ => (fun e_ => (hk_.2) e_.2) hs_)) (fun k_ hk_ => (by have h1_ := hk_.1.1; first | exact hk_.1.1.2 | exact h1_ | exact h1_.2 | exact h1_.1 | exact h1_.1.2 | exact h1_.2.2 | exact h1_.2.1 | exact h1_.1.1 | exact h1_.1.1.2 | exact h1_.1.2.1 | exact h1_.1.1.1))); replace HB := am (hb); clear HO404; clear HO418; clear HO410; (try clear hb); (try clear hkp)))
    (try simp only [Act.put, sa, sz, ss])
    go_cut [46] (fun v46 wc => ∃ (kq : Nat) (x46_17 : Bool), v46 = .bool x46_17 ∧ Aside0 (laws_FnExactHeaders.j0 kq a1 t405 t412 x46_17 l0_0 = some r) ∧ Aside0 (kq ≤ k) ∧ Aside0 (Kd.R (Kd.int .i64) 2 wc w.heap.size (fun k_ => some k_ ≠ ((.slice Ao33 t412.length co33) : Value).ownBlock) (.slice Ao34 t405.length co34) t405) ∧ Aside0 (Kd.R (Kd.int .i64) 2 wc w.heap.size (fun k_ => some k_ ≠ ((.slice Ao34 t405.length co34) : Value).ownBlock) (.slice Ao33 t412.length co33) t412) ∧ Aside0 (wc.heap[gb400]? = some (.cells #[(.slice A0_0 l0_0.length c0_0)] 24 (0, 0))) ∧ Aside0 (Below w.heap.size w wc))
    case first =>
     have H := HC18.out
     clear HC18
     by_cases c41 : t420 < 0
     ·rw [if_pos c41] at H
      have c41b0 := decide_eq_true c41
      clear c41
      (first | rw [c41b0] | (simp only [i64_w, i32_w]; rw [c41b0]) | skip)
      have H' := am H
      clear H
      go_wp2
      go_meet
      case rel => exact ⟨_, (true), dr, H', ⟨by first | omega | exact Nat.le_refl _⟩, ⟨kR HO407⟩, ⟨kR HO414⟩, ⟨bp BK400⟩, ⟨bw HB⟩⟩
     ·rw [if_neg c41] at H
      have c41b0 := decide_eq_false c41
      clear c41
      (first | rw [c41b0] | (simp only [i64_w, i32_w]; rw [c41b0]) | skip)
      replace H := Option.bind_eq_some_iff.mp H
      obtain ⟨t421, A420, H⟩ := H
      replace H : (laws_FnExactHeaders.j0 k a1 t405 t412 (!t421) l0_0) = some r := H
      have A42 := am A420
      clear A420
      have H' := am H
      clear H
      go_wp2_with (first | (go_at_call 18; (with_reducible refine (laws_eqInt64S.calls k _ _ t412 _ _ t405 t421 _ ?side1 ?side2 ?side3 ?side4 A42.out).mono ?_); (case side1 => exact cc (Kd.R_reads' HO414.out).2.2); (case side2 => exact (Kd.R_reads' HO414.out).2.1); (case side3 => exact cc (Kd.R_reads' HO407.out).2.2); (case side4 => exact (Kd.R_reads' HO407.out).2.1); rintro e w' ⟨rfl, ⟨nd, rfl⟩⟩))
      go_meet
      case rel => exact ⟨_, (!t421), dr, H', ⟨by first | omega | exact Nat.le_refl _⟩, ⟨kR HO407⟩, ⟨kR HO414⟩, ⟨bp BK400⟩, ⟨bw HB⟩⟩
    case rest =>
     clear HC18
     (try clear c1); (try clear c2); (try clear p2); (try clear c3); (try clear c4); (try clear c4b0); (try clear c5); (try clear c13); (try clear c14); (try clear c16); (try clear c18); (try clear c19); (try clear c20); (try clear c25); (try clear c26); (try clear c30); (try clear c41); (try clear c41b0); (try clear hcz20_0); (try clear hcz22_0); (try clear hcz26_0); (try clear hcz31_0); (try clear hcz39_0); (try clear hcz6_0); (try clear hfz20_0); (try clear hfz22_0); (try clear hfz26_0); (try clear hfz31_0); (try clear hfz39_0); (try clear hfz6_0)
     obtain ⟨kq, x46_17, rfl, HA, HJ17, HO_6, HO_8, BK400, HB⟩ := hcut
     cases kq with
     | zero => exact absurd HA.out (by simp [laws_FnExactHeaders.j0])
     | succ kj17 =>
      have H := HA.out
      clear HA
      simp only [laws_FnExactHeaders.j0] at H
      by_cases c43 : x46_17 = true
      ·subst c43
       have H1 : (some false) = some r := by rw [if_pos rfl] at H; exact H
       clear H
       have H := H1
       clear H1
       obtain rfl := Option.some.inj H
       go_wp2
       go_ret
       exact ⟨er, bw HB⟩
      ·replace c43 := Bool.eq_false_iff.mpr c43
       subst c43
       have H1 : ((laws_markInt64S.f kj17 t412 1).bind fun bt422 => ((laws_heldInt64S.f kj17 bt422.2 1).bind fun t424 => (if t424 < 0 then (some false) else (if t424 = bt422.1 then ((laws_toProgram.f kj17 l0_0).bind fun t425 => ((impl_Headers.f kj17 t425 a1).bind fun t428 => ((laws_eqInt64S.f kj17 t428 t405).bind fun t431 => (if t431 = true then ((laws_heldInt64S.f kj17 bt422.2 1).bind fun t432 => (if t432 < 0 then (some false) else (if t432 = bt422.1 then (some true) else (some false)))) else (some false))))) else (some false))))) = some r := by rw [if_neg (show ¬ (false = true) by decide)] at H; exact H
       clear H
       have H := H1
       clear H1
       replace H := Option.bind_eq_some_iff.mp H
       obtain ⟨⟨t422, t423⟩, A440, H⟩ := H
       replace H : ((laws_heldInt64S.f kj17 t423 1).bind fun t424 => (if t424 < 0 then (some false) else (if t424 = t422 then ((laws_toProgram.f kj17 l0_0).bind fun t425 => ((impl_Headers.f kj17 t425 a1).bind fun t428 => ((laws_eqInt64S.f kj17 t428 t405).bind fun t431 => (if t431 = true then ((laws_heldInt64S.f kj17 t423 1).bind fun t432 => (if t432 < 0 then (some false) else (if t432 = t422 then (some true) else (some false)))) else (some false))))) else (some false)))) = some r := H
       have A44 := am A440
       clear A440
       replace H := Option.bind_eq_some_iff.mp H
       obtain ⟨t424, A450, H⟩ := H
       replace H : (if t424 < 0 then (some false) else (if t424 = t422 then ((laws_toProgram.f kj17 l0_0).bind fun t425 => ((impl_Headers.f kj17 t425 a1).bind fun t428 => ((laws_eqInt64S.f kj17 t428 t405).bind fun t431 => (if t431 = true then ((laws_heldInt64S.f kj17 t423 1).bind fun t432 => (if t432 < 0 then (some false) else (if t432 = t422 then (some true) else (some false)))) else (some false))))) else (some false))) = some r := H
       have A45 := am A450
       clear A450
       by_cases c46 : t424 < 0
       ·rw [if_pos c46] at H
        have c46b0 := decide_eq_true c46
        clear c46
        obtain rfl := Option.some.inj H
        go_wp2_with (first | ((with_reducible refine gate_callee (f := 21) rfl ?_); refine goesL_ (some 49) rfl rfl Try.func21 (by kernel_rfl) rfl #[.slice Ao33 t412.length co33, .int .i64 1] rfl gl ?_; (with_reducible refine (laws_markInt64S.calls kj17 (fun k_ => some k_ = (.slice Ao33 t412.length co33 : Value).ownBlock) (.slice Ao33 t412.length co33) t412 1 t422 t423 w _ ?side1 ?side2 A44.out).mono ?_); (case side1 => repeat (first | (with_reducible first | exact HB.out | apply below_alloc | apply pw_below_drewN | apply below_drew1 | refine below_set ?_ GE400.out) | exact HB.out)); (case side2 => exact Kd.R_tight rfl HO_8.out); rintro e w47 ⟨rfl, hy0, hb, hkp⟩; refine ⟨_, rfl, ?_⟩; replace HO_6 := am (Kd.R_mono (ok' := fun k_ => some k_ ≠ (.slice Ao33 t412.length co33 : Value).ownBlock) (Kd.R_keptB (HO_6.out) hkp (fun k_ hk_ hs_ => (hk_) hs_)) (fun k_ hk_ => hk_.1)); replace BK400 := am (blk_kept (bp BK400) hkp (fun hs_ => (fun e_ => (Kd.R_ne HO_8.out BK400.out (by decide)) e_) hs_)); replace HO_8 := am (Kd.R_reok rfl hy0 (fun k_ e_ => HO_8.out.1 k_ e_)); replace HB := am (hb); (try clear hb); (try clear hkp); (try clear hy0)) | ((with_reducible refine gate_callee (f := 22) rfl ?_); refine goesL_ (some 52) rfl rfl Try.func22 (by kernel_rfl) rfl #[.slice Ao33 t423.length co33, .int .i64 1] rfl (by (try simp only [List.map_toArray, List.map_cons, List.map_nil]); first | done | (rw [show t423.length = t412.length from (Kd.R_reads' HO_8.out).1.symm] <;> rfl) | rfl | (simp only [List.length_drop, List.length_take]; rfl)) ?_; (with_reducible refine (laws_heldInt64S.calls kj17 _ _ t423 1 t424 _ ?side1 ?side2 A45.out).mono ?_); (case side1 => exact cc (Kd.R_reads' HO_8.out).2.2); (case side2 => rw [show t423.length = t412.length from (Kd.R_reads' HO_8.out).1.symm]; exact (Kd.R_reads' HO_8.out).2.1); rintro e w' ⟨rfl, ⟨nd, rfl⟩⟩; refine ⟨_, rfl, ?_⟩))
        go_ret
        exact ⟨er, bw HB⟩
       ·rw [if_neg c46] at H
        have c46b0 := decide_eq_false c46
        clear c46
        by_cases c48 : t424 = t422
        ·rw [if_pos c48] at H
         have c48b0 : (t424 == t422) = true := beq_iff_eq.mpr c48
         have c48b1 : (t424 != t422) = false := bne_eq_false_iff_eq.mpr c48
         clear c48
         replace H := Option.bind_eq_some_iff.mp H
         obtain ⟨t425, A490, H⟩ := H
         replace H : ((impl_Headers.f kj17 t425 a1).bind fun t428 => ((laws_eqInt64S.f kj17 t428 t405).bind fun t431 => (if t431 = true then ((laws_heldInt64S.f kj17 t423 1).bind fun t432 => (if t432 < 0 then (some false) else (if t432 = t422 then (some true) else (some false)))) else (some false)))) = some r := H
         have A49 := am A490
         clear A490
         replace H := Option.bind_eq_some_iff.mp H
         obtain ⟨t428, A500, H⟩ := H
         replace H : ((laws_eqInt64S.f kj17 t428 t405).bind fun t431 => (if t431 = true then ((laws_heldInt64S.f kj17 t423 1).bind fun t432 => (if t432 < 0 then (some false) else (if t432 = t422 then (some true) else (some false)))) else (some false))) = some r := H
         have A50 := am A500
         clear A500
         replace H := Option.bind_eq_some_iff.mp H
         obtain ⟨t431, A510, H⟩ := H
         replace H : (if t431 = true then ((laws_heldInt64S.f kj17 t423 1).bind fun t432 => (if t432 < 0 then (some false) else (if t432 = t422 then (some true) else (some false)))) else (some false)) = some r := H
         have A51 := am A510
         clear A510
         by_cases c52 : t431 = true
         ·subst c52
          have H1 : ((laws_heldInt64S.f kj17 t423 1).bind fun t432 => (if t432 < 0 then (some false) else (if t432 = t422 then (some true) else (some false)))) = some r := by rw [if_pos rfl] at H; exact H
          clear H
          have H := H1
          clear H1
          replace H := Option.bind_eq_some_iff.mp H
          obtain ⟨t432, A530, H⟩ := H
          replace H : (if t432 < 0 then (some false) else (if t432 = t422 then (some true) else (some false))) = some r := H
          have A53 := am A530
          clear A530
          by_cases c54 : t432 < 0
          ·rw [if_pos c54] at H
           have c54b0 := decide_eq_true c54
           clear c54
           obtain rfl := Option.some.inj H
           go_wp2_with (first | ((with_reducible refine gate_callee (f := 21) rfl ?_); refine goesL_ (some 49) rfl rfl Try.func21 (by kernel_rfl) rfl #[.slice Ao33 t412.length co33, .int .i64 1] rfl gl ?_; (with_reducible refine (laws_markInt64S.calls kj17 (fun k_ => some k_ = (.slice Ao33 t412.length co33 : Value).ownBlock) (.slice Ao33 t412.length co33) t412 1 t422 t423 w _ ?side1 ?side2 A44.out).mono ?_); (case side1 => repeat (first | (with_reducible first | exact HB.out | apply below_alloc | apply pw_below_drewN | apply below_drew1 | refine below_set ?_ GE400.out) | exact HB.out)); (case side2 => exact Kd.R_tight rfl HO_8.out); rintro e w55 ⟨rfl, hy0, hb, hkp⟩; refine ⟨_, rfl, ?_⟩; replace HO_6 := am (Kd.R_mono (ok' := fun k_ => some k_ ≠ (.slice Ao33 t412.length co33 : Value).ownBlock) (Kd.R_keptB (HO_6.out) hkp (fun k_ hk_ hs_ => (hk_) hs_)) (fun k_ hk_ => hk_.1)); replace BK400 := am (blk_kept (bp BK400) hkp (fun hs_ => (fun e_ => (Kd.R_ne HO_8.out BK400.out (by decide)) e_) hs_)); replace HO_8 := am (Kd.R_reok rfl hy0 (fun k_ e_ => HO_8.out.1 k_ e_)); replace HB := am (hb); (try clear hb); (try clear hkp); (try clear hy0)) | ((with_reducible refine gate_callee (f := 22) rfl ?_); refine goesL_ (some 52) rfl rfl Try.func22 (by kernel_rfl) rfl #[.slice Ao33 t423.length co33, .int .i64 1] rfl (by (try simp only [List.map_toArray, List.map_cons, List.map_nil]); first | done | (rw [show t423.length = t412.length from (Kd.R_reads' HO_8.out).1.symm] <;> rfl) | rfl | (simp only [List.length_drop, List.length_take]; rfl)) ?_; (with_reducible refine (laws_heldInt64S.calls kj17 _ _ t423 1 t424 _ ?side1 ?side2 A45.out).mono ?_); (case side1 => exact cc (Kd.R_reads' HO_8.out).2.2); (case side2 => rw [show t423.length = t412.length from (Kd.R_reads' HO_8.out).1.symm]; exact (Kd.R_reads' HO_8.out).2.1); rintro e w' ⟨rfl, ⟨nd, rfl⟩⟩; refine ⟨_, rfl, ?_⟩; have hcz56_0 : w55.cell? ⟨gb400, 0, none⟩ = some (.slice A0_0 l0_0.length c0_0) := bc BK400 0; have hfz56_0 := bf BK400 0) | ((with_reducible refine gate_callee (f := 16) rfl ?_); refine goesL_ (some 59) rfl rfl Try.func16 (by kernel_rfl) rfl #[.agg #[.slice A0_0 l0_0.length c0_0]] rfl gl ?_; (with_reducible refine (laws_toProgram.calls kj17 _ _ l0_0 t425 _ ?side1 ?side2 A49.out).mono ?_); (case side1 => exact cc (Kd.C_below HR0_0.out (bw HB))); (case side2 => exact HC0_0.out); rintro e w57 ⟨v426, rfl, ho0, hb⟩; refine ⟨_, rfl, ?_⟩; replace HO_6 := am (Kd.R_below (kR HO_6) hb); replace HO_8 := am (Kd.R_below (kR HO_8) hb); have HO427 := am (Kd.S_lower ho0 (below_size (bw HB))); replace BK400 := am (blk_below (g := gb400) (o := .cells #[.slice A0_0 l0_0.length c0_0] 24 (0, 0)) (bp BK400) hb); replace HB := am (below_step (bw HB) hb); (try clear hb); (try clear hb2); (try clear hk); (try clear hi); (try clear ho0); obtain ⟨Ao58, co58, eo58⟩ := Kd.S_slice HO427.out; subst eo58) | ((with_reducible refine gate_callee (f := 26) rfl ?_); refine goesL_ (some 61) rfl rfl Try.func26 (by kernel_rfl) rfl #[.agg #[.slice Ao58 t425.length co58], .int .i64 a1] rfl gl ?_; (with_reducible refine (impl_Headers.calls kj17 _ _ t425 a1 t428 _ ?side1 ?side2 A50.out).mono ?_); (case side1 => exact cc (Kd.S_reads' HO427.out).2.2); (case side2 => exact (Kd.S_reads' HO427.out).2.1); rintro e w59 ⟨v429, rfl, ho0, hb⟩; refine ⟨_, rfl, ?_⟩; replace HO427 := am (Kd.S_below (kS HO427) hb); have HO430 := am (Kd.R_lower (Kd.R_new' (Kd.R_new' ho0 (Kd.R_lt (kR HO_6))) (Kd.R_lt (kR HO_8))) (below_size (bw HB))); replace HO_6 := am (Kd.R_elder' (kR HO_6) (Kd.R_base ho0) hb); replace HO_8 := am (Kd.R_elder' (kR HO_8) (Kd.R_base ho0) hb); replace BK400 := am (blk_below (g := gb400) (o := .cells #[.slice A0_0 l0_0.length c0_0] 24 (0, 0)) (bp BK400) hb); replace HB := am (below_step (bw HB) hb); (try clear hb); (try clear hb2); (try clear hk); (try clear hi); (try clear ho0); obtain ⟨Ao60, co60, eo60⟩ := Kd.R_slice HO430.out; subst eo60) | ((with_reducible refine gate_callee (f := 18) rfl ?_); refine goesL_ (some 64) rfl rfl Try.func18 (by kernel_rfl) rfl #[.slice Ao60 t428.length co60, .slice Ao34 t405.length co34] rfl gl ?_; (with_reducible refine (laws_eqInt64S.calls kj17 _ _ t428 _ _ t405 true _ ?side1 ?side2 ?side3 ?side4 A51.out).mono ?_); (case side1 => exact cc (Kd.R_reads' HO430.out).2.2); (case side2 => exact (Kd.R_reads' HO430.out).2.1); (case side3 => exact cc (Kd.R_reads' HO_6.out).2.2); (case side4 => exact (Kd.R_reads' HO_6.out).2.1); rintro e w' ⟨rfl, ⟨nd, rfl⟩⟩; refine ⟨_, rfl, ?_⟩) | ((with_reducible refine gate_callee (f := 22) rfl ?_); refine goesL_ (some 68) rfl rfl Try.func22 (by kernel_rfl) rfl #[.slice Ao33 t423.length co33, .int .i64 1] rfl (by (try simp only [List.map_toArray, List.map_cons, List.map_nil]); first | done | (rw [show t423.length = t412.length from (Kd.R_reads' HO_8.out).1.symm] <;> rfl) | rfl | (simp only [List.length_drop, List.length_take]; rfl)) ?_; (with_reducible refine (laws_heldInt64S.calls kj17 _ _ t423 1 t432 _ ?side1 ?side2 A53.out).mono ?_); (case side1 => exact cc (Kd.R_reads' HO_8.out).2.2); (case side2 => rw [show t423.length = t412.length from (Kd.R_reads' HO_8.out).1.symm]; exact (Kd.R_reads' HO_8.out).2.1); rintro e w' ⟨rfl, ⟨nd, rfl⟩⟩; refine ⟨_, rfl, ?_⟩))
           go_ret
           exact ⟨er, bw HB⟩
          ·rw [if_neg c54] at H
           have c54b0 := decide_eq_false c54
           clear c54
           by_cases c61 : t432 = t422
           ·rw [if_pos c61] at H
            have c61b0 : (t432 == t422) = true := beq_iff_eq.mpr c61
            have c61b1 : (t432 != t422) = false := bne_eq_false_iff_eq.mpr c61
            clear c61
            obtain rfl := Option.some.inj H
            go_wp2_with (first | ((with_reducible refine gate_callee (f := 21) rfl ?_); refine goesL_ (some 49) rfl rfl Try.func21 (by kernel_rfl) rfl #[.slice Ao33 t412.length co33, .int .i64 1] rfl gl ?_; (with_reducible refine (laws_markInt64S.calls kj17 (fun k_ => some k_ = (.slice Ao33 t412.length co33 : Value).ownBlock) (.slice Ao33 t412.length co33) t412 1 t422 t423 w _ ?side1 ?side2 A44.out).mono ?_); (case side1 => repeat (first | (with_reducible first | exact HB.out | apply below_alloc | apply pw_below_drewN | apply below_drew1 | refine below_set ?_ GE400.out) | exact HB.out)); (case side2 => exact Kd.R_tight rfl HO_8.out); rintro e w62 ⟨rfl, hy0, hb, hkp⟩; refine ⟨_, rfl, ?_⟩; replace HO_6 := am (Kd.R_mono (ok' := fun k_ => some k_ ≠ (.slice Ao33 t412.length co33 : Value).ownBlock) (Kd.R_keptB (HO_6.out) hkp (fun k_ hk_ hs_ => (hk_) hs_)) (fun k_ hk_ => hk_.1)); replace BK400 := am (blk_kept (bp BK400) hkp (fun hs_ => (fun e_ => (Kd.R_ne HO_8.out BK400.out (by decide)) e_) hs_)); replace HO_8 := am (Kd.R_reok rfl hy0 (fun k_ e_ => HO_8.out.1 k_ e_)); replace HB := am (hb); (try clear hb); (try clear hkp); (try clear hy0)) | ((with_reducible refine gate_callee (f := 22) rfl ?_); refine goesL_ (some 52) rfl rfl Try.func22 (by kernel_rfl) rfl #[.slice Ao33 t423.length co33, .int .i64 1] rfl (by (try simp only [List.map_toArray, List.map_cons, List.map_nil]); first | done | (rw [show t423.length = t412.length from (Kd.R_reads' HO_8.out).1.symm] <;> rfl) | rfl | (simp only [List.length_drop, List.length_take]; rfl)) ?_; (with_reducible refine (laws_heldInt64S.calls kj17 _ _ t423 1 t424 _ ?side1 ?side2 A45.out).mono ?_); (case side1 => exact cc (Kd.R_reads' HO_8.out).2.2); (case side2 => rw [show t423.length = t412.length from (Kd.R_reads' HO_8.out).1.symm]; exact (Kd.R_reads' HO_8.out).2.1); rintro e w' ⟨rfl, ⟨nd, rfl⟩⟩; refine ⟨_, rfl, ?_⟩; have hcz63_0 : w62.cell? ⟨gb400, 0, none⟩ = some (.slice A0_0 l0_0.length c0_0) := bc BK400 0; have hfz63_0 := bf BK400 0) | ((with_reducible refine gate_callee (f := 16) rfl ?_); refine goesL_ (some 59) rfl rfl Try.func16 (by kernel_rfl) rfl #[.agg #[.slice A0_0 l0_0.length c0_0]] rfl gl ?_; (with_reducible refine (laws_toProgram.calls kj17 _ _ l0_0 t425 _ ?side1 ?side2 A49.out).mono ?_); (case side1 => exact cc (Kd.C_below HR0_0.out (bw HB))); (case side2 => exact HC0_0.out); rintro e w64 ⟨v426, rfl, ho0, hb⟩; refine ⟨_, rfl, ?_⟩; replace HO_6 := am (Kd.R_below (kR HO_6) hb); replace HO_8 := am (Kd.R_below (kR HO_8) hb); have HO427 := am (Kd.S_lower ho0 (below_size (bw HB))); replace BK400 := am (blk_below (g := gb400) (o := .cells #[.slice A0_0 l0_0.length c0_0] 24 (0, 0)) (bp BK400) hb); replace HB := am (below_step (bw HB) hb); (try clear hb); (try clear hb2); (try clear hk); (try clear hi); (try clear ho0); obtain ⟨Ao65, co65, eo65⟩ := Kd.S_slice HO427.out; subst eo65) | ((with_reducible refine gate_callee (f := 26) rfl ?_); refine goesL_ (some 61) rfl rfl Try.func26 (by kernel_rfl) rfl #[.agg #[.slice Ao65 t425.length co65], .int .i64 a1] rfl gl ?_; (with_reducible refine (impl_Headers.calls kj17 _ _ t425 a1 t428 _ ?side1 ?side2 A50.out).mono ?_); (case side1 => exact cc (Kd.S_reads' HO427.out).2.2); (case side2 => exact (Kd.S_reads' HO427.out).2.1); rintro e w66 ⟨v429, rfl, ho0, hb⟩; refine ⟨_, rfl, ?_⟩; replace HO427 := am (Kd.S_below (kS HO427) hb); have HO430 := am (Kd.R_lower (Kd.R_new' (Kd.R_new' ho0 (Kd.R_lt (kR HO_6))) (Kd.R_lt (kR HO_8))) (below_size (bw HB))); replace HO_6 := am (Kd.R_elder' (kR HO_6) (Kd.R_base ho0) hb); replace HO_8 := am (Kd.R_elder' (kR HO_8) (Kd.R_base ho0) hb); replace BK400 := am (blk_below (g := gb400) (o := .cells #[.slice A0_0 l0_0.length c0_0] 24 (0, 0)) (bp BK400) hb); replace HB := am (below_step (bw HB) hb); (try clear hb); (try clear hb2); (try clear hk); (try clear hi); (try clear ho0); obtain ⟨Ao67, co67, eo67⟩ := Kd.R_slice HO430.out; subst eo67) | ((with_reducible refine gate_callee (f := 18) rfl ?_); refine goesL_ (some 64) rfl rfl Try.func18 (by kernel_rfl) rfl #[.slice Ao67 t428.length co67, .slice Ao34 t405.length co34] rfl gl ?_; (with_reducible refine (laws_eqInt64S.calls kj17 _ _ t428 _ _ t405 true _ ?side1 ?side2 ?side3 ?side4 A51.out).mono ?_); (case side1 => exact cc (Kd.R_reads' HO430.out).2.2); (case side2 => exact (Kd.R_reads' HO430.out).2.1); (case side3 => exact cc (Kd.R_reads' HO_6.out).2.2); (case side4 => exact (Kd.R_reads' HO_6.out).2.1); rintro e w' ⟨rfl, ⟨nd, rfl⟩⟩; refine ⟨_, rfl, ?_⟩) | ((with_reducible refine gate_callee (f := 22) rfl ?_); refine goesL_ (some 68) rfl rfl Try.func22 (by kernel_rfl) rfl #[.slice Ao33 t423.length co33, .int .i64 1] rfl (by (try simp only [List.map_toArray, List.map_cons, List.map_nil]); first | done | (rw [show t423.length = t412.length from (Kd.R_reads' HO_8.out).1.symm] <;> rfl) | rfl | (simp only [List.length_drop, List.length_take]; rfl)) ?_; (with_reducible refine (laws_heldInt64S.calls kj17 _ _ t423 1 t432 _ ?side1 ?side2 A53.out).mono ?_); (case side1 => exact cc (Kd.R_reads' HO_8.out).2.2); (case side2 => rw [show t423.length = t412.length from (Kd.R_reads' HO_8.out).1.symm]; exact (Kd.R_reads' HO_8.out).2.1); rintro e w' ⟨rfl, ⟨nd, rfl⟩⟩; refine ⟨_, rfl, ?_⟩))
            go_ret
            exact ⟨er, bw HB⟩
           ·rw [if_neg c61] at H
            have c61b0 : (t432 == t422) = false := beq_eq_false_iff_ne.mpr c61
            have c61b1 : (t432 != t422) = true := bne_iff_ne.mpr c61
            obtain rfl := Option.some.inj H
            go_wp2_with (first | ((with_reducible refine gate_callee (f := 21) rfl ?_); refine goesL_ (some 49) rfl rfl Try.func21 (by kernel_rfl) rfl #[.slice Ao33 t412.length co33, .int .i64 1] rfl gl ?_; (with_reducible refine (laws_markInt64S.calls kj17 (fun k_ => some k_ = (.slice Ao33 t412.length co33 : Value).ownBlock) (.slice Ao33 t412.length co33) t412 1 t422 t423 w _ ?side1 ?side2 A44.out).mono ?_); (case side1 => repeat (first | (with_reducible first | exact HB.out | apply below_alloc | apply pw_below_drewN | apply below_drew1 | refine below_set ?_ GE400.out) | exact HB.out)); (case side2 => exact Kd.R_tight rfl HO_8.out); rintro e w68 ⟨rfl, hy0, hb, hkp⟩; refine ⟨_, rfl, ?_⟩; replace HO_6 := am (Kd.R_mono (ok' := fun k_ => some k_ ≠ (.slice Ao33 t412.length co33 : Value).ownBlock) (Kd.R_keptB (HO_6.out) hkp (fun k_ hk_ hs_ => (hk_) hs_)) (fun k_ hk_ => hk_.1)); replace BK400 := am (blk_kept (bp BK400) hkp (fun hs_ => (fun e_ => (Kd.R_ne HO_8.out BK400.out (by decide)) e_) hs_)); replace HO_8 := am (Kd.R_reok rfl hy0 (fun k_ e_ => HO_8.out.1 k_ e_)); replace HB := am (hb); (try clear hb); (try clear hkp); (try clear hy0)) | ((with_reducible refine gate_callee (f := 22) rfl ?_); refine goesL_ (some 52) rfl rfl Try.func22 (by kernel_rfl) rfl #[.slice Ao33 t423.length co33, .int .i64 1] rfl (by (try simp only [List.map_toArray, List.map_cons, List.map_nil]); first | done | (rw [show t423.length = t412.length from (Kd.R_reads' HO_8.out).1.symm] <;> rfl) | rfl | (simp only [List.length_drop, List.length_take]; rfl)) ?_; (with_reducible refine (laws_heldInt64S.calls kj17 _ _ t423 1 t424 _ ?side1 ?side2 A45.out).mono ?_); (case side1 => exact cc (Kd.R_reads' HO_8.out).2.2); (case side2 => rw [show t423.length = t412.length from (Kd.R_reads' HO_8.out).1.symm]; exact (Kd.R_reads' HO_8.out).2.1); rintro e w' ⟨rfl, ⟨nd, rfl⟩⟩; refine ⟨_, rfl, ?_⟩; have hcz69_0 : w68.cell? ⟨gb400, 0, none⟩ = some (.slice A0_0 l0_0.length c0_0) := bc BK400 0; have hfz69_0 := bf BK400 0) | ((with_reducible refine gate_callee (f := 16) rfl ?_); refine goesL_ (some 59) rfl rfl Try.func16 (by kernel_rfl) rfl #[.agg #[.slice A0_0 l0_0.length c0_0]] rfl gl ?_; (with_reducible refine (laws_toProgram.calls kj17 _ _ l0_0 t425 _ ?side1 ?side2 A49.out).mono ?_); (case side1 => exact cc (Kd.C_below HR0_0.out (bw HB))); (case side2 => exact HC0_0.out); rintro e w70 ⟨v426, rfl, ho0, hb⟩; refine ⟨_, rfl, ?_⟩; replace HO_6 := am (Kd.R_below (kR HO_6) hb); replace HO_8 := am (Kd.R_below (kR HO_8) hb); have HO427 := am (Kd.S_lower ho0 (below_size (bw HB))); replace BK400 := am (blk_below (g := gb400) (o := .cells #[.slice A0_0 l0_0.length c0_0] 24 (0, 0)) (bp BK400) hb); replace HB := am (below_step (bw HB) hb); (try clear hb); (try clear hb2); (try clear hk); (try clear hi); (try clear ho0); obtain ⟨Ao71, co71, eo71⟩ := Kd.S_slice HO427.out; subst eo71) | ((with_reducible refine gate_callee (f := 26) rfl ?_); refine goesL_ (some 61) rfl rfl Try.func26 (by kernel_rfl) rfl #[.agg #[.slice Ao71 t425.length co71], .int .i64 a1] rfl gl ?_; (with_reducible refine (impl_Headers.calls kj17 _ _ t425 a1 t428 _ ?side1 ?side2 A50.out).mono ?_); (case side1 => exact cc (Kd.S_reads' HO427.out).2.2); (case side2 => exact (Kd.S_reads' HO427.out).2.1); rintro e w72 ⟨v429, rfl, ho0, hb⟩; refine ⟨_, rfl, ?_⟩; replace HO427 := am (Kd.S_below (kS HO427) hb); have HO430 := am (Kd.R_lower (Kd.R_new' (Kd.R_new' ho0 (Kd.R_lt (kR HO_6))) (Kd.R_lt (kR HO_8))) (below_size (bw HB))); replace HO_6 := am (Kd.R_elder' (kR HO_6) (Kd.R_base ho0) hb); replace HO_8 := am (Kd.R_elder' (kR HO_8) (Kd.R_base ho0) hb); replace BK400 := am (blk_below (g := gb400) (o := .cells #[.slice A0_0 l0_0.length c0_0] 24 (0, 0)) (bp BK400) hb); replace HB := am (below_step (bw HB) hb); (try clear hb); (try clear hb2); (try clear hk); (try clear hi); (try clear ho0); obtain ⟨Ao73, co73, eo73⟩ := Kd.R_slice HO430.out; subst eo73) | ((with_reducible refine gate_callee (f := 18) rfl ?_); refine goesL_ (some 64) rfl rfl Try.func18 (by kernel_rfl) rfl #[.slice Ao73 t428.length co73, .slice Ao34 t405.length co34] rfl gl ?_; (with_reducible refine (laws_eqInt64S.calls kj17 _ _ t428 _ _ t405 true _ ?side1 ?side2 ?side3 ?side4 A51.out).mono ?_); (case side1 => exact cc (Kd.R_reads' HO430.out).2.2); (case side2 => exact (Kd.R_reads' HO430.out).2.1); (case side3 => exact cc (Kd.R_reads' HO_6.out).2.2); (case side4 => exact (Kd.R_reads' HO_6.out).2.1); rintro e w' ⟨rfl, ⟨nd, rfl⟩⟩; refine ⟨_, rfl, ?_⟩) | ((with_reducible refine gate_callee (f := 22) rfl ?_); refine goesL_ (some 68) rfl rfl Try.func22 (by kernel_rfl) rfl #[.slice Ao33 t423.length co33, .int .i64 1] rfl (by (try simp only [List.map_toArray, List.map_cons, List.map_nil]); first | done | (rw [show t423.length = t412.length from (Kd.R_reads' HO_8.out).1.symm] <;> rfl) | rfl | (simp only [List.length_drop, List.length_take]; rfl)) ?_; (with_reducible refine (laws_heldInt64S.calls kj17 _ _ t423 1 t432 _ ?side1 ?side2 A53.out).mono ?_); (case side1 => exact cc (Kd.R_reads' HO_8.out).2.2); (case side2 => rw [show t423.length = t412.length from (Kd.R_reads' HO_8.out).1.symm]; exact (Kd.R_reads' HO_8.out).2.1); rintro e w' ⟨rfl, ⟨nd, rfl⟩⟩; refine ⟨_, rfl, ?_⟩))
            go_ret
            exact ⟨er, bw HB⟩
         ·replace c52 := Bool.eq_false_iff.mpr c52
          subst c52
          have H1 : (some false) = some r := by rw [if_neg (show ¬ (false = true) by decide)] at H; exact H
          clear H
          have H := H1
          clear H1
          obtain rfl := Option.some.inj H
          go_wp2_with (first | ((with_reducible refine gate_callee (f := 21) rfl ?_); refine goesL_ (some 49) rfl rfl Try.func21 (by kernel_rfl) rfl #[.slice Ao33 t412.length co33, .int .i64 1] rfl gl ?_; (with_reducible refine (laws_markInt64S.calls kj17 (fun k_ => some k_ = (.slice Ao33 t412.length co33 : Value).ownBlock) (.slice Ao33 t412.length co33) t412 1 t422 t423 w _ ?side1 ?side2 A44.out).mono ?_); (case side1 => repeat (first | (with_reducible first | exact HB.out | apply below_alloc | apply pw_below_drewN | apply below_drew1 | refine below_set ?_ GE400.out) | exact HB.out)); (case side2 => exact Kd.R_tight rfl HO_8.out); rintro e w74 ⟨rfl, hy0, hb, hkp⟩; refine ⟨_, rfl, ?_⟩; replace HO_6 := am (Kd.R_mono (ok' := fun k_ => some k_ ≠ (.slice Ao33 t412.length co33 : Value).ownBlock) (Kd.R_keptB (HO_6.out) hkp (fun k_ hk_ hs_ => (hk_) hs_)) (fun k_ hk_ => hk_.1)); replace BK400 := am (blk_kept (bp BK400) hkp (fun hs_ => (fun e_ => (Kd.R_ne HO_8.out BK400.out (by decide)) e_) hs_)); replace HO_8 := am (Kd.R_reok rfl hy0 (fun k_ e_ => HO_8.out.1 k_ e_)); replace HB := am (hb); (try clear hb); (try clear hkp); (try clear hy0)) | ((with_reducible refine gate_callee (f := 22) rfl ?_); refine goesL_ (some 52) rfl rfl Try.func22 (by kernel_rfl) rfl #[.slice Ao33 t423.length co33, .int .i64 1] rfl (by (try simp only [List.map_toArray, List.map_cons, List.map_nil]); first | done | (rw [show t423.length = t412.length from (Kd.R_reads' HO_8.out).1.symm] <;> rfl) | rfl | (simp only [List.length_drop, List.length_take]; rfl)) ?_; (with_reducible refine (laws_heldInt64S.calls kj17 _ _ t423 1 t424 _ ?side1 ?side2 A45.out).mono ?_); (case side1 => exact cc (Kd.R_reads' HO_8.out).2.2); (case side2 => rw [show t423.length = t412.length from (Kd.R_reads' HO_8.out).1.symm]; exact (Kd.R_reads' HO_8.out).2.1); rintro e w' ⟨rfl, ⟨nd, rfl⟩⟩; refine ⟨_, rfl, ?_⟩; have hcz75_0 : w74.cell? ⟨gb400, 0, none⟩ = some (.slice A0_0 l0_0.length c0_0) := bc BK400 0; have hfz75_0 := bf BK400 0) | ((with_reducible refine gate_callee (f := 16) rfl ?_); refine goesL_ (some 59) rfl rfl Try.func16 (by kernel_rfl) rfl #[.agg #[.slice A0_0 l0_0.length c0_0]] rfl gl ?_; (with_reducible refine (laws_toProgram.calls kj17 _ _ l0_0 t425 _ ?side1 ?side2 A49.out).mono ?_); (case side1 => exact cc (Kd.C_below HR0_0.out (bw HB))); (case side2 => exact HC0_0.out); rintro e w76 ⟨v426, rfl, ho0, hb⟩; refine ⟨_, rfl, ?_⟩; replace HO_6 := am (Kd.R_below (kR HO_6) hb); replace HO_8 := am (Kd.R_below (kR HO_8) hb); have HO427 := am (Kd.S_lower ho0 (below_size (bw HB))); replace BK400 := am (blk_below (g := gb400) (o := .cells #[.slice A0_0 l0_0.length c0_0] 24 (0, 0)) (bp BK400) hb); replace HB := am (below_step (bw HB) hb); (try clear hb); (try clear hb2); (try clear hk); (try clear hi); (try clear ho0); obtain ⟨Ao77, co77, eo77⟩ := Kd.S_slice HO427.out; subst eo77) | ((with_reducible refine gate_callee (f := 26) rfl ?_); refine goesL_ (some 61) rfl rfl Try.func26 (by kernel_rfl) rfl #[.agg #[.slice Ao77 t425.length co77], .int .i64 a1] rfl gl ?_; (with_reducible refine (impl_Headers.calls kj17 _ _ t425 a1 t428 _ ?side1 ?side2 A50.out).mono ?_); (case side1 => exact cc (Kd.S_reads' HO427.out).2.2); (case side2 => exact (Kd.S_reads' HO427.out).2.1); rintro e w78 ⟨v429, rfl, ho0, hb⟩; refine ⟨_, rfl, ?_⟩; replace HO427 := am (Kd.S_below (kS HO427) hb); have HO430 := am (Kd.R_lower (Kd.R_new' (Kd.R_new' ho0 (Kd.R_lt (kR HO_6))) (Kd.R_lt (kR HO_8))) (below_size (bw HB))); replace HO_6 := am (Kd.R_elder' (kR HO_6) (Kd.R_base ho0) hb); replace HO_8 := am (Kd.R_elder' (kR HO_8) (Kd.R_base ho0) hb); replace BK400 := am (blk_below (g := gb400) (o := .cells #[.slice A0_0 l0_0.length c0_0] 24 (0, 0)) (bp BK400) hb); replace HB := am (below_step (bw HB) hb); (try clear hb); (try clear hb2); (try clear hk); (try clear hi); (try clear ho0); obtain ⟨Ao79, co79, eo79⟩ := Kd.R_slice HO430.out; subst eo79) | ((with_reducible refine gate_callee (f := 18) rfl ?_); refine goesL_ (some 64) rfl rfl Try.func18 (by kernel_rfl) rfl #[.slice Ao79 t428.length co79, .slice Ao34 t405.length co34] rfl gl ?_; (with_reducible refine (laws_eqInt64S.calls kj17 _ _ t428 _ _ t405 false _ ?side1 ?side2 ?side3 ?side4 A51.out).mono ?_); (case side1 => exact cc (Kd.R_reads' HO430.out).2.2); (case side2 => exact (Kd.R_reads' HO430.out).2.1); (case side3 => exact cc (Kd.R_reads' HO_6.out).2.2); (case side4 => exact (Kd.R_reads' HO_6.out).2.1); rintro e w' ⟨rfl, ⟨nd, rfl⟩⟩; refine ⟨_, rfl, ?_⟩))
          go_ret
          exact ⟨er, bw HB⟩
        ·rw [if_neg c48] at H
         have c48b0 : (t424 == t422) = false := beq_eq_false_iff_ne.mpr c48
         have c48b1 : (t424 != t422) = true := bne_iff_ne.mpr c48
         obtain rfl := Option.some.inj H
         go_wp2_with (first | ((with_reducible refine gate_callee (f := 21) rfl ?_); refine goesL_ (some 49) rfl rfl Try.func21 (by kernel_rfl) rfl #[.slice Ao33 t412.length co33, .int .i64 1] rfl gl ?_; (with_reducible refine (laws_markInt64S.calls kj17 (fun k_ => some k_ = (.slice Ao33 t412.length co33 : Value).ownBlock) (.slice Ao33 t412.length co33) t412 1 t422 t423 w _ ?side1 ?side2 A44.out).mono ?_); (case side1 => repeat (first | (with_reducible first | exact HB.out | apply below_alloc | apply pw_below_drewN | apply below_drew1 | refine below_set ?_ GE400.out) | exact HB.out)); (case side2 => exact Kd.R_tight rfl HO_8.out); rintro e w80 ⟨rfl, hy0, hb, hkp⟩; refine ⟨_, rfl, ?_⟩; replace HO_6 := am (Kd.R_mono (ok' := fun k_ => some k_ ≠ (.slice Ao33 t412.length co33 : Value).ownBlock) (Kd.R_keptB (HO_6.out) hkp (fun k_ hk_ hs_ => (hk_) hs_)) (fun k_ hk_ => hk_.1)); replace BK400 := am (blk_kept (bp BK400) hkp (fun hs_ => (fun e_ => (Kd.R_ne HO_8.out BK400.out (by decide)) e_) hs_)); replace HO_8 := am (Kd.R_reok rfl hy0 (fun k_ e_ => HO_8.out.1 k_ e_)); replace HB := am (hb); (try clear hb); (try clear hkp); (try clear hy0)) | ((with_reducible refine gate_callee (f := 22) rfl ?_); refine goesL_ (some 52) rfl rfl Try.func22 (by kernel_rfl) rfl #[.slice Ao33 t423.length co33, .int .i64 1] rfl (by (try simp only [List.map_toArray, List.map_cons, List.map_nil]); first | done | (rw [show t423.length = t412.length from (Kd.R_reads' HO_8.out).1.symm] <;> rfl) | rfl | (simp only [List.length_drop, List.length_take]; rfl)) ?_; (with_reducible refine (laws_heldInt64S.calls kj17 _ _ t423 1 t424 _ ?side1 ?side2 A45.out).mono ?_); (case side1 => exact cc (Kd.R_reads' HO_8.out).2.2); (case side2 => rw [show t423.length = t412.length from (Kd.R_reads' HO_8.out).1.symm]; exact (Kd.R_reads' HO_8.out).2.1); rintro e w' ⟨rfl, ⟨nd, rfl⟩⟩; refine ⟨_, rfl, ?_⟩))
         go_ret
         exact ⟨er, bw HB⟩
   ·replace c16 := Bool.eq_false_iff.mpr c16
    subst c16
    have H1 : (some false) = some r := by rw [if_neg (show ¬ (false = true) by decide)] at H; exact H
    clear H
    have H := H1
    clear H1
    obtain rfl := Option.some.inj H
    go_enter Try.func5, Try.ntmps5
    try go_wp2_with (first | ((with_reducible refine gate_dst (N := 2) rfl ?_); refine box_event ?hg (N := 2) ?hd (cs := #[.slice A0_0 l0_0.length c0_0]) (t := 24) ?hr ?_; (case hd => rfl); (case hg => rfl); (case hr => exact gs); intro gb400 hg w81 hbox hb; have BK400 := am (hbox); have GW400 := am ((by rw [hg]; exact (below_size (bw HB)) : w.heap.size ≤ gb400)); have GE400 := am ((by rw [hg]; exact (below_size (bw HB)) : w.heap.size ≤ gb400)); replace HB := am (below_step (bw HB) hb); clear hb hbox hg; have hcz82_0 : w81.cell? ⟨gb400, 0, none⟩ = some (.slice A0_0 l0_0.length c0_0) := bc BK400 0; have hfz82_0 := bf BK400 0) | ((with_reducible refine gate_callee (f := 14) rfl ?_); refine goesL_ (some 15) rfl rfl Try.func14 (by kernel_rfl) rfl #[.agg #[.slice A0_0 l0_0.length c0_0], .int .i64 1048576] rfl gl ?_; (with_reducible refine (laws_szProgram.calls k _ _ l0_0 1048576 t401 _ ?side1 ?side2 A3.out).mono ?_); (case side1 => exact cc (Kd.C_below HR0_0.out HB.out)); (case side2 => exact HC0_0.out); rintro e w83 ⟨rfl, hb⟩; refine ⟨_, rfl, ?_⟩; replace BK400 := am (blk_below (g := gb400) (o := .cells #[.slice A0_0 l0_0.length c0_0] 24 (0, 0)) (bp BK400) hb); replace HB := am (below_step (bw HB) hb); (try clear hb); (try clear hb2); (try clear hk); (try clear hi); have hcz84_0 : w83.cell? ⟨gb400, 0, none⟩ = some (.slice A0_0 l0_0.length c0_0) := bc BK400 0; have hfz84_0 := bf BK400 0) | ((with_reducible refine gate_callee (f := 16) rfl ?_); refine goesL_ (some 19) rfl rfl Try.func16 (by kernel_rfl) rfl #[.agg #[.slice A0_0 l0_0.length c0_0]] rfl gl ?_; (with_reducible refine (laws_toProgram.calls k _ _ l0_0 t402 _ ?side1 ?side2 A8.out).mono ?_); (case side1 => exact cc (Kd.C_below HR0_0.out HB.out)); (case side2 => exact HC0_0.out); rintro e w85 ⟨v403, rfl, ho0, hb⟩; refine ⟨_, rfl, ?_⟩; have HO404 := am (Kd.S_lower ho0 (below_size (bw HB))); replace BK400 := am (blk_below (g := gb400) (o := .cells #[.slice A0_0 l0_0.length c0_0] 24 (0, 0)) (bp BK400) hb); replace HB := am (below_step (bw HB) hb); (try clear hb); (try clear hb2); (try clear hk); (try clear hi); (try clear ho0); obtain ⟨Ao86, co86, eo86⟩ := Kd.S_slice HO404.out; subst eo86) | ((with_reducible refine gate_callee (f := 25) rfl ?_); refine goesL_ (some 21) rfl rfl Try.func25 (by kernel_rfl) rfl #[.agg #[.slice Ao86 t402.length co86], .int .i64 a1] rfl gl ?_; (with_reducible refine (spec_Headers.calls k _ _ t402 a1 t405 _ ?side1 ?side2 A9.out).mono ?_); (case side1 => exact cc (Kd.S_reads' HO404.out).2.2); (case side2 => exact (Kd.S_reads' HO404.out).2.1); rintro e w87 ⟨v406, rfl, ho0, hb⟩; refine ⟨_, rfl, ?_⟩; replace HO404 := am (Kd.S_below (kS HO404) hb); have HO407 := am (Kd.R_lower ho0 (below_size (bw HB))); replace BK400 := am (blk_below (g := gb400) (o := .cells #[.slice A0_0 l0_0.length c0_0] 24 (0, 0)) (bp BK400) hb); replace HB := am (below_step (bw HB) hb); (try clear hb); (try clear hb2); (try clear hk); (try clear hi); (try clear ho0); have hcz88_0 : w87.cell? ⟨gb400, 0, none⟩ = some (.slice A0_0 l0_0.length c0_0) := bc BK400 0; have hfz88_0 := bf BK400 0) | ((with_reducible refine gate_callee (f := 16) rfl ?_); refine goesL_ (some 23) rfl rfl Try.func16 (by kernel_rfl) rfl #[.agg #[.slice A0_0 l0_0.length c0_0]] rfl gl ?_; (with_reducible refine (laws_toProgram.calls k _ _ l0_0 t408 _ ?side1 ?side2 A10.out).mono ?_); (case side1 => exact cc (Kd.C_below HR0_0.out HB.out)); (case side2 => exact HC0_0.out); rintro e w89 ⟨v409, rfl, ho0, hb⟩; refine ⟨_, rfl, ?_⟩; replace HO407 := am (Kd.R_below (kR HO407) hb); have HO410 := am (Kd.S_lower (Kd.S_new' ho0 (Kd.S_lt (kS HO404))) (below_size (bw HB))); replace HO404 := am (Kd.S_elder' (kS HO404) (Kd.S_base ho0) hb); replace BK400 := am (blk_below (g := gb400) (o := .cells #[.slice A0_0 l0_0.length c0_0] 24 (0, 0)) (bp BK400) hb); replace HB := am (below_step (bw HB) hb); (try clear hb); (try clear hb2); (try clear hk); (try clear hi); (try clear ho0)) | ((with_reducible refine gate_dst (N := 7) rfl ?_); refine box_event ?hg (N := 7) ?hd (cs := #[.slice none 0 0]) (t := 30) ?hr ?_; (case hd => rfl); (case hg => rfl); (case hr => exact gs); intro gb411 hg w90 hbox hb; replace HO404 := am (Kd.S_below (kS HO404) hb); replace HO407 := am (Kd.R_below (kR HO407) hb); replace HO410 := am (Kd.S_below (kS HO410) hb); have BK411 := am (hbox); have GW411 := am ((by rw [hg]; exact (below_size (bw HB)) : w.heap.size ≤ gb411)); have GE411 := am ((by rw [hg]; exact (below_size (bw HB)) : w.heap.size ≤ gb411)); replace HB := am (below_step (bw HB) hb); have NB400_411 := am ((by rw [hg]; exact Nat.ne_of_lt (blk_lt (g := gb400) (o := .cells #[.slice A0_0 l0_0.length c0_0] 24 (0, 0)) (bp BK400)) : gb400 ≠ gb411)); have NB411_400 := am ((by rw [hg]; exact Nat.ne_of_gt (blk_lt (g := gb400) (o := .cells #[.slice A0_0 l0_0.length c0_0] 24 (0, 0)) (bp BK400)) : gb411 ≠ gb400)); replace BK400 := am (blk_below (g := gb400) (o := .cells #[.slice A0_0 l0_0.length c0_0] 24 (0, 0)) (bp BK400) hb); clear hb hbox hg; obtain ⟨Ao91, co91, eo91⟩ := Kd.S_slice HO410.out; subst eo91; have hnb92 := NB411_400.out; have hnc92 := NB400_411.out; have hcz93_0 : w90.cell? ⟨gb411, 0, none⟩ = some (.slice none 0 0) := bc BK411 0; have hfz93_0 := bf BK411 0) | ((with_reducible refine gate_callee (f := 26) rfl ?_); refine goesL_ (some 26) rfl rfl Try.func26 (by kernel_rfl) rfl #[.agg #[.slice Ao91 t408.length co91], .int .i64 a1] rfl gl ?_; (with_reducible refine (impl_Headers.calls k _ _ t408 a1 t412 _ ?side1 ?side2 A11.out).mono ?_); (case side1 => refine (Kd.S_reads' (e := 100) (base := w.heap.size) (ok := fun k_ => (True ∧ some k_ ≠ (.slice Ao86 t402.length co86 : Value).ownBlock)) (n := t408.length) (c := co91) ?_).2.2; exact (by (with_reducible repeat (first | apply Kd.S_alloc | apply Kd.S_drewN | apply Kd.S_drew)); exact (Kd.S_mono (Kd.S_far (p := ⟨gb411, 0, none⟩) (Kd.S_types HO410.out BK411.out (by decide)) (fun _ hk => hk.2) (.slice Ao91 t408.length co91)) (fun _ h_ => h_.1)))); (case side2 => exact (Kd.S_reads' HO410.out).2.1); rintro e w94 ⟨v413, rfl, ho0, hb⟩; refine ⟨_, rfl, ?_⟩; replace HO404 := am (Kd.S_below (by (with_reducible repeat (first | apply Kd.S_alloc | apply Kd.S_drewN | apply Kd.S_drew)); exact (Kd.S_mono (Kd.S_far (p := ⟨gb411, 0, none⟩) (Kd.S_types HO404.out BK411.out (by decide)) (fun _ hk => hk.2) (.slice Ao91 t408.length co91)) (fun _ h_ => h_.1))) hb); replace HO410 := am (Kd.S_below (by (with_reducible repeat (first | apply Kd.S_alloc | apply Kd.S_drewN | apply Kd.S_drew)); exact (Kd.S_mono (Kd.S_far (p := ⟨gb411, 0, none⟩) (Kd.S_types HO410.out BK411.out (by decide)) (fun _ hk => hk.2) (.slice Ao91 t408.length co91)) (fun _ h_ => h_.1))) hb); have HO414 := am (Kd.R_lower (Kd.R_new' ho0 (Kd.R_lt (by (with_reducible repeat (first | apply Kd.R_alloc | apply Kd.R_drewN | apply Kd.R_drew)); exact (Kd.R_mono (Kd.R_far (p := ⟨gb411, 0, none⟩) (Kd.R_types HO407.out BK411.out (by decide)) (fun _ hk => hk.2) (.slice Ao91 t408.length co91)) (fun _ h_ => h_.1))))) (below_size (bw HB))); replace HO407 := am (Kd.R_elder' (by (with_reducible repeat (first | apply Kd.R_alloc | apply Kd.R_drewN | apply Kd.R_drew)); exact (Kd.R_mono (Kd.R_far (p := ⟨gb411, 0, none⟩) (Kd.R_types HO407.out BK411.out (by decide)) (fun _ hk => hk.2) (.slice Ao91 t408.length co91)) (fun _ h_ => h_.1))) (Kd.R_base ho0) hb); replace BK400 := am (blk_below (g := gb400) (o := .cells #[.slice A0_0 l0_0.length c0_0] 24 (0, 0)) (by (with_reducible repeat (first | apply dN | apply dW | apply dA)); refine blk_far ?_ NB400_411.out _; exact bp BK400) hb); replace BK411 := am (blk_below (g := gb411) (o := .cells #[.slice Ao91 t408.length co91] 30 (0, 0)) (by (with_reducible repeat (first | apply dN | apply dW | apply dA)); refine blk_put (cs := #[.slice none 0 0]) ?_ 0 _ rfl; exact bp BK411) hb); replace HB := am (below_step (bw HB) hb); (try clear hb); (try clear hb2); (try clear hk); (try clear hi); (try clear ho0); obtain ⟨Ao95, co95, eo95⟩ := Kd.R_slice HO414.out; subst eo95; obtain ⟨Ao96, co96, eo96⟩ := Kd.R_slice HO407.out; subst eo96) | ((with_reducible refine gate_callee (f := 18) rfl ?_); refine goesL_ (some 29) rfl rfl Try.func18 (by kernel_rfl) rfl #[.slice Ao95 t412.length co95, .slice Ao96 t405.length co96] rfl gl ?_; (with_reducible refine (laws_eqInt64S.calls k _ _ t412 _ _ t405 true _ ?side1 ?side2 ?side3 ?side4 A12.out).mono ?_); (case side1 => exact cc (Kd.R_reads' HO414.out).2.2); (case side2 => exact (Kd.R_reads' HO414.out).2.1); (case side3 => exact cc (Kd.R_reads' HO407.out).2.2); (case side4 => exact (Kd.R_reads' HO407.out).2.1); rintro e w' ⟨rfl, ⟨nd, rfl⟩⟩; refine ⟨_, rfl, ?_⟩))
    (try (rw [drewN_self w94]; generalize hq_ : World.drewN w94 _ = w94; have n0_ : Aside0 (Kd.S k100 100 w94 w.heap.size (fun k_ => some k_ ≠ (.slice Ao91 t408.length co91 : Value).ownBlock) (.slice Ao86 t402.length co86) t402) := ⟨by rw [← hq_]; exact (by (with_reducible repeat (first | apply Kd.S_alloc | apply Kd.S_drewN | apply Kd.S_drew)); exact Kd.S_mono HO404.out (fun _ hk => hk.2))⟩; have n1_ : Aside0 (Kd.R (Kd.int .i64) 2 w94 w.heap.size (fun k_ => some k_ ≠ (.slice Ao95 t412.length co95 : Value).ownBlock) (.slice Ao96 t405.length co96) t405) := ⟨by rw [← hq_]; exact (by (with_reducible repeat (first | apply Kd.R_alloc | apply Kd.R_drewN | apply Kd.R_drew)); exact Kd.R_mono HO407.out (fun _ hk => hk.2))⟩; have n2_ : Aside0 (Kd.S k100 100 w94 w.heap.size (fun k_ => some k_ ≠ (.slice Ao86 t402.length co86 : Value).ownBlock) (.slice Ao91 t408.length co91) t408) := ⟨by rw [← hq_]; exact (by (with_reducible repeat (first | apply Kd.S_alloc | apply Kd.S_drewN | apply Kd.S_drew)); exact Kd.S_mono HO410.out (fun _ hk => hk.2))⟩; have n3_ : Aside0 (Kd.R (Kd.int .i64) 2 w94 w.heap.size (fun k_ => some k_ ≠ (.slice Ao96 t405.length co96 : Value).ownBlock) (.slice Ao95 t412.length co95) t412) := ⟨by rw [← hq_]; exact (by (with_reducible repeat (first | apply Kd.R_alloc | apply Kd.R_drewN | apply Kd.R_drew)); exact Kd.R_mono HO414.out (fun _ hk => hk.2))⟩; have n4_ : Aside0 (w94.heap[gb400]? = some (.cells #[.slice A0_0 l0_0.length c0_0] 24 (0, 0))) := ⟨by rw [← hq_]; exact (bp BK400)⟩; have n5_ : Aside0 (w94.heap[gb411]? = some (.cells #[.slice Ao91 t408.length co91] 30 (0, 0))) := ⟨by rw [← hq_]; exact (bp BK411)⟩; have n6_ : Aside0 (Below w.heap.size w w94) := ⟨by rw [← hq_]; exact (bw HB)⟩; clear HO404 HO407 HO410 HO414 BK400 BK411 HB hq_; have HO404 := n0_; have HO407 := n1_; have HO410 := n2_; have HO414 := n3_; have BK400 := n4_; have BK411 := n5_; have HB := n6_; clear n0_ n1_ n2_ n3_ n4_ n5_ n6_))
    have n0_ := am (Kd.S_drew HO404.out)
    have n1_ := am (Kd.R_drew HO407.out)
    have n2_ := am (Kd.S_drew HO410.out)
    have n3_ := am (Kd.R_drew HO414.out)
    have n4_ := am (blk_drew BK400.out)
    have n5_ := am (blk_drew BK411.out)
    have n6_ := am (below_drew1 HB.out)
    clear HO404
    clear HO407
    clear HO410
    clear HO414
    clear BK400
    clear BK411
    clear HB
    have HO404 := n0_
    have HO407 := n1_
    have HO410 := n2_
    have HO414 := n3_
    have BK400 := n4_
    have BK411 := n5_
    have HB := n6_
    clear n0_ n1_ n2_ n3_ n4_ n5_ n6_
    refine start_ (n := 5) (S := fun w' => w'.cell? ⟨gb411, 0, none⟩ = some (.slice Ao91 t408.length co91) ∧ w'.cell? ⟨gb400, 0, none⟩ = some (.slice A0_0 l0_0.length c0_0)) (ds := []) #[false, false, false, false, false] (by kernel_rfl) rfl rfl ⟨bc BK411 0, bc BK400 0⟩ (fun hHeld => ?_)
    generalize w94.drew = w97 at HO404 HO407 HO410 HO414 BK400 BK411 HB hHeld ⊢
    refine take_ (i := 0) (N := some 31) (v := ?_) (a' := ?_) #[true, false, false, false, false] rfl rfl (by kernel_rfl) (fun _ _ _ h => h) (Or.inl ⟨by rfl, ?_⟩) hHeld ?_ ?_
    rotate_left
    ·rintro w' ⟨s0, s1⟩
     go_simp
     with_reducible rfl
    rotate_left
    ·simp only [Act.put, sa, sz, ss, i64_w, i32_w]
     rfl
    refine take_ (i := 1) (N := some 32) (v := ?_) (a' := ?_) #[true, true, false, false, false] rfl rfl (by kernel_rfl) (fun _ _ _ h => h) (Or.inl ⟨by rfl, ?_⟩) hHeld ?_ ?_
    rotate_left
    ·rintro w' ⟨s0, s1⟩
     go_simp
     with_reducible rfl
    rotate_left
    ·simp only [Act.put, sa, sz, ss, i64_w, i32_w]
     rfl
    refine one_ (i := 2) (N := some 33) #[true, true, true, false, false] rfl rfl (by kernel_rfl) (by decide) (fun K hK => ?_)
    refine goes_ Try.func16 (by kernel_rfl) rfl #[.agg #[.slice A0_0 l0_0.length c0_0]] (by rfl) rfl rfl gl ?_
    with_reducible refine (laws_toProgram.calls k _ _ l0_0 t416 _ ?side1 ?side2 A14.out).mono ?_
    (case side1 => exact cc (Kd.C_below HR0_0.out HB.out))
    (case side2 => exact HC0_0.out)
    rintro e w98 ⟨v417, rfl, ho0, hb⟩
    refine ⟨_, rfl, ?_⟩
    have n0_ := am (Kd.S_elder' (kS HO404) (Kd.S_base ho0) hb)
    have n1_ := am (Kd.R_below (kR HO407) hb)
    have n2_ := am (Kd.S_elder' (kS HO410) (Kd.S_base ho0) hb)
    have n3_ := am (Kd.R_below (kR HO414) hb)
    have n4_ := am (Kd.S_lower (Kd.S_new' (Kd.S_new' ho0 (Kd.S_lt (kS HO404))) (Kd.S_lt (kS HO410))) (below_size (bw HB)))
    have n5_ := am (blk_below (g := gb400) (o := .cells #[.slice A0_0 l0_0.length c0_0] 24 (0, 0)) (bp BK400) hb)
    have n6_ := am (blk_below (g := gb411) (o := .cells #[.slice Ao91 t408.length co91] 30 (0, 0)) (bp BK411) hb)
    have n7_ := am (below_step (bw HB) hb)
    clear HO404
    clear HO407
    clear HO410
    clear HO414
    clear BK400
    clear BK411
    clear HB
    have HO404 := n0_
    have HO407 := n1_
    have HO410 := n2_
    have HO414 := n3_
    have HO418 := n4_
    have BK400 := n5_
    have BK411 := n6_
    have HB := n7_
    clear n0_ n1_ n2_ n3_ n4_ n5_ n6_ n7_
    (try clear hb)
    (try clear hb2)
    (try clear hk)
    (try clear hi)
    (try clear ho0)
    obtain ⟨Ao99, co99, eo99⟩ := Kd.S_slice HO418.out
    (first | subst eo99 | (injection eo99 with f1_ f2_ f3_; have f4_ := f1_.symm; have f5_ := f3_.symm; clear f1_ f2_ f3_; subst f4_; subst f5_))
    refine hK.out _ _ ⟨bc BK411 0, bc BK400 0⟩ (fun hHeld => ?_)
    clear hK K
    refine norm_ (a' := ?_) ?_ ?_
    rotate_left
    ·show Act.put _ (some 33) _ = _
     simp only [Act.put, sa, sz, ss, i64_w, i32_w]
     rfl
    refine one_ (i := 3) (N := some 34) #[true, true, true, true, false] rfl rfl (by kernel_rfl) (by decide) (fun K hK => ?_)
    refine goes_ Try.func19 (by kernel_rfl) rfl #[.agg #[.slice Ao91 t408.length co91], .agg #[.slice Ao99 t416.length co99]] (by rfl) rfl rfl gl ?_
    with_reducible refine (laws_eqProgram.calls k _ _ t408 _ _ t416 false _ ?side1 ?side2 ?side3 ?side4 A15.out).mono ?_
    (case side1 => exact cc (Kd.S_reads' HO410.out).2.2)
    (case side2 => exact (Kd.S_reads' HO410.out).2.1)
    (case side3 => exact cc (Kd.S_reads' HO418.out).2.2)
    (case side4 => exact (Kd.S_reads' HO418.out).2.1)
    rintro e w100 ⟨rfl, hb⟩
    refine ⟨_, rfl, ?_⟩
    have n0_ := am (Kd.S_below (kS HO404) hb)
    have n1_ := am (Kd.R_below (kR HO407) hb)
    have n2_ := am (Kd.S_below (kS HO410) hb)
    have n3_ := am (Kd.R_below (kR HO414) hb)
    have n4_ := am (Kd.S_below (kS HO418) hb)
    have n5_ := am (blk_below (g := gb400) (o := .cells #[.slice A0_0 l0_0.length c0_0] 24 (0, 0)) (bp BK400) hb)
    have n6_ := am (blk_below (g := gb411) (o := .cells #[.slice Ao91 t408.length co91] 30 (0, 0)) (bp BK411) hb)
    have n7_ := am (below_step (bw HB) hb)
    clear HO404
    clear HO407
    clear HO410
    clear HO414
    clear HO418
    clear BK400
    clear BK411
    clear HB
    have HO404 := n0_
    have HO407 := n1_
    have HO410 := n2_
    have HO414 := n3_
    have HO418 := n4_
    have BK400 := n5_
    have BK411 := n6_
    have HB := n7_
    clear n0_ n1_ n2_ n3_ n4_ n5_ n6_ n7_
    (try clear hb)
    (try clear hb2)
    (try clear hk)
    (try clear hi)
    refine hK.out _ _ ⟨bc BK411 0, bc BK400 0⟩ (fun hHeld => ?_)
    clear hK K
    refine norm_ (a' := ?_) ?_ ?_
    rotate_left
    ·show Act.put _ (some 34) _ = _
     simp only [Act.put, sa, sz, ss, i64_w, i32_w]
     rfl
    refine pure_ (i := 4) (N := some 35) (v := ?_) (a' := ?_) #[true, true, true, true, true] rfl rfl (by kernel_rfl) (fun _ _ _ h => h) (Or.inl ⟨by rfl, ?_⟩) ?_ ?_
    rotate_left
    ·intro w'
     go_simp
     with_reducible rfl
    rotate_left
    ·simp only [Act.put, sa, sz, ss, i64_w, i32_w]
     rfl
    refine done_ (by kernel_rfl) ?_
    try go_wp2
    go_ret
    exact ⟨er, bw HB⟩
  ·replace c13 := Bool.eq_false_iff.mpr c13
   subst c13
   have H1 : (some false) = some r := by rw [if_neg (show ¬ (false = true) by decide)] at H; exact H
   clear H
   have H := H1
   clear H1
   obtain rfl := Option.some.inj H
   go_enter Try.func5, Try.ntmps5
   go_wp2_with (first | ((with_reducible refine gate_dst (N := 2) rfl ?_); refine box_event ?hg (N := 2) ?hd (cs := #[.slice A0_0 l0_0.length c0_0]) (t := 24) ?hr ?_; (case hd => rfl); (case hg => rfl); (case hr => exact gs); intro gb400 hg w101 hbox hb; have BK400 := am (hbox); have GW400 := am ((by rw [hg]; exact (below_size (bw HB)) : w.heap.size ≤ gb400)); have GE400 := am ((by rw [hg]; exact (below_size (bw HB)) : w.heap.size ≤ gb400)); replace HB := am (below_step (bw HB) hb); clear hb hbox hg; have hcz102_0 : w101.cell? ⟨gb400, 0, none⟩ = some (.slice A0_0 l0_0.length c0_0) := bc BK400 0; have hfz102_0 := bf BK400 0) | ((with_reducible refine gate_callee (f := 14) rfl ?_); refine goesL_ (some 15) rfl rfl Try.func14 (by kernel_rfl) rfl #[.agg #[.slice A0_0 l0_0.length c0_0], .int .i64 1048576] rfl gl ?_; (with_reducible refine (laws_szProgram.calls k _ _ l0_0 1048576 t401 _ ?side1 ?side2 A3.out).mono ?_); (case side1 => exact cc (Kd.C_below HR0_0.out HB.out)); (case side2 => exact HC0_0.out); rintro e w103 ⟨rfl, hb⟩; refine ⟨_, rfl, ?_⟩; replace BK400 := am (blk_below (g := gb400) (o := .cells #[.slice A0_0 l0_0.length c0_0] 24 (0, 0)) (bp BK400) hb); replace HB := am (below_step (bw HB) hb); (try clear hb); (try clear hb2); (try clear hk); (try clear hi); have hcz104_0 : w103.cell? ⟨gb400, 0, none⟩ = some (.slice A0_0 l0_0.length c0_0) := bc BK400 0; have hfz104_0 := bf BK400 0) | ((with_reducible refine gate_callee (f := 16) rfl ?_); refine goesL_ (some 19) rfl rfl Try.func16 (by kernel_rfl) rfl #[.agg #[.slice A0_0 l0_0.length c0_0]] rfl gl ?_; (with_reducible refine (laws_toProgram.calls k _ _ l0_0 t402 _ ?side1 ?side2 A8.out).mono ?_); (case side1 => exact cc (Kd.C_below HR0_0.out HB.out)); (case side2 => exact HC0_0.out); rintro e w105 ⟨v403, rfl, ho0, hb⟩; refine ⟨_, rfl, ?_⟩; have HO404 := am (Kd.S_lower ho0 (below_size (bw HB))); replace BK400 := am (blk_below (g := gb400) (o := .cells #[.slice A0_0 l0_0.length c0_0] 24 (0, 0)) (bp BK400) hb); replace HB := am (below_step (bw HB) hb); (try clear hb); (try clear hb2); (try clear hk); (try clear hi); (try clear ho0); obtain ⟨Ao106, co106, eo106⟩ := Kd.S_slice HO404.out; subst eo106) | ((with_reducible refine gate_callee (f := 25) rfl ?_); refine goesL_ (some 21) rfl rfl Try.func25 (by kernel_rfl) rfl #[.agg #[.slice Ao106 t402.length co106], .int .i64 a1] rfl gl ?_; (with_reducible refine (spec_Headers.calls k _ _ t402 a1 t405 _ ?side1 ?side2 A9.out).mono ?_); (case side1 => exact cc (Kd.S_reads' HO404.out).2.2); (case side2 => exact (Kd.S_reads' HO404.out).2.1); rintro e w107 ⟨v406, rfl, ho0, hb⟩; refine ⟨_, rfl, ?_⟩; replace HO404 := am (Kd.S_below (kS HO404) hb); have HO407 := am (Kd.R_lower ho0 (below_size (bw HB))); replace BK400 := am (blk_below (g := gb400) (o := .cells #[.slice A0_0 l0_0.length c0_0] 24 (0, 0)) (bp BK400) hb); replace HB := am (below_step (bw HB) hb); (try clear hb); (try clear hb2); (try clear hk); (try clear hi); (try clear ho0); have hcz108_0 : w107.cell? ⟨gb400, 0, none⟩ = some (.slice A0_0 l0_0.length c0_0) := bc BK400 0; have hfz108_0 := bf BK400 0) | ((with_reducible refine gate_callee (f := 16) rfl ?_); refine goesL_ (some 23) rfl rfl Try.func16 (by kernel_rfl) rfl #[.agg #[.slice A0_0 l0_0.length c0_0]] rfl gl ?_; (with_reducible refine (laws_toProgram.calls k _ _ l0_0 t408 _ ?side1 ?side2 A10.out).mono ?_); (case side1 => exact cc (Kd.C_below HR0_0.out HB.out)); (case side2 => exact HC0_0.out); rintro e w109 ⟨v409, rfl, ho0, hb⟩; refine ⟨_, rfl, ?_⟩; replace HO407 := am (Kd.R_below (kR HO407) hb); have HO410 := am (Kd.S_lower (Kd.S_new' ho0 (Kd.S_lt (kS HO404))) (below_size (bw HB))); replace HO404 := am (Kd.S_elder' (kS HO404) (Kd.S_base ho0) hb); replace BK400 := am (blk_below (g := gb400) (o := .cells #[.slice A0_0 l0_0.length c0_0] 24 (0, 0)) (bp BK400) hb); replace HB := am (below_step (bw HB) hb); (try clear hb); (try clear hb2); (try clear hk); (try clear hi); (try clear ho0)) | ((with_reducible refine gate_dst (N := 7) rfl ?_); refine box_event ?hg (N := 7) ?hd (cs := #[.slice none 0 0]) (t := 30) ?hr ?_; (case hd => rfl); (case hg => rfl); (case hr => exact gs); intro gb411 hg w110 hbox hb; replace HO404 := am (Kd.S_below (kS HO404) hb); replace HO407 := am (Kd.R_below (kR HO407) hb); replace HO410 := am (Kd.S_below (kS HO410) hb); have BK411 := am (hbox); have GW411 := am ((by rw [hg]; exact (below_size (bw HB)) : w.heap.size ≤ gb411)); have GE411 := am ((by rw [hg]; exact (below_size (bw HB)) : w.heap.size ≤ gb411)); replace HB := am (below_step (bw HB) hb); have NB400_411 := am ((by rw [hg]; exact Nat.ne_of_lt (blk_lt (g := gb400) (o := .cells #[.slice A0_0 l0_0.length c0_0] 24 (0, 0)) (bp BK400)) : gb400 ≠ gb411)); have NB411_400 := am ((by rw [hg]; exact Nat.ne_of_gt (blk_lt (g := gb400) (o := .cells #[.slice A0_0 l0_0.length c0_0] 24 (0, 0)) (bp BK400)) : gb411 ≠ gb400)); replace BK400 := am (blk_below (g := gb400) (o := .cells #[.slice A0_0 l0_0.length c0_0] 24 (0, 0)) (bp BK400) hb); clear hb hbox hg; obtain ⟨Ao111, co111, eo111⟩ := Kd.S_slice HO410.out; subst eo111; have hnb112 := NB411_400.out; have hnc112 := NB400_411.out; have hcz113_0 : w110.cell? ⟨gb411, 0, none⟩ = some (.slice none 0 0) := bc BK411 0; have hfz113_0 := bf BK411 0) | ((with_reducible refine gate_callee (f := 26) rfl ?_); refine goesL_ (some 26) rfl rfl Try.func26 (by kernel_rfl) rfl #[.agg #[.slice Ao111 t408.length co111], .int .i64 a1] rfl gl ?_; (with_reducible refine (impl_Headers.calls k _ _ t408 a1 t412 _ ?side1 ?side2 A11.out).mono ?_); (case side1 => refine (Kd.S_reads' (e := 100) (base := w.heap.size) (ok := fun k_ => (True ∧ some k_ ≠ (.slice Ao106 t402.length co106 : Value).ownBlock)) (n := t408.length) (c := co111) ?_).2.2; exact (by (with_reducible repeat (first | apply Kd.S_alloc | apply Kd.S_drewN | apply Kd.S_drew)); exact (Kd.S_mono (Kd.S_far (p := ⟨gb411, 0, none⟩) (Kd.S_types HO410.out BK411.out (by decide)) (fun _ hk => hk.2) (.slice Ao111 t408.length co111)) (fun _ h_ => h_.1)))); (case side2 => exact (Kd.S_reads' HO410.out).2.1); rintro e w114 ⟨v413, rfl, ho0, hb⟩; refine ⟨_, rfl, ?_⟩; replace HO404 := am (Kd.S_below (by (with_reducible repeat (first | apply Kd.S_alloc | apply Kd.S_drewN | apply Kd.S_drew)); exact (Kd.S_mono (Kd.S_far (p := ⟨gb411, 0, none⟩) (Kd.S_types HO404.out BK411.out (by decide)) (fun _ hk => hk.2) (.slice Ao111 t408.length co111)) (fun _ h_ => h_.1))) hb); replace HO410 := am (Kd.S_below (by (with_reducible repeat (first | apply Kd.S_alloc | apply Kd.S_drewN | apply Kd.S_drew)); exact (Kd.S_mono (Kd.S_far (p := ⟨gb411, 0, none⟩) (Kd.S_types HO410.out BK411.out (by decide)) (fun _ hk => hk.2) (.slice Ao111 t408.length co111)) (fun _ h_ => h_.1))) hb); have HO414 := am (Kd.R_lower (Kd.R_new' ho0 (Kd.R_lt (by (with_reducible repeat (first | apply Kd.R_alloc | apply Kd.R_drewN | apply Kd.R_drew)); exact (Kd.R_mono (Kd.R_far (p := ⟨gb411, 0, none⟩) (Kd.R_types HO407.out BK411.out (by decide)) (fun _ hk => hk.2) (.slice Ao111 t408.length co111)) (fun _ h_ => h_.1))))) (below_size (bw HB))); replace HO407 := am (Kd.R_elder' (by (with_reducible repeat (first | apply Kd.R_alloc | apply Kd.R_drewN | apply Kd.R_drew)); exact (Kd.R_mono (Kd.R_far (p := ⟨gb411, 0, none⟩) (Kd.R_types HO407.out BK411.out (by decide)) (fun _ hk => hk.2) (.slice Ao111 t408.length co111)) (fun _ h_ => h_.1))) (Kd.R_base ho0) hb); replace BK400 := am (blk_below (g := gb400) (o := .cells #[.slice A0_0 l0_0.length c0_0] 24 (0, 0)) (by (with_reducible repeat (first | apply dN | apply dW | apply dA)); refine blk_far ?_ NB400_411.out _; exact bp BK400) hb); replace BK411 := am (blk_below (g := gb411) (o := .cells #[.slice Ao111 t408.length co111] 30 (0, 0)) (by (with_reducible repeat (first | apply dN | apply dW | apply dA)); refine blk_put (cs := #[.slice none 0 0]) ?_ 0 _ rfl; exact bp BK411) hb); replace HB := am (below_step (bw HB) hb); (try clear hb); (try clear hb2); (try clear hk); (try clear hi); (try clear ho0); obtain ⟨Ao115, co115, eo115⟩ := Kd.R_slice HO414.out; subst eo115; obtain ⟨Ao116, co116, eo116⟩ := Kd.R_slice HO407.out; subst eo116) | ((with_reducible refine gate_callee (f := 18) rfl ?_); refine goesL_ (some 29) rfl rfl Try.func18 (by kernel_rfl) rfl #[.slice Ao115 t412.length co115, .slice Ao116 t405.length co116] rfl gl ?_; (with_reducible refine (laws_eqInt64S.calls k _ _ t412 _ _ t405 false _ ?side1 ?side2 ?side3 ?side4 A12.out).mono ?_); (case side1 => exact cc (Kd.R_reads' HO414.out).2.2); (case side2 => exact (Kd.R_reads' HO414.out).2.1); (case side3 => exact cc (Kd.R_reads' HO407.out).2.2); (case side4 => exact (Kd.R_reads' HO407.out).2.1); rintro e w' ⟨rfl, ⟨nd, rfl⟩⟩; refine ⟨_, rfl, ?_⟩))
   go_ret
   exact ⟨er, bw HB⟩

end Go.Proofs.Ytbmjmaahcaoajaa.QFnExactHeaders
