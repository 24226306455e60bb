import Derived.Test.YtbmjmaahcaoajaaCFnExactFileBytesx0
import Derived.Test.YtbmjmaahcaoajaaCFnExactFileBytesx1
import Derived.Test.YtbmjmaahcaoajaaCFnExactFileBytesx3
import Derived.Test.YtbmjmaahcaoajaaCFnExactFileBytesx8
import Derived.Test.YtbmjmaahcaoajaaCFnExactFileBytesx13
namespace Go.Proofs.Ytbmjmaahcaoajaa.QFnExactFileBytes
open Go.RowKit Go.Proofs.YtbmjmaahcaoajaaW
open PrintWords PrintLast PrintMore PrintShort
attribute [local go_sem] max2_int min2_int max_two min_two max_three min_three max_four min_four   -- for this text's walks alone
set_option linter.unusedVariables false
set_option maxHeartbeats 8000000
set_option maxRecDepth 100000
set_option linter.unusedSimpArgs false

def laws_FnExactFileBytes.f (k : Nat) (l0_0 : List (S165)) : Option (Bool) := (laws_szProgram.f k l0_0 1048576).bind fun t435 => (if t435 < 0 then (some true) else ((laws_toProgram.f k l0_0).bind fun t436 => ((spec_FileBytes.f k t436).bind fun t439 => ((laws_toProgram.f k l0_0).bind fun t440 => ((impl_FileBytes.f k t440).bind fun t444 => (if t444.toList = t439.toList then ((laws_toProgram.f k l0_0).bind fun t445 => ((laws_eqProgram.f k t440 t445).bind fun t448 => (if t448 = true then (some true) else (some false)))) else (some false)))))))
theorem laws_FnExactFileBytes.mono : ∀ a0 k, LeO (laws_FnExactFileBytes.f k a0) (laws_FnExactFileBytes.f (k + 1) a0) := by
 intro a0 k
 unfold laws_FnExactFileBytes.f
 repeat' first
   | (with_reducible exact impl_FileBytes.mono _ _)
   | (with_reducible exact laws_eqProgram.mono _ _ _)
   | (with_reducible exact laws_szProgram.mono _ _ _)
   | (with_reducible exact laws_toProgram.mono _ _)
   | (with_reducible exact spec_FileBytes.mono _ _)
   | (with_reducible exact LeO.refl _)
   | (with_reducible exact LeO.none _)
   | (with_reducible refine LeO.ite ?_ ?_)
   | (with_reducible refine LeO.bind ?_ (fun _ => ?_))
theorem laws_FnExactFileBytes.calls (k : Nat) (A0_0 : Option Addr) (c0_0 : Nat) (l0_0 : List (S165)) (r : Bool) (w : World) (hr0_0 : Kd.C k165 w A0_0 l0_0.length l0_0) (hc0_0 : l0_0.length ≤ c0_0) (h : laws_FnExactFileBytes.f k l0_0 = some r) :
  Calls Try.prog 4 #[.agg #[.slice A0_0 l0_0.length c0_0]] w fun e w' => e = .returned (.bool r) ∧ Below w.heap.size w w' := by
 have hu24 := Try.underlying24
 have hu30 := Try.underlying30
 have HR0_0 := am hr0_0
 have HC0_0 := am hc0_0
 clear hr0_0 hc0_0
 have HB := am (Below.refl w.heap.size w)
 have H : ((laws_szProgram.f k l0_0 1048576).bind fun t435 => (if t435 < 0 then (some true) else ((laws_toProgram.f k l0_0).bind fun t436 => ((spec_FileBytes.f k t436).bind fun t439 => ((laws_toProgram.f k l0_0).bind fun t440 => ((impl_FileBytes.f k t440).bind fun t444 => (if t444.toList = t439.toList then ((laws_toProgram.f k l0_0).bind fun t445 => ((laws_eqProgram.f k t440 t445).bind fun t448 => (if t448 = true then (some true) else (some false)))) else (some false)))))))) = some r := h
 clear h
 replace H := Option.bind_eq_some_iff.mp H
 obtain ⟨t435, A20, H⟩ := H
 replace H : (if t435 < 0 then (some true) else ((laws_toProgram.f k l0_0).bind fun t436 => ((spec_FileBytes.f k t436).bind fun t439 => ((laws_toProgram.f k l0_0).bind fun t440 => ((impl_FileBytes.f k t440).bind fun t444 => (if t444.toList = t439.toList then ((laws_toProgram.f k l0_0).bind fun t445 => ((laws_eqProgram.f k t440 t445).bind fun t448 => (if t448 = true then (some true) else (some false)))) else (some false))))))) = some r := H
 have A2 := am A20
 clear A20
 by_cases c3 : t435 < 0
 ·rw [if_pos c3] at H
  have c3b0 := decide_eq_true c3
  clear c3
  obtain rfl := Option.some.inj H
  go_enter Try.func4, Try.ntmps4
  go_wp2_with (first | ((with_reducible refine gate_dst (N := 1) rfl ?_); refine box_event ?hg (N := 1) ?hd (cs := #[.slice A0_0 l0_0.length c0_0]) (t := 24) ?hr ?_; (case hd => rfl); (case hg => rfl); (case hr => exact gs); intro gb434 hg w4 hbox hb; have BK434 := am (hbox); have GW434 := am ((by rw [hg]; exact (below_size (bw HB)) : w.heap.size ≤ gb434)); have GE434 := am ((by rw [hg]; exact (below_size (bw HB)) : w.heap.size ≤ gb434)); replace HB := am (below_step (bw HB) hb); clear hb hbox hg; have hcz5_0 : w4.cell? ⟨gb434, 0, none⟩ = some (.slice A0_0 l0_0.length c0_0) := bc BK434 0; have hfz5_0 := bf BK434 0) | ((with_reducible refine gate_callee (f := 14) rfl ?_); refine goesL_ (some 9) rfl rfl Try.func14 (by kernel_rfl) rfl #[.agg #[.slice A0_0 l0_0.length c0_0], .int .i64 1048576] rfl gl ?_; (with_reducible refine (laws_szProgram.calls k _ _ l0_0 1048576 t435 _ ?side1 ?side2 A2.out).mono ?_); (case side1 => exact cc (Kd.C_below HR0_0.out HB.out)); (case side2 => exact HC0_0.out); rintro e w6 ⟨rfl, hb⟩; refine ⟨_, rfl, ?_⟩; replace BK434 := am (blk_below (g := gb434) (o := .cells #[.slice A0_0 l0_0.length c0_0] 24 (0, 0)) (bp BK434) hb); replace HB := am (below_step (bw HB) hb); (try clear hb); (try clear hb2); (try clear hk); (try clear hi)))
  go_ret
  exact ⟨er, bw HB⟩
 ·rw [if_neg c3] at H
  have c3b0 := decide_eq_false c3
  clear c3
  replace H := Option.bind_eq_some_iff.mp H
  obtain ⟨t436, A70, H⟩ := H
  replace H : ((spec_FileBytes.f k t436).bind fun t439 => ((laws_toProgram.f k l0_0).bind fun t440 => ((impl_FileBytes.f k t440).bind fun t444 => (if t444.toList = t439.toList then ((laws_toProgram.f k l0_0).bind fun t445 => ((laws_eqProgram.f k t440 t445).bind fun t448 => (if t448 = true then (some true) else (some false)))) else (some false))))) = some r := H
  have A7 := am A70
  clear A70
  replace H := Option.bind_eq_some_iff.mp H
  obtain ⟨t439, A80, H⟩ := H
  replace H : ((laws_toProgram.f k l0_0).bind fun t440 => ((impl_FileBytes.f k t440).bind fun t444 => (if t444.toList = t439.toList then ((laws_toProgram.f k l0_0).bind fun t445 => ((laws_eqProgram.f k t440 t445).bind fun t448 => (if t448 = true then (some true) else (some false)))) else (some false)))) = some r := H
  have A8 := am A80
  clear A80
  replace H := Option.bind_eq_some_iff.mp H
  obtain ⟨t440, A90, H⟩ := H
  replace H : ((impl_FileBytes.f k t440).bind fun t444 => (if t444.toList = t439.toList then ((laws_toProgram.f k l0_0).bind fun t445 => ((laws_eqProgram.f k t440 t445).bind fun t448 => (if t448 = true then (some true) else (some false)))) else (some false))) = some r := H
  have A9 := am A90
  clear A90
  replace H := Option.bind_eq_some_iff.mp H
  obtain ⟨t444, A100, H⟩ := H
  replace H : (if t444.toList = t439.toList then ((laws_toProgram.f k l0_0).bind fun t445 => ((laws_eqProgram.f k t440 t445).bind fun t448 => (if t448 = true then (some true) else (some false)))) else (some false)) = some r := H
  have A10 := am A100
  clear A100
  by_cases c11 : t444.toList = t439.toList
  ·rw [if_pos c11] at H
   have c11b0 : (t444.toList == t439.toList) = true := beq_iff_eq.mpr c11
   have c11b1 : (t444.toList != t439.toList) = false := bne_eq_false_iff_eq.mpr c11
   clear c11
   replace H := Option.bind_eq_some_iff.mp H
   obtain ⟨t445, A120, H⟩ := H
   replace H : ((laws_eqProgram.f k t440 t445).bind fun t448 => (if t448 = true then (some true) else (some false))) = some r := H
   have A12 := am A120
   clear A120
   replace H := Option.bind_eq_some_iff.mp H
   obtain ⟨t448, A130, H⟩ := H
   replace H : (if t448 = true then (some true) else (some false)) = some r := H
   have A13 := am A130
   clear A130
   by_cases c14 : t448 = true
   ·subst c14
    have H1 : (some true) = some r := by rw [if_pos rfl] at H; exact H
    clear H
    have H := H1
    clear H1
    obtain rfl := Option.some.inj H
    go_enter Try.func4, Try.ntmps4
    try go_wp2_with (first | ((with_reducible refine gate_dst (N := 1) rfl ?_); refine box_event ?hg (N := 1) ?hd (cs := #[.slice A0_0 l0_0.length c0_0]) (t := 24) ?hr ?_; (case hd => rfl); (case hg => rfl); (case hr => exact gs); intro gb434 hg w15 hbox hb; have BK434 := am (hbox); have GW434 := am ((by rw [hg]; exact (below_size (bw HB)) : w.heap.size ≤ gb434)); have GE434 := am ((by rw [hg]; exact (below_size (bw HB)) : w.heap.size ≤ gb434)); replace HB := am (below_step (bw HB) hb); clear hb hbox hg; have hcz16_0 : w15.cell? ⟨gb434, 0, none⟩ = some (.slice A0_0 l0_0.length c0_0) := bc BK434 0; have hfz16_0 := bf BK434 0) | ((with_reducible refine gate_callee (f := 14) rfl ?_); refine goesL_ (some 9) rfl rfl Try.func14 (by kernel_rfl) rfl #[.agg #[.slice A0_0 l0_0.length c0_0], .int .i64 1048576] rfl gl ?_; (with_reducible refine (laws_szProgram.calls k _ _ l0_0 1048576 t435 _ ?side1 ?side2 A2.out).mono ?_); (case side1 => exact cc (Kd.C_below HR0_0.out HB.out)); (case side2 => exact HC0_0.out); rintro e w17 ⟨rfl, hb⟩; refine ⟨_, rfl, ?_⟩; replace BK434 := am (blk_below (g := gb434) (o := .cells #[.slice A0_0 l0_0.length c0_0] 24 (0, 0)) (bp BK434) hb); replace HB := am (below_step (bw HB) hb); (try clear hb); (try clear hb2); (try clear hk); (try clear hi); have hcz18_0 : w17.cell? ⟨gb434, 0, none⟩ = some (.slice A0_0 l0_0.length c0_0) := bc BK434 0; have hfz18_0 := bf BK434 0) | ((with_reducible refine gate_callee (f := 16) rfl ?_); refine goesL_ (some 13) rfl rfl Try.func16 (by kernel_rfl) rfl #[.agg #[.slice A0_0 l0_0.length c0_0]] rfl gl ?_; (with_reducible refine (laws_toProgram.calls k _ _ l0_0 t436 _ ?side1 ?side2 A7.out).mono ?_); (case side1 => exact cc (Kd.C_below HR0_0.out HB.out)); (case side2 => exact HC0_0.out); rintro e w19 ⟨v437, rfl, ho0, hb⟩; refine ⟨_, rfl, ?_⟩; have HO438 := am (Kd.S_lower ho0 (below_size (bw HB))); replace BK434 := am (blk_below (g := gb434) (o := .cells #[.slice A0_0 l0_0.length c0_0] 24 (0, 0)) (bp BK434) hb); replace HB := am (below_step (bw HB) hb); (try clear hb); (try clear hb2); (try clear hk); (try clear hi); (try clear ho0); obtain ⟨Ao20, co20, eo20⟩ := Kd.S_slice HO438.out; subst eo20) | ((with_reducible refine gate_callee (f := 23) rfl ?_); refine goesL_ (some 14) rfl rfl Try.func23 (by kernel_rfl) rfl #[.agg #[.slice Ao20 t436.length co20]] rfl gl ?_; (with_reducible refine (spec_FileBytes.calls k _ _ t436 t439 _ ?side1 ?side2 A8.out).mono ?_); (case side1 => exact cc (Kd.S_reads' HO438.out).2.2); (case side2 => exact (Kd.S_reads' HO438.out).2.1); rintro e w21 ⟨rfl, hb⟩; refine ⟨_, rfl, ?_⟩; replace HO438 := am (Kd.S_below (kS HO438) hb); replace BK434 := am (blk_below (g := gb434) (o := .cells #[.slice A0_0 l0_0.length c0_0] 24 (0, 0)) (bp BK434) hb); replace HB := am (below_step (bw HB) hb); (try clear hb); (try clear hb2); (try clear hk); (try clear hi); have hcz22_0 : w21.cell? ⟨gb434, 0, none⟩ = some (.slice A0_0 l0_0.length c0_0) := bc BK434 0; have hfz22_0 := bf BK434 0) | ((with_reducible refine gate_callee (f := 16) rfl ?_); refine goesL_ (some 16) rfl rfl Try.func16 (by kernel_rfl) rfl #[.agg #[.slice A0_0 l0_0.length c0_0]] rfl gl ?_; (with_reducible refine (laws_toProgram.calls k _ _ l0_0 t440 _ ?side1 ?side2 A9.out).mono ?_); (case side1 => exact cc (Kd.C_below HR0_0.out HB.out)); (case side2 => exact HC0_0.out); rintro e w23 ⟨v441, rfl, ho0, hb⟩; refine ⟨_, rfl, ?_⟩; have HO442 := am (Kd.S_lower (Kd.S_new' ho0 (Kd.S_lt (kS HO438))) (below_size (bw HB))); replace HO438 := am (Kd.S_elder' (kS HO438) (Kd.S_base ho0) hb); replace BK434 := am (blk_below (g := gb434) (o := .cells #[.slice A0_0 l0_0.length c0_0] 24 (0, 0)) (bp BK434) hb); replace HB := am (below_step (bw HB) hb); (try clear hb); (try clear hb2); (try clear hk); (try clear hi); (try clear ho0)) | ((with_reducible refine gate_dst (N := 5) rfl ?_); refine box_event ?hg (N := 5) ?hd (cs := #[.slice none 0 0]) (t := 30) ?hr ?_; (case hd => rfl); (case hg => rfl); (case hr => exact gs); intro gb443 hg w24 hbox hb; replace HO438 := am (Kd.S_below (kS HO438) hb); replace HO442 := am (Kd.S_below (kS HO442) hb); have BK443 := am (hbox); have GW443 := am ((by rw [hg]; exact (below_size (bw HB)) : w.heap.size ≤ gb443)); have GE443 := am ((by rw [hg]; exact (below_size (bw HB)) : w.heap.size ≤ gb443)); replace HB := am (below_step (bw HB) hb); have NB434_443 := am ((by rw [hg]; exact Nat.ne_of_lt (blk_lt (g := gb434) (o := .cells #[.slice A0_0 l0_0.length c0_0] 24 (0, 0)) (bp BK434)) : gb434 ≠ gb443)); have NB443_434 := am ((by rw [hg]; exact Nat.ne_of_gt (blk_lt (g := gb434) (o := .cells #[.slice A0_0 l0_0.length c0_0] 24 (0, 0)) (bp BK434)) : gb443 ≠ gb434)); replace BK434 := am (blk_below (g := gb434) (o := .cells #[.slice A0_0 l0_0.length c0_0] 24 (0, 0)) (bp BK434) hb); clear hb hbox hg; obtain ⟨Ao25, co25, eo25⟩ := Kd.S_slice HO442.out; subst eo25; have hnb26 := NB443_434.out; have hnc26 := NB434_443.out; have hcz27_0 : w24.cell? ⟨gb443, 0, none⟩ = some (.slice none 0 0) := bc BK443 0; have hfz27_0 := bf BK443 0) | ((with_reducible refine gate_callee (f := 24) rfl ?_); refine goesL_ (some 18) rfl rfl Try.func24 (by kernel_rfl) rfl #[.agg #[.slice Ao25 t440.length co25]] rfl gl ?_; (with_reducible refine (impl_FileBytes.calls k _ _ t440 t444 _ ?side1 ?side2 A10.out).mono ?_); (case side1 => refine (Kd.S_reads' (e := 100) (base := w.heap.size) (ok := fun k_ => (True ∧ some k_ ≠ (.slice Ao20 t436.length co20 : Value).ownBlock)) (n := t440.length) (c := co25) ?_).2.2; exact (by (with_reducible repeat (first | apply Kd.S_alloc | apply Kd.S_drewN | apply Kd.S_drew)); exact (Kd.S_mono (Kd.S_far (p := ⟨gb443, 0, none⟩) (Kd.S_types HO442.out BK443.out (by decide)) (fun _ hk => hk.2) (.slice Ao25 t440.length co25)) (fun _ h_ => h_.1)))); (case side2 => exact (Kd.S_reads' HO442.out).2.1); rintro e w28 ⟨rfl, hb⟩; refine ⟨_, rfl, ?_⟩; replace HO438 := am (Kd.S_below (by (with_reducible repeat (first | apply Kd.S_alloc | apply Kd.S_drewN | apply Kd.S_drew)); exact (Kd.S_mono (Kd.S_far (p := ⟨gb443, 0, none⟩) (Kd.S_types HO438.out BK443.out (by decide)) (fun _ hk => hk.2) (.slice Ao25 t440.length co25)) (fun _ h_ => h_.1))) hb); replace HO442 := am (Kd.S_below (by (with_reducible repeat (first | apply Kd.S_alloc | apply Kd.S_drewN | apply Kd.S_drew)); exact (Kd.S_mono (Kd.S_far (p := ⟨gb443, 0, none⟩) (Kd.S_types HO442.out BK443.out (by decide)) (fun _ hk => hk.2) (.slice Ao25 t440.length co25)) (fun _ h_ => h_.1))) hb); replace BK434 := am (blk_below (g := gb434) (o := .cells #[.slice A0_0 l0_0.length c0_0] 24 (0, 0)) (by (with_reducible repeat (first | apply dN | apply dW | apply dA)); refine blk_far ?_ NB434_443.out _; exact bp BK434) hb); replace BK443 := am (blk_below (g := gb443) (o := .cells #[.slice Ao25 t440.length co25] 30 (0, 0)) (by (with_reducible repeat (first | apply dN | apply dW | apply dA)); refine blk_put (cs := #[.slice none 0 0]) ?_ 0 _ rfl; exact bp BK443) hb); replace HB := am (below_step (bw HB) hb); (try clear hb); (try clear hb2); (try clear hk); (try clear hi)))
    have n0_ := am (Kd.S_drew HO438.out)
    have n1_ := am (Kd.S_drew HO442.out)
    have n2_ := am (blk_drew BK434.out)
    have n3_ := am (blk_drew BK443.out)
    have n4_ := am (below_drew1 HB.out)
    clear HO438
    clear HO442
    clear BK434
    clear BK443
    clear HB
    have HO438 := n0_
    have HO442 := n1_
    have BK434 := n2_
    have BK443 := n3_
    have HB := n4_
    clear n0_ n1_ n2_ n3_ n4_
    refine start_ (n := 5) (S := fun w' => w'.cell? ⟨gb443, 0, none⟩ = some (.slice Ao25 t440.length co25) ∧ w'.cell? ⟨gb434, 0, none⟩ = some (.slice A0_0 l0_0.length c0_0)) (ds := []) #[false, false, false, false, false] (by kernel_rfl) rfl rfl ⟨bc BK443 0, bc BK434 0⟩ (fun hHeld => ?_)
    generalize w28.drew = w29 at HO438 HO442 BK434 BK443 HB hHeld ⊢
    refine take_ (i := 0) (N := some 22) (v := ?_) (a' := ?_) #[true, false, false, false, false] rfl rfl (by kernel_rfl) (fun _ _ _ h => h) (Or.inl ⟨by rfl, ?_⟩) hHeld ?_ ?_
    rotate_left
    ·rintro w' ⟨s0, s1⟩
     go_simp
     with_reducible rfl
    rotate_left
    ·simp only [Act.put, sa, sz, ss, i64_w, i32_w]
     rfl
    refine take_ (i := 1) (N := some 23) (v := ?_) (a' := ?_) #[true, true, false, false, false] rfl rfl (by kernel_rfl) (fun _ _ _ h => h) (Or.inl ⟨by rfl, ?_⟩) hHeld ?_ ?_
    rotate_left
    ·rintro w' ⟨s0, s1⟩
     go_simp
     with_reducible rfl
    rotate_left
    ·simp only [Act.put, sa, sz, ss, i64_w, i32_w]
     rfl
    refine one_ (i := 2) (N := some 24) #[true, true, true, false, false] rfl rfl (by kernel_rfl) (by decide) (fun K hK => ?_)
    refine goes_ Try.func16 (by kernel_rfl) rfl #[.agg #[.slice A0_0 l0_0.length c0_0]] (by rfl) rfl rfl gl ?_
    with_reducible refine (laws_toProgram.calls k _ _ l0_0 t445 _ ?side1 ?side2 A12.out).mono ?_
    (case side1 => exact cc (Kd.C_below HR0_0.out HB.out))
    (case side2 => exact HC0_0.out)
    rintro e w30 ⟨v446, rfl, ho0, hb⟩
    refine ⟨_, rfl, ?_⟩
    have n0_ := am (Kd.S_elder' (kS HO438) (Kd.S_base ho0) hb)
    have n1_ := am (Kd.S_elder' (kS HO442) (Kd.S_base ho0) hb)
    have n2_ := am (Kd.S_lower (Kd.S_new' (Kd.S_new' ho0 (Kd.S_lt (kS HO438))) (Kd.S_lt (kS HO442))) (below_size (bw HB)))
    have n3_ := am (blk_below (g := gb434) (o := .cells #[.slice A0_0 l0_0.length c0_0] 24 (0, 0)) (bp BK434) hb)
    have n4_ := am (blk_below (g := gb443) (o := .cells #[.slice Ao25 t440.length co25] 30 (0, 0)) (bp BK443) hb)
    have n5_ := am (below_step (bw HB) hb)
    clear HO438
    clear HO442
    clear BK434
    clear BK443
    clear HB
    have HO438 := n0_
    have HO442 := n1_
    have HO447 := n2_
    have BK434 := n3_
    have BK443 := n4_
    have HB := n5_
    clear n0_ n1_ n2_ n3_ n4_ n5_
    (try clear hb)
    (try clear hb2)
    (try clear hk)
    (try clear hi)
    (try clear ho0)
    obtain ⟨Ao31, co31, eo31⟩ := Kd.S_slice HO447.out
    (first | subst eo31 | (injection eo31 with f1_ f2_ f3_; have f4_ := f1_.symm; have f5_ := f3_.symm; clear f1_ f2_ f3_; subst f4_; subst f5_))
    refine hK.out _ _ ⟨bc BK443 0, bc BK434 0⟩ (fun hHeld => ?_)
    clear hK K
    refine norm_ (a' := ?_) ?_ ?_
    rotate_left
    ·show Act.put _ (some 24) _ = _
     simp only [Act.put, sa, sz, ss, i64_w, i32_w]
     rfl
    refine one_ (i := 3) (N := some 25) #[true, true, true, true, false] rfl rfl (by kernel_rfl) (by decide) (fun K hK => ?_)
    refine goes_ Try.func19 (by kernel_rfl) rfl #[.agg #[.slice Ao25 t440.length co25], .agg #[.slice Ao31 t445.length co31]] (by rfl) rfl rfl gl ?_
    with_reducible refine (laws_eqProgram.calls k _ _ t440 _ _ t445 true _ ?side1 ?side2 ?side3 ?side4 A13.out).mono ?_
    (case side1 => exact cc (Kd.S_reads' HO442.out).2.2)
    (case side2 => exact (Kd.S_reads' HO442.out).2.1)
    (case side3 => exact cc (Kd.S_reads' HO447.out).2.2)
    (case side4 => exact (Kd.S_reads' HO447.out).2.1)
    rintro e w32 ⟨rfl, hb⟩
    refine ⟨_, rfl, ?_⟩
    have n0_ := am (Kd.S_below (kS HO438) hb)
    have n1_ := am (Kd.S_below (kS HO442) hb)
    have n2_ := am (Kd.S_below (kS HO447) hb)
    have n3_ := am (blk_below (g := gb434) (o := .cells #[.slice A0_0 l0_0.length c0_0] 24 (0, 0)) (bp BK434) hb)
    have n4_ := am (blk_below (g := gb443) (o := .cells #[.slice Ao25 t440.length co25] 30 (0, 0)) (bp BK443) hb)
    have n5_ := am (below_step (bw HB) hb)
    clear HO438
    clear HO442
    clear HO447
    clear BK434
    clear BK443
    clear HB
    have HO438 := n0_
    have HO442 := n1_
    have HO447 := n2_
    have BK434 := n3_
    have BK443 := n4_
    have HB := n5_
    clear n0_ n1_ n2_ n3_ n4_ n5_
    (try clear hb)
    (try clear hb2)
    (try clear hk)
    (try clear hi)
    refine hK.out _ _ ⟨bc BK443 0, bc BK434 0⟩ (fun hHeld => ?_)
    clear hK K
    refine norm_ (a' := ?_) ?_ ?_
    rotate_left
    ·show Act.put _ (some 25) _ = _
     simp only [Act.put, sa, sz, ss, i64_w, i32_w]
     rfl
    refine pure_ (i := 4) (N := some 26) (v := ?_) (a' := ?_) #[true, true, true, true, true] rfl rfl (by kernel_rfl) (fun _ _ _ h => h) (Or.inl ⟨by rfl, ?_⟩) ?_ ?_
    rotate_left
    ·intro w'
     go_simp
     with_reducible rfl
    rotate_left
    ·simp only [Act.put, sa, sz, ss, i64_w, i32_w]
     rfl
    refine done_ (by kernel_rfl) ?_
    try go_wp2
    go_ret
    exact ⟨er, bw HB⟩
   ·replace c14 := Bool.eq_false_iff.mpr c14
    subst c14
    have H1 : (some false) = some r := by rw [if_neg (show ¬ (false = true) by decide)] at H; exact H
    clear H
    have H := H1
    clear H1
    obtain rfl := Option.some.inj H
    go_enter Try.func4, Try.ntmps4
    try go_wp2_with (first | ((with_reducible refine gate_dst (N := 1) rfl ?_); refine box_event ?hg (N := 1) ?hd (cs := #[.slice A0_0 l0_0.length c0_0]) (t := 24) ?hr ?_; (case hd => rfl); (case hg => rfl); (case hr => exact gs); intro gb434 hg w33 hbox hb; have BK434 := am (hbox); have GW434 := am ((by rw [hg]; exact (below_size (bw HB)) : w.heap.size ≤ gb434)); have GE434 := am ((by rw [hg]; exact (below_size (bw HB)) : w.heap.size ≤ gb434)); replace HB := am (below_step (bw HB) hb); clear hb hbox hg; have hcz34_0 : w33.cell? ⟨gb434, 0, none⟩ = some (.slice A0_0 l0_0.length c0_0) := bc BK434 0; have hfz34_0 := bf BK434 0) | ((with_reducible refine gate_callee (f := 14) rfl ?_); refine goesL_ (some 9) rfl rfl Try.func14 (by kernel_rfl) rfl #[.agg #[.slice A0_0 l0_0.length c0_0], .int .i64 1048576] rfl gl ?_; (with_reducible refine (laws_szProgram.calls k _ _ l0_0 1048576 t435 _ ?side1 ?side2 A2.out).mono ?_); (case side1 => exact cc (Kd.C_below HR0_0.out HB.out)); (case side2 => exact HC0_0.out); rintro e w35 ⟨rfl, hb⟩; refine ⟨_, rfl, ?_⟩; replace BK434 := am (blk_below (g := gb434) (o := .cells #[.slice A0_0 l0_0.length c0_0] 24 (0, 0)) (bp BK434) hb); replace HB := am (below_step (bw HB) hb); (try clear hb); (try clear hb2); (try clear hk); (try clear hi); have hcz36_0 : w35.cell? ⟨gb434, 0, none⟩ = some (.slice A0_0 l0_0.length c0_0) := bc BK434 0; have hfz36_0 := bf BK434 0) | ((with_reducible refine gate_callee (f := 16) rfl ?_); refine goesL_ (some 13) rfl rfl Try.func16 (by kernel_rfl) rfl #[.agg #[.slice A0_0 l0_0.length c0_0]] rfl gl ?_; (with_reducible refine (laws_toProgram.calls k _ _ l0_0 t436 _ ?side1 ?side2 A7.out).mono ?_); (case side1 => exact cc (Kd.C_below HR0_0.out HB.out)); (case side2 => exact HC0_0.out); rintro e w37 ⟨v437, rfl, ho0, hb⟩; refine ⟨_, rfl, ?_⟩; have HO438 := am (Kd.S_lower ho0 (below_size (bw HB))); replace BK434 := am (blk_below (g := gb434) (o := .cells #[.slice A0_0 l0_0.length c0_0] 24 (0, 0)) (bp BK434) hb); replace HB := am (below_step (bw HB) hb); (try clear hb); (try clear hb2); (try clear hk); (try clear hi); (try clear ho0); obtain ⟨Ao38, co38, eo38⟩ := Kd.S_slice HO438.out; subst eo38) | ((with_reducible refine gate_callee (f := 23) rfl ?_); refine goesL_ (some 14) rfl rfl Try.func23 (by kernel_rfl) rfl #[.agg #[.slice Ao38 t436.length co38]] rfl gl ?_; (with_reducible refine (spec_FileBytes.calls k _ _ t436 t439 _ ?side1 ?side2 A8.out).mono ?_); (case side1 => exact cc (Kd.S_reads' HO438.out).2.2); (case side2 => exact (Kd.S_reads' HO438.out).2.1); rintro e w39 ⟨rfl, hb⟩; refine ⟨_, rfl, ?_⟩; replace HO438 := am (Kd.S_below (kS HO438) hb); replace BK434 := am (blk_below (g := gb434) (o := .cells #[.slice A0_0 l0_0.length c0_0] 24 (0, 0)) (bp BK434) hb); replace HB := am (below_step (bw HB) hb); (try clear hb); (try clear hb2); (try clear hk); (try clear hi); have hcz40_0 : w39.cell? ⟨gb434, 0, none⟩ = some (.slice A0_0 l0_0.length c0_0) := bc BK434 0; have hfz40_0 := bf BK434 0) | ((with_reducible refine gate_callee (f := 16) rfl ?_); refine goesL_ (some 16) rfl rfl Try.func16 (by kernel_rfl) rfl #[.agg #[.slice A0_0 l0_0.length c0_0]] rfl gl ?_; (with_reducible refine (laws_toProgram.calls k _ _ l0_0 t440 _ ?side1 ?side2 A9.out).mono ?_); (case side1 => exact cc (Kd.C_below HR0_0.out HB.out)); (case side2 => exact HC0_0.out); rintro e w41 ⟨v441, rfl, ho0, hb⟩; refine ⟨_, rfl, ?_⟩; have HO442 := am (Kd.S_lower (Kd.S_new' ho0 (Kd.S_lt (kS HO438))) (below_size (bw HB))); replace HO438 := am (Kd.S_elder' (kS HO438) (Kd.S_base ho0) hb); replace BK434 := am (blk_below (g := gb434) (o := .cells #[.slice A0_0 l0_0.length c0_0] 24 (0, 0)) (bp BK434) hb); replace HB := am (below_step (bw HB) hb); (try clear hb); (try clear hb2); (try clear hk); (try clear hi); (try clear ho0)) | ((with_reducible refine gate_dst (N := 5) rfl ?_); refine box_event ?hg (N := 5) ?hd (cs := #[.slice none 0 0]) (t := 30) ?hr ?_; (case hd => rfl); (case hg => rfl); (case hr => exact gs); intro gb443 hg w42 hbox hb; replace HO438 := am (Kd.S_below (kS HO438) hb); replace HO442 := am (Kd.S_below (kS HO442) hb); have BK443 := am (hbox); have GW443 := am ((by rw [hg]; exact (below_size (bw HB)) : w.heap.size ≤ gb443)); have GE443 := am ((by rw [hg]; exact (below_size (bw HB)) : w.heap.size ≤ gb443)); replace HB := am (below_step (bw HB) hb); have NB434_443 := am ((by rw [hg]; exact Nat.ne_of_lt (blk_lt (g := gb434) (o := .cells #[.slice A0_0 l0_0.length c0_0] 24 (0, 0)) (bp BK434)) : gb434 ≠ gb443)); have NB443_434 := am ((by rw [hg]; exact Nat.ne_of_gt (blk_lt (g := gb434) (o := .cells #[.slice A0_0 l0_0.length c0_0] 24 (0, 0)) (bp BK434)) : gb443 ≠ gb434)); replace BK434 := am (blk_below (g := gb434) (o := .cells #[.slice A0_0 l0_0.length c0_0] 24 (0, 0)) (bp BK434) hb); clear hb hbox hg; obtain ⟨Ao43, co43, eo43⟩ := Kd.S_slice HO442.out; subst eo43; have hnb44 := NB443_434.out; have hnc44 := NB434_443.out; have hcz45_0 : w42.cell? ⟨gb443, 0, none⟩ = some (.slice none 0 0) := bc BK443 0; have hfz45_0 := bf BK443 0) | ((with_reducible refine gate_callee (f := 24) rfl ?_); refine goesL_ (some 18) rfl rfl Try.func24 (by kernel_rfl) rfl #[.agg #[.slice Ao43 t440.length co43]] rfl gl ?_; (with_reducible refine (impl_FileBytes.calls k _ _ t440 t444 _ ?side1 ?side2 A10.out).mono ?_); (case side1 => refine (Kd.S_reads' (e := 100) (base := w.heap.size) (ok := fun k_ => (True ∧ some k_ ≠ (.slice Ao38 t436.length co38 : Value).ownBlock)) (n := t440.length) (c := co43) ?_).2.2; exact (by (with_reducible repeat (first | apply Kd.S_alloc | apply Kd.S_drewN | apply Kd.S_drew)); exact (Kd.S_mono (Kd.S_far (p := ⟨gb443, 0, none⟩) (Kd.S_types HO442.out BK443.out (by decide)) (fun _ hk => hk.2) (.slice Ao43 t440.length co43)) (fun _ h_ => h_.1)))); (case side2 => exact (Kd.S_reads' HO442.out).2.1); rintro e w46 ⟨rfl, hb⟩; refine ⟨_, rfl, ?_⟩; replace HO438 := am (Kd.S_below (by (with_reducible repeat (first | apply Kd.S_alloc | apply Kd.S_drewN | apply Kd.S_drew)); exact (Kd.S_mono (Kd.S_far (p := ⟨gb443, 0, none⟩) (Kd.S_types HO438.out BK443.out (by decide)) (fun _ hk => hk.2) (.slice Ao43 t440.length co43)) (fun _ h_ => h_.1))) hb); replace HO442 := am (Kd.S_below (by (with_reducible repeat (first | apply Kd.S_alloc | apply Kd.S_drewN | apply Kd.S_drew)); exact (Kd.S_mono (Kd.S_far (p := ⟨gb443, 0, none⟩) (Kd.S_types HO442.out BK443.out (by decide)) (fun _ hk => hk.2) (.slice Ao43 t440.length co43)) (fun _ h_ => h_.1))) hb); replace BK434 := am (blk_below (g := gb434) (o := .cells #[.slice A0_0 l0_0.length c0_0] 24 (0, 0)) (by (with_reducible repeat (first | apply dN | apply dW | apply dA)); refine blk_far ?_ NB434_443.out _; exact bp BK434) hb); replace BK443 := am (blk_below (g := gb443) (o := .cells #[.slice Ao43 t440.length co43] 30 (0, 0)) (by (with_reducible repeat (first | apply dN | apply dW | apply dA)); refine blk_put (cs := #[.slice none 0 0]) ?_ 0 _ rfl; exact bp BK443) hb); replace HB := am (below_step (bw HB) hb); (try clear hb); (try clear hb2); (try clear hk); (try clear hi)))
    have n0_ := am (Kd.S_drew HO438.out)
    have n1_ := am (Kd.S_drew HO442.out)
    have n2_ := am (blk_drew BK434.out)
    have n3_ := am (blk_drew BK443.out)
    have n4_ := am (below_drew1 HB.out)
    clear HO438
    clear HO442
    clear BK434
    clear BK443
    clear HB
    have HO438 := n0_
    have HO442 := n1_
    have BK434 := n2_
    have BK443 := n3_
    have HB := n4_
    clear n0_ n1_ n2_ n3_ n4_
    refine start_ (n := 5) (S := fun w' => w'.cell? ⟨gb443, 0, none⟩ = some (.slice Ao43 t440.length co43) ∧ w'.cell? ⟨gb434, 0, none⟩ = some (.slice A0_0 l0_0.length c0_0)) (ds := []) #[false, false, false, false, false] (by kernel_rfl) rfl rfl ⟨bc BK443 0, bc BK434 0⟩ (fun hHeld => ?_)
    generalize w46.drew = w47 at HO438 HO442 BK434 BK443 HB hHeld ⊢
    refine take_ (i := 0) (N := some 22) (v := ?_) (a' := ?_) #[true, false, false, false, false] rfl rfl (by kernel_rfl) (fun _ _ _ h => h) (Or.inl ⟨by rfl, ?_⟩) hHeld ?_ ?_
    rotate_left
    ·rintro w' ⟨s0, s1⟩
     go_simp
     with_reducible rfl
    rotate_left
    ·simp only [Act.put, sa, sz, ss, i64_w, i32_w]
     rfl
    refine take_ (i := 1) (N := some 23) (v := ?_) (a' := ?_) #[true, true, false, false, false] rfl rfl (by kernel_rfl) (fun _ _ _ h => h) (Or.inl ⟨by rfl, ?_⟩) hHeld ?_ ?_
    rotate_left
    ·rintro w' ⟨s0, s1⟩
     go_simp
     with_reducible rfl
    rotate_left
    ·simp only [Act.put, sa, sz, ss, i64_w, i32_w]
     rfl
    refine one_ (i := 2) (N := some 24) #[true, true, true, false, false] rfl rfl (by kernel_rfl) (by decide) (fun K hK => ?_)
    refine goes_ Try.func16 (by kernel_rfl) rfl #[.agg #[.slice A0_0 l0_0.length c0_0]] (by rfl) rfl rfl gl ?_
    with_reducible refine (laws_toProgram.calls k _ _ l0_0 t445 _ ?side1 ?side2 A12.out).mono ?_
    (case side1 => exact cc (Kd.C_below HR0_0.out HB.out))
    (case side2 => exact HC0_0.out)
    rintro e w48 ⟨v446, rfl, ho0, hb⟩
    refine ⟨_, rfl, ?_⟩
    have n0_ := am (Kd.S_elder' (kS HO438) (Kd.S_base ho0) hb)
    have n1_ := am (Kd.S_elder' (kS HO442) (Kd.S_base ho0) hb)
    have n2_ := am (Kd.S_lower (Kd.S_new' (Kd.S_new' ho0 (Kd.S_lt (kS HO438))) (Kd.S_lt (kS HO442))) (below_size (bw HB)))
    have n3_ := am (blk_below (g := gb434) (o := .cells #[.slice A0_0 l0_0.length c0_0] 24 (0, 0)) (bp BK434) hb)
    have n4_ := am (blk_below (g := gb443) (o := .cells #[.slice Ao43 t440.length co43] 30 (0, 0)) (bp BK443) hb)
    have n5_ := am (below_step (bw HB) hb)
    clear HO438
    clear HO442
    clear BK434
    clear BK443
    clear HB
    have HO438 := n0_
    have HO442 := n1_
    have HO447 := n2_
    have BK434 := n3_
    have BK443 := n4_
    have HB := n5_
    clear n0_ n1_ n2_ n3_ n4_ n5_
    (try clear hb)
    (try clear hb2)
    (try clear hk)
    (try clear hi)
    (try clear ho0)
    obtain ⟨Ao49, co49, eo49⟩ := Kd.S_slice HO447.out
    (first | subst eo49 | (injection eo49 with f1_ f2_ f3_; have f4_ := f1_.symm; have f5_ := f3_.symm; clear f1_ f2_ f3_; subst f4_; subst f5_))
    refine hK.out _ _ ⟨bc BK443 0, bc BK434 0⟩ (fun hHeld => ?_)
    clear hK K
    refine norm_ (a' := ?_) ?_ ?_
    rotate_left
    ·show Act.put _ (some 24) _ = _
     simp only [Act.put, sa, sz, ss, i64_w, i32_w]
     rfl
    refine one_ (i := 3) (N := some 25) #[true, true, true, true, false] rfl rfl (by kernel_rfl) (by decide) (fun K hK => ?_)
    refine goes_ Try.func19 (by kernel_rfl) rfl #[.agg #[.slice Ao43 t440.length co43], .agg #[.slice Ao49 t445.length co49]] (by rfl) rfl rfl gl ?_
    with_reducible refine (laws_eqProgram.calls k _ _ t440 _ _ t445 false _ ?side1 ?side2 ?side3 ?side4 A13.out).mono ?_
    (case side1 => exact cc (Kd.S_reads' HO442.out).2.2)
    (case side2 => exact (Kd.S_reads' HO442.out).2.1)
    (case side3 => exact cc (Kd.S_reads' HO447.out).2.2)
    (case side4 => exact (Kd.S_reads' HO447.out).2.1)
    rintro e w50 ⟨rfl, hb⟩
    refine ⟨_, rfl, ?_⟩
    have n0_ := am (Kd.S_below (kS HO438) hb)
    have n1_ := am (Kd.S_below (kS HO442) hb)
    have n2_ := am (Kd.S_below (kS HO447) hb)
    have n3_ := am (blk_below (g := gb434) (o := .cells #[.slice A0_0 l0_0.length c0_0] 24 (0, 0)) (bp BK434) hb)
    have n4_ := am (blk_below (g := gb443) (o := .cells #[.slice Ao43 t440.length co43] 30 (0, 0)) (bp BK443) hb)
    have n5_ := am (below_step (bw HB) hb)
    clear HO438
    clear HO442
    clear HO447
    clear BK434
    clear BK443
    clear HB
    have HO438 := n0_
    have HO442 := n1_
    have HO447 := n2_
    have BK434 := n3_
    have BK443 := n4_
    have HB := n5_
    clear n0_ n1_ n2_ n3_ n4_ n5_
    (try clear hb)
    (try clear hb2)
    (try clear hk)
    (try clear hi)
    refine hK.out _ _ ⟨bc BK443 0, bc BK434 0⟩ (fun hHeld => ?_)
    clear hK K
    refine norm_ (a' := ?_) ?_ ?_
    rotate_left
    ·show Act.put _ (some 25) _ = _
     simp only [Act.put, sa, sz, ss, i64_w, i32_w]
     rfl
    refine pure_ (i := 4) (N := some 26) (v := ?_) (a' := ?_) #[true, true, true, true, true] rfl rfl (by kernel_rfl) (fun _ _ _ h => h) (Or.inl ⟨by rfl, ?_⟩) ?_ ?_
    rotate_left
    ·intro w'
     go_simp
     with_reducible rfl
    rotate_left
    ·simp only [Act.put, sa, sz, ss, i64_w, i32_w]
     rfl
    refine done_ (by kernel_rfl) ?_
    try go_wp2
    go_ret
    exact ⟨er, bw HB⟩
  ·rw [if_neg c11] at H
   have c11b0 : (t444.toList == t439.toList) = false := beq_eq_false_iff_ne.mpr c11
   have c11b1 : (t444.toList != t439.toList) = true := bne_iff_ne.mpr c11
   obtain rfl := Option.some.inj H
   go_enter Try.func4, Try.ntmps4
   go_wp2_with (first | ((with_reducible refine gate_dst (N := 1) rfl ?_); refine box_event ?hg (N := 1) ?hd (cs := #[.slice A0_0 l0_0.length c0_0]) (t := 24) ?hr ?_; (case hd => rfl); (case hg => rfl); (case hr => exact gs); intro gb434 hg w51 hbox hb; have BK434 := am (hbox); have GW434 := am ((by rw [hg]; exact (below_size (bw HB)) : w.heap.size ≤ gb434)); have GE434 := am ((by rw [hg]; exact (below_size (bw HB)) : w.heap.size ≤ gb434)); replace HB := am (below_step (bw HB) hb); clear hb hbox hg; have hcz52_0 : w51.cell? ⟨gb434, 0, none⟩ = some (.slice A0_0 l0_0.length c0_0) := bc BK434 0; have hfz52_0 := bf BK434 0) | ((with_reducible refine gate_callee (f := 14) rfl ?_); refine goesL_ (some 9) rfl rfl Try.func14 (by kernel_rfl) rfl #[.agg #[.slice A0_0 l0_0.length c0_0], .int .i64 1048576] rfl gl ?_; (with_reducible refine (laws_szProgram.calls k _ _ l0_0 1048576 t435 _ ?side1 ?side2 A2.out).mono ?_); (case side1 => exact cc (Kd.C_below HR0_0.out HB.out)); (case side2 => exact HC0_0.out); rintro e w53 ⟨rfl, hb⟩; refine ⟨_, rfl, ?_⟩; replace BK434 := am (blk_below (g := gb434) (o := .cells #[.slice A0_0 l0_0.length c0_0] 24 (0, 0)) (bp BK434) hb); replace HB := am (below_step (bw HB) hb); (try clear hb); (try clear hb2); (try clear hk); (try clear hi); have hcz54_0 : w53.cell? ⟨gb434, 0, none⟩ = some (.slice A0_0 l0_0.length c0_0) := bc BK434 0; have hfz54_0 := bf BK434 0) | ((with_reducible refine gate_callee (f := 16) rfl ?_); refine goesL_ (some 13) rfl rfl Try.func16 (by kernel_rfl) rfl #[.agg #[.slice A0_0 l0_0.length c0_0]] rfl gl ?_; (with_reducible refine (laws_toProgram.calls k _ _ l0_0 t436 _ ?side1 ?side2 A7.out).mono ?_); (case side1 => exact cc (Kd.C_below HR0_0.out HB.out)); (case side2 => exact HC0_0.out); rintro e w55 ⟨v437, rfl, ho0, hb⟩; refine ⟨_, rfl, ?_⟩; have HO438 := am (Kd.S_lower ho0 (below_size (bw HB))); replace BK434 := am (blk_below (g := gb434) (o := .cells #[.slice A0_0 l0_0.length c0_0] 24 (0, 0)) (bp BK434) hb); replace HB := am (below_step (bw HB) hb); (try clear hb); (try clear hb2); (try clear hk); (try clear hi); (try clear ho0); obtain ⟨Ao56, co56, eo56⟩ := Kd.S_slice HO438.out; subst eo56) | ((with_reducible refine gate_callee (f := 23) rfl ?_); refine goesL_ (some 14) rfl rfl Try.func23 (by kernel_rfl) rfl #[.agg #[.slice Ao56 t436.length co56]] rfl gl ?_; (with_reducible refine (spec_FileBytes.calls k _ _ t436 t439 _ ?side1 ?side2 A8.out).mono ?_); (case side1 => exact cc (Kd.S_reads' HO438.out).2.2); (case side2 => exact (Kd.S_reads' HO438.out).2.1); rintro e w57 ⟨rfl, hb⟩; refine ⟨_, rfl, ?_⟩; replace HO438 := am (Kd.S_below (kS HO438) hb); replace BK434 := am (blk_below (g := gb434) (o := .cells #[.slice A0_0 l0_0.length c0_0] 24 (0, 0)) (bp BK434) hb); replace HB := am (below_step (bw HB) hb); (try clear hb); (try clear hb2); (try clear hk); (try clear hi); have hcz58_0 : w57.cell? ⟨gb434, 0, none⟩ = some (.slice A0_0 l0_0.length c0_0) := bc BK434 0; have hfz58_0 := bf BK434 0) | ((with_reducible refine gate_callee (f := 16) rfl ?_); refine goesL_ (some 16) rfl rfl Try.func16 (by kernel_rfl) rfl #[.agg #[.slice A0_0 l0_0.length c0_0]] rfl gl ?_; (with_reducible refine (laws_toProgram.calls k _ _ l0_0 t440 _ ?side1 ?side2 A9.out).mono ?_); (case side1 => exact cc (Kd.C_below HR0_0.out HB.out)); (case side2 => exact HC0_0.out); rintro e w59 ⟨v441, rfl, ho0, hb⟩; refine ⟨_, rfl, ?_⟩; have HO442 := am (Kd.S_lower (Kd.S_new' ho0 (Kd.S_lt (kS HO438))) (below_size (bw HB))); replace HO438 := am (Kd.S_elder' (kS HO438) (Kd.S_base ho0) hb); replace BK434 := am (blk_below (g := gb434) (o := .cells #[.slice A0_0 l0_0.length c0_0] 24 (0, 0)) (bp BK434) hb); replace HB := am (below_step (bw HB) hb); (try clear hb); (try clear hb2); (try clear hk); (try clear hi); (try clear ho0)) | ((with_reducible refine gate_dst (N := 5) rfl ?_); refine box_event ?hg (N := 5) ?hd (cs := #[.slice none 0 0]) (t := 30) ?hr ?_; (case hd => rfl); (case hg => rfl); (case hr => exact gs); intro gb443 hg w60 hbox hb; replace HO438 := am (Kd.S_below (kS HO438) hb); replace HO442 := am (Kd.S_below (kS HO442) hb); have BK443 := am (hbox); have GW443 := am ((by rw [hg]; exact (below_size (bw HB)) : w.heap.size ≤ gb443)); have GE443 := am ((by rw [hg]; exact (below_size (bw HB)) : w.heap.size ≤ gb443)); replace HB := am (below_step (bw HB) hb); have NB434_443 := am ((by rw [hg]; exact Nat.ne_of_lt (blk_lt (g := gb434) (o := .cells #[.slice A0_0 l0_0.length c0_0] 24 (0, 0)) (bp BK434)) : gb434 ≠ gb443)); have NB443_434 := am ((by rw [hg]; exact Nat.ne_of_gt (blk_lt (g := gb434) (o := .cells #[.slice A0_0 l0_0.length c0_0] 24 (0, 0)) (bp BK434)) : gb443 ≠ gb434)); replace BK434 := am (blk_below (g := gb434) (o := .cells #[.slice A0_0 l0_0.length c0_0] 24 (0, 0)) (bp BK434) hb); clear hb hbox hg; obtain ⟨Ao61, co61, eo61⟩ := Kd.S_slice HO442.out; subst eo61; have hnb62 := NB443_434.out; have hnc62 := NB434_443.out; have hcz63_0 : w60.cell? ⟨gb443, 0, none⟩ = some (.slice none 0 0) := bc BK443 0; have hfz63_0 := bf BK443 0) | ((with_reducible refine gate_callee (f := 24) rfl ?_); refine goesL_ (some 18) rfl rfl Try.func24 (by kernel_rfl) rfl #[.agg #[.slice Ao61 t440.length co61]] rfl gl ?_; (with_reducible refine (impl_FileBytes.calls k _ _ t440 t444 _ ?side1 ?side2 A10.out).mono ?_); (case side1 => refine (Kd.S_reads' (e := 100) (base := w.heap.size) (ok := fun k_ => (True ∧ some k_ ≠ (.slice Ao56 t436.length co56 : Value).ownBlock)) (n := t440.length) (c := co61) ?_).2.2; exact (by (with_reducible repeat (first | apply Kd.S_alloc | apply Kd.S_drewN | apply Kd.S_drew)); exact (Kd.S_mono (Kd.S_far (p := ⟨gb443, 0, none⟩) (Kd.S_types HO442.out BK443.out (by decide)) (fun _ hk => hk.2) (.slice Ao61 t440.length co61)) (fun _ h_ => h_.1)))); (case side2 => exact (Kd.S_reads' HO442.out).2.1); rintro e w64 ⟨rfl, hb⟩; refine ⟨_, rfl, ?_⟩; replace HO438 := am (Kd.S_below (by (with_reducible repeat (first | apply Kd.S_alloc | apply Kd.S_drewN | apply Kd.S_drew)); exact (Kd.S_mono (Kd.S_far (p := ⟨gb443, 0, none⟩) (Kd.S_types HO438.out BK443.out (by decide)) (fun _ hk => hk.2) (.slice Ao61 t440.length co61)) (fun _ h_ => h_.1))) hb); replace HO442 := am (Kd.S_below (by (with_reducible repeat (first | apply Kd.S_alloc | apply Kd.S_drewN | apply Kd.S_drew)); exact (Kd.S_mono (Kd.S_far (p := ⟨gb443, 0, none⟩) (Kd.S_types HO442.out BK443.out (by decide)) (fun _ hk => hk.2) (.slice Ao61 t440.length co61)) (fun _ h_ => h_.1))) hb); replace BK434 := am (blk_below (g := gb434) (o := .cells #[.slice A0_0 l0_0.length c0_0] 24 (0, 0)) (by (with_reducible repeat (first | apply dN | apply dW | apply dA)); refine blk_far ?_ NB434_443.out _; exact bp BK434) hb); replace BK443 := am (blk_below (g := gb443) (o := .cells #[.slice Ao61 t440.length co61] 30 (0, 0)) (by (with_reducible repeat (first | apply dN | apply dW | apply dA)); refine blk_put (cs := #[.slice none 0 0]) ?_ 0 _ rfl; exact bp BK443) hb); replace HB := am (below_step (bw HB) hb); (try clear hb); (try clear hb2); (try clear hk); (try clear hi)))
   go_ret
   exact ⟨er, bw HB⟩

end Go.Proofs.Ytbmjmaahcaoajaa.QFnExactFileBytes
