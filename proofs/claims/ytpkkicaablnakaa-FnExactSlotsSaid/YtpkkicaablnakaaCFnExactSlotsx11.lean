-- Written by this session's own program (wip/tools/xprint.py) on the seat's printed words. Lean checks it.
import Derived.Test.YtpkkicaablnakaaCFnExactSlotsx0
import Derived.Test.YtpkkicaablnakaaCFnExactSlotsx1
import Derived.Test.YtpkkicaablnakaaCFnExactSlotsx3
import Derived.Test.YtpkkicaablnakaaCFnExactSlotsx7
import Derived.Test.YtpkkicaablnakaaCFnExactSlotsx10
namespace Go.Proofs.Ytpkkicaablnakaa.QFnExactSlots
open Go.RowKit Go.Proofs.YtpkkicaablnakaaW.PrintWords Go.Proofs.YtpkkicaablnakaaW.PrintLast Go.Proofs.YtpkkicaablnakaaW.PrintMore Go.Proofs.YtpkkicaablnakaaW.PrintShort
attribute [local go_sem] max2_int min2_int max_two min_two max_three min_three max_four min_four   -- for this text's walks alone
set_option linter.unusedVariables false
set_option linter.unusedSimpArgs false

/-! ### impl_prog_slots: function 124 -/
def impl_prog_slots.f (l0_0 : List (S108)) (l0_1 : List (List Int)) (a1 : Int) (a2 : Int) : Option (Int) := if 0 ≤ a1 then (if a1 < (l0_0.length : Int) then (if a1 < (l0_1.length : Int) then (if 0 ≤ a2 then (if a2 < ((rd_L9 l0_1 a1).length : Int) then (some (wrap64 (((rd_T108 l0_0 a1).f1) + (rd (rd_L9 l0_1 a1) a2)))) else (none)) else (none)) else (none)) else (none)) else (none)
set_option maxHeartbeats 8000000 in
set_option maxRecDepth 100000 in
theorem impl_prog_slots.calls (g0_ : Nat) (A0_0 : Option Addr) (c0_0 : Nat) (l0_0 : List (S108)) (A0_1 : Option Addr) (c0_1 : Nat) (l0_1 : List (List Int)) (a1 : Int) (a2 : Int) (r : Int) (w : World) (hp0 : w.heap[g0_]? = some (.cells #[.slice A0_0 l0_0.length c0_0, .slice A0_1 l0_1.length c0_1] 110 (0, 0))) (hr0_0 : Kd.C k108 w A0_0 l0_0.length l0_0) (hc0_0 : l0_0.length ≤ c0_0) (hr0_1 : Kd.C (Kd.slice 2 (Kd.int .i64)) w A0_1 l0_1.length l0_1) (hc0_1 : l0_1.length ≤ c0_1) (h : impl_prog_slots.f l0_0 l0_1 a1 a2 = some r) :
  Calls Try.prog 124 #[.pointer (some ⟨g0_, 0, none⟩), .int .i64 a1, .int .i64 a2] w fun e w' => e = .returned (.int .i64 r) ∧ Below w.heap.size w w' := by
 have HP0_ := Aside0.mk hp0
 clear hp0
 have HR0_0 := Aside0.mk hr0_0
 have HC0_0 := Aside0.mk hc0_0
 clear hr0_0 hc0_0
 have HR0_1 := Aside0.mk hr0_1
 have HC0_1 := Aside0.mk hc0_1
 clear hr0_1 hc0_1
 have HB := Aside0.mk (Below.refl w.heap.size w)
 have H : (if 0 ≤ a1 then (if a1 < (l0_0.length : Int) then (if a1 < (l0_1.length : Int) then (if 0 ≤ a2 then (if a2 < ((rd_L9 l0_1 a1).length : Int) then (some (wrap64 (((rd_T108 l0_0 a1).f1) + (rd (rd_L9 l0_1 a1) a2)))) else (none)) else (none)) else (none)) else (none)) else (none)) = some r := h
 clear h
 by_cases c4 : 0 ≤ a1
 ·rw [if_pos c4] at H
  have c4b0 : decide (0 ≤ a1) = true := decide_eq_true c4
  clear c4
  by_cases c5 : a1 < (l0_0.length : Int)
  ·rw [if_pos c5] at H
   have c5b0 : decide (a1 < (l0_0.length : Int)) = true := decide_eq_true c5
   clear c5
   by_cases c6 : a1 < (l0_1.length : Int)
   ·rw [if_pos c6] at H
    have c6b0 : decide (a1 < (l0_1.length : Int)) = true := decide_eq_true c6
    clear c6
    by_cases c7 : 0 ≤ a2
    ·rw [if_pos c7] at H
     have c7b0 : decide (0 ≤ a2) = true := decide_eq_true c7
     clear c7
     by_cases c8 : a2 < ((rd_L9 l0_1 a1).length : Int)
     ·rw [if_pos c8] at H
      have c8b0 : decide (a2 < ((rd_L9 l0_1 a1).length : Int)) = true := decide_eq_true c8
      clear c8
      obtain rfl := Option.some.inj H
      have hcz9_0 : w.cell? ⟨g0_, 0, none⟩ = some (.slice A0_0 l0_0.length c0_0) := (blk_cell HP0_.out 0).trans rfl
      have hcz9_1 : w.cell? ⟨g0_, 1, none⟩ = some (.slice A0_1 l0_1.length c0_1) := (blk_cell HP0_.out 1).trans rfl
      have hfz9_0 := blk_frozen HP0_.out 0
      have hfz9_1 := blk_frozen HP0_.out 1
      have p351 : 0 ≤ (a1 : Int) := of_decide_eq_true as1
      have q351 : a1 < (l0_0.length : Int) := of_decide_eq_true as1
      obtain ⟨ad351, A351_2, c351_2, e351, hx351_0, hx351_1, hx351_2, hl351_2, hi351_2⟩ := at_T108 HR0_0.out a1 p351 q351
      cases e351
      have HR351_2 := Aside0.mk hi351_2
      have HC351_2 := Aside0.mk hl351_2
      clear hi351_2 hl351_2
      replace p351 := eq_true p351
      replace q351 := eq_true q351
      have p352 : 0 ≤ (a1 : Int) := of_decide_eq_true as1
      have q352 : a1 < (l0_1.length : Int) := of_decide_eq_true as1
      obtain ⟨ad352, A352_0, c352_0, e352, hx352_0, hl352_0, hi352_0⟩ := at_L9 HR0_1.out a1 p352 q352
      cases e352
      have HR352_0 := Aside0.mk hi352_0
      have HC352_0 := Aside0.mk hl352_0
      clear hi352_0 hl352_0
      replace p352 := eq_true p352
      replace q352 := eq_true q352
      have p353 : 0 ≤ (a2 : Int) := of_decide_eq_true as1
      have q353 : a2 < ((rd_L9 l0_1 a1).length : Int) := of_decide_eq_true as1
      obtain ⟨ad353, e353, hx353_0⟩ := Kd.at_int HR352_0.out a2 p353 q353
      cases e353
      replace p353 := eq_true p353
      replace q353 := eq_true q353
      go_enter Try.func124, Try.ntmps124
      go_wp2
      repeat (go_quiet (fail); try go_wp2)
      go_ret
      exact ⟨by first | rfl | (simp [errW_none, errW_some] <;> rfl) | (simp [*, errW_none, errW_some] <;> rfl), bw HB⟩
     ·rw [if_neg c8] at H
      exact absurd H (by simp)
    ·rw [if_neg c7] at H
     exact absurd H (by simp)
   ·rw [if_neg c6] at H
    exact absurd H (by simp)
  ·rw [if_neg c5] at H
   exact absurd H (by simp)
 ·rw [if_neg c4] at H
  exact absurd H (by simp)

/-! ### impl_Slots: function 56 -/
def impl_Slots.f (k : Nat) (l0_0 : List (S108)) (a1 : Int) (a2 : Int) : Option (Int) := (impl_known.f k l0_0).bind fun bt355 => (if bt355.2.2 = true then ((impl_prog_reached.f bt355.1 bt355.2.1 a1 a2).bind fun t363 => (if t363 = true then ((impl_prog_slots.f bt355.1 bt355.2.1 a1 a2).bind fun t364 => (some t364)) else (some 0))) else (some 0))
theorem impl_Slots.mono : ∀ a0 a1 a2 k, LeO (impl_Slots.f k a0 a1 a2) (impl_Slots.f (k + 1) a0 a1 a2) := by
 intro a0 a1 a2 k
 unfold impl_Slots.f
 repeat' first
   | (with_reducible exact impl_known.mono _ _)
   | (with_reducible exact LeO.refl _)
   | (with_reducible exact LeO.none _)
   | (with_reducible refine LeO.ite ?_ ?_)
   | (with_reducible refine LeO.bind ?_ (fun _ => ?_))
   | exact impl_known.mono _ _
   | exact LeO.none _
   | refine LeO.ite ?_ ?_
   | refine LeO.bind ?_ (fun _ => ?_)
set_option maxHeartbeats 8000000 in
set_option maxRecDepth 100000 in
theorem impl_Slots.calls (k : Nat) (A0_0 : Option Addr) (c0_0 : Nat) (l0_0 : List (S108)) (a1 : Int) (a2 : Int) (r : Int) (w : World) (hr0_0 : Kd.C k108 w A0_0 l0_0.length l0_0) (hc0_0 : l0_0.length ≤ c0_0) (h : impl_Slots.f k l0_0 a1 a2 = some r) :
  Calls Try.prog 56 #[.agg #[.slice A0_0 l0_0.length c0_0], .int .i64 a1, .int .i64 a2] w fun e w' => e = .returned (.int .i64 r) ∧ Below w.heap.size w w' := by
 have hu25 := Try.underlying25
 have HR0_0 := Aside0.mk hr0_0
 have HC0_0 := Aside0.mk hc0_0
 clear hr0_0 hc0_0
 have HB := Aside0.mk (Below.refl w.heap.size w)
 have H : ((impl_known.f k l0_0).bind fun bt355 => (if bt355.2.2 = true then ((impl_prog_reached.f bt355.1 bt355.2.1 a1 a2).bind fun t363 => (if t363 = true then ((impl_prog_slots.f bt355.1 bt355.2.1 a1 a2).bind fun t364 => (some t364)) else (some 0))) else (some 0))) = some r := h
 clear h
 replace H := Option.bind_eq_some_iff.mp H
 obtain ⟨⟨t355, t358, t362⟩, A40, H⟩ := H
 replace H : (if t362 = true then ((impl_prog_reached.f t355 t358 a1 a2).bind fun t363 => (if t363 = true then ((impl_prog_slots.f t355 t358 a1 a2).bind fun t364 => (some t364)) else (some 0))) else (some 0)) = some r := H
 have A4 := Aside0.mk A40
 clear A40
 by_cases c5 : t362 = true
 ·subst c5
  have H1 : ((impl_prog_reached.f t355 t358 a1 a2).bind fun t363 => (if t363 = true then ((impl_prog_slots.f t355 t358 a1 a2).bind fun t364 => (some t364)) else (some 0))) = some r := by rw [if_pos rfl] at H; exact H
  clear H
  have H := H1
  clear H1
  replace H := Option.bind_eq_some_iff.mp H
  obtain ⟨t363, A60, H⟩ := H
  replace H : (if t363 = true then ((impl_prog_slots.f t355 t358 a1 a2).bind fun t364 => (some t364)) else (some 0)) = some r := H
  have A6 := Aside0.mk A60
  clear A60
  by_cases c7 : t363 = true
  ·subst c7
   have H1 : ((impl_prog_slots.f t355 t358 a1 a2).bind fun t364 => (some t364)) = some r := by rw [if_pos rfl] at H; exact H
   clear H
   have H := H1
   clear H1
   replace H := Option.bind_eq_some_iff.mp H
   obtain ⟨t364, A80, H⟩ := H
   replace H : (some t364) = some r := H
   have A8 := Aside0.mk A80
   clear A80
   obtain rfl := Option.some.inj H
   go_enter Try.func56, Try.ntmps56
   go_wp2_with (first | ((with_reducible refine gate_dst (N := 3) rfl ?_); refine box_event ?hg (N := 3) ?hd (cs := #[.slice A0_0 l0_0.length c0_0]) (t := 25) ?hr ?_; (case hd => rfl); (case hg => rfl); (case hr => first | (go_simp; done) | (go_simp; rfl)); intro gb354 hg w9 hbox hb; have n0_ := Aside0.mk (below_step (bw HB) hb); have n1_ := Aside0.mk (hbox); have n2_ := Aside0.mk ((by rw [hg]; exact (below_size (bw HB)) : w.heap.size ≤ gb354)); have n3_ := Aside0.mk ((by rw [hg]; exact (below_size (bw HB)) : w.heap.size ≤ gb354)); clear HB; have HB := n0_; have BK354 := n1_; have GW354 := n2_; have GE354 := n3_; clear n0_ n1_ n2_ n3_; clear hb hbox hg; have hcz10_0 : w9.cell? ⟨gb354, 0, none⟩ = some (.slice A0_0 l0_0.length c0_0) := (blk_cell BK354.out 0).trans rfl; have hfz10_0 := blk_frozen BK354.out 0) | ((with_reducible refine gate_callee (f := 122) rfl ?_); refine goesL_ (some 11) rfl rfl Try.func122 (by kernel_rfl) rfl #[.agg #[.slice A0_0 l0_0.length c0_0]] rfl gl ?_; (with_reducible refine (impl_known.calls k (fun k_ => k_ < w.heap.size) _ _ l0_0 t355 t358 true _ ?side1 A4.out).mono ?_); (case side1 => exact Kd.V_mk HC0_0.out (Kd.F_below (Kd.C_F k108_heap HR0_0.out) (bw HB))); rintro e w11 ⟨v356, v359, gb361, rfl, ho0, ho1, hbx, hgx, hb⟩; refine ⟨_, rfl, ?_⟩; have n0_ := Aside0.mk (Kd.V_lower (Kd.V_mono (ok' := fun k_ => some k_ ≠ (v359 : Value).ownBlock ∧ k_ ≠ gb354) ho0 (fun k_ hk_ => ⟨hk_.2, Or.elim hk_.1 (fun hs_ => fun e_ => Nat.not_le.2 hs_ (by rw [e_]; exact GW354.out)) (fun hn_ => (Kd.freshB (g := gb354) (o := .cells #[.slice A0_0 l0_0.length c0_0] 25 (0, 0)) (bp BK354) k_ hn_))⟩)) (below_size (bw HB))); have n1_ := Aside0.mk (Kd.S_lower (Kd.S_mono (ok' := fun k_ => True) ho1 (fun _ hk_ => trivial)) (below_size (bw HB))); have n2_ := Aside0.mk (blk_below (g := gb354) (o := .cells #[.slice A0_0 l0_0.length c0_0] 25 (0, 0)) (bp BK354) hb); have n3_ := Aside0.mk (hbx); have n4_ := Aside0.mk ((Nat.le_trans (below_size (bw HB)) hgx)); have n5_ := Aside0.mk ((Nat.le_trans (below_size (bw HB)) hgx)); have n6_ := Aside0.mk ((Nat.ne_of_lt (Nat.lt_of_lt_of_le (blk_lt (g := gb354) (o := .cells #[.slice A0_0 l0_0.length c0_0] 25 (0, 0)) (bp BK354)) hgx) : gb354 ≠ gb361)); have n7_ := Aside0.mk ((Nat.ne_of_gt (Nat.lt_of_lt_of_le (blk_lt (g := gb354) (o := .cells #[.slice A0_0 l0_0.length c0_0] 25 (0, 0)) (bp BK354)) hgx) : gb361 ≠ gb354)); have n8_ := Aside0.mk (below_step (bw HB) hb); clear BK354; clear HB; have HO357 := n0_; have HO360 := n1_; have BK354 := n2_; have BK361 := n3_; have GW361 := n4_; have GE361 := n5_; have NB354_361 := n6_; have NB361_354 := n7_; have HB := n8_; clear n0_ n1_ n2_ n3_ n4_ n5_ n6_ n7_ n8_; (try clear hb); (try clear hb2); (try clear hk); (try clear hi); (try clear ho0); (try clear ho1); (try clear hbx); (try clear hgx); obtain ⟨Ao12, co12, eo12⟩ := Kd.V_slice HO357.out; subst eo12; obtain ⟨Ao13, co13, eo13⟩ := Kd.S_slice HO360.out; subst eo13) | (go_at_call 123; (refine (impl_prog_reached.calls gb361 Ao12 co12 t355 Ao13 co13 t358 a1 a2 true _ ?side1 ?side2 ?side3 ?side4 ?side5 A6.out).mono ?_); (case side1 => exact (bp BK361)); (case side2 => exact cc (Kd.V_reads' HO357.out).2.2); (case side3 => exact (Kd.V_reads' HO357.out).2.1); (case side4 => exact cc (Kd.S_reads' HO360.out).2.2); (case side5 => exact (Kd.S_reads' HO360.out).2.1); rintro e w14 ⟨rfl, hb⟩; have n0_ := Aside0.mk (Kd.V_below (kV HO357) hb); have n1_ := Aside0.mk (Kd.S_below (kS HO360) hb); have n2_ := Aside0.mk (blk_below (g := gb354) (o := .cells #[.slice A0_0 l0_0.length c0_0] 25 (0, 0)) (bp BK354) hb); have n3_ := Aside0.mk (blk_below (g := gb361) (o := .cells #[.slice Ao12 t355.length co12, .slice Ao13 t358.length co13] 110 (0, 0)) (bp BK361) hb); have n4_ := Aside0.mk (below_step (bw HB) hb); clear HO357; clear HO360; clear BK354; clear BK361; clear HB; have HO357 := n0_; have HO360 := n1_; have BK354 := n2_; have BK361 := n3_; have HB := n4_; clear n0_ n1_ n2_ n3_ n4_; (try clear hb); (try clear hb2); (try clear hk); (try clear hi)) | ((with_reducible refine gate_callee (f := 124) rfl ?_); refine goesL_ (some 26) rfl rfl Try.func124 (by kernel_rfl) rfl #[.pointer (some ⟨gb361, 0, none⟩), .int .i64 a1, .int .i64 a2] rfl gl ?_; (refine (impl_prog_slots.calls gb361 Ao12 co12 t355 Ao13 co13 t358 a1 a2 t364 _ ?side1 ?side2 ?side3 ?side4 ?side5 A8.out).mono ?_); (case side1 => exact (bp BK361)); (case side2 => exact cc (Kd.V_reads' HO357.out).2.2); (case side3 => exact (Kd.V_reads' HO357.out).2.1); (case side4 => exact cc (Kd.S_reads' HO360.out).2.2); (case side5 => exact (Kd.S_reads' HO360.out).2.1); rintro e w15 ⟨rfl, hb⟩; refine ⟨_, rfl, ?_⟩; have n0_ := Aside0.mk (Kd.V_below (kV HO357) hb); have n1_ := Aside0.mk (Kd.S_below (kS HO360) hb); have n2_ := Aside0.mk (blk_below (g := gb354) (o := .cells #[.slice A0_0 l0_0.length c0_0] 25 (0, 0)) (bp BK354) hb); have n3_ := Aside0.mk (blk_below (g := gb361) (o := .cells #[.slice Ao12 t355.length co12, .slice Ao13 t358.length co13] 110 (0, 0)) (bp BK361) hb); have n4_ := Aside0.mk (below_step (bw HB) hb); clear HO357; clear HO360; clear BK354; clear BK361; clear HB; have HO357 := n0_; have HO360 := n1_; have BK354 := n2_; have BK361 := n3_; have HB := n4_; clear n0_ n1_ n2_ n3_ n4_; (try clear hb); (try clear hb2); (try clear hk); (try clear hi)))
   go_ret
   exact ⟨by first | rfl | (simp [errW_none, errW_some] <;> rfl) | (simp [*, errW_none, errW_some] <;> rfl), bw HB⟩
  ·replace c7 := Bool.eq_false_iff.mpr c7
   subst c7
   have H1 : (some 0) = some r := by rw [if_neg (show ¬ (false = true) by decide)] at H; exact H
   clear H
   have H := H1
   clear H1
   obtain rfl := Option.some.inj H
   go_enter Try.func56, Try.ntmps56
   go_wp2_with (first | ((with_reducible refine gate_dst (N := 3) rfl ?_); refine box_event ?hg (N := 3) ?hd (cs := #[.slice A0_0 l0_0.length c0_0]) (t := 25) ?hr ?_; (case hd => rfl); (case hg => rfl); (case hr => first | (go_simp; done) | (go_simp; rfl)); intro gb354 hg w16 hbox hb; have n0_ := Aside0.mk (below_step (bw HB) hb); have n1_ := Aside0.mk (hbox); have n2_ := Aside0.mk ((by rw [hg]; exact (below_size (bw HB)) : w.heap.size ≤ gb354)); have n3_ := Aside0.mk ((by rw [hg]; exact (below_size (bw HB)) : w.heap.size ≤ gb354)); clear HB; have HB := n0_; have BK354 := n1_; have GW354 := n2_; have GE354 := n3_; clear n0_ n1_ n2_ n3_; clear hb hbox hg; have hcz17_0 : w16.cell? ⟨gb354, 0, none⟩ = some (.slice A0_0 l0_0.length c0_0) := (blk_cell BK354.out 0).trans rfl; have hfz17_0 := blk_frozen BK354.out 0) | ((with_reducible refine gate_callee (f := 122) rfl ?_); refine goesL_ (some 11) rfl rfl Try.func122 (by kernel_rfl) rfl #[.agg #[.slice A0_0 l0_0.length c0_0]] rfl gl ?_; (with_reducible refine (impl_known.calls k (fun k_ => k_ < w.heap.size) _ _ l0_0 t355 t358 true _ ?side1 A4.out).mono ?_); (case side1 => exact Kd.V_mk HC0_0.out (Kd.F_below (Kd.C_F k108_heap HR0_0.out) (bw HB))); rintro e w18 ⟨v356, v359, gb361, rfl, ho0, ho1, hbx, hgx, hb⟩; refine ⟨_, rfl, ?_⟩; have n0_ := Aside0.mk (Kd.V_lower (Kd.V_mono (ok' := fun k_ => some k_ ≠ (v359 : Value).ownBlock ∧ k_ ≠ gb354) ho0 (fun k_ hk_ => ⟨hk_.2, Or.elim hk_.1 (fun hs_ => fun e_ => Nat.not_le.2 hs_ (by rw [e_]; exact GW354.out)) (fun hn_ => (Kd.freshB (g := gb354) (o := .cells #[.slice A0_0 l0_0.length c0_0] 25 (0, 0)) (bp BK354) k_ hn_))⟩)) (below_size (bw HB))); have n1_ := Aside0.mk (Kd.S_lower (Kd.S_mono (ok' := fun k_ => True) ho1 (fun _ hk_ => trivial)) (below_size (bw HB))); have n2_ := Aside0.mk (blk_below (g := gb354) (o := .cells #[.slice A0_0 l0_0.length c0_0] 25 (0, 0)) (bp BK354) hb); have n3_ := Aside0.mk (hbx); have n4_ := Aside0.mk ((Nat.le_trans (below_size (bw HB)) hgx)); have n5_ := Aside0.mk ((Nat.le_trans (below_size (bw HB)) hgx)); have n6_ := Aside0.mk ((Nat.ne_of_lt (Nat.lt_of_lt_of_le (blk_lt (g := gb354) (o := .cells #[.slice A0_0 l0_0.length c0_0] 25 (0, 0)) (bp BK354)) hgx) : gb354 ≠ gb361)); have n7_ := Aside0.mk ((Nat.ne_of_gt (Nat.lt_of_lt_of_le (blk_lt (g := gb354) (o := .cells #[.slice A0_0 l0_0.length c0_0] 25 (0, 0)) (bp BK354)) hgx) : gb361 ≠ gb354)); have n8_ := Aside0.mk (below_step (bw HB) hb); clear BK354; clear HB; have HO357 := n0_; have HO360 := n1_; have BK354 := n2_; have BK361 := n3_; have GW361 := n4_; have GE361 := n5_; have NB354_361 := n6_; have NB361_354 := n7_; have HB := n8_; clear n0_ n1_ n2_ n3_ n4_ n5_ n6_ n7_ n8_; (try clear hb); (try clear hb2); (try clear hk); (try clear hi); (try clear ho0); (try clear ho1); (try clear hbx); (try clear hgx); obtain ⟨Ao19, co19, eo19⟩ := Kd.V_slice HO357.out; subst eo19; obtain ⟨Ao20, co20, eo20⟩ := Kd.S_slice HO360.out; subst eo20) | (go_at_call 123; (refine (impl_prog_reached.calls gb361 Ao19 co19 t355 Ao20 co20 t358 a1 a2 false _ ?side1 ?side2 ?side3 ?side4 ?side5 A6.out).mono ?_); (case side1 => exact (bp BK361)); (case side2 => exact cc (Kd.V_reads' HO357.out).2.2); (case side3 => exact (Kd.V_reads' HO357.out).2.1); (case side4 => exact cc (Kd.S_reads' HO360.out).2.2); (case side5 => exact (Kd.S_reads' HO360.out).2.1); rintro e w21 ⟨rfl, hb⟩; have n0_ := Aside0.mk (Kd.V_below (kV HO357) hb); have n1_ := Aside0.mk (Kd.S_below (kS HO360) hb); have n2_ := Aside0.mk (blk_below (g := gb354) (o := .cells #[.slice A0_0 l0_0.length c0_0] 25 (0, 0)) (bp BK354) hb); have n3_ := Aside0.mk (blk_below (g := gb361) (o := .cells #[.slice Ao19 t355.length co19, .slice Ao20 t358.length co20] 110 (0, 0)) (bp BK361) hb); have n4_ := Aside0.mk (below_step (bw HB) hb); clear HO357; clear HO360; clear BK354; clear BK361; clear HB; have HO357 := n0_; have HO360 := n1_; have BK354 := n2_; have BK361 := n3_; have HB := n4_; clear n0_ n1_ n2_ n3_ n4_; (try clear hb); (try clear hb2); (try clear hk); (try clear hi)))
   go_ret
   exact ⟨by first | rfl | (simp [errW_none, errW_some] <;> rfl) | (simp [*, errW_none, errW_some] <;> rfl), bw HB⟩
 ·replace c5 := Bool.eq_false_iff.mpr c5
  subst c5
  have H1 : (some 0) = some r := by rw [if_neg (show ¬ (false = true) by decide)] at H; exact H
  clear H
  have H := H1
  clear H1
  obtain rfl := Option.some.inj H
  go_enter Try.func56, Try.ntmps56
  go_wp2_with (first | ((with_reducible refine gate_dst (N := 3) rfl ?_); refine box_event ?hg (N := 3) ?hd (cs := #[.slice A0_0 l0_0.length c0_0]) (t := 25) ?hr ?_; (case hd => rfl); (case hg => rfl); (case hr => first | (go_simp; done) | (go_simp; rfl)); intro gb354 hg w22 hbox hb; have n0_ := Aside0.mk (below_step (bw HB) hb); have n1_ := Aside0.mk (hbox); have n2_ := Aside0.mk ((by rw [hg]; exact (below_size (bw HB)) : w.heap.size ≤ gb354)); have n3_ := Aside0.mk ((by rw [hg]; exact (below_size (bw HB)) : w.heap.size ≤ gb354)); clear HB; have HB := n0_; have BK354 := n1_; have GW354 := n2_; have GE354 := n3_; clear n0_ n1_ n2_ n3_; clear hb hbox hg; have hcz23_0 : w22.cell? ⟨gb354, 0, none⟩ = some (.slice A0_0 l0_0.length c0_0) := (blk_cell BK354.out 0).trans rfl; have hfz23_0 := blk_frozen BK354.out 0) | ((with_reducible refine gate_callee (f := 122) rfl ?_); refine goesL_ (some 11) rfl rfl Try.func122 (by kernel_rfl) rfl #[.agg #[.slice A0_0 l0_0.length c0_0]] rfl gl ?_; (with_reducible refine (impl_known.calls k (fun k_ => k_ < w.heap.size) _ _ l0_0 t355 t358 false _ ?side1 A4.out).mono ?_); (case side1 => exact Kd.V_mk HC0_0.out (Kd.F_below (Kd.C_F k108_heap HR0_0.out) (bw HB))); rintro e w24 ⟨v356, v359, gb361, rfl, ho0, ho1, hbx, hgx, hb⟩; refine ⟨_, rfl, ?_⟩; have n0_ := Aside0.mk (Kd.V_lower (Kd.V_mono (ok' := fun k_ => some k_ ≠ (v359 : Value).ownBlock ∧ k_ ≠ gb354) ho0 (fun k_ hk_ => ⟨hk_.2, Or.elim hk_.1 (fun hs_ => fun e_ => Nat.not_le.2 hs_ (by rw [e_]; exact GW354.out)) (fun hn_ => (Kd.freshB (g := gb354) (o := .cells #[.slice A0_0 l0_0.length c0_0] 25 (0, 0)) (bp BK354) k_ hn_))⟩)) (below_size (bw HB))); have n1_ := Aside0.mk (Kd.S_lower (Kd.S_mono (ok' := fun k_ => True) ho1 (fun _ hk_ => trivial)) (below_size (bw HB))); have n2_ := Aside0.mk (blk_below (g := gb354) (o := .cells #[.slice A0_0 l0_0.length c0_0] 25 (0, 0)) (bp BK354) hb); have n3_ := Aside0.mk (hbx); have n4_ := Aside0.mk ((Nat.le_trans (below_size (bw HB)) hgx)); have n5_ := Aside0.mk ((Nat.le_trans (below_size (bw HB)) hgx)); have n6_ := Aside0.mk ((Nat.ne_of_lt (Nat.lt_of_lt_of_le (blk_lt (g := gb354) (o := .cells #[.slice A0_0 l0_0.length c0_0] 25 (0, 0)) (bp BK354)) hgx) : gb354 ≠ gb361)); have n7_ := Aside0.mk ((Nat.ne_of_gt (Nat.lt_of_lt_of_le (blk_lt (g := gb354) (o := .cells #[.slice A0_0 l0_0.length c0_0] 25 (0, 0)) (bp BK354)) hgx) : gb361 ≠ gb354)); have n8_ := Aside0.mk (below_step (bw HB) hb); clear BK354; clear HB; have HO357 := n0_; have HO360 := n1_; have BK354 := n2_; have BK361 := n3_; have GW361 := n4_; have GE361 := n5_; have NB354_361 := n6_; have NB361_354 := n7_; have HB := n8_; clear n0_ n1_ n2_ n3_ n4_ n5_ n6_ n7_ n8_; (try clear hb); (try clear hb2); (try clear hk); (try clear hi); (try clear ho0); (try clear ho1); (try clear hbx); (try clear hgx)))
  go_ret
  exact ⟨by first | rfl | (simp [errW_none, errW_some] <;> rfl) | (simp [*, errW_none, errW_some] <;> rfl), bw HB⟩

/-! ### laws_FnExactSlots: function 13 -/
def laws_FnExactSlots.f (k : Nat) (l0_0 : List (S180)) (a1 : Int) (a2 : Int) : Option (Bool) := (laws_szProgram.f k l0_0 1048576).bind fun t366 => (if t366 < 0 then (some true) else ((laws_toProgram.f k l0_0).bind fun t367 => ((spec_Slots.f k t367 a1 a2).bind fun t370 => ((laws_toProgram.f k l0_0).bind fun t371 => ((impl_Slots.f k t371 a1 a2).bind fun t375 => (if t375 = t370 then ((laws_toProgram.f k l0_0).bind fun t376 => ((laws_eqProgram.f k t371 t376).bind fun t379 => (if t379 = true then (some true) else (some false)))) else (some false)))))))
theorem laws_FnExactSlots.mono : ∀ a0 a1 a2 k, LeO (laws_FnExactSlots.f k a0 a1 a2) (laws_FnExactSlots.f (k + 1) a0 a1 a2) := by
 intro a0 a1 a2 k
 unfold laws_FnExactSlots.f
 repeat' first
   | (with_reducible exact impl_Slots.mono _ _ _ _)
   | (with_reducible exact laws_eqProgram.mono _ _ _)
   | (with_reducible exact laws_szProgram.mono _ _ _)
   | (with_reducible exact laws_toProgram.mono _ _)
   | (with_reducible exact spec_Slots.mono _ _ _ _)
   | (with_reducible exact LeO.refl _)
   | (with_reducible exact LeO.none _)
   | (with_reducible refine LeO.ite ?_ ?_)
   | (with_reducible refine LeO.bind ?_ (fun _ => ?_))
   | exact impl_Slots.mono _ _ _ _
   | exact laws_eqProgram.mono _ _ _
   | exact laws_szProgram.mono _ _ _
   | exact laws_toProgram.mono _ _
   | exact spec_Slots.mono _ _ _ _
   | exact LeO.none _
   | refine LeO.ite ?_ ?_
   | refine LeO.bind ?_ (fun _ => ?_)
set_option maxHeartbeats 8000000 in
set_option maxRecDepth 100000 in
theorem laws_FnExactSlots.calls (k : Nat) (A0_0 : Option Addr) (c0_0 : Nat) (l0_0 : List (S180)) (a1 : Int) (a2 : Int) (r : Bool) (w : World) (hr0_0 : Kd.C k180 w A0_0 l0_0.length l0_0) (hc0_0 : l0_0.length ≤ c0_0) (h : laws_FnExactSlots.f k l0_0 a1 a2 = some r) :
  Calls Try.prog 13 #[.agg #[.slice A0_0 l0_0.length c0_0], .int .i64 a1, .int .i64 a2] w fun e w' => e = .returned (.bool r) ∧ Below w.heap.size w w' := by
 have hu50 := Try.underlying50
 have hu25 := Try.underlying25
 have HR0_0 := Aside0.mk hr0_0
 have HC0_0 := Aside0.mk hc0_0
 clear hr0_0 hc0_0
 have HB := Aside0.mk (Below.refl w.heap.size w)
 have H : ((laws_szProgram.f k l0_0 1048576).bind fun t366 => (if t366 < 0 then (some true) else ((laws_toProgram.f k l0_0).bind fun t367 => ((spec_Slots.f k t367 a1 a2).bind fun t370 => ((laws_toProgram.f k l0_0).bind fun t371 => ((impl_Slots.f k t371 a1 a2).bind fun t375 => (if t375 = t370 then ((laws_toProgram.f k l0_0).bind fun t376 => ((laws_eqProgram.f k t371 t376).bind fun t379 => (if t379 = true then (some true) else (some false)))) else (some false)))))))) = some r := h
 clear h
 replace H := Option.bind_eq_some_iff.mp H
 obtain ⟨t366, A40, H⟩ := H
 replace H : (if t366 < 0 then (some true) else ((laws_toProgram.f k l0_0).bind fun t367 => ((spec_Slots.f k t367 a1 a2).bind fun t370 => ((laws_toProgram.f k l0_0).bind fun t371 => ((impl_Slots.f k t371 a1 a2).bind fun t375 => (if t375 = t370 then ((laws_toProgram.f k l0_0).bind fun t376 => ((laws_eqProgram.f k t371 t376).bind fun t379 => (if t379 = true then (some true) else (some false)))) else (some false))))))) = some r := H
 have A4 := Aside0.mk A40
 clear A40
 by_cases c5 : t366 < 0
 ·rw [if_pos c5] at H
  have c5b0 : decide (t366 < 0) = true := decide_eq_true c5
  clear c5
  obtain rfl := Option.some.inj H
  go_enter Try.func13, Try.ntmps13
  go_wp2_with (first | ((with_reducible refine gate_dst (N := 3) rfl ?_); refine box_event ?hg (N := 3) ?hd (cs := #[.slice A0_0 l0_0.length c0_0]) (t := 50) ?hr ?_; (case hd => rfl); (case hg => rfl); (case hr => first | (go_simp; done) | (go_simp; rfl)); intro gb365 hg w6 hbox hb; have n0_ := Aside0.mk (below_step (bw HB) hb); have n1_ := Aside0.mk (hbox); have n2_ := Aside0.mk ((by rw [hg]; exact (below_size (bw HB)) : w.heap.size ≤ gb365)); have n3_ := Aside0.mk ((by rw [hg]; exact (below_size (bw HB)) : w.heap.size ≤ gb365)); clear HB; have HB := n0_; have BK365 := n1_; have GW365 := n2_; have GE365 := n3_; clear n0_ n1_ n2_ n3_; clear hb hbox hg; have hcz7_0 : w6.cell? ⟨gb365, 0, none⟩ = some (.slice A0_0 l0_0.length c0_0) := (blk_cell BK365.out 0).trans rfl; have hfz7_0 := blk_frozen BK365.out 0) | ((with_reducible refine gate_callee (f := 33) rfl ?_); refine goesL_ (some 13) rfl rfl Try.func33 (by kernel_rfl) rfl #[.agg #[.slice A0_0 l0_0.length c0_0], .int .i64 1048576] rfl gl ?_; (with_reducible refine (laws_szProgram.calls k _ _ l0_0 1048576 t366 _ ?side1 ?side2 A4.out).mono ?_); (case side1 => exact cc (Kd.C_below HR0_0.out HB.out)); (case side2 => exact HC0_0.out); rintro e w8 ⟨rfl, hb⟩; refine ⟨_, rfl, ?_⟩; have n0_ := Aside0.mk (blk_below (g := gb365) (o := .cells #[.slice A0_0 l0_0.length c0_0] 50 (0, 0)) (bp BK365) hb); have n1_ := Aside0.mk (below_step (bw HB) hb); clear BK365; clear HB; have BK365 := n0_; have HB := n1_; clear n0_ n1_; (try clear hb); (try clear hb2); (try clear hk); (try clear hi)))
  go_ret
  exact ⟨by first | rfl | (simp [errW_none, errW_some] <;> rfl) | (simp [*, errW_none, errW_some] <;> rfl), bw HB⟩
 ·rw [if_neg c5] at H
  have c5b0 : decide (t366 < 0) = false := decide_eq_false c5
  clear c5
  replace H := Option.bind_eq_some_iff.mp H
  obtain ⟨t367, A90, H⟩ := H
  replace H : ((spec_Slots.f k t367 a1 a2).bind fun t370 => ((laws_toProgram.f k l0_0).bind fun t371 => ((impl_Slots.f k t371 a1 a2).bind fun t375 => (if t375 = t370 then ((laws_toProgram.f k l0_0).bind fun t376 => ((laws_eqProgram.f k t371 t376).bind fun t379 => (if t379 = true then (some true) else (some false)))) else (some false))))) = some r := H
  have A9 := Aside0.mk A90
  clear A90
  replace H := Option.bind_eq_some_iff.mp H
  obtain ⟨t370, A100, H⟩ := H
  replace H : ((laws_toProgram.f k l0_0).bind fun t371 => ((impl_Slots.f k t371 a1 a2).bind fun t375 => (if t375 = t370 then ((laws_toProgram.f k l0_0).bind fun t376 => ((laws_eqProgram.f k t371 t376).bind fun t379 => (if t379 = true then (some true) else (some false)))) else (some false)))) = some r := H
  have A10 := Aside0.mk A100
  clear A100
  replace H := Option.bind_eq_some_iff.mp H
  obtain ⟨t371, A110, H⟩ := H
  replace H : ((impl_Slots.f k t371 a1 a2).bind fun t375 => (if t375 = t370 then ((laws_toProgram.f k l0_0).bind fun t376 => ((laws_eqProgram.f k t371 t376).bind fun t379 => (if t379 = true then (some true) else (some false)))) else (some false))) = some r := H
  have A11 := Aside0.mk A110
  clear A110
  replace H := Option.bind_eq_some_iff.mp H
  obtain ⟨t375, A120, H⟩ := H
  replace H : (if t375 = t370 then ((laws_toProgram.f k l0_0).bind fun t376 => ((laws_eqProgram.f k t371 t376).bind fun t379 => (if t379 = true then (some true) else (some false)))) else (some false)) = some r := H
  have A12 := Aside0.mk A120
  clear A120
  by_cases c13 : t375 = t370
  ·rw [if_pos c13] at H
   have c13b0 : (t375 == t370) = true := beq_iff_eq.mpr c13
   have c13b1 : (t375 != t370) = false := bne_eq_false_iff_eq.mpr c13
   clear c13
   replace H := Option.bind_eq_some_iff.mp H
   obtain ⟨t376, A140, H⟩ := H
   replace H : ((laws_eqProgram.f k t371 t376).bind fun t379 => (if t379 = true then (some true) else (some false))) = some r := H
   have A14 := Aside0.mk A140
   clear A140
   replace H := Option.bind_eq_some_iff.mp H
   obtain ⟨t379, A150, H⟩ := H
   replace H : (if t379 = true then (some true) else (some false)) = some r := H
   have A15 := Aside0.mk A150
   clear A150
   by_cases c16 : t379 = true
   ·subst c16
    have H1 : (some true) = some r := by rw [if_pos rfl] at H; exact H
    clear H
    have H := H1
    clear H1
    obtain rfl := Option.some.inj H
    go_enter Try.func13, Try.ntmps13
    try go_wp2_with (first | ((with_reducible refine gate_dst (N := 3) rfl ?_); refine box_event ?hg (N := 3) ?hd (cs := #[.slice A0_0 l0_0.length c0_0]) (t := 50) ?hr ?_; (case hd => rfl); (case hg => rfl); (case hr => first | (go_simp; done) | (go_simp; rfl)); intro gb365 hg w17 hbox hb; have n0_ := Aside0.mk (below_step (bw HB) hb); have n1_ := Aside0.mk (hbox); have n2_ := Aside0.mk ((by rw [hg]; exact (below_size (bw HB)) : w.heap.size ≤ gb365)); have n3_ := Aside0.mk ((by rw [hg]; exact (below_size (bw HB)) : w.heap.size ≤ gb365)); clear HB; have HB := n0_; have BK365 := n1_; have GW365 := n2_; have GE365 := n3_; clear n0_ n1_ n2_ n3_; clear hb hbox hg; have hcz18_0 : w17.cell? ⟨gb365, 0, none⟩ = some (.slice A0_0 l0_0.length c0_0) := (blk_cell BK365.out 0).trans rfl; have hfz18_0 := blk_frozen BK365.out 0) | ((with_reducible refine gate_callee (f := 33) rfl ?_); refine goesL_ (some 13) rfl rfl Try.func33 (by kernel_rfl) rfl #[.agg #[.slice A0_0 l0_0.length c0_0], .int .i64 1048576] rfl gl ?_; (with_reducible refine (laws_szProgram.calls k _ _ l0_0 1048576 t366 _ ?side1 ?side2 A4.out).mono ?_); (case side1 => exact cc (Kd.C_below HR0_0.out HB.out)); (case side2 => exact HC0_0.out); rintro e w19 ⟨rfl, hb⟩; refine ⟨_, rfl, ?_⟩; have n0_ := Aside0.mk (blk_below (g := gb365) (o := .cells #[.slice A0_0 l0_0.length c0_0] 50 (0, 0)) (bp BK365) hb); have n1_ := Aside0.mk (below_step (bw HB) hb); clear BK365; clear HB; have BK365 := n0_; have HB := n1_; clear n0_ n1_; (try clear hb); (try clear hb2); (try clear hk); (try clear hi); have hcz20_0 : w19.cell? ⟨gb365, 0, none⟩ = some (.slice A0_0 l0_0.length c0_0) := (blk_cell BK365.out 0).trans rfl; have hfz20_0 := blk_frozen BK365.out 0) | ((with_reducible refine gate_callee (f := 35) rfl ?_); refine goesL_ (some 17) rfl rfl Try.func35 (by kernel_rfl) rfl #[.agg #[.slice A0_0 l0_0.length c0_0]] rfl gl ?_; (with_reducible refine (laws_toProgram.calls k _ _ l0_0 t367 _ ?side1 ?side2 A9.out).mono ?_); (case side1 => exact cc (Kd.C_below HR0_0.out HB.out)); (case side2 => exact HC0_0.out); rintro e w21 ⟨v368, rfl, ho0, hb⟩; refine ⟨_, rfl, ?_⟩; have n0_ := Aside0.mk (Kd.S_lower ho0 (below_size (bw HB))); have n1_ := Aside0.mk (blk_below (g := gb365) (o := .cells #[.slice A0_0 l0_0.length c0_0] 50 (0, 0)) (bp BK365) hb); have n2_ := Aside0.mk (below_step (bw HB) hb); clear BK365; clear HB; have HO369 := n0_; have BK365 := n1_; have HB := n2_; clear n0_ n1_ n2_; (try clear hb); (try clear hb2); (try clear hk); (try clear hi); (try clear ho0); obtain ⟨Ao22, co22, eo22⟩ := Kd.S_slice HO369.out; subst eo22) | ((with_reducible refine gate_callee (f := 55) rfl ?_); refine goesL_ (some 20) rfl rfl Try.func55 (by kernel_rfl) rfl #[.agg #[.slice Ao22 t367.length co22], .int .i64 a1, .int .i64 a2] rfl gl ?_; (with_reducible refine (spec_Slots.calls k _ _ t367 a1 a2 t370 _ ?side1 ?side2 A10.out).mono ?_); (case side1 => exact cc (Kd.S_reads' HO369.out).2.2); (case side2 => exact (Kd.S_reads' HO369.out).2.1); rintro e w23 ⟨rfl, hb⟩; refine ⟨_, rfl, ?_⟩; have n0_ := Aside0.mk (Kd.S_below (kS HO369) hb); have n1_ := Aside0.mk (blk_below (g := gb365) (o := .cells #[.slice A0_0 l0_0.length c0_0] 50 (0, 0)) (bp BK365) hb); have n2_ := Aside0.mk (below_step (bw HB) hb); clear HO369; clear BK365; clear HB; have HO369 := n0_; have BK365 := n1_; have HB := n2_; clear n0_ n1_ n2_; (try clear hb); (try clear hb2); (try clear hk); (try clear hi); have hcz24_0 : w23.cell? ⟨gb365, 0, none⟩ = some (.slice A0_0 l0_0.length c0_0) := (blk_cell BK365.out 0).trans rfl; have hfz24_0 := blk_frozen BK365.out 0) | ((with_reducible refine gate_callee (f := 35) rfl ?_); refine goesL_ (some 22) rfl rfl Try.func35 (by kernel_rfl) rfl #[.agg #[.slice A0_0 l0_0.length c0_0]] rfl gl ?_; (with_reducible refine (laws_toProgram.calls k _ _ l0_0 t371 _ ?side1 ?side2 A11.out).mono ?_); (case side1 => exact cc (Kd.C_below HR0_0.out HB.out)); (case side2 => exact HC0_0.out); rintro e w25 ⟨v372, rfl, ho0, hb⟩; refine ⟨_, rfl, ?_⟩; have n0_ := Aside0.mk (Kd.S_elder' (kS HO369) (Kd.S_base ho0) hb); have n1_ := Aside0.mk (Kd.S_lower (Kd.S_new' ho0 (Kd.S_lt (kS HO369))) (below_size (bw HB))); have n2_ := Aside0.mk (blk_below (g := gb365) (o := .cells #[.slice A0_0 l0_0.length c0_0] 50 (0, 0)) (bp BK365) hb); have n3_ := Aside0.mk (below_step (bw HB) hb); clear HO369; clear BK365; clear HB; have HO369 := n0_; have HO373 := n1_; have BK365 := n2_; have HB := n3_; clear n0_ n1_ n2_ n3_; (try clear hb); (try clear hb2); (try clear hk); (try clear hi); (try clear ho0)) | ((with_reducible refine gate_dst (N := 9) rfl ?_); refine box_event ?hg (N := 9) ?hd (cs := #[.slice none 0 0]) (t := 25) ?hr ?_; (case hd => rfl); (case hg => rfl); (case hr => first | (go_simp; done) | (go_simp; rfl)); intro gb374 hg w26 hbox hb; have n0_ := Aside0.mk (Kd.S_below (kS HO369) hb); have n1_ := Aside0.mk (Kd.S_below (kS HO373) hb); have n2_ := Aside0.mk (blk_below (g := gb365) (o := .cells #[.slice A0_0 l0_0.length c0_0] 50 (0, 0)) (bp BK365) hb); have n3_ := Aside0.mk (below_step (bw HB) hb); have n4_ := Aside0.mk (hbox); have n5_ := Aside0.mk ((by rw [hg]; exact (below_size (bw HB)) : w.heap.size ≤ gb374)); have n6_ := Aside0.mk ((by rw [hg]; exact (below_size (bw HB)) : w.heap.size ≤ gb374)); have n7_ := Aside0.mk ((by rw [hg]; exact Nat.ne_of_lt (blk_lt (g := gb365) (o := .cells #[.slice A0_0 l0_0.length c0_0] 50 (0, 0)) (bp BK365)) : gb365 ≠ gb374)); have n8_ := Aside0.mk ((by rw [hg]; exact Nat.ne_of_gt (blk_lt (g := gb365) (o := .cells #[.slice A0_0 l0_0.length c0_0] 50 (0, 0)) (bp BK365)) : gb374 ≠ gb365)); clear HO369; clear HO373; clear BK365; clear HB; have HO369 := n0_; have HO373 := n1_; have BK365 := n2_; have HB := n3_; have BK374 := n4_; have GW374 := n5_; have GE374 := n6_; have NB365_374 := n7_; have NB374_365 := n8_; clear n0_ n1_ n2_ n3_ n4_ n5_ n6_ n7_ n8_; clear hb hbox hg; obtain ⟨Ao27, co27, eo27⟩ := Kd.S_slice HO373.out; subst eo27; have hnb28 := NB374_365.out; have hnc28 := NB365_374.out; have hcz29_0 : w26.cell? ⟨gb374, 0, none⟩ = some (.slice none 0 0) := (blk_cell BK374.out 0).trans rfl; have hfz29_0 := blk_frozen BK374.out 0) | ((with_reducible refine gate_callee (f := 56) rfl ?_); refine goesL_ (some 26) rfl rfl Try.func56 (by kernel_rfl) rfl #[.agg #[.slice Ao27 t371.length co27], .int .i64 a1, .int .i64 a2] rfl gl ?_; (with_reducible refine (impl_Slots.calls k _ _ t371 a1 a2 t375 _ ?side1 ?side2 A12.out).mono ?_); (case side1 => refine (Kd.S_reads' (e := 108) (base := w.heap.size) (ok := fun k_ => (True ∧ some k_ ≠ (.slice Ao22 t367.length co22 : Value).ownBlock)) (n := t371.length) (c := co27) ?_).2.2; exact (by (with_reducible repeat (first | apply Kd.S_alloc | apply Kd.S_drewN | apply Kd.S_drew)); exact (Kd.S_mono (Kd.S_far (p := ⟨gb374, 0, none⟩) (Kd.S_types HO373.out BK374.out (by decide)) (fun _ hk => hk.2) (.slice Ao27 t371.length co27)) (fun _ h_ => h_.1)))); (case side2 => exact (Kd.S_reads' HO373.out).2.1); rintro e w30 ⟨rfl, hb⟩; refine ⟨_, rfl, ?_⟩; have n0_ := Aside0.mk (Kd.S_below (by (with_reducible repeat (first | apply Kd.S_alloc | apply Kd.S_drewN | apply Kd.S_drew)); exact (Kd.S_mono (Kd.S_far (p := ⟨gb374, 0, none⟩) (Kd.S_types HO369.out BK374.out (by decide)) (fun _ hk => hk.2) (.slice Ao27 t371.length co27)) (fun _ h_ => h_.1))) hb); have n1_ := Aside0.mk (Kd.S_below (by (with_reducible repeat (first | apply Kd.S_alloc | apply Kd.S_drewN | apply Kd.S_drew)); exact (Kd.S_mono (Kd.S_far (p := ⟨gb374, 0, none⟩) (Kd.S_types HO373.out BK374.out (by decide)) (fun _ hk => hk.2) (.slice Ao27 t371.length co27)) (fun _ h_ => h_.1))) hb); have n2_ := Aside0.mk (blk_below (g := gb365) (o := .cells #[.slice A0_0 l0_0.length c0_0] 50 (0, 0)) (by (with_reducible repeat (first | refine blk_drewN ?_ _ | refine blk_drew ?_ | refine blk_alloc ?_ _)); refine blk_far ?_ NB365_374.out _; exact bp BK365) hb); have n3_ := Aside0.mk (blk_below (g := gb374) (o := .cells #[.slice Ao27 t371.length co27] 25 (0, 0)) (by (with_reducible repeat (first | refine blk_drewN ?_ _ | refine blk_drew ?_ | refine blk_alloc ?_ _)); refine blk_put (cs := #[.slice none 0 0]) ?_ 0 _ rfl; exact bp BK374) hb); have n4_ := Aside0.mk (below_step (bw HB) hb); clear HO369; clear HO373; clear BK365; clear BK374; clear HB; have HO369 := n0_; have HO373 := n1_; have BK365 := n2_; have BK374 := n3_; have HB := n4_; clear n0_ n1_ n2_ n3_ n4_; (try clear hb); (try clear hb2); (try clear hk); (try clear hi)))
    have n0_ := Aside0.mk (Kd.S_drew HO369.out)
    have n1_ := Aside0.mk (Kd.S_drew HO373.out)
    have n2_ := Aside0.mk (blk_drew BK365.out)
    have n3_ := Aside0.mk (blk_drew BK374.out)
    have n4_ := Aside0.mk (below_drew1 HB.out)
    clear HO369
    clear HO373
    clear BK365
    clear BK374
    clear HB
    have HO369 := n0_
    have HO373 := n1_
    have BK365 := n2_
    have BK374 := n3_
    have HB := n4_
    clear n0_ n1_ n2_ n3_ n4_
    refine start_ (n := 5) (S := fun w' => w'.cell? ⟨gb374, 0, none⟩ = some (.slice Ao27 t371.length co27) ∧ w'.cell? ⟨gb365, 0, none⟩ = some (.slice A0_0 l0_0.length c0_0)) (ds := []) #[false, false, false, false, false] (by kernel_rfl) rfl rfl ⟨(blk_cell BK374.out 0).trans rfl, (blk_cell BK365.out 0).trans rfl⟩ (fun hHeld => ?_)
    generalize w30.drew = w31 at HO369 HO373 BK365 BK374 HB hHeld ⊢
    refine take_ (i := 0) (N := some 30) (v := ?_) (a' := ?_) #[true, false, false, false, false] rfl rfl (by kernel_rfl) (fun _ _ _ h => h) (Or.inl ⟨by rfl, ?_⟩) hHeld ?_ ?_
    rotate_left
    ·rintro w' ⟨s0, s1⟩
     go_simp
     with_reducible rfl
    rotate_left
    ·simp only [Act.put, List.setIfInBounds_toArray, List.set_cons_zero, List.set_cons_succ, i64_w, i32_w]
     rfl
    refine take_ (i := 1) (N := some 31) (v := ?_) (a' := ?_) #[true, true, false, false, false] rfl rfl (by kernel_rfl) (fun _ _ _ h => h) (Or.inl ⟨by rfl, ?_⟩) hHeld ?_ ?_
    rotate_left
    ·rintro w' ⟨s0, s1⟩
     go_simp
     with_reducible rfl
    rotate_left
    ·simp only [Act.put, List.setIfInBounds_toArray, List.set_cons_zero, List.set_cons_succ, i64_w, i32_w]
     rfl
    refine one_ (i := 2) (N := some 32) #[true, true, true, false, false] rfl rfl (by kernel_rfl) (by decide) (fun K hK => ?_)
    refine goes_ Try.func35 (by kernel_rfl) rfl #[.agg #[.slice A0_0 l0_0.length c0_0]] (by rfl) rfl rfl gl ?_
    with_reducible refine (laws_toProgram.calls k _ _ l0_0 t376 _ ?side1 ?side2 A14.out).mono ?_
    (case side1 => exact cc (Kd.C_below HR0_0.out HB.out))
    (case side2 => exact HC0_0.out)
    rintro e w32 ⟨v377, rfl, ho0, hb⟩
    refine ⟨_, rfl, ?_⟩
    have n0_ := Aside0.mk (Kd.S_elder' (kS HO369) (Kd.S_base ho0) hb)
    have n1_ := Aside0.mk (Kd.S_elder' (kS HO373) (Kd.S_base ho0) hb)
    have n2_ := Aside0.mk (Kd.S_lower (Kd.S_new' (Kd.S_new' ho0 (Kd.S_lt (kS HO369))) (Kd.S_lt (kS HO373))) (below_size (bw HB)))
    have n3_ := Aside0.mk (blk_below (g := gb365) (o := .cells #[.slice A0_0 l0_0.length c0_0] 50 (0, 0)) (bp BK365) hb)
    have n4_ := Aside0.mk (blk_below (g := gb374) (o := .cells #[.slice Ao27 t371.length co27] 25 (0, 0)) (bp BK374) hb)
    have n5_ := Aside0.mk (below_step (bw HB) hb)
    clear HO369
    clear HO373
    clear BK365
    clear BK374
    clear HB
    have HO369 := n0_
    have HO373 := n1_
    have HO378 := n2_
    have BK365 := n3_
    have BK374 := n4_
    have HB := n5_
    clear n0_ n1_ n2_ n3_ n4_ n5_
    (try clear hb)
    (try clear hb2)
    (try clear hk)
    (try clear hi)
    (try clear ho0)
    obtain ⟨Ao33, co33, eo33⟩ := Kd.S_slice HO378.out
    (first | subst eo33 | (injection eo33 with f1_ f2_ f3_; have f4_ := f1_.symm; have f5_ := f3_.symm; clear f1_ f2_ f3_; subst f4_; subst f5_))
    refine hK.out _ _ ⟨(blk_cell BK374.out 0).trans rfl, (blk_cell BK365.out 0).trans rfl⟩ (fun hHeld => ?_)
    clear hK K
    refine norm_ (a' := ?_) ?_ ?_
    rotate_left
    ·show Act.put _ (some 32) _ = _
     simp only [Act.put, List.setIfInBounds_toArray, List.set_cons_zero, List.set_cons_succ, i64_w, i32_w]
     rfl
    refine one_ (i := 3) (N := some 33) #[true, true, true, true, false] rfl rfl (by kernel_rfl) (by decide) (fun K hK => ?_)
    refine goes_ Try.func38 (by kernel_rfl) rfl #[.agg #[.slice Ao27 t371.length co27], .agg #[.slice Ao33 t376.length co33]] (by rfl) rfl rfl gl ?_
    with_reducible refine (laws_eqProgram.calls k _ _ t371 _ _ t376 true _ ?side1 ?side2 ?side3 ?side4 A15.out).mono ?_
    (case side1 => exact cc (Kd.S_reads' HO373.out).2.2)
    (case side2 => exact (Kd.S_reads' HO373.out).2.1)
    (case side3 => exact cc (Kd.S_reads' HO378.out).2.2)
    (case side4 => exact (Kd.S_reads' HO378.out).2.1)
    rintro e w34 ⟨rfl, hb⟩
    refine ⟨_, rfl, ?_⟩
    have n0_ := Aside0.mk (Kd.S_below (kS HO369) hb)
    have n1_ := Aside0.mk (Kd.S_below (kS HO373) hb)
    have n2_ := Aside0.mk (Kd.S_below (kS HO378) hb)
    have n3_ := Aside0.mk (blk_below (g := gb365) (o := .cells #[.slice A0_0 l0_0.length c0_0] 50 (0, 0)) (bp BK365) hb)
    have n4_ := Aside0.mk (blk_below (g := gb374) (o := .cells #[.slice Ao27 t371.length co27] 25 (0, 0)) (bp BK374) hb)
    have n5_ := Aside0.mk (below_step (bw HB) hb)
    clear HO369
    clear HO373
    clear HO378
    clear BK365
    clear BK374
    clear HB
    have HO369 := n0_
    have HO373 := n1_
    have HO378 := n2_
    have BK365 := n3_
    have BK374 := n4_
    have HB := n5_
    clear n0_ n1_ n2_ n3_ n4_ n5_
    (try clear hb)
    (try clear hb2)
    (try clear hk)
    (try clear hi)
    refine hK.out _ _ ⟨(blk_cell BK374.out 0).trans rfl, (blk_cell BK365.out 0).trans rfl⟩ (fun hHeld => ?_)
    clear hK K
    refine norm_ (a' := ?_) ?_ ?_
    rotate_left
    ·show Act.put _ (some 33) _ = _
     simp only [Act.put, List.setIfInBounds_toArray, List.set_cons_zero, List.set_cons_succ, i64_w, i32_w]
     rfl
    refine pure_ (i := 4) (N := some 34) (v := ?_) (a' := ?_) #[true, true, true, true, true] rfl rfl (by kernel_rfl) (fun _ _ _ h => h) (Or.inl ⟨by rfl, ?_⟩) ?_ ?_
    rotate_left
    ·intro w'
     go_simp
     with_reducible rfl
    rotate_left
    ·simp only [Act.put, List.setIfInBounds_toArray, List.set_cons_zero, List.set_cons_succ, i64_w, i32_w]
     rfl
    refine done_ (by kernel_rfl) ?_
    try go_wp2
    go_ret
    exact ⟨by first | rfl | (simp [errW_none, errW_some] <;> rfl) | (simp [*, errW_none, errW_some] <;> rfl), bw HB⟩
   ·replace c16 := Bool.eq_false_iff.mpr c16
    subst c16
    have H1 : (some false) = some r := by rw [if_neg (show ¬ (false = true) by decide)] at H; exact H
    clear H
    have H := H1
    clear H1
    obtain rfl := Option.some.inj H
    go_enter Try.func13, Try.ntmps13
    try go_wp2_with (first | ((with_reducible refine gate_dst (N := 3) rfl ?_); refine box_event ?hg (N := 3) ?hd (cs := #[.slice A0_0 l0_0.length c0_0]) (t := 50) ?hr ?_; (case hd => rfl); (case hg => rfl); (case hr => first | (go_simp; done) | (go_simp; rfl)); intro gb365 hg w35 hbox hb; have n0_ := Aside0.mk (below_step (bw HB) hb); have n1_ := Aside0.mk (hbox); have n2_ := Aside0.mk ((by rw [hg]; exact (below_size (bw HB)) : w.heap.size ≤ gb365)); have n3_ := Aside0.mk ((by rw [hg]; exact (below_size (bw HB)) : w.heap.size ≤ gb365)); clear HB; have HB := n0_; have BK365 := n1_; have GW365 := n2_; have GE365 := n3_; clear n0_ n1_ n2_ n3_; clear hb hbox hg; have hcz36_0 : w35.cell? ⟨gb365, 0, none⟩ = some (.slice A0_0 l0_0.length c0_0) := (blk_cell BK365.out 0).trans rfl; have hfz36_0 := blk_frozen BK365.out 0) | ((with_reducible refine gate_callee (f := 33) rfl ?_); refine goesL_ (some 13) rfl rfl Try.func33 (by kernel_rfl) rfl #[.agg #[.slice A0_0 l0_0.length c0_0], .int .i64 1048576] rfl gl ?_; (with_reducible refine (laws_szProgram.calls k _ _ l0_0 1048576 t366 _ ?side1 ?side2 A4.out).mono ?_); (case side1 => exact cc (Kd.C_below HR0_0.out HB.out)); (case side2 => exact HC0_0.out); rintro e w37 ⟨rfl, hb⟩; refine ⟨_, rfl, ?_⟩; have n0_ := Aside0.mk (blk_below (g := gb365) (o := .cells #[.slice A0_0 l0_0.length c0_0] 50 (0, 0)) (bp BK365) hb); have n1_ := Aside0.mk (below_step (bw HB) hb); clear BK365; clear HB; have BK365 := n0_; have HB := n1_; clear n0_ n1_; (try clear hb); (try clear hb2); (try clear hk); (try clear hi); have hcz38_0 : w37.cell? ⟨gb365, 0, none⟩ = some (.slice A0_0 l0_0.length c0_0) := (blk_cell BK365.out 0).trans rfl; have hfz38_0 := blk_frozen BK365.out 0) | ((with_reducible refine gate_callee (f := 35) rfl ?_); refine goesL_ (some 17) rfl rfl Try.func35 (by kernel_rfl) rfl #[.agg #[.slice A0_0 l0_0.length c0_0]] rfl gl ?_; (with_reducible refine (laws_toProgram.calls k _ _ l0_0 t367 _ ?side1 ?side2 A9.out).mono ?_); (case side1 => exact cc (Kd.C_below HR0_0.out HB.out)); (case side2 => exact HC0_0.out); rintro e w39 ⟨v368, rfl, ho0, hb⟩; refine ⟨_, rfl, ?_⟩; have n0_ := Aside0.mk (Kd.S_lower ho0 (below_size (bw HB))); have n1_ := Aside0.mk (blk_below (g := gb365) (o := .cells #[.slice A0_0 l0_0.length c0_0] 50 (0, 0)) (bp BK365) hb); have n2_ := Aside0.mk (below_step (bw HB) hb); clear BK365; clear HB; have HO369 := n0_; have BK365 := n1_; have HB := n2_; clear n0_ n1_ n2_; (try clear hb); (try clear hb2); (try clear hk); (try clear hi); (try clear ho0); obtain ⟨Ao40, co40, eo40⟩ := Kd.S_slice HO369.out; subst eo40) | ((with_reducible refine gate_callee (f := 55) rfl ?_); refine goesL_ (some 20) rfl rfl Try.func55 (by kernel_rfl) rfl #[.agg #[.slice Ao40 t367.length co40], .int .i64 a1, .int .i64 a2] rfl gl ?_; (with_reducible refine (spec_Slots.calls k _ _ t367 a1 a2 t370 _ ?side1 ?side2 A10.out).mono ?_); (case side1 => exact cc (Kd.S_reads' HO369.out).2.2); (case side2 => exact (Kd.S_reads' HO369.out).2.1); rintro e w41 ⟨rfl, hb⟩; refine ⟨_, rfl, ?_⟩; have n0_ := Aside0.mk (Kd.S_below (kS HO369) hb); have n1_ := Aside0.mk (blk_below (g := gb365) (o := .cells #[.slice A0_0 l0_0.length c0_0] 50 (0, 0)) (bp BK365) hb); have n2_ := Aside0.mk (below_step (bw HB) hb); clear HO369; clear BK365; clear HB; have HO369 := n0_; have BK365 := n1_; have HB := n2_; clear n0_ n1_ n2_; (try clear hb); (try clear hb2); (try clear hk); (try clear hi); have hcz42_0 : w41.cell? ⟨gb365, 0, none⟩ = some (.slice A0_0 l0_0.length c0_0) := (blk_cell BK365.out 0).trans rfl; have hfz42_0 := blk_frozen BK365.out 0) | ((with_reducible refine gate_callee (f := 35) rfl ?_); refine goesL_ (some 22) rfl rfl Try.func35 (by kernel_rfl) rfl #[.agg #[.slice A0_0 l0_0.length c0_0]] rfl gl ?_; (with_reducible refine (laws_toProgram.calls k _ _ l0_0 t371 _ ?side1 ?side2 A11.out).mono ?_); (case side1 => exact cc (Kd.C_below HR0_0.out HB.out)); (case side2 => exact HC0_0.out); rintro e w43 ⟨v372, rfl, ho0, hb⟩; refine ⟨_, rfl, ?_⟩; have n0_ := Aside0.mk (Kd.S_elder' (kS HO369) (Kd.S_base ho0) hb); have n1_ := Aside0.mk (Kd.S_lower (Kd.S_new' ho0 (Kd.S_lt (kS HO369))) (below_size (bw HB))); have n2_ := Aside0.mk (blk_below (g := gb365) (o := .cells #[.slice A0_0 l0_0.length c0_0] 50 (0, 0)) (bp BK365) hb); have n3_ := Aside0.mk (below_step (bw HB) hb); clear HO369; clear BK365; clear HB; have HO369 := n0_; have HO373 := n1_; have BK365 := n2_; have HB := n3_; clear n0_ n1_ n2_ n3_; (try clear hb); (try clear hb2); (try clear hk); (try clear hi); (try clear ho0)) | ((with_reducible refine gate_dst (N := 9) rfl ?_); refine box_event ?hg (N := 9) ?hd (cs := #[.slice none 0 0]) (t := 25) ?hr ?_; (case hd => rfl); (case hg => rfl); (case hr => first | (go_simp; done) | (go_simp; rfl)); intro gb374 hg w44 hbox hb; have n0_ := Aside0.mk (Kd.S_below (kS HO369) hb); have n1_ := Aside0.mk (Kd.S_below (kS HO373) hb); have n2_ := Aside0.mk (blk_below (g := gb365) (o := .cells #[.slice A0_0 l0_0.length c0_0] 50 (0, 0)) (bp BK365) hb); have n3_ := Aside0.mk (below_step (bw HB) hb); have n4_ := Aside0.mk (hbox); have n5_ := Aside0.mk ((by rw [hg]; exact (below_size (bw HB)) : w.heap.size ≤ gb374)); have n6_ := Aside0.mk ((by rw [hg]; exact (below_size (bw HB)) : w.heap.size ≤ gb374)); have n7_ := Aside0.mk ((by rw [hg]; exact Nat.ne_of_lt (blk_lt (g := gb365) (o := .cells #[.slice A0_0 l0_0.length c0_0] 50 (0, 0)) (bp BK365)) : gb365 ≠ gb374)); have n8_ := Aside0.mk ((by rw [hg]; exact Nat.ne_of_gt (blk_lt (g := gb365) (o := .cells #[.slice A0_0 l0_0.length c0_0] 50 (0, 0)) (bp BK365)) : gb374 ≠ gb365)); clear HO369; clear HO373; clear BK365; clear HB; have HO369 := n0_; have HO373 := n1_; have BK365 := n2_; have HB := n3_; have BK374 := n4_; have GW374 := n5_; have GE374 := n6_; have NB365_374 := n7_; have NB374_365 := n8_; clear n0_ n1_ n2_ n3_ n4_ n5_ n6_ n7_ n8_; clear hb hbox hg; obtain ⟨Ao45, co45, eo45⟩ := Kd.S_slice HO373.out; subst eo45; have hnb46 := NB374_365.out; have hnc46 := NB365_374.out; have hcz47_0 : w44.cell? ⟨gb374, 0, none⟩ = some (.slice none 0 0) := (blk_cell BK374.out 0).trans rfl; have hfz47_0 := blk_frozen BK374.out 0) | ((with_reducible refine gate_callee (f := 56) rfl ?_); refine goesL_ (some 26) rfl rfl Try.func56 (by kernel_rfl) rfl #[.agg #[.slice Ao45 t371.length co45], .int .i64 a1, .int .i64 a2] rfl gl ?_; (with_reducible refine (impl_Slots.calls k _ _ t371 a1 a2 t375 _ ?side1 ?side2 A12.out).mono ?_); (case side1 => refine (Kd.S_reads' (e := 108) (base := w.heap.size) (ok := fun k_ => (True ∧ some k_ ≠ (.slice Ao40 t367.length co40 : Value).ownBlock)) (n := t371.length) (c := co45) ?_).2.2; exact (by (with_reducible repeat (first | apply Kd.S_alloc | apply Kd.S_drewN | apply Kd.S_drew)); exact (Kd.S_mono (Kd.S_far (p := ⟨gb374, 0, none⟩) (Kd.S_types HO373.out BK374.out (by decide)) (fun _ hk => hk.2) (.slice Ao45 t371.length co45)) (fun _ h_ => h_.1)))); (case side2 => exact (Kd.S_reads' HO373.out).2.1); rintro e w48 ⟨rfl, hb⟩; refine ⟨_, rfl, ?_⟩; have n0_ := Aside0.mk (Kd.S_below (by (with_reducible repeat (first | apply Kd.S_alloc | apply Kd.S_drewN | apply Kd.S_drew)); exact (Kd.S_mono (Kd.S_far (p := ⟨gb374, 0, none⟩) (Kd.S_types HO369.out BK374.out (by decide)) (fun _ hk => hk.2) (.slice Ao45 t371.length co45)) (fun _ h_ => h_.1))) hb); have n1_ := Aside0.mk (Kd.S_below (by (with_reducible repeat (first | apply Kd.S_alloc | apply Kd.S_drewN | apply Kd.S_drew)); exact (Kd.S_mono (Kd.S_far (p := ⟨gb374, 0, none⟩) (Kd.S_types HO373.out BK374.out (by decide)) (fun _ hk => hk.2) (.slice Ao45 t371.length co45)) (fun _ h_ => h_.1))) hb); have n2_ := Aside0.mk (blk_below (g := gb365) (o := .cells #[.slice A0_0 l0_0.length c0_0] 50 (0, 0)) (by (with_reducible repeat (first | refine blk_drewN ?_ _ | refine blk_drew ?_ | refine blk_alloc ?_ _)); refine blk_far ?_ NB365_374.out _; exact bp BK365) hb); have n3_ := Aside0.mk (blk_below (g := gb374) (o := .cells #[.slice Ao45 t371.length co45] 25 (0, 0)) (by (with_reducible repeat (first | refine blk_drewN ?_ _ | refine blk_drew ?_ | refine blk_alloc ?_ _)); refine blk_put (cs := #[.slice none 0 0]) ?_ 0 _ rfl; exact bp BK374) hb); have n4_ := Aside0.mk (below_step (bw HB) hb); clear HO369; clear HO373; clear BK365; clear BK374; clear HB; have HO369 := n0_; have HO373 := n1_; have BK365 := n2_; have BK374 := n3_; have HB := n4_; clear n0_ n1_ n2_ n3_ n4_; (try clear hb); (try clear hb2); (try clear hk); (try clear hi)))
    have n0_ := Aside0.mk (Kd.S_drew HO369.out)
    have n1_ := Aside0.mk (Kd.S_drew HO373.out)
    have n2_ := Aside0.mk (blk_drew BK365.out)
    have n3_ := Aside0.mk (blk_drew BK374.out)
    have n4_ := Aside0.mk (below_drew1 HB.out)
    clear HO369
    clear HO373
    clear BK365
    clear BK374
    clear HB
    have HO369 := n0_
    have HO373 := n1_
    have BK365 := n2_
    have BK374 := n3_
    have HB := n4_
    clear n0_ n1_ n2_ n3_ n4_
    refine start_ (n := 5) (S := fun w' => w'.cell? ⟨gb374, 0, none⟩ = some (.slice Ao45 t371.length co45) ∧ w'.cell? ⟨gb365, 0, none⟩ = some (.slice A0_0 l0_0.length c0_0)) (ds := []) #[false, false, false, false, false] (by kernel_rfl) rfl rfl ⟨(blk_cell BK374.out 0).trans rfl, (blk_cell BK365.out 0).trans rfl⟩ (fun hHeld => ?_)
    generalize w48.drew = w49 at HO369 HO373 BK365 BK374 HB hHeld ⊢
    refine take_ (i := 0) (N := some 30) (v := ?_) (a' := ?_) #[true, false, false, false, false] rfl rfl (by kernel_rfl) (fun _ _ _ h => h) (Or.inl ⟨by rfl, ?_⟩) hHeld ?_ ?_
    rotate_left
    ·rintro w' ⟨s0, s1⟩
     go_simp
     with_reducible rfl
    rotate_left
    ·simp only [Act.put, List.setIfInBounds_toArray, List.set_cons_zero, List.set_cons_succ, i64_w, i32_w]
     rfl
    refine take_ (i := 1) (N := some 31) (v := ?_) (a' := ?_) #[true, true, false, false, false] rfl rfl (by kernel_rfl) (fun _ _ _ h => h) (Or.inl ⟨by rfl, ?_⟩) hHeld ?_ ?_
    rotate_left
    ·rintro w' ⟨s0, s1⟩
     go_simp
     with_reducible rfl
    rotate_left
    ·simp only [Act.put, List.setIfInBounds_toArray, List.set_cons_zero, List.set_cons_succ, i64_w, i32_w]
     rfl
    refine one_ (i := 2) (N := some 32) #[true, true, true, false, false] rfl rfl (by kernel_rfl) (by decide) (fun K hK => ?_)
    refine goes_ Try.func35 (by kernel_rfl) rfl #[.agg #[.slice A0_0 l0_0.length c0_0]] (by rfl) rfl rfl gl ?_
    with_reducible refine (laws_toProgram.calls k _ _ l0_0 t376 _ ?side1 ?side2 A14.out).mono ?_
    (case side1 => exact cc (Kd.C_below HR0_0.out HB.out))
    (case side2 => exact HC0_0.out)
    rintro e w50 ⟨v377, rfl, ho0, hb⟩
    refine ⟨_, rfl, ?_⟩
    have n0_ := Aside0.mk (Kd.S_elder' (kS HO369) (Kd.S_base ho0) hb)
    have n1_ := Aside0.mk (Kd.S_elder' (kS HO373) (Kd.S_base ho0) hb)
    have n2_ := Aside0.mk (Kd.S_lower (Kd.S_new' (Kd.S_new' ho0 (Kd.S_lt (kS HO369))) (Kd.S_lt (kS HO373))) (below_size (bw HB)))
    have n3_ := Aside0.mk (blk_below (g := gb365) (o := .cells #[.slice A0_0 l0_0.length c0_0] 50 (0, 0)) (bp BK365) hb)
    have n4_ := Aside0.mk (blk_below (g := gb374) (o := .cells #[.slice Ao45 t371.length co45] 25 (0, 0)) (bp BK374) hb)
    have n5_ := Aside0.mk (below_step (bw HB) hb)
    clear HO369
    clear HO373
    clear BK365
    clear BK374
    clear HB
    have HO369 := n0_
    have HO373 := n1_
    have HO378 := n2_
    have BK365 := n3_
    have BK374 := n4_
    have HB := n5_
    clear n0_ n1_ n2_ n3_ n4_ n5_
    (try clear hb)
    (try clear hb2)
    (try clear hk)
    (try clear hi)
    (try clear ho0)
    obtain ⟨Ao51, co51, eo51⟩ := Kd.S_slice HO378.out
    (first | subst eo51 | (injection eo51 with f1_ f2_ f3_; have f4_ := f1_.symm; have f5_ := f3_.symm; clear f1_ f2_ f3_; subst f4_; subst f5_))
    refine hK.out _ _ ⟨(blk_cell BK374.out 0).trans rfl, (blk_cell BK365.out 0).trans rfl⟩ (fun hHeld => ?_)
    clear hK K
    refine norm_ (a' := ?_) ?_ ?_
    rotate_left
    ·show Act.put _ (some 32) _ = _
     simp only [Act.put, List.setIfInBounds_toArray, List.set_cons_zero, List.set_cons_succ, i64_w, i32_w]
     rfl
    refine one_ (i := 3) (N := some 33) #[true, true, true, true, false] rfl rfl (by kernel_rfl) (by decide) (fun K hK => ?_)
    refine goes_ Try.func38 (by kernel_rfl) rfl #[.agg #[.slice Ao45 t371.length co45], .agg #[.slice Ao51 t376.length co51]] (by rfl) rfl rfl gl ?_
    with_reducible refine (laws_eqProgram.calls k _ _ t371 _ _ t376 false _ ?side1 ?side2 ?side3 ?side4 A15.out).mono ?_
    (case side1 => exact cc (Kd.S_reads' HO373.out).2.2)
    (case side2 => exact (Kd.S_reads' HO373.out).2.1)
    (case side3 => exact cc (Kd.S_reads' HO378.out).2.2)
    (case side4 => exact (Kd.S_reads' HO378.out).2.1)
    rintro e w52 ⟨rfl, hb⟩
    refine ⟨_, rfl, ?_⟩
    have n0_ := Aside0.mk (Kd.S_below (kS HO369) hb)
    have n1_ := Aside0.mk (Kd.S_below (kS HO373) hb)
    have n2_ := Aside0.mk (Kd.S_below (kS HO378) hb)
    have n3_ := Aside0.mk (blk_below (g := gb365) (o := .cells #[.slice A0_0 l0_0.length c0_0] 50 (0, 0)) (bp BK365) hb)
    have n4_ := Aside0.mk (blk_below (g := gb374) (o := .cells #[.slice Ao45 t371.length co45] 25 (0, 0)) (bp BK374) hb)
    have n5_ := Aside0.mk (below_step (bw HB) hb)
    clear HO369
    clear HO373
    clear HO378
    clear BK365
    clear BK374
    clear HB
    have HO369 := n0_
    have HO373 := n1_
    have HO378 := n2_
    have BK365 := n3_
    have BK374 := n4_
    have HB := n5_
    clear n0_ n1_ n2_ n3_ n4_ n5_
    (try clear hb)
    (try clear hb2)
    (try clear hk)
    (try clear hi)
    refine hK.out _ _ ⟨(blk_cell BK374.out 0).trans rfl, (blk_cell BK365.out 0).trans rfl⟩ (fun hHeld => ?_)
    clear hK K
    refine norm_ (a' := ?_) ?_ ?_
    rotate_left
    ·show Act.put _ (some 33) _ = _
     simp only [Act.put, List.setIfInBounds_toArray, List.set_cons_zero, List.set_cons_succ, i64_w, i32_w]
     rfl
    refine pure_ (i := 4) (N := some 34) (v := ?_) (a' := ?_) #[true, true, true, true, true] rfl rfl (by kernel_rfl) (fun _ _ _ h => h) (Or.inl ⟨by rfl, ?_⟩) ?_ ?_
    rotate_left
    ·intro w'
     go_simp
     with_reducible rfl
    rotate_left
    ·simp only [Act.put, List.setIfInBounds_toArray, List.set_cons_zero, List.set_cons_succ, i64_w, i32_w]
     rfl
    refine done_ (by kernel_rfl) ?_
    try go_wp2
    go_ret
    exact ⟨by first | rfl | (simp [errW_none, errW_some] <;> rfl) | (simp [*, errW_none, errW_some] <;> rfl), bw HB⟩
  ·rw [if_neg c13] at H
   have c13b0 : (t375 == t370) = false := beq_eq_false_iff_ne.mpr c13
   have c13b1 : (t375 != t370) = true := bne_iff_ne.mpr c13
   obtain rfl := Option.some.inj H
   go_enter Try.func13, Try.ntmps13
   go_wp2_with (first | ((with_reducible refine gate_dst (N := 3) rfl ?_); refine box_event ?hg (N := 3) ?hd (cs := #[.slice A0_0 l0_0.length c0_0]) (t := 50) ?hr ?_; (case hd => rfl); (case hg => rfl); (case hr => first | (go_simp; done) | (go_simp; rfl)); intro gb365 hg w53 hbox hb; have n0_ := Aside0.mk (below_step (bw HB) hb); have n1_ := Aside0.mk (hbox); have n2_ := Aside0.mk ((by rw [hg]; exact (below_size (bw HB)) : w.heap.size ≤ gb365)); have n3_ := Aside0.mk ((by rw [hg]; exact (below_size (bw HB)) : w.heap.size ≤ gb365)); clear HB; have HB := n0_; have BK365 := n1_; have GW365 := n2_; have GE365 := n3_; clear n0_ n1_ n2_ n3_; clear hb hbox hg; have hcz54_0 : w53.cell? ⟨gb365, 0, none⟩ = some (.slice A0_0 l0_0.length c0_0) := (blk_cell BK365.out 0).trans rfl; have hfz54_0 := blk_frozen BK365.out 0) | ((with_reducible refine gate_callee (f := 33) rfl ?_); refine goesL_ (some 13) rfl rfl Try.func33 (by kernel_rfl) rfl #[.agg #[.slice A0_0 l0_0.length c0_0], .int .i64 1048576] rfl gl ?_; (with_reducible refine (laws_szProgram.calls k _ _ l0_0 1048576 t366 _ ?side1 ?side2 A4.out).mono ?_); (case side1 => exact cc (Kd.C_below HR0_0.out HB.out)); (case side2 => exact HC0_0.out); rintro e w55 ⟨rfl, hb⟩; refine ⟨_, rfl, ?_⟩; have n0_ := Aside0.mk (blk_below (g := gb365) (o := .cells #[.slice A0_0 l0_0.length c0_0] 50 (0, 0)) (bp BK365) hb); have n1_ := Aside0.mk (below_step (bw HB) hb); clear BK365; clear HB; have BK365 := n0_; have HB := n1_; clear n0_ n1_; (try clear hb); (try clear hb2); (try clear hk); (try clear hi); have hcz56_0 : w55.cell? ⟨gb365, 0, none⟩ = some (.slice A0_0 l0_0.length c0_0) := (blk_cell BK365.out 0).trans rfl; have hfz56_0 := blk_frozen BK365.out 0) | ((with_reducible refine gate_callee (f := 35) rfl ?_); refine goesL_ (some 17) rfl rfl Try.func35 (by kernel_rfl) rfl #[.agg #[.slice A0_0 l0_0.length c0_0]] rfl gl ?_; (with_reducible refine (laws_toProgram.calls k _ _ l0_0 t367 _ ?side1 ?side2 A9.out).mono ?_); (case side1 => exact cc (Kd.C_below HR0_0.out HB.out)); (case side2 => exact HC0_0.out); rintro e w57 ⟨v368, rfl, ho0, hb⟩; refine ⟨_, rfl, ?_⟩; have n0_ := Aside0.mk (Kd.S_lower ho0 (below_size (bw HB))); have n1_ := Aside0.mk (blk_below (g := gb365) (o := .cells #[.slice A0_0 l0_0.length c0_0] 50 (0, 0)) (bp BK365) hb); have n2_ := Aside0.mk (below_step (bw HB) hb); clear BK365; clear HB; have HO369 := n0_; have BK365 := n1_; have HB := n2_; clear n0_ n1_ n2_; (try clear hb); (try clear hb2); (try clear hk); (try clear hi); (try clear ho0); obtain ⟨Ao58, co58, eo58⟩ := Kd.S_slice HO369.out; subst eo58) | ((with_reducible refine gate_callee (f := 55) rfl ?_); refine goesL_ (some 20) rfl rfl Try.func55 (by kernel_rfl) rfl #[.agg #[.slice Ao58 t367.length co58], .int .i64 a1, .int .i64 a2] rfl gl ?_; (with_reducible refine (spec_Slots.calls k _ _ t367 a1 a2 t370 _ ?side1 ?side2 A10.out).mono ?_); (case side1 => exact cc (Kd.S_reads' HO369.out).2.2); (case side2 => exact (Kd.S_reads' HO369.out).2.1); rintro e w59 ⟨rfl, hb⟩; refine ⟨_, rfl, ?_⟩; have n0_ := Aside0.mk (Kd.S_below (kS HO369) hb); have n1_ := Aside0.mk (blk_below (g := gb365) (o := .cells #[.slice A0_0 l0_0.length c0_0] 50 (0, 0)) (bp BK365) hb); have n2_ := Aside0.mk (below_step (bw HB) hb); clear HO369; clear BK365; clear HB; have HO369 := n0_; have BK365 := n1_; have HB := n2_; clear n0_ n1_ n2_; (try clear hb); (try clear hb2); (try clear hk); (try clear hi); have hcz60_0 : w59.cell? ⟨gb365, 0, none⟩ = some (.slice A0_0 l0_0.length c0_0) := (blk_cell BK365.out 0).trans rfl; have hfz60_0 := blk_frozen BK365.out 0) | ((with_reducible refine gate_callee (f := 35) rfl ?_); refine goesL_ (some 22) rfl rfl Try.func35 (by kernel_rfl) rfl #[.agg #[.slice A0_0 l0_0.length c0_0]] rfl gl ?_; (with_reducible refine (laws_toProgram.calls k _ _ l0_0 t371 _ ?side1 ?side2 A11.out).mono ?_); (case side1 => exact cc (Kd.C_below HR0_0.out HB.out)); (case side2 => exact HC0_0.out); rintro e w61 ⟨v372, rfl, ho0, hb⟩; refine ⟨_, rfl, ?_⟩; have n0_ := Aside0.mk (Kd.S_elder' (kS HO369) (Kd.S_base ho0) hb); have n1_ := Aside0.mk (Kd.S_lower (Kd.S_new' ho0 (Kd.S_lt (kS HO369))) (below_size (bw HB))); have n2_ := Aside0.mk (blk_below (g := gb365) (o := .cells #[.slice A0_0 l0_0.length c0_0] 50 (0, 0)) (bp BK365) hb); have n3_ := Aside0.mk (below_step (bw HB) hb); clear HO369; clear BK365; clear HB; have HO369 := n0_; have HO373 := n1_; have BK365 := n2_; have HB := n3_; clear n0_ n1_ n2_ n3_; (try clear hb); (try clear hb2); (try clear hk); (try clear hi); (try clear ho0)) | ((with_reducible refine gate_dst (N := 9) rfl ?_); refine box_event ?hg (N := 9) ?hd (cs := #[.slice none 0 0]) (t := 25) ?hr ?_; (case hd => rfl); (case hg => rfl); (case hr => first | (go_simp; done) | (go_simp; rfl)); intro gb374 hg w62 hbox hb; have n0_ := Aside0.mk (Kd.S_below (kS HO369) hb); have n1_ := Aside0.mk (Kd.S_below (kS HO373) hb); have n2_ := Aside0.mk (blk_below (g := gb365) (o := .cells #[.slice A0_0 l0_0.length c0_0] 50 (0, 0)) (bp BK365) hb); have n3_ := Aside0.mk (below_step (bw HB) hb); have n4_ := Aside0.mk (hbox); have n5_ := Aside0.mk ((by rw [hg]; exact (below_size (bw HB)) : w.heap.size ≤ gb374)); have n6_ := Aside0.mk ((by rw [hg]; exact (below_size (bw HB)) : w.heap.size ≤ gb374)); have n7_ := Aside0.mk ((by rw [hg]; exact Nat.ne_of_lt (blk_lt (g := gb365) (o := .cells #[.slice A0_0 l0_0.length c0_0] 50 (0, 0)) (bp BK365)) : gb365 ≠ gb374)); have n8_ := Aside0.mk ((by rw [hg]; exact Nat.ne_of_gt (blk_lt (g := gb365) (o := .cells #[.slice A0_0 l0_0.length c0_0] 50 (0, 0)) (bp BK365)) : gb374 ≠ gb365)); clear HO369; clear HO373; clear BK365; clear HB; have HO369 := n0_; have HO373 := n1_; have BK365 := n2_; have HB := n3_; have BK374 := n4_; have GW374 := n5_; have GE374 := n6_; have NB365_374 := n7_; have NB374_365 := n8_; clear n0_ n1_ n2_ n3_ n4_ n5_ n6_ n7_ n8_; clear hb hbox hg; obtain ⟨Ao63, co63, eo63⟩ := Kd.S_slice HO373.out; subst eo63; have hnb64 := NB374_365.out; have hnc64 := NB365_374.out; have hcz65_0 : w62.cell? ⟨gb374, 0, none⟩ = some (.slice none 0 0) := (blk_cell BK374.out 0).trans rfl; have hfz65_0 := blk_frozen BK374.out 0) | ((with_reducible refine gate_callee (f := 56) rfl ?_); refine goesL_ (some 26) rfl rfl Try.func56 (by kernel_rfl) rfl #[.agg #[.slice Ao63 t371.length co63], .int .i64 a1, .int .i64 a2] rfl gl ?_; (with_reducible refine (impl_Slots.calls k _ _ t371 a1 a2 t375 _ ?side1 ?side2 A12.out).mono ?_); (case side1 => refine (Kd.S_reads' (e := 108) (base := w.heap.size) (ok := fun k_ => (True ∧ some k_ ≠ (.slice Ao58 t367.length co58 : Value).ownBlock)) (n := t371.length) (c := co63) ?_).2.2; exact (by (with_reducible repeat (first | apply Kd.S_alloc | apply Kd.S_drewN | apply Kd.S_drew)); exact (Kd.S_mono (Kd.S_far (p := ⟨gb374, 0, none⟩) (Kd.S_types HO373.out BK374.out (by decide)) (fun _ hk => hk.2) (.slice Ao63 t371.length co63)) (fun _ h_ => h_.1)))); (case side2 => exact (Kd.S_reads' HO373.out).2.1); rintro e w66 ⟨rfl, hb⟩; refine ⟨_, rfl, ?_⟩; have n0_ := Aside0.mk (Kd.S_below (by (with_reducible repeat (first | apply Kd.S_alloc | apply Kd.S_drewN | apply Kd.S_drew)); exact (Kd.S_mono (Kd.S_far (p := ⟨gb374, 0, none⟩) (Kd.S_types HO369.out BK374.out (by decide)) (fun _ hk => hk.2) (.slice Ao63 t371.length co63)) (fun _ h_ => h_.1))) hb); have n1_ := Aside0.mk (Kd.S_below (by (with_reducible repeat (first | apply Kd.S_alloc | apply Kd.S_drewN | apply Kd.S_drew)); exact (Kd.S_mono (Kd.S_far (p := ⟨gb374, 0, none⟩) (Kd.S_types HO373.out BK374.out (by decide)) (fun _ hk => hk.2) (.slice Ao63 t371.length co63)) (fun _ h_ => h_.1))) hb); have n2_ := Aside0.mk (blk_below (g := gb365) (o := .cells #[.slice A0_0 l0_0.length c0_0] 50 (0, 0)) (by (with_reducible repeat (first | refine blk_drewN ?_ _ | refine blk_drew ?_ | refine blk_alloc ?_ _)); refine blk_far ?_ NB365_374.out _; exact bp BK365) hb); have n3_ := Aside0.mk (blk_below (g := gb374) (o := .cells #[.slice Ao63 t371.length co63] 25 (0, 0)) (by (with_reducible repeat (first | refine blk_drewN ?_ _ | refine blk_drew ?_ | refine blk_alloc ?_ _)); refine blk_put (cs := #[.slice none 0 0]) ?_ 0 _ rfl; exact bp BK374) hb); have n4_ := Aside0.mk (below_step (bw HB) hb); clear HO369; clear HO373; clear BK365; clear BK374; clear HB; have HO369 := n0_; have HO373 := n1_; have BK365 := n2_; have BK374 := n3_; have HB := n4_; clear n0_ n1_ n2_ n3_ n4_; (try clear hb); (try clear hb2); (try clear hk); (try clear hi)))
   go_ret
   exact ⟨by first | rfl | (simp [errW_none, errW_some] <;> rfl) | (simp [*, errW_none, errW_some] <;> rfl), bw HB⟩

end Go.Proofs.Ytpkkicaablnakaa.QFnExactSlots
