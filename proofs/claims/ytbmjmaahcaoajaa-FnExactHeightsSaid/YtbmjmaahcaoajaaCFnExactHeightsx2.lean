-- Written by this session's own program (wip/tools/xprint.py) on the seat's printed words. Lean checks it.
import Derived.Test.YtbmjmaahcaoajaaCFnExactHeightsx0
import Derived.Test.YtbmjmaahcaoajaaCFnExactHeightsx1
namespace Go.Proofs.Ytbmjmaahcaoajaa.QFnExactHeights
open Go.RowKit Go.Proofs.YtbmjmaahcaoajaaW.PrintWords Go.Proofs.YtbmjmaahcaoajaaW.PrintLast Go.Proofs.YtbmjmaahcaoajaaW.PrintMore Go.Proofs.YtbmjmaahcaoajaaW.PrintShort Go.Proofs.YtbmjmaahcaoajaaW.PrintIsh
attribute [local go_sem] max2_int min2_int max_two min_two max_three min_three max_four min_four   -- for this text's walks alone
set_option linter.unusedVariables false
set_option maxHeartbeats 8000000
set_option maxRecDepth 100000
set_option linter.unusedSimpArgs false

/-! ### spec_Puts: function 119 -/
def spec_Puts.j0 : Nat → Bool → Int → Int → Option (Int)
 | 0, _, _, _ => none
 | k + 1, x10, x114000, x114001 => if x10 = true then (some 1) else (if x114000 = 4 then (some 2) else (if x114000 = 1 then (some 1) else (if x114000 = 2 then (some 1) else (if x114000 = 32 then (some 1) else (if x114000 = 34 then (some 1) else (if x114000 = 35 then (some 1) else (if x114000 = 37 then (some 1) else (some 0))))))))
def spec_Puts.f (k : Nat) (a0_0 : Int) (a0_1 : Int) : Option (Int) := (spec_l03Binary.f a0_0).bind fun t114 => (if t114 = true then (spec_Puts.j0 k true a0_0 a0_1) else ((spec_l03Unary.f a0_0).bind fun t115 => (spec_Puts.j0 k t115 a0_0 a0_1)))
theorem spec_Puts.mono_l : ∀ k, (∀ y0 y1 y2, LeO (spec_Puts.j0 k y0 y1 y2) (spec_Puts.j0 (k + 1) y0 y1 y2))
 | 0 => fun _ _ _ r h => by simp [spec_Puts.j0] at h
 | k + 1 => by
  have ih0 := spec_Puts.mono_l k
  ·intro y0 y1 y2
   unfold spec_Puts.j0
   repeat' first
   | (with_reducible exact ih0 _ _ _)
   | (with_reducible exact LeO.refl _)
   | (with_reducible exact LeO.none _)
   | (with_reducible refine LeO.ite ?_ ?_)
   | (with_reducible refine LeO.bind ?_ (fun _ => ?_))
   | exact ih0 _ _ _
   | exact LeO.none _
   | refine LeO.ite ?_ ?_
   | refine LeO.bind ?_ (fun _ => ?_)
theorem spec_Puts.mono : ∀ a0 a1 k, LeO (spec_Puts.f k a0 a1) (spec_Puts.f (k + 1) a0 a1) := by
 intro a0 a1 k
 have ih0 := spec_Puts.mono_l k
 unfold spec_Puts.f
 repeat' first
   | (with_reducible exact ih0 _ _ _)
   | (with_reducible exact LeO.refl _)
   | (with_reducible exact LeO.none _)
   | (with_reducible refine LeO.ite ?_ ?_)
   | (with_reducible refine LeO.bind ?_ (fun _ => ?_))
   | exact ih0 _ _ _
   | exact LeO.none _
   | refine LeO.ite ?_ ?_
   | refine LeO.bind ?_ (fun _ => ?_)
theorem spec_Puts.calls (k : Nat) (a0_0 : Int) (a0_1 : Int) (r : Int) (w : World) (h : spec_Puts.f k a0_0 a0_1 = some r) :
  Calls Try.prog 119 #[.agg #[.int .i64 a0_0, .int .i64 a0_1]] w fun e w' => e = .returned (.int .i64 r) ∧ Below w.heap.size w w' := by
 have hu102 := Try.underlying102
 have HB := am (Below.refl w.heap.size w)
 have H : ((spec_l03Binary.f a0_0).bind fun t114 => (if t114 = true then (spec_Puts.j0 k true a0_0 a0_1) else ((spec_l03Unary.f a0_0).bind fun t115 => (spec_Puts.j0 k t115 a0_0 a0_1)))) = some r := h
 clear h
 have HC2 := am H
 clear H
 go_enter Try.func119, Try.ntmps119
 go_upto_region 1 with (first | ((with_reducible refine gate_dst (N := 1) rfl ?_); refine box_event ?hg (N := 1) ?hd (cs := #[.int .i64 a0_0, .int .i64 a0_1]) (t := 102) ?hr ?_; (case hd => rfl); (case hg => rfl); (case hr => exact gs); intro gb113 hg w3 hbox hb; have n0_ := am (below_step (bw HB) hb); have n1_ := am (hbox); have n2_ := am ((by rw [hg]; exact (below_size (bw HB)) : w.heap.size ≤ gb113)); have n3_ := am ((by rw [hg]; exact (below_size (bw HB)) : w.heap.size ≤ gb113)); clear HB; have HB := n0_; have BK113 := n1_; have GW113 := n2_; have GE113 := n3_; clear n0_ n1_ n2_ n3_; clear hb hbox hg))
 (try simp only [Act.put, sa, sz, ss])
 go_cut [10] (fun v10 wc => ∃ (kq : Nat) (x10_1 : Bool), v10 = .bool x10_1 ∧ Aside0 (spec_Puts.j0 kq x10_1 a0_0 a0_1 = some r) ∧ Aside0 (kq ≤ k) ∧ Aside0 (wc.heap[gb113]? = some (.cells #[.int .i64 a0_0, .int .i64 a0_1] 102 (0, 0))) ∧ Aside0 (Below w.heap.size w wc))
 case first =>
  have H := HC2.out
  clear HC2
  replace H := Option.bind_eq_some_iff.mp H
  obtain ⟨t114, A40, H⟩ := H
  replace H : (if t114 = true then (spec_Puts.j0 k true a0_0 a0_1) else ((spec_l03Unary.f a0_0).bind fun t115 => (spec_Puts.j0 k t115 a0_0 a0_1))) = some r := H
  have A4 := am A40
  clear A40
  by_cases c5 : t114 = true
  ·subst c5
   have H1 : (spec_Puts.j0 k true a0_0 a0_1) = some r := by rw [if_pos rfl] at H; exact H
   clear H
   have H := H1
   clear H1
   have H' := am H
   clear H
   have hcz6_0 : w3.cell? ⟨gb113, 0, none⟩ = some (.int .i64 a0_0) := (blk_cell BK113.out 0).trans rfl
   have hcz6_1 : w3.cell? ⟨gb113, 1, none⟩ = some (.int .i64 a0_1) := (blk_cell BK113.out 1).trans rfl
   have hfz6_0 := blk_frozen BK113.out 0
   have hfz6_1 := blk_frozen BK113.out 1
   go_wp2_with (first | ((with_reducible refine gate_callee (f := 168) rfl ?_); refine goesL_ (some 5) rfl rfl Try.func168 (by kernel_rfl) rfl #[.int .i64 a0_0] rfl gl ?_; (with_reducible refine (spec_l03Binary.calls a0_0 true _ A4.out).mono ?_); rintro e w' ⟨rfl, ⟨nd, rfl⟩⟩; refine ⟨_, rfl, ?_⟩))
   go_meet
   case rel => exact ⟨_, (true), dr, H', ⟨by first | omega | exact Nat.le_refl _⟩, ⟨bp BK113⟩, ⟨bw HB⟩⟩
  ·replace c5 := Bool.eq_false_iff.mpr c5
   subst c5
   have H1 : ((spec_l03Unary.f a0_0).bind fun t115 => (spec_Puts.j0 k t115 a0_0 a0_1)) = some r := by rw [if_neg (show ¬ (false = true) by decide)] at H; exact H
   clear H
   have H := H1
   clear H1
   replace H := Option.bind_eq_some_iff.mp H
   obtain ⟨t115, A70, H⟩ := H
   replace H : (spec_Puts.j0 k t115 a0_0 a0_1) = some r := H
   have A7 := am A70
   clear A70
   have H' := am H
   clear H
   have hcz8_0 : w3.cell? ⟨gb113, 0, none⟩ = some (.int .i64 a0_0) := (blk_cell BK113.out 0).trans rfl
   have hcz8_1 : w3.cell? ⟨gb113, 1, none⟩ = some (.int .i64 a0_1) := (blk_cell BK113.out 1).trans rfl
   have hfz8_0 := blk_frozen BK113.out 0
   have hfz8_1 := blk_frozen BK113.out 1
   go_wp2_with (first | ((with_reducible refine gate_callee (f := 168) rfl ?_); refine goesL_ (some 5) rfl rfl Try.func168 (by kernel_rfl) rfl #[.int .i64 a0_0] rfl gl ?_; (with_reducible refine (spec_l03Binary.calls a0_0 false _ A4.out).mono ?_); rintro e w' ⟨rfl, ⟨nd, rfl⟩⟩; refine ⟨_, rfl, ?_⟩) | (go_at_call 169; (with_reducible refine (spec_l03Unary.calls a0_0 t115 _ A7.out).mono ?_); rintro e w' ⟨rfl, ⟨nd, rfl⟩⟩))
   go_meet
   case rel => exact ⟨_, (t115), dr, H', ⟨by first | omega | exact Nat.le_refl _⟩, ⟨bp BK113⟩, ⟨bw HB⟩⟩
 case rest =>
  clear HC2
  (try clear c1); (try clear p2); (try clear c5); (try clear hcz6_0); (try clear hcz6_1); (try clear hcz8_0); (try clear hcz8_1); (try clear hfz6_0); (try clear hfz6_1); (try clear hfz8_0); (try clear hfz8_1)
  obtain ⟨kq, x10_1, rfl, HA, HJ1, BK113, HB⟩ := hcut
  cases kq with
  | zero => exact absurd HA.out (by simp [spec_Puts.j0])
  | succ kj1 =>
   have H := HA.out
   clear HA
   simp only [spec_Puts.j0] at H
   by_cases c9 : x10_1 = true
   ·subst c9
    have H1 : (some 1) = some r := by rw [if_pos rfl] at H; exact H
    clear H
    have H := H1
    clear H1
    obtain rfl := Option.some.inj H
    go_wp2
    go_ret
    exact ⟨er, bw HB⟩
   ·replace c9 := Bool.eq_false_iff.mpr c9
    subst c9
    have H1 : (if a0_0 = 4 then (some 2) else (if a0_0 = 1 then (some 1) else (if a0_0 = 2 then (some 1) else (if a0_0 = 32 then (some 1) else (if a0_0 = 34 then (some 1) else (if a0_0 = 35 then (some 1) else (if a0_0 = 37 then (some 1) else (some 0)))))))) = some r := by rw [if_neg (show ¬ (false = true) by decide)] at H; exact H
    clear H
    have H := H1
    clear H1
    by_cases c10 : a0_0 = 4
    ·rw [if_pos c10] at H
     have c10b0 : (a0_0 == 4) = true := beq_iff_eq.mpr c10
     have c10b1 : (a0_0 != 4) = false := bne_eq_false_iff_eq.mpr c10
     clear c10
     obtain rfl := Option.some.inj H
     have hcz11_0 : wc.cell? ⟨gb113, 0, none⟩ = some (.int .i64 a0_0) := (blk_cell BK113.out 0).trans rfl
     have hcz11_1 : wc.cell? ⟨gb113, 1, none⟩ = some (.int .i64 a0_1) := (blk_cell BK113.out 1).trans rfl
     have hfz11_0 := blk_frozen BK113.out 0
     have hfz11_1 := blk_frozen BK113.out 1
     go_wp2
     go_ret
     exact ⟨er, bw HB⟩
    ·rw [if_neg c10] at H
     have c10b0 : (a0_0 == 4) = false := beq_eq_false_iff_ne.mpr c10
     have c10b1 : (a0_0 != 4) = true := bne_iff_ne.mpr c10
     by_cases c12 : a0_0 = 1
     ·rw [if_pos c12] at H
      have c12b0 : (a0_0 == 1) = true := beq_iff_eq.mpr c12
      have c12b1 : (a0_0 != 1) = false := bne_eq_false_iff_eq.mpr c12
      clear c12
      obtain rfl := Option.some.inj H
      have hcz13_0 : wc.cell? ⟨gb113, 0, none⟩ = some (.int .i64 a0_0) := (blk_cell BK113.out 0).trans rfl
      have hcz13_1 : wc.cell? ⟨gb113, 1, none⟩ = some (.int .i64 a0_1) := (blk_cell BK113.out 1).trans rfl
      have hfz13_0 := blk_frozen BK113.out 0
      have hfz13_1 := blk_frozen BK113.out 1
      go_wp2
      go_ret
      exact ⟨er, bw HB⟩
     ·rw [if_neg c12] at H
      have c12b0 : (a0_0 == 1) = false := beq_eq_false_iff_ne.mpr c12
      have c12b1 : (a0_0 != 1) = true := bne_iff_ne.mpr c12
      by_cases c14 : a0_0 = 2
      ·rw [if_pos c14] at H
       have c14b0 : (a0_0 == 2) = true := beq_iff_eq.mpr c14
       have c14b1 : (a0_0 != 2) = false := bne_eq_false_iff_eq.mpr c14
       clear c14
       obtain rfl := Option.some.inj H
       have hcz15_0 : wc.cell? ⟨gb113, 0, none⟩ = some (.int .i64 a0_0) := (blk_cell BK113.out 0).trans rfl
       have hcz15_1 : wc.cell? ⟨gb113, 1, none⟩ = some (.int .i64 a0_1) := (blk_cell BK113.out 1).trans rfl
       have hfz15_0 := blk_frozen BK113.out 0
       have hfz15_1 := blk_frozen BK113.out 1
       go_wp2
       go_ret
       exact ⟨er, bw HB⟩
      ·rw [if_neg c14] at H
       have c14b0 : (a0_0 == 2) = false := beq_eq_false_iff_ne.mpr c14
       have c14b1 : (a0_0 != 2) = true := bne_iff_ne.mpr c14
       by_cases c16 : a0_0 = 32
       ·rw [if_pos c16] at H
        have c16b0 : (a0_0 == 32) = true := beq_iff_eq.mpr c16
        have c16b1 : (a0_0 != 32) = false := bne_eq_false_iff_eq.mpr c16
        clear c16
        obtain rfl := Option.some.inj H
        have hcz17_0 : wc.cell? ⟨gb113, 0, none⟩ = some (.int .i64 a0_0) := (blk_cell BK113.out 0).trans rfl
        have hcz17_1 : wc.cell? ⟨gb113, 1, none⟩ = some (.int .i64 a0_1) := (blk_cell BK113.out 1).trans rfl
        have hfz17_0 := blk_frozen BK113.out 0
        have hfz17_1 := blk_frozen BK113.out 1
        go_wp2
        go_ret
        exact ⟨er, bw HB⟩
       ·rw [if_neg c16] at H
        have c16b0 : (a0_0 == 32) = false := beq_eq_false_iff_ne.mpr c16
        have c16b1 : (a0_0 != 32) = true := bne_iff_ne.mpr c16
        by_cases c18 : a0_0 = 34
        ·rw [if_pos c18] at H
         have c18b0 : (a0_0 == 34) = true := beq_iff_eq.mpr c18
         have c18b1 : (a0_0 != 34) = false := bne_eq_false_iff_eq.mpr c18
         clear c18
         obtain rfl := Option.some.inj H
         have hcz19_0 : wc.cell? ⟨gb113, 0, none⟩ = some (.int .i64 a0_0) := (blk_cell BK113.out 0).trans rfl
         have hcz19_1 : wc.cell? ⟨gb113, 1, none⟩ = some (.int .i64 a0_1) := (blk_cell BK113.out 1).trans rfl
         have hfz19_0 := blk_frozen BK113.out 0
         have hfz19_1 := blk_frozen BK113.out 1
         go_wp2
         go_ret
         exact ⟨er, bw HB⟩
        ·rw [if_neg c18] at H
         have c18b0 : (a0_0 == 34) = false := beq_eq_false_iff_ne.mpr c18
         have c18b1 : (a0_0 != 34) = true := bne_iff_ne.mpr c18
         by_cases c20 : a0_0 = 35
         ·rw [if_pos c20] at H
          have c20b0 : (a0_0 == 35) = true := beq_iff_eq.mpr c20
          have c20b1 : (a0_0 != 35) = false := bne_eq_false_iff_eq.mpr c20
          clear c20
          obtain rfl := Option.some.inj H
          have hcz21_0 : wc.cell? ⟨gb113, 0, none⟩ = some (.int .i64 a0_0) := (blk_cell BK113.out 0).trans rfl
          have hcz21_1 : wc.cell? ⟨gb113, 1, none⟩ = some (.int .i64 a0_1) := (blk_cell BK113.out 1).trans rfl
          have hfz21_0 := blk_frozen BK113.out 0
          have hfz21_1 := blk_frozen BK113.out 1
          go_wp2
          go_ret
          exact ⟨er, bw HB⟩
         ·rw [if_neg c20] at H
          have c20b0 : (a0_0 == 35) = false := beq_eq_false_iff_ne.mpr c20
          have c20b1 : (a0_0 != 35) = true := bne_iff_ne.mpr c20
          by_cases c22 : a0_0 = 37
          ·rw [if_pos c22] at H
           have c22b0 : (a0_0 == 37) = true := beq_iff_eq.mpr c22
           have c22b1 : (a0_0 != 37) = false := bne_eq_false_iff_eq.mpr c22
           clear c22
           obtain rfl := Option.some.inj H
           have hcz23_0 : wc.cell? ⟨gb113, 0, none⟩ = some (.int .i64 a0_0) := (blk_cell BK113.out 0).trans rfl
           have hcz23_1 : wc.cell? ⟨gb113, 1, none⟩ = some (.int .i64 a0_1) := (blk_cell BK113.out 1).trans rfl
           have hfz23_0 := blk_frozen BK113.out 0
           have hfz23_1 := blk_frozen BK113.out 1
           go_wp2
           go_ret
           exact ⟨er, bw HB⟩
          ·rw [if_neg c22] at H
           have c22b0 : (a0_0 == 37) = false := beq_eq_false_iff_ne.mpr c22
           have c22b1 : (a0_0 != 37) = true := bne_iff_ne.mpr c22
           obtain rfl := Option.some.inj H
           have hcz24_0 : wc.cell? ⟨gb113, 0, none⟩ = some (.int .i64 a0_0) := (blk_cell BK113.out 0).trans rfl
           have hcz24_1 : wc.cell? ⟨gb113, 1, none⟩ = some (.int .i64 a0_1) := (blk_cell BK113.out 1).trans rfl
           have hfz24_0 := blk_frozen BK113.out 0
           have hfz24_1 := blk_frozen BK113.out 1
           go_wp2
           go_ret
           exact ⟨er, bw HB⟩

end Go.Proofs.Ytbmjmaahcaoajaa.QFnExactHeights
