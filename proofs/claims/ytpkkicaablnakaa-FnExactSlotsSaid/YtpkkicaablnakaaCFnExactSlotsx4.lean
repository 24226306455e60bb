-- Written by this session's own program (wip/tools/xprint.py) on the seat's printed words. Lean checks it.
import Derived.Test.YtpkkicaablnakaaCFnExactSlotsx0
import Derived.Test.YtpkkicaablnakaaCFnExactSlotsx3
namespace Go.Proofs.Ytpkkicaablnakaa.QFnExactSlots
open Go.RowKit Go.Proofs.YtpkkicaablnakaaW.PrintWords Go.Proofs.YtpkkicaablnakaaW.PrintLast Go.Proofs.YtpkkicaablnakaaW.PrintMore Go.Proofs.YtpkkicaablnakaaW.PrintShort
attribute [local go_sem] max2_int min2_int max_two min_two max_three min_three max_four min_four   -- for this text's walks alone
set_option linter.unusedVariables false
set_option linter.unusedSimpArgs false

/-! ### spec_Takes: function 34 -/
def spec_Takes.j0 : Nat → Bool → List (S108) → Int → Int → Option (Int)
 | 0, _, _, _, _ => none
 | k + 1, x5, x167000, x168000, x168001 => if x5 = true then (some 2) else (if x168000 = 36 then (some 3) else (if x168000 = 32 then (if x168001 < 0 then (some 0) else (if x168001 ≥ (x167000.length : Int) then (some 0) else (if 0 ≤ x168001 then (if x168001 < (x167000.length : Int) then (some ((rd_T108 x167000 x168001).f0)) else (none)) else (none)))) else ((spec_l03Unary.f x168000).bind fun t170 => (if t170 = true then (some 1) else (if x168000 = 3 then (some 1) else (if x168000 = 4 then (some 1) else (if x168000 = 5 then (some 1) else (if x168000 = 31 then (some 1) else (if x168000 = 33 then (some 1) else (if x168000 = 34 then (some 1) else (if x168000 = 37 then (some 1) else (if x168000 = 38 then (some 1) else (some 0)))))))))))))
def spec_Takes.f (k : Nat) (l0_0 : List (S108)) (a1_0 : Int) (a1_1 : Int) : Option (Int) := (spec_l03Binary.f a1_0).bind fun t168 => (if t168 = true then (spec_Takes.j0 k true l0_0 a1_0 a1_1) else (spec_Takes.j0 k (a1_0 == 35) l0_0 a1_0 a1_1))
theorem spec_Takes.mono_l : ∀ k, (∀ y0 y1 y2 y3, LeO (spec_Takes.j0 k y0 y1 y2 y3) (spec_Takes.j0 (k + 1) y0 y1 y2 y3))
 | 0 => fun _ _ _ _ r h => by simp [spec_Takes.j0] at h
 | k + 1 => by
  have ih0 := spec_Takes.mono_l k
  ·intro y0 y1 y2 y3
   unfold spec_Takes.j0
   repeat' first
   | (with_reducible exact ih0 _ _ _ _)
   | (with_reducible exact LeO.refl _)
   | (with_reducible exact LeO.none _)
   | (with_reducible refine LeO.ite ?_ ?_)
   | (with_reducible refine LeO.bind ?_ (fun _ => ?_))
   | exact ih0 _ _ _ _
   | exact LeO.none _
   | refine LeO.ite ?_ ?_
   | refine LeO.bind ?_ (fun _ => ?_)
theorem spec_Takes.mono : ∀ a0 a1 a2 k, LeO (spec_Takes.f k a0 a1 a2) (spec_Takes.f (k + 1) a0 a1 a2) := by
 intro a0 a1 a2 k
 have ih0 := spec_Takes.mono_l k
 unfold spec_Takes.f
 repeat' first
   | (with_reducible exact ih0 _ _ _ _)
   | (with_reducible exact LeO.refl _)
   | (with_reducible exact LeO.none _)
   | (with_reducible refine LeO.ite ?_ ?_)
   | (with_reducible refine LeO.bind ?_ (fun _ => ?_))
   | exact ih0 _ _ _ _
   | exact LeO.none _
   | refine LeO.ite ?_ ?_
   | refine LeO.bind ?_ (fun _ => ?_)
set_option maxHeartbeats 8000000 in
set_option maxRecDepth 100000 in
theorem spec_Takes.calls (k : Nat) (A0_0 : Option Addr) (c0_0 : Nat) (l0_0 : List (S108)) (a1_0 : Int) (a1_1 : Int) (r : Int) (w : World) (hr0_0 : Kd.C k108 w A0_0 l0_0.length l0_0) (hc0_0 : l0_0.length ≤ c0_0) (h : spec_Takes.f k l0_0 a1_0 a1_1 = some r) :
  Calls Try.prog 34 #[.agg #[.slice A0_0 l0_0.length c0_0], .agg #[.int .i64 a1_0, .int .i64 a1_1]] w fun e w' => e = .returned (.int .i64 r) ∧ Below w.heap.size w w' := by
 have hu25 := Try.underlying25
 have hu56 := Try.underlying56
 have HR0_0 := Aside0.mk hr0_0
 have HC0_0 := Aside0.mk hc0_0
 clear hr0_0 hc0_0
 have HB := Aside0.mk (Below.refl w.heap.size w)
 have H : ((spec_l03Binary.f a1_0).bind fun t168 => (if t168 = true then (spec_Takes.j0 k true l0_0 a1_0 a1_1) else (spec_Takes.j0 k (a1_0 == 35) l0_0 a1_0 a1_1))) = some r := h
 clear h
 have HC3 := Aside0.mk H
 clear H
 go_enter Try.func34, Try.ntmps34
 go_upto_region 1 with (first | ((with_reducible refine gate_dst (N := 2) rfl ?_); (try (refine gate_guard (by rfl) ?_; dsimp only)); refine box_event ?hg (N := 2) ?hd (cs := #[.slice A0_0 l0_0.length c0_0]) (t := 25) ?hr ?_; (case hd => rfl); (case hg => rfl); (case hr => first | (go_simp; done) | (go_simp; rfl)); intro gb166 hg w4 hbox hb; have n0_ := Aside0.mk (below_step (bw HB) hb); have n1_ := Aside0.mk (hbox); have n2_ := Aside0.mk ((by rw [hg]; exact (below_size (bw HB)) : w.heap.size ≤ gb166)); have n3_ := Aside0.mk ((by rw [hg]; exact (below_size (bw HB)) : w.heap.size ≤ gb166)); clear HB; have HB := n0_; have BK166 := n1_; have GW166 := n2_; have GE166 := n3_; clear n0_ n1_ n2_ n3_; clear hb hbox hg) | ((with_reducible refine gate_dst (N := 3) rfl ?_); (try (refine gate_guard (by rfl) ?_; dsimp only)); refine box_event ?hg (N := 3) ?hd (cs := #[.int .i64 a1_0, .int .i64 a1_1]) (t := 56) ?hr ?_; (case hd => rfl); (case hg => rfl); (case hr => first | (go_simp; done) | (go_simp; rfl)); intro gb167 hg w5 hbox hb; have n0_ := Aside0.mk (blk_below (g := gb166) (o := .cells #[.slice A0_0 l0_0.length c0_0] 25 (0, 0)) (bp BK166) hb); have n1_ := Aside0.mk (below_step (bw HB) hb); have n2_ := Aside0.mk (hbox); have n3_ := Aside0.mk ((by rw [hg]; exact (below_size (bw HB)) : w.heap.size ≤ gb167)); have n4_ := Aside0.mk ((by rw [hg]; exact (below_size (bw HB)) : w.heap.size ≤ gb167)); have n5_ := Aside0.mk ((by rw [hg]; exact Nat.ne_of_lt (blk_lt (g := gb166) (o := .cells #[.slice A0_0 l0_0.length c0_0] 25 (0, 0)) (bp BK166)) : gb166 ≠ gb167)); have n6_ := Aside0.mk ((by rw [hg]; exact Nat.ne_of_gt (blk_lt (g := gb166) (o := .cells #[.slice A0_0 l0_0.length c0_0] 25 (0, 0)) (bp BK166)) : gb167 ≠ gb166)); clear BK166; clear HB; have BK166 := n0_; have HB := n1_; have BK167 := n2_; have GW167 := n3_; have GE167 := n4_; have NB166_167 := n5_; have NB167_166 := n6_; clear n0_ n1_ n2_ n3_ n4_ n5_ n6_; clear hb hbox hg))
 (try simp only [Act.put, List.setIfInBounds_toArray, List.set_cons_zero, List.set_cons_succ])
 go_cut [5] (fun v5 wc => ∃ (kq : Nat) (x5_2 : Bool), v5 = .bool x5_2 ∧ Aside0 (spec_Takes.j0 kq x5_2 l0_0 a1_0 a1_1 = some r) ∧ Aside0 (kq ≤ k) ∧ Aside0 (wc.heap[gb166]? = some (.cells #[(.slice A0_0 l0_0.length c0_0)] 25 (0, 0))) ∧ Aside0 (wc.heap[gb167]? = some (.cells #[.int .i64 a1_0, .int .i64 a1_1] 56 (0, 0))) ∧ Aside0 (Below w.heap.size w wc))
 case first =>
  have H := HC3.out
  clear HC3
  replace H := Option.bind_eq_some_iff.mp H
  obtain ⟨t168, A60, H⟩ := H
  replace H : (if t168 = true then (spec_Takes.j0 k true l0_0 a1_0 a1_1) else (spec_Takes.j0 k (a1_0 == 35) l0_0 a1_0 a1_1)) = some r := H
  have A6 := Aside0.mk A60
  clear A60
  by_cases c7 : t168 = true
  ·subst c7
   have H1 : (spec_Takes.j0 k true l0_0 a1_0 a1_1) = some r := by rw [if_pos rfl] at H; exact H
   clear H
   have H := H1
   clear H1
   have H' := Aside0.mk H
   clear H
   have hnb8 := NB167_166.out
   have hnc8 := NB166_167.out
   have hcz9_0 : w5.cell? ⟨gb167, 0, none⟩ = some (.int .i64 a1_0) := (blk_cell BK167.out 0).trans rfl
   have hcz9_1 : w5.cell? ⟨gb167, 1, none⟩ = some (.int .i64 a1_1) := (blk_cell BK167.out 1).trans rfl
   have hfz9_0 := blk_frozen BK167.out 0
   have hfz9_1 := blk_frozen BK167.out 1
   go_wp2_with (first | ((with_reducible refine gate_callee (f := 85) rfl ?_); refine goesL_ (some 8) rfl rfl Try.func85 (by kernel_rfl) rfl #[.int .i64 a1_0] rfl gl ?_; (with_reducible refine (spec_l03Binary.calls a1_0 true _ A6.out).mono ?_); rintro e w' ⟨rfl, ⟨nd, rfl⟩⟩; refine ⟨_, rfl, ?_⟩))
   go_meet
   case rel => exact ⟨_, (true), dr, H', ⟨by first | omega | exact Nat.le_refl _⟩, ⟨bp BK166⟩, ⟨bp BK167⟩, ⟨bw HB⟩⟩
  ·replace c7 := Bool.eq_false_iff.mpr c7
   subst c7
   have H1 : (spec_Takes.j0 k (a1_0 == 35) l0_0 a1_0 a1_1) = some r := by rw [if_neg (show ¬ (false = true) by decide)] at H; exact H
   clear H
   have H := H1
   clear H1
   have H' := Aside0.mk H
   clear H
   have hnb10 := NB167_166.out
   have hnc10 := NB166_167.out
   have hcz11_0 : w5.cell? ⟨gb167, 0, none⟩ = some (.int .i64 a1_0) := (blk_cell BK167.out 0).trans rfl
   have hcz11_1 : w5.cell? ⟨gb167, 1, none⟩ = some (.int .i64 a1_1) := (blk_cell BK167.out 1).trans rfl
   have hfz11_0 := blk_frozen BK167.out 0
   have hfz11_1 := blk_frozen BK167.out 1
   go_wp2_with (first | ((with_reducible refine gate_callee (f := 85) rfl ?_); refine goesL_ (some 8) rfl rfl Try.func85 (by kernel_rfl) rfl #[.int .i64 a1_0] rfl gl ?_; (with_reducible refine (spec_l03Binary.calls a1_0 false _ A6.out).mono ?_); rintro e w' ⟨rfl, ⟨nd, rfl⟩⟩; refine ⟨_, rfl, ?_⟩))
   go_meet
   case rel => exact ⟨_, ((a1_0 == 35)), dr, H', ⟨by first | omega | exact Nat.le_refl _⟩, ⟨bp BK166⟩, ⟨bp BK167⟩, ⟨bw HB⟩⟩
 case rest =>
  clear HC3
  (try clear c1); (try clear p2); (try clear c3); (try clear c7); (try clear c8); (try clear c10); (try clear hcz11_0); (try clear hcz11_1); (try clear hcz9_0); (try clear hcz9_1); (try clear hfz11_0); (try clear hfz11_1); (try clear hfz9_0); (try clear hfz9_1)
  obtain ⟨kq, x5_2, rfl, HA, HJ2, BK166, BK167, HB⟩ := hcut
  cases kq with
  | zero => exact absurd HA.out (by simp [spec_Takes.j0])
  | succ kj2 =>
   have H := HA.out
   clear HA
   simp only [spec_Takes.j0] at H
   by_cases c12 : x5_2 = true
   ·subst c12
    have H1 : (some 2) = some r := by rw [if_pos rfl] at H; exact H
    clear H
    have H := H1
    clear H1
    obtain rfl := Option.some.inj H
    go_wp2
    go_ret
    exact ⟨by first | rfl | (simp [errW_none, errW_some] <;> rfl) | (simp [*, errW_none, errW_some] <;> rfl), bw HB⟩
   ·replace c12 := Bool.eq_false_iff.mpr c12
    subst c12
    have H1 : (if a1_0 = 36 then (some 3) else (if a1_0 = 32 then (if a1_1 < 0 then (some 0) else (if a1_1 ≥ (l0_0.length : Int) then (some 0) else (if 0 ≤ a1_1 then (if a1_1 < (l0_0.length : Int) then (some ((rd_T108 l0_0 a1_1).f0)) else (none)) else (none)))) else ((spec_l03Unary.f a1_0).bind fun t170 => (if t170 = true then (some 1) else (if a1_0 = 3 then (some 1) else (if a1_0 = 4 then (some 1) else (if a1_0 = 5 then (some 1) else (if a1_0 = 31 then (some 1) else (if a1_0 = 33 then (some 1) else (if a1_0 = 34 then (some 1) else (if a1_0 = 37 then (some 1) else (if a1_0 = 38 then (some 1) else (some 0))))))))))))) = some r := by rw [if_neg (show ¬ (false = true) by decide)] at H; exact H
    clear H
    have H := H1
    clear H1
    by_cases c13 : a1_0 = 36
    ·rw [if_pos c13] at H
     have c13b0 : (a1_0 == 36) = true := beq_iff_eq.mpr c13
     have c13b1 : (a1_0 != 36) = false := bne_eq_false_iff_eq.mpr c13
     clear c13
     obtain rfl := Option.some.inj H
     have hnb14 := NB167_166.out
     have hnc14 := NB166_167.out
     have hcz15_0 : wc.cell? ⟨gb167, 0, none⟩ = some (.int .i64 a1_0) := (blk_cell BK167.out 0).trans rfl
     have hcz15_1 : wc.cell? ⟨gb167, 1, none⟩ = some (.int .i64 a1_1) := (blk_cell BK167.out 1).trans rfl
     have hfz15_0 := blk_frozen BK167.out 0
     have hfz15_1 := blk_frozen BK167.out 1
     go_wp2
     go_ret
     exact ⟨by first | rfl | (simp [errW_none, errW_some] <;> rfl) | (simp [*, errW_none, errW_some] <;> rfl), bw HB⟩
    ·rw [if_neg c13] at H
     have c13b0 : (a1_0 == 36) = false := beq_eq_false_iff_ne.mpr c13
     have c13b1 : (a1_0 != 36) = true := bne_iff_ne.mpr c13
     by_cases c16 : a1_0 = 32
     ·rw [if_pos c16] at H
      have c16b0 : (a1_0 == 32) = true := beq_iff_eq.mpr c16
      have c16b1 : (a1_0 != 32) = false := bne_eq_false_iff_eq.mpr c16
      clear c16
      by_cases c17 : a1_1 < 0
      ·rw [if_pos c17] at H
       have c17b0 : decide (a1_1 < 0) = true := decide_eq_true c17
       clear c17
       obtain rfl := Option.some.inj H
       have hnb18 := NB167_166.out
       have hnc18 := NB166_167.out
       have hcz19_0 : wc.cell? ⟨gb167, 0, none⟩ = some (.int .i64 a1_0) := (blk_cell BK167.out 0).trans rfl
       have hcz19_1 : wc.cell? ⟨gb167, 1, none⟩ = some (.int .i64 a1_1) := (blk_cell BK167.out 1).trans rfl
       have hfz19_0 := blk_frozen BK167.out 0
       have hfz19_1 := blk_frozen BK167.out 1
       go_wp2
       go_ret
       exact ⟨by first | rfl | (simp [errW_none, errW_some] <;> rfl) | (simp [*, errW_none, errW_some] <;> rfl), bw HB⟩
      ·rw [if_neg c17] at H
       have c17b0 : decide (a1_1 < 0) = false := decide_eq_false c17
       clear c17
       by_cases c20 : a1_1 ≥ (l0_0.length : Int)
       ·rw [if_pos c20] at H
        have c20b0 : decide ((l0_0.length : Int) ≤ a1_1) = true := decide_eq_true c20
        clear c20
        obtain rfl := Option.some.inj H
        have hnb21 := NB167_166.out
        have hnc21 := NB166_167.out
        have hcz22_0 : wc.cell? ⟨gb167, 0, none⟩ = some (.int .i64 a1_0) := (blk_cell BK167.out 0).trans rfl
        have hcz22_1 : wc.cell? ⟨gb167, 1, none⟩ = some (.int .i64 a1_1) := (blk_cell BK167.out 1).trans rfl
        have hfz22_0 := blk_frozen BK167.out 0
        have hfz22_1 := blk_frozen BK167.out 1
        have hcz23_0 : wc.cell? ⟨gb166, 0, none⟩ = some (.slice A0_0 l0_0.length c0_0) := (blk_cell BK166.out 0).trans rfl
        have hfz23_0 := blk_frozen BK166.out 0
        go_wp2
        go_ret
        exact ⟨by first | rfl | (simp [errW_none, errW_some] <;> rfl) | (simp [*, errW_none, errW_some] <;> rfl), bw HB⟩
       ·rw [if_neg c20] at H
        have c20b0 : decide ((l0_0.length : Int) ≤ a1_1) = false := decide_eq_false c20
        clear c20
        by_cases c24 : 0 ≤ a1_1
        ·rw [if_pos c24] at H
         have c24b0 : decide (0 ≤ a1_1) = true := decide_eq_true c24
         clear c24
         by_cases c25 : a1_1 < (l0_0.length : Int)
         ·rw [if_pos c25] at H
          have c25b0 : decide (a1_1 < (l0_0.length : Int)) = true := decide_eq_true c25
          clear c25
          obtain rfl := Option.some.inj H
          have hnb26 := NB167_166.out
          have hnc26 := NB166_167.out
          have hcz27_0 : wc.cell? ⟨gb167, 0, none⟩ = some (.int .i64 a1_0) := (blk_cell BK167.out 0).trans rfl
          have hcz27_1 : wc.cell? ⟨gb167, 1, none⟩ = some (.int .i64 a1_1) := (blk_cell BK167.out 1).trans rfl
          have hfz27_0 := blk_frozen BK167.out 0
          have hfz27_1 := blk_frozen BK167.out 1
          have hcz28_0 : wc.cell? ⟨gb166, 0, none⟩ = some (.slice A0_0 l0_0.length c0_0) := (blk_cell BK166.out 0).trans rfl
          have hfz28_0 := blk_frozen BK166.out 0
          have p169 : 0 ≤ (a1_1 : Int) := of_decide_eq_true as1
          have q169 : a1_1 < (l0_0.length : Int) := of_decide_eq_true as1
          obtain ⟨ad169, A169_2, c169_2, e169, hx169_0, hx169_1, hx169_2, hl169_2, hi169_2⟩ := at_T108 HR0_0.out a1_1 p169 q169
          cases e169
          replace hx169_0 := (HB.out.cell (World.block_lt_of_cell? w _ hx169_0)).trans hx169_0
          replace hx169_1 := (HB.out.cell (World.block_lt_of_cell? w _ hx169_1)).trans hx169_1
          replace hx169_2 := (HB.out.cell (World.block_lt_of_cell? w _ hx169_2)).trans hx169_2
          have HR169_2 := Aside0.mk hi169_2
          have HC169_2 := Aside0.mk hl169_2
          clear hi169_2 hl169_2
          replace p169 := eq_true p169
          replace q169 := eq_true q169
          go_wp2
          go_ret
          exact ⟨by first | rfl | (simp [errW_none, errW_some] <;> rfl) | (simp [*, errW_none, errW_some] <;> rfl), bw HB⟩
         ·rw [if_neg c25] at H
          exact absurd H (by simp)
        ·rw [if_neg c24] at H
         exact absurd H (by simp)
     ·rw [if_neg c16] at H
      have c16b0 : (a1_0 == 32) = false := beq_eq_false_iff_ne.mpr c16
      have c16b1 : (a1_0 != 32) = true := bne_iff_ne.mpr c16
      replace H := Option.bind_eq_some_iff.mp H
      obtain ⟨t170, A290, H⟩ := H
      replace H : (if t170 = true then (some 1) else (if a1_0 = 3 then (some 1) else (if a1_0 = 4 then (some 1) else (if a1_0 = 5 then (some 1) else (if a1_0 = 31 then (some 1) else (if a1_0 = 33 then (some 1) else (if a1_0 = 34 then (some 1) else (if a1_0 = 37 then (some 1) else (if a1_0 = 38 then (some 1) else (some 0)))))))))) = some r := H
      have A29 := Aside0.mk A290
      clear A290
      by_cases c30 : t170 = true
      ·subst c30
       have H1 : (some 1) = some r := by rw [if_pos rfl] at H; exact H
       clear H
       have H := H1
       clear H1
       obtain rfl := Option.some.inj H
       have hnb31 := NB167_166.out
       have hnc31 := NB166_167.out
       have hcz32_0 : wc.cell? ⟨gb167, 0, none⟩ = some (.int .i64 a1_0) := (blk_cell BK167.out 0).trans rfl
       have hcz32_1 : wc.cell? ⟨gb167, 1, none⟩ = some (.int .i64 a1_1) := (blk_cell BK167.out 1).trans rfl
       have hfz32_0 := blk_frozen BK167.out 0
       have hfz32_1 := blk_frozen BK167.out 1
       go_wp2_with (first | ((with_reducible refine gate_callee (f := 86) rfl ?_); refine goesL_ (some 43) rfl rfl Try.func86 (by kernel_rfl) rfl #[.int .i64 a1_0] rfl gl ?_; (with_reducible refine (spec_l03Unary.calls a1_0 true _ A29.out).mono ?_); rintro e w' ⟨rfl, ⟨nd, rfl⟩⟩; refine ⟨_, rfl, ?_⟩))
       go_ret
       exact ⟨by first | rfl | (simp [errW_none, errW_some] <;> rfl) | (simp [*, errW_none, errW_some] <;> rfl), bw HB⟩
      ·replace c30 := Bool.eq_false_iff.mpr c30
       subst c30
       have H1 : (if a1_0 = 3 then (some 1) else (if a1_0 = 4 then (some 1) else (if a1_0 = 5 then (some 1) else (if a1_0 = 31 then (some 1) else (if a1_0 = 33 then (some 1) else (if a1_0 = 34 then (some 1) else (if a1_0 = 37 then (some 1) else (if a1_0 = 38 then (some 1) else (some 0))))))))) = some r := by rw [if_neg (show ¬ (false = true) by decide)] at H; exact H
       clear H
       have H := H1
       clear H1
       by_cases c33 : a1_0 = 3
       ·rw [if_pos c33] at H
        have c33b0 : (a1_0 == 3) = true := beq_iff_eq.mpr c33
        have c33b1 : (a1_0 != 3) = false := bne_eq_false_iff_eq.mpr c33
        clear c33
        obtain rfl := Option.some.inj H
        have hnb34 := NB167_166.out
        have hnc34 := NB166_167.out
        have hcz35_0 : wc.cell? ⟨gb167, 0, none⟩ = some (.int .i64 a1_0) := (blk_cell BK167.out 0).trans rfl
        have hcz35_1 : wc.cell? ⟨gb167, 1, none⟩ = some (.int .i64 a1_1) := (blk_cell BK167.out 1).trans rfl
        have hfz35_0 := blk_frozen BK167.out 0
        have hfz35_1 := blk_frozen BK167.out 1
        go_wp2_with (first | ((with_reducible refine gate_callee (f := 86) rfl ?_); refine goesL_ (some 43) rfl rfl Try.func86 (by kernel_rfl) rfl #[.int .i64 a1_0] rfl gl ?_; (with_reducible refine (spec_l03Unary.calls a1_0 false _ A29.out).mono ?_); rintro e w' ⟨rfl, ⟨nd, rfl⟩⟩; refine ⟨_, rfl, ?_⟩))
        go_ret
        exact ⟨by first | rfl | (simp [errW_none, errW_some] <;> rfl) | (simp [*, errW_none, errW_some] <;> rfl), bw HB⟩
       ·rw [if_neg c33] at H
        have c33b0 : (a1_0 == 3) = false := beq_eq_false_iff_ne.mpr c33
        have c33b1 : (a1_0 != 3) = true := bne_iff_ne.mpr c33
        by_cases c36 : a1_0 = 4
        ·rw [if_pos c36] at H
         have c36b0 : (a1_0 == 4) = true := beq_iff_eq.mpr c36
         have c36b1 : (a1_0 != 4) = false := bne_eq_false_iff_eq.mpr c36
         clear c36
         obtain rfl := Option.some.inj H
         have hnb37 := NB167_166.out
         have hnc37 := NB166_167.out
         have hcz38_0 : wc.cell? ⟨gb167, 0, none⟩ = some (.int .i64 a1_0) := (blk_cell BK167.out 0).trans rfl
         have hcz38_1 : wc.cell? ⟨gb167, 1, none⟩ = some (.int .i64 a1_1) := (blk_cell BK167.out 1).trans rfl
         have hfz38_0 := blk_frozen BK167.out 0
         have hfz38_1 := blk_frozen BK167.out 1
         go_wp2_with (first | ((with_reducible refine gate_callee (f := 86) rfl ?_); refine goesL_ (some 43) rfl rfl Try.func86 (by kernel_rfl) rfl #[.int .i64 a1_0] rfl gl ?_; (with_reducible refine (spec_l03Unary.calls a1_0 false _ A29.out).mono ?_); rintro e w' ⟨rfl, ⟨nd, rfl⟩⟩; refine ⟨_, rfl, ?_⟩))
         go_ret
         exact ⟨by first | rfl | (simp [errW_none, errW_some] <;> rfl) | (simp [*, errW_none, errW_some] <;> rfl), bw HB⟩
        ·rw [if_neg c36] at H
         have c36b0 : (a1_0 == 4) = false := beq_eq_false_iff_ne.mpr c36
         have c36b1 : (a1_0 != 4) = true := bne_iff_ne.mpr c36
         by_cases c39 : a1_0 = 5
         ·rw [if_pos c39] at H
          have c39b0 : (a1_0 == 5) = true := beq_iff_eq.mpr c39
          have c39b1 : (a1_0 != 5) = false := bne_eq_false_iff_eq.mpr c39
          clear c39
          obtain rfl := Option.some.inj H
          have hnb40 := NB167_166.out
          have hnc40 := NB166_167.out
          have hcz41_0 : wc.cell? ⟨gb167, 0, none⟩ = some (.int .i64 a1_0) := (blk_cell BK167.out 0).trans rfl
          have hcz41_1 : wc.cell? ⟨gb167, 1, none⟩ = some (.int .i64 a1_1) := (blk_cell BK167.out 1).trans rfl
          have hfz41_0 := blk_frozen BK167.out 0
          have hfz41_1 := blk_frozen BK167.out 1
          go_wp2_with (first | ((with_reducible refine gate_callee (f := 86) rfl ?_); refine goesL_ (some 43) rfl rfl Try.func86 (by kernel_rfl) rfl #[.int .i64 a1_0] rfl gl ?_; (with_reducible refine (spec_l03Unary.calls a1_0 false _ A29.out).mono ?_); rintro e w' ⟨rfl, ⟨nd, rfl⟩⟩; refine ⟨_, rfl, ?_⟩))
          go_ret
          exact ⟨by first | rfl | (simp [errW_none, errW_some] <;> rfl) | (simp [*, errW_none, errW_some] <;> rfl), bw HB⟩
         ·rw [if_neg c39] at H
          have c39b0 : (a1_0 == 5) = false := beq_eq_false_iff_ne.mpr c39
          have c39b1 : (a1_0 != 5) = true := bne_iff_ne.mpr c39
          by_cases c42 : a1_0 = 31
          ·rw [if_pos c42] at H
           have c42b0 : (a1_0 == 31) = true := beq_iff_eq.mpr c42
           have c42b1 : (a1_0 != 31) = false := bne_eq_false_iff_eq.mpr c42
           clear c42
           obtain rfl := Option.some.inj H
           have hnb43 := NB167_166.out
           have hnc43 := NB166_167.out
           have hcz44_0 : wc.cell? ⟨gb167, 0, none⟩ = some (.int .i64 a1_0) := (blk_cell BK167.out 0).trans rfl
           have hcz44_1 : wc.cell? ⟨gb167, 1, none⟩ = some (.int .i64 a1_1) := (blk_cell BK167.out 1).trans rfl
           have hfz44_0 := blk_frozen BK167.out 0
           have hfz44_1 := blk_frozen BK167.out 1
           go_wp2_with (first | ((with_reducible refine gate_callee (f := 86) rfl ?_); refine goesL_ (some 43) rfl rfl Try.func86 (by kernel_rfl) rfl #[.int .i64 a1_0] rfl gl ?_; (with_reducible refine (spec_l03Unary.calls a1_0 false _ A29.out).mono ?_); rintro e w' ⟨rfl, ⟨nd, rfl⟩⟩; refine ⟨_, rfl, ?_⟩))
           go_ret
           exact ⟨by first | rfl | (simp [errW_none, errW_some] <;> rfl) | (simp [*, errW_none, errW_some] <;> rfl), bw HB⟩
          ·rw [if_neg c42] at H
           have c42b0 : (a1_0 == 31) = false := beq_eq_false_iff_ne.mpr c42
           have c42b1 : (a1_0 != 31) = true := bne_iff_ne.mpr c42
           by_cases c45 : a1_0 = 33
           ·rw [if_pos c45] at H
            have c45b0 : (a1_0 == 33) = true := beq_iff_eq.mpr c45
            have c45b1 : (a1_0 != 33) = false := bne_eq_false_iff_eq.mpr c45
            clear c45
            obtain rfl := Option.some.inj H
            have hnb46 := NB167_166.out
            have hnc46 := NB166_167.out
            have hcz47_0 : wc.cell? ⟨gb167, 0, none⟩ = some (.int .i64 a1_0) := (blk_cell BK167.out 0).trans rfl
            have hcz47_1 : wc.cell? ⟨gb167, 1, none⟩ = some (.int .i64 a1_1) := (blk_cell BK167.out 1).trans rfl
            have hfz47_0 := blk_frozen BK167.out 0
            have hfz47_1 := blk_frozen BK167.out 1
            go_wp2_with (first | ((with_reducible refine gate_callee (f := 86) rfl ?_); refine goesL_ (some 43) rfl rfl Try.func86 (by kernel_rfl) rfl #[.int .i64 a1_0] rfl gl ?_; (with_reducible refine (spec_l03Unary.calls a1_0 false _ A29.out).mono ?_); rintro e w' ⟨rfl, ⟨nd, rfl⟩⟩; refine ⟨_, rfl, ?_⟩))
            go_ret
            exact ⟨by first | rfl | (simp [errW_none, errW_some] <;> rfl) | (simp [*, errW_none, errW_some] <;> rfl), bw HB⟩
           ·rw [if_neg c45] at H
            have c45b0 : (a1_0 == 33) = false := beq_eq_false_iff_ne.mpr c45
            have c45b1 : (a1_0 != 33) = true := bne_iff_ne.mpr c45
            by_cases c48 : a1_0 = 34
            ·rw [if_pos c48] at H
             have c48b0 : (a1_0 == 34) = true := beq_iff_eq.mpr c48
             have c48b1 : (a1_0 != 34) = false := bne_eq_false_iff_eq.mpr c48
             clear c48
             obtain rfl := Option.some.inj H
             have hnb49 := NB167_166.out
             have hnc49 := NB166_167.out
             have hcz50_0 : wc.cell? ⟨gb167, 0, none⟩ = some (.int .i64 a1_0) := (blk_cell BK167.out 0).trans rfl
             have hcz50_1 : wc.cell? ⟨gb167, 1, none⟩ = some (.int .i64 a1_1) := (blk_cell BK167.out 1).trans rfl
             have hfz50_0 := blk_frozen BK167.out 0
             have hfz50_1 := blk_frozen BK167.out 1
             go_wp2_with (first | ((with_reducible refine gate_callee (f := 86) rfl ?_); refine goesL_ (some 43) rfl rfl Try.func86 (by kernel_rfl) rfl #[.int .i64 a1_0] rfl gl ?_; (with_reducible refine (spec_l03Unary.calls a1_0 false _ A29.out).mono ?_); rintro e w' ⟨rfl, ⟨nd, rfl⟩⟩; refine ⟨_, rfl, ?_⟩))
             go_ret
             exact ⟨by first | rfl | (simp [errW_none, errW_some] <;> rfl) | (simp [*, errW_none, errW_some] <;> rfl), bw HB⟩
            ·rw [if_neg c48] at H
             have c48b0 : (a1_0 == 34) = false := beq_eq_false_iff_ne.mpr c48
             have c48b1 : (a1_0 != 34) = true := bne_iff_ne.mpr c48
             by_cases c51 : a1_0 = 37
             ·rw [if_pos c51] at H
              have c51b0 : (a1_0 == 37) = true := beq_iff_eq.mpr c51
              have c51b1 : (a1_0 != 37) = false := bne_eq_false_iff_eq.mpr c51
              clear c51
              obtain rfl := Option.some.inj H
              have hnb52 := NB167_166.out
              have hnc52 := NB166_167.out
              have hcz53_0 : wc.cell? ⟨gb167, 0, none⟩ = some (.int .i64 a1_0) := (blk_cell BK167.out 0).trans rfl
              have hcz53_1 : wc.cell? ⟨gb167, 1, none⟩ = some (.int .i64 a1_1) := (blk_cell BK167.out 1).trans rfl
              have hfz53_0 := blk_frozen BK167.out 0
              have hfz53_1 := blk_frozen BK167.out 1
              go_wp2_with (first | ((with_reducible refine gate_callee (f := 86) rfl ?_); refine goesL_ (some 43) rfl rfl Try.func86 (by kernel_rfl) rfl #[.int .i64 a1_0] rfl gl ?_; (with_reducible refine (spec_l03Unary.calls a1_0 false _ A29.out).mono ?_); rintro e w' ⟨rfl, ⟨nd, rfl⟩⟩; refine ⟨_, rfl, ?_⟩))
              go_ret
              exact ⟨by first | rfl | (simp [errW_none, errW_some] <;> rfl) | (simp [*, errW_none, errW_some] <;> rfl), bw HB⟩
             ·rw [if_neg c51] at H
              have c51b0 : (a1_0 == 37) = false := beq_eq_false_iff_ne.mpr c51
              have c51b1 : (a1_0 != 37) = true := bne_iff_ne.mpr c51
              by_cases c54 : a1_0 = 38
              ·rw [if_pos c54] at H
               have c54b0 : (a1_0 == 38) = true := beq_iff_eq.mpr c54
               have c54b1 : (a1_0 != 38) = false := bne_eq_false_iff_eq.mpr c54
               clear c54
               obtain rfl := Option.some.inj H
               have hnb55 := NB167_166.out
               have hnc55 := NB166_167.out
               have hcz56_0 : wc.cell? ⟨gb167, 0, none⟩ = some (.int .i64 a1_0) := (blk_cell BK167.out 0).trans rfl
               have hcz56_1 : wc.cell? ⟨gb167, 1, none⟩ = some (.int .i64 a1_1) := (blk_cell BK167.out 1).trans rfl
               have hfz56_0 := blk_frozen BK167.out 0
               have hfz56_1 := blk_frozen BK167.out 1
               go_wp2_with (first | ((with_reducible refine gate_callee (f := 86) rfl ?_); refine goesL_ (some 43) rfl rfl Try.func86 (by kernel_rfl) rfl #[.int .i64 a1_0] rfl gl ?_; (with_reducible refine (spec_l03Unary.calls a1_0 false _ A29.out).mono ?_); rintro e w' ⟨rfl, ⟨nd, rfl⟩⟩; refine ⟨_, rfl, ?_⟩))
               go_ret
               exact ⟨by first | rfl | (simp [errW_none, errW_some] <;> rfl) | (simp [*, errW_none, errW_some] <;> rfl), bw HB⟩
              ·rw [if_neg c54] at H
               have c54b0 : (a1_0 == 38) = false := beq_eq_false_iff_ne.mpr c54
               have c54b1 : (a1_0 != 38) = true := bne_iff_ne.mpr c54
               obtain rfl := Option.some.inj H
               have hnb57 := NB167_166.out
               have hnc57 := NB166_167.out
               have hcz58_0 : wc.cell? ⟨gb167, 0, none⟩ = some (.int .i64 a1_0) := (blk_cell BK167.out 0).trans rfl
               have hcz58_1 : wc.cell? ⟨gb167, 1, none⟩ = some (.int .i64 a1_1) := (blk_cell BK167.out 1).trans rfl
               have hfz58_0 := blk_frozen BK167.out 0
               have hfz58_1 := blk_frozen BK167.out 1
               go_wp2_with (first | ((with_reducible refine gate_callee (f := 86) rfl ?_); refine goesL_ (some 43) rfl rfl Try.func86 (by kernel_rfl) rfl #[.int .i64 a1_0] rfl gl ?_; (with_reducible refine (spec_l03Unary.calls a1_0 false _ A29.out).mono ?_); rintro e w' ⟨rfl, ⟨nd, rfl⟩⟩; refine ⟨_, rfl, ?_⟩))
               go_ret
               exact ⟨by first | rfl | (simp [errW_none, errW_some] <;> rfl) | (simp [*, errW_none, errW_some] <;> rfl), bw HB⟩

/-! ### spec_l04Least: function 156 -/
def spec_l04Least.l0 : Nat → List Bool → Int → Option (Int)
 | 0, _, _ => none
 | k + 1, x0, x3 => if x3 < (x0.length : Int) then (if 0 ≤ x3 then (if rdOf false x0 x3 = true then (some x3) else (spec_l04Least.l0 k x0 (wrap64 (x3 + 1)))) else (none)) else (some (-1))
def spec_l04Least.f (k : Nat) (l0 : List Bool) : Option (Int) := spec_l04Least.l0 k l0 0
theorem spec_l04Least.mono_l : ∀ k, (∀ y0 y1, LeO (spec_l04Least.l0 k y0 y1) (spec_l04Least.l0 (k + 1) y0 y1))
 | 0 => fun _ _ r h => by simp [spec_l04Least.l0] at h
 | k + 1 => by
  have ih0 := spec_l04Least.mono_l k
  ·intro y0 y1
   unfold spec_l04Least.l0
   repeat' first
   | (with_reducible exact ih0 _ _)
   | (with_reducible exact LeO.refl _)
   | (with_reducible exact LeO.none _)
   | (with_reducible refine LeO.ite ?_ ?_)
   | (with_reducible refine LeO.bind ?_ (fun _ => ?_))
   | exact ih0 _ _
   | exact LeO.none _
   | refine LeO.ite ?_ ?_
   | refine LeO.bind ?_ (fun _ => ?_)
theorem spec_l04Least.mono : ∀ a0 k, LeO (spec_l04Least.f k a0) (spec_l04Least.f (k + 1) a0) := by
 intro a0 k
 have ih0 := spec_l04Least.mono_l k
 unfold spec_l04Least.f
 repeat' first
   | (with_reducible exact ih0 _ _)
   | (with_reducible exact LeO.refl _)
   | (with_reducible exact LeO.none _)
   | (with_reducible refine LeO.ite ?_ ?_)
   | (with_reducible refine LeO.bind ?_ (fun _ => ?_))
   | exact ih0 _ _
   | exact LeO.none _
   | refine LeO.ite ?_ ?_
   | refine LeO.bind ?_ (fun _ => ?_)
set_option maxHeartbeats 8000000 in
set_option maxRecDepth 100000 in
theorem spec_l04Least.calls (k : Nat) (A0 : Option Addr) (c0 : Nat) (l0 : List Bool) (r : Int) (w : World) (hr0 : Kd.C Kd.bool w A0 l0.length l0) (hc0 : l0.length ≤ c0) (h : spec_l04Least.f k l0 = some r) :
  Calls Try.prog 156 #[.slice A0 l0.length c0] w fun e w' => e = .returned (.int .i64 r) ∧ Drawn0 w w' := by
 have HR0 := Aside0.mk hr0
 have HC0 := Aside0.mk hc0
 clear hr0 hc0
 have H : (spec_l04Least.l0 k l0 0) = some r := h
 clear h
 have H' := Aside0.mk H
 clear H
 go_enter Try.func156, Try.ntmps156
 go_wp2
 go_loopg [3] k (fun kq v3 w' => ∃ (x3_1 : Int), v3 = .int .i64 x3_1 ∧ Aside0 (spec_l04Least.l0 kq l0 x3_1 = some r) ∧ Aside0 (kq ≤ k) ∧ Drawn0 w w')
 case atStart => exact ⟨(0), dr, H', ⟨Nat.le_refl _⟩, by repeat (first | exact Drawn0.refl _ | apply Drawn0.step)⟩
 case round =>
  clear H'
  try clear c1
  obtain ⟨x3_1, rfl, HA, HK1, ⟨m1, rfl⟩⟩ := hrel
  cases gk with
  | zero => exact absurd HA.out (by simp [spec_l04Least.l0])
  | succ k1 =>
   have H := HA.out
   clear HA
   simp only [spec_l04Least.l0] at H
   by_cases c2 : x3_1 < (l0.length : Int)
   ·rw [if_pos c2] at H
    have c2b0 : decide (x3_1 < (l0.length : Int)) = true := decide_eq_true c2
    clear c2
    by_cases c3 : 0 ≤ x3_1
    ·rw [if_pos c3] at H
     have c3b0 : decide (0 ≤ x3_1) = true := decide_eq_true c3
     clear c3
     obtain ⟨bq4, hbq4⟩ : ∃ b_ : Bool, b_ = (rdOf false l0 x3_1) := ⟨_, rfl⟩
     replace H : (if bq4 = true then (some x3_1) else (spec_l04Least.l0 k1 l0 (wrap64 (x3_1 + 1)))) = some r := by rw [← hbq4] at H; exact H
     have Nbq4 := Aside0.mk hbq4
     clear hbq4
     by_cases c5 : bq4 = true
     ·subst c5
      have H1 : (some x3_1) = some r := by rw [if_pos rfl] at H; exact H
      clear H
      have H := H1
      clear H1
      obtain rfl := Option.some.inj H
      have p171 : 0 ≤ (x3_1 : Int) := of_decide_eq_true as1
      have q171 : x3_1 < (l0.length : Int) := of_decide_eq_true as1
      obtain ⟨ad171, e171, hx171_0⟩ := Kd.at_bool HR0.out x3_1 p171 q171
      (try rw [← Nbq4.out] at hx171_0)
      cases e171
      replace p171 := eq_true p171
      replace q171 := eq_true q171
      go_wp2
      go_ret
      exact ⟨by first | rfl | (simp; done) | (simp [*]; done), by repeat (first | exact Drawn0.refl _ | apply Drawn0.step)⟩
     ·replace c5 := Bool.eq_false_iff.mpr c5
      subst c5
      have H1 : (spec_l04Least.l0 k1 l0 (wrap64 (x3_1 + 1))) = some r := by rw [if_neg (show ¬ (false = true) by decide)] at H; exact H
      clear H
      have H := H1
      clear H1
      have H' := Aside0.mk H
      clear H
      have p171 : 0 ≤ (x3_1 : Int) := of_decide_eq_true as1
      have q171 : x3_1 < (l0.length : Int) := of_decide_eq_true as1
      obtain ⟨ad171, e171, hx171_0⟩ := Kd.at_bool HR0.out x3_1 p171 q171
      (try rw [← Nbq4.out] at hx171_0)
      cases e171
      replace p171 := eq_true p171
      replace q171 := eq_true q171
      go_wp2
      go_roundg k1
      case measure => have := HK1.out; omega
      case rel => exact ⟨(wrap64 (x3_1 + 1)), dr, H', ⟨by have := HK1.out; omega⟩, by repeat (first | exact Drawn0.refl _ | apply Drawn0.step)⟩
    ·rw [if_neg c3] at H
     exact absurd H (by simp)
   ·rw [if_neg c2] at H
    have c2b0 : decide (x3_1 < (l0.length : Int)) = false := decide_eq_false c2
    clear c2
    obtain rfl := Option.some.inj H
    go_wp2
    go_ret
    exact ⟨by first | rfl | (simp; done) | (simp [*]; done), by repeat (first | exact Drawn0.refl _ | apply Drawn0.step)⟩

/-! ### spec_Puts: function 157 -/
def spec_Puts.j0 : Nat → Bool → Int → Int → Option (Int)
 | 0, _, _, _ => none
 | k + 1, x10, x173000, x173001 => if x10 = true then (some 1) else (if x173000 = 4 then (some 2) else (if x173000 = 1 then (some 1) else (if x173000 = 2 then (some 1) else (if x173000 = 32 then (some 1) else (if x173000 = 34 then (some 1) else (if x173000 = 35 then (some 1) else (if x173000 = 37 then (some 1) else (some 0))))))))
def spec_Puts.f (k : Nat) (a0_0 : Int) (a0_1 : Int) : Option (Int) := (spec_l03Binary.f a0_0).bind fun t173 => (if t173 = true then (spec_Puts.j0 k true a0_0 a0_1) else ((spec_l03Unary.f a0_0).bind fun t174 => (spec_Puts.j0 k t174 a0_0 a0_1)))
theorem spec_Puts.mono_l : ∀ k, (∀ y0 y1 y2, LeO (spec_Puts.j0 k y0 y1 y2) (spec_Puts.j0 (k + 1) y0 y1 y2))
 | 0 => fun _ _ _ r h => by simp [spec_Puts.j0] at h
 | k + 1 => by
  have ih0 := spec_Puts.mono_l k
  ·intro y0 y1 y2
   unfold spec_Puts.j0
   repeat' first
   | (with_reducible exact ih0 _ _ _)
   | (with_reducible exact LeO.refl _)
   | (with_reducible exact LeO.none _)
   | (with_reducible refine LeO.ite ?_ ?_)
   | (with_reducible refine LeO.bind ?_ (fun _ => ?_))
   | exact ih0 _ _ _
   | exact LeO.none _
   | refine LeO.ite ?_ ?_
   | refine LeO.bind ?_ (fun _ => ?_)
theorem spec_Puts.mono : ∀ a0 a1 k, LeO (spec_Puts.f k a0 a1) (spec_Puts.f (k + 1) a0 a1) := by
 intro a0 a1 k
 have ih0 := spec_Puts.mono_l k
 unfold spec_Puts.f
 repeat' first
   | (with_reducible exact ih0 _ _ _)
   | (with_reducible exact LeO.refl _)
   | (with_reducible exact LeO.none _)
   | (with_reducible refine LeO.ite ?_ ?_)
   | (with_reducible refine LeO.bind ?_ (fun _ => ?_))
   | exact ih0 _ _ _
   | exact LeO.none _
   | refine LeO.ite ?_ ?_
   | refine LeO.bind ?_ (fun _ => ?_)
set_option maxHeartbeats 8000000 in
set_option maxRecDepth 100000 in
theorem spec_Puts.calls (k : Nat) (a0_0 : Int) (a0_1 : Int) (r : Int) (w : World) (h : spec_Puts.f k a0_0 a0_1 = some r) :
  Calls Try.prog 157 #[.agg #[.int .i64 a0_0, .int .i64 a0_1]] w fun e w' => e = .returned (.int .i64 r) ∧ Below w.heap.size w w' := by
 have hu56 := Try.underlying56
 have HB := Aside0.mk (Below.refl w.heap.size w)
 have H : ((spec_l03Binary.f a0_0).bind fun t173 => (if t173 = true then (spec_Puts.j0 k true a0_0 a0_1) else ((spec_l03Unary.f a0_0).bind fun t174 => (spec_Puts.j0 k t174 a0_0 a0_1)))) = some r := h
 clear h
 have HC2 := Aside0.mk H
 clear H
 go_enter Try.func157, Try.ntmps157
 go_upto_region 1 with (first | ((with_reducible refine gate_dst (N := 1) rfl ?_); refine box_event ?hg (N := 1) ?hd (cs := #[.int .i64 a0_0, .int .i64 a0_1]) (t := 56) ?hr ?_; (case hd => rfl); (case hg => rfl); (case hr => first | (go_simp; done) | (go_simp; rfl)); intro gb172 hg w3 hbox hb; have n0_ := Aside0.mk (below_step (bw HB) hb); have n1_ := Aside0.mk (hbox); have n2_ := Aside0.mk ((by rw [hg]; exact (below_size (bw HB)) : w.heap.size ≤ gb172)); have n3_ := Aside0.mk ((by rw [hg]; exact (below_size (bw HB)) : w.heap.size ≤ gb172)); clear HB; have HB := n0_; have BK172 := n1_; have GW172 := n2_; have GE172 := n3_; clear n0_ n1_ n2_ n3_; clear hb hbox hg))
 (try simp only [Act.put, List.setIfInBounds_toArray, List.set_cons_zero, List.set_cons_succ])
 go_cut [10] (fun v10 wc => ∃ (kq : Nat) (x10_1 : Bool), v10 = .bool x10_1 ∧ Aside0 (spec_Puts.j0 kq x10_1 a0_0 a0_1 = some r) ∧ Aside0 (kq ≤ k) ∧ Aside0 (wc.heap[gb172]? = some (.cells #[.int .i64 a0_0, .int .i64 a0_1] 56 (0, 0))) ∧ Aside0 (Below w.heap.size w wc))
 case first =>
  have H := HC2.out
  clear HC2
  replace H := Option.bind_eq_some_iff.mp H
  obtain ⟨t173, A40, H⟩ := H
  replace H : (if t173 = true then (spec_Puts.j0 k true a0_0 a0_1) else ((spec_l03Unary.f a0_0).bind fun t174 => (spec_Puts.j0 k t174 a0_0 a0_1))) = some r := H
  have A4 := Aside0.mk A40
  clear A40
  by_cases c5 : t173 = true
  ·subst c5
   have H1 : (spec_Puts.j0 k true a0_0 a0_1) = some r := by rw [if_pos rfl] at H; exact H
   clear H
   have H := H1
   clear H1
   have H' := Aside0.mk H
   clear H
   have hcz6_0 : w3.cell? ⟨gb172, 0, none⟩ = some (.int .i64 a0_0) := (blk_cell BK172.out 0).trans rfl
   have hcz6_1 : w3.cell? ⟨gb172, 1, none⟩ = some (.int .i64 a0_1) := (blk_cell BK172.out 1).trans rfl
   have hfz6_0 := blk_frozen BK172.out 0
   have hfz6_1 := blk_frozen BK172.out 1
   go_wp2_with (first | ((with_reducible refine gate_callee (f := 85) rfl ?_); refine goesL_ (some 5) rfl rfl Try.func85 (by kernel_rfl) rfl #[.int .i64 a0_0] rfl gl ?_; (with_reducible refine (spec_l03Binary.calls a0_0 true _ A4.out).mono ?_); rintro e w' ⟨rfl, ⟨nd, rfl⟩⟩; refine ⟨_, rfl, ?_⟩))
   go_meet
   case rel => exact ⟨_, (true), dr, H', ⟨by first | omega | exact Nat.le_refl _⟩, ⟨bp BK172⟩, ⟨bw HB⟩⟩
  ·replace c5 := Bool.eq_false_iff.mpr c5
   subst c5
   have H1 : ((spec_l03Unary.f a0_0).bind fun t174 => (spec_Puts.j0 k t174 a0_0 a0_1)) = some r := by rw [if_neg (show ¬ (false = true) by decide)] at H; exact H
   clear H
   have H := H1
   clear H1
   replace H := Option.bind_eq_some_iff.mp H
   obtain ⟨t174, A70, H⟩ := H
   replace H : (spec_Puts.j0 k t174 a0_0 a0_1) = some r := H
   have A7 := Aside0.mk A70
   clear A70
   have H' := Aside0.mk H
   clear H
   have hcz8_0 : w3.cell? ⟨gb172, 0, none⟩ = some (.int .i64 a0_0) := (blk_cell BK172.out 0).trans rfl
   have hcz8_1 : w3.cell? ⟨gb172, 1, none⟩ = some (.int .i64 a0_1) := (blk_cell BK172.out 1).trans rfl
   have hfz8_0 := blk_frozen BK172.out 0
   have hfz8_1 := blk_frozen BK172.out 1
   go_wp2_with (first | ((with_reducible refine gate_callee (f := 85) rfl ?_); refine goesL_ (some 5) rfl rfl Try.func85 (by kernel_rfl) rfl #[.int .i64 a0_0] rfl gl ?_; (with_reducible refine (spec_l03Binary.calls a0_0 false _ A4.out).mono ?_); rintro e w' ⟨rfl, ⟨nd, rfl⟩⟩; refine ⟨_, rfl, ?_⟩) | (go_at_call 86; (with_reducible refine (spec_l03Unary.calls a0_0 t174 _ A7.out).mono ?_); rintro e w' ⟨rfl, ⟨nd, rfl⟩⟩))
   go_meet
   case rel => exact ⟨_, (t174), dr, H', ⟨by first | omega | exact Nat.le_refl _⟩, ⟨bp BK172⟩, ⟨bw HB⟩⟩
 case rest =>
  clear HC2
  (try clear c1); (try clear p2); (try clear c5); (try clear c8); (try clear hcz6_0); (try clear hcz6_1); (try clear hcz8_0); (try clear hcz8_1); (try clear hfz6_0); (try clear hfz6_1); (try clear hfz8_0); (try clear hfz8_1)
  obtain ⟨kq, x10_1, rfl, HA, HJ1, BK172, HB⟩ := hcut
  cases kq with
  | zero => exact absurd HA.out (by simp [spec_Puts.j0])
  | succ kj1 =>
   have H := HA.out
   clear HA
   simp only [spec_Puts.j0] at H
   by_cases c9 : x10_1 = true
   ·subst c9
    have H1 : (some 1) = some r := by rw [if_pos rfl] at H; exact H
    clear H
    have H := H1
    clear H1
    obtain rfl := Option.some.inj H
    go_wp2
    go_ret
    exact ⟨by first | rfl | (simp [errW_none, errW_some] <;> rfl) | (simp [*, errW_none, errW_some] <;> rfl), bw HB⟩
   ·replace c9 := Bool.eq_false_iff.mpr c9
    subst c9
    have H1 : (if a0_0 = 4 then (some 2) else (if a0_0 = 1 then (some 1) else (if a0_0 = 2 then (some 1) else (if a0_0 = 32 then (some 1) else (if a0_0 = 34 then (some 1) else (if a0_0 = 35 then (some 1) else (if a0_0 = 37 then (some 1) else (some 0)))))))) = some r := by rw [if_neg (show ¬ (false = true) by decide)] at H; exact H
    clear H
    have H := H1
    clear H1
    by_cases c10 : a0_0 = 4
    ·rw [if_pos c10] at H
     have c10b0 : (a0_0 == 4) = true := beq_iff_eq.mpr c10
     have c10b1 : (a0_0 != 4) = false := bne_eq_false_iff_eq.mpr c10
     clear c10
     obtain rfl := Option.some.inj H
     have hcz11_0 : wc.cell? ⟨gb172, 0, none⟩ = some (.int .i64 a0_0) := (blk_cell BK172.out 0).trans rfl
     have hcz11_1 : wc.cell? ⟨gb172, 1, none⟩ = some (.int .i64 a0_1) := (blk_cell BK172.out 1).trans rfl
     have hfz11_0 := blk_frozen BK172.out 0
     have hfz11_1 := blk_frozen BK172.out 1
     go_wp2
     go_ret
     exact ⟨by first | rfl | (simp [errW_none, errW_some] <;> rfl) | (simp [*, errW_none, errW_some] <;> rfl), bw HB⟩
    ·rw [if_neg c10] at H
     have c10b0 : (a0_0 == 4) = false := beq_eq_false_iff_ne.mpr c10
     have c10b1 : (a0_0 != 4) = true := bne_iff_ne.mpr c10
     by_cases c12 : a0_0 = 1
     ·rw [if_pos c12] at H
      have c12b0 : (a0_0 == 1) = true := beq_iff_eq.mpr c12
      have c12b1 : (a0_0 != 1) = false := bne_eq_false_iff_eq.mpr c12
      clear c12
      obtain rfl := Option.some.inj H
      have hcz13_0 : wc.cell? ⟨gb172, 0, none⟩ = some (.int .i64 a0_0) := (blk_cell BK172.out 0).trans rfl
      have hcz13_1 : wc.cell? ⟨gb172, 1, none⟩ = some (.int .i64 a0_1) := (blk_cell BK172.out 1).trans rfl
      have hfz13_0 := blk_frozen BK172.out 0
      have hfz13_1 := blk_frozen BK172.out 1
      go_wp2
      go_ret
      exact ⟨by first | rfl | (simp [errW_none, errW_some] <;> rfl) | (simp [*, errW_none, errW_some] <;> rfl), bw HB⟩
     ·rw [if_neg c12] at H
      have c12b0 : (a0_0 == 1) = false := beq_eq_false_iff_ne.mpr c12
      have c12b1 : (a0_0 != 1) = true := bne_iff_ne.mpr c12
      by_cases c14 : a0_0 = 2
      ·rw [if_pos c14] at H
       have c14b0 : (a0_0 == 2) = true := beq_iff_eq.mpr c14
       have c14b1 : (a0_0 != 2) = false := bne_eq_false_iff_eq.mpr c14
       clear c14
       obtain rfl := Option.some.inj H
       have hcz15_0 : wc.cell? ⟨gb172, 0, none⟩ = some (.int .i64 a0_0) := (blk_cell BK172.out 0).trans rfl
       have hcz15_1 : wc.cell? ⟨gb172, 1, none⟩ = some (.int .i64 a0_1) := (blk_cell BK172.out 1).trans rfl
       have hfz15_0 := blk_frozen BK172.out 0
       have hfz15_1 := blk_frozen BK172.out 1
       go_wp2
       go_ret
       exact ⟨by first | rfl | (simp [errW_none, errW_some] <;> rfl) | (simp [*, errW_none, errW_some] <;> rfl), bw HB⟩
      ·rw [if_neg c14] at H
       have c14b0 : (a0_0 == 2) = false := beq_eq_false_iff_ne.mpr c14
       have c14b1 : (a0_0 != 2) = true := bne_iff_ne.mpr c14
       by_cases c16 : a0_0 = 32
       ·rw [if_pos c16] at H
        have c16b0 : (a0_0 == 32) = true := beq_iff_eq.mpr c16
        have c16b1 : (a0_0 != 32) = false := bne_eq_false_iff_eq.mpr c16
        clear c16
        obtain rfl := Option.some.inj H
        have hcz17_0 : wc.cell? ⟨gb172, 0, none⟩ = some (.int .i64 a0_0) := (blk_cell BK172.out 0).trans rfl
        have hcz17_1 : wc.cell? ⟨gb172, 1, none⟩ = some (.int .i64 a0_1) := (blk_cell BK172.out 1).trans rfl
        have hfz17_0 := blk_frozen BK172.out 0
        have hfz17_1 := blk_frozen BK172.out 1
        go_wp2
        go_ret
        exact ⟨by first | rfl | (simp [errW_none, errW_some] <;> rfl) | (simp [*, errW_none, errW_some] <;> rfl), bw HB⟩
       ·rw [if_neg c16] at H
        have c16b0 : (a0_0 == 32) = false := beq_eq_false_iff_ne.mpr c16
        have c16b1 : (a0_0 != 32) = true := bne_iff_ne.mpr c16
        by_cases c18 : a0_0 = 34
        ·rw [if_pos c18] at H
         have c18b0 : (a0_0 == 34) = true := beq_iff_eq.mpr c18
         have c18b1 : (a0_0 != 34) = false := bne_eq_false_iff_eq.mpr c18
         clear c18
         obtain rfl := Option.some.inj H
         have hcz19_0 : wc.cell? ⟨gb172, 0, none⟩ = some (.int .i64 a0_0) := (blk_cell BK172.out 0).trans rfl
         have hcz19_1 : wc.cell? ⟨gb172, 1, none⟩ = some (.int .i64 a0_1) := (blk_cell BK172.out 1).trans rfl
         have hfz19_0 := blk_frozen BK172.out 0
         have hfz19_1 := blk_frozen BK172.out 1
         go_wp2
         go_ret
         exact ⟨by first | rfl | (simp [errW_none, errW_some] <;> rfl) | (simp [*, errW_none, errW_some] <;> rfl), bw HB⟩
        ·rw [if_neg c18] at H
         have c18b0 : (a0_0 == 34) = false := beq_eq_false_iff_ne.mpr c18
         have c18b1 : (a0_0 != 34) = true := bne_iff_ne.mpr c18
         by_cases c20 : a0_0 = 35
         ·rw [if_pos c20] at H
          have c20b0 : (a0_0 == 35) = true := beq_iff_eq.mpr c20
          have c20b1 : (a0_0 != 35) = false := bne_eq_false_iff_eq.mpr c20
          clear c20
          obtain rfl := Option.some.inj H
          have hcz21_0 : wc.cell? ⟨gb172, 0, none⟩ = some (.int .i64 a0_0) := (blk_cell BK172.out 0).trans rfl
          have hcz21_1 : wc.cell? ⟨gb172, 1, none⟩ = some (.int .i64 a0_1) := (blk_cell BK172.out 1).trans rfl
          have hfz21_0 := blk_frozen BK172.out 0
          have hfz21_1 := blk_frozen BK172.out 1
          go_wp2
          go_ret
          exact ⟨by first | rfl | (simp [errW_none, errW_some] <;> rfl) | (simp [*, errW_none, errW_some] <;> rfl), bw HB⟩
         ·rw [if_neg c20] at H
          have c20b0 : (a0_0 == 35) = false := beq_eq_false_iff_ne.mpr c20
          have c20b1 : (a0_0 != 35) = true := bne_iff_ne.mpr c20
          by_cases c22 : a0_0 = 37
          ·rw [if_pos c22] at H
           have c22b0 : (a0_0 == 37) = true := beq_iff_eq.mpr c22
           have c22b1 : (a0_0 != 37) = false := bne_eq_false_iff_eq.mpr c22
           clear c22
           obtain rfl := Option.some.inj H
           have hcz23_0 : wc.cell? ⟨gb172, 0, none⟩ = some (.int .i64 a0_0) := (blk_cell BK172.out 0).trans rfl
           have hcz23_1 : wc.cell? ⟨gb172, 1, none⟩ = some (.int .i64 a0_1) := (blk_cell BK172.out 1).trans rfl
           have hfz23_0 := blk_frozen BK172.out 0
           have hfz23_1 := blk_frozen BK172.out 1
           go_wp2
           go_ret
           exact ⟨by first | rfl | (simp [errW_none, errW_some] <;> rfl) | (simp [*, errW_none, errW_some] <;> rfl), bw HB⟩
          ·rw [if_neg c22] at H
           have c22b0 : (a0_0 == 37) = false := beq_eq_false_iff_ne.mpr c22
           have c22b1 : (a0_0 != 37) = true := bne_iff_ne.mpr c22
           obtain rfl := Option.some.inj H
           have hcz24_0 : wc.cell? ⟨gb172, 0, none⟩ = some (.int .i64 a0_0) := (blk_cell BK172.out 0).trans rfl
           have hcz24_1 : wc.cell? ⟨gb172, 1, none⟩ = some (.int .i64 a0_1) := (blk_cell BK172.out 1).trans rfl
           have hfz24_0 := blk_frozen BK172.out 0
           have hfz24_1 := blk_frozen BK172.out 1
           go_wp2
           go_ret
           exact ⟨by first | rfl | (simp [errW_none, errW_some] <;> rfl) | (simp [*, errW_none, errW_some] <;> rfl), bw HB⟩

end Go.Proofs.Ytpkkicaablnakaa.QFnExactSlots
