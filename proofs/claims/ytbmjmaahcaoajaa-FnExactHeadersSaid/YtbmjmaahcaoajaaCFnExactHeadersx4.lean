import Derived.Test.YtbmjmaahcaoajaaCFnExactHeadersx0
import Derived.Test.YtbmjmaahcaoajaaCFnExactHeadersx3
namespace Go.Proofs.Ytbmjmaahcaoajaa.QFnExactHeaders
open Go.RowKit Go.Proofs.YtbmjmaahcaoajaaW
open PrintWords PrintLast PrintMore PrintShort PrintIsh
attribute [local go_sem] max2_int min2_int max_two min_two max_three min_three max_four min_four   -- for this text's walks alone
set_option linter.unusedVariables false
set_option maxHeartbeats 8000000
set_option maxRecDepth 100000
set_option linter.unusedSimpArgs false

mutual
def spec_Takes.j0 : Nat → Bool → List (S100) → Int → Int → Option (Int)
 | 0, _, _, _, _ => none
 | k + 1, x5, x159000, x160000, x160001 => if x5 = true then (some 2) else (if x160000 = 36 then (some 3) else (if x160000 = 32 then (if x160001 < 0 then (some 0) else (if x160001 ≥ (x159000.length : Int) then (some 0) else (if 0 ≤ x160001 then (if x160001 < (x159000.length : Int) then (some ((rd_T100 x159000 x160001).f0)) else (none)) else (none)))) else ((spec_l03Unary.f x160000).bind fun t162 => (if t162 = true then (some 1) else (if x160000 = 3 then (spec_Takes.j1 k (x160000 == 3)) else (if x160000 = 4 then (spec_Takes.j1 k (x160000 == 4)) else (if x160000 = 5 then (spec_Takes.j1 k (x160000 == 5)) else (if x160000 = 31 then (spec_Takes.j1 k (x160000 == 31)) else (if x160000 = 33 then (spec_Takes.j1 k (x160000 == 33)) else (if x160000 = 34 then (spec_Takes.j1 k (x160000 == 34)) else (if x160000 = 37 then (spec_Takes.j1 k (x160000 == 37)) else (spec_Takes.j1 k (x160000 == 38)))))))))))))
def spec_Takes.j1 : Nat → Bool → Option (Int)
 | 0, _ => none
 | k + 1, x46 => if x46 = true then (some 1) else (some 0)
end
def spec_Takes.f (k : Nat) (l0_0 : List (S100)) (a1_0 : Int) (a1_1 : Int) : Option (Int) := (spec_l03Binary.f a1_0).bind fun t160 => (if t160 = true then (spec_Takes.j0 k true l0_0 a1_0 a1_1) else (spec_Takes.j0 k (a1_0 == 35) l0_0 a1_0 a1_1))
theorem spec_Takes.mono_l : ∀ k, (∀ y0 y1 y2 y3, LeO (spec_Takes.j0 k y0 y1 y2 y3) (spec_Takes.j0 (k + 1) y0 y1 y2 y3)) ∧ (∀ y0, LeO (spec_Takes.j1 k y0) (spec_Takes.j1 (k + 1) y0))
 | 0 => ⟨fun _ _ _ _ r h => by simp [spec_Takes.j0] at h, fun _ r h => by simp [spec_Takes.j1] at h⟩
 | k + 1 => by
  obtain ⟨ih0, ih1⟩ := spec_Takes.mono_l k
  refine ⟨?_, ?_⟩
  ·intro y0 y1 y2 y3
   unfold spec_Takes.j0
   repeat' first
   | (with_reducible exact ih0 _ _ _ _)
   | (with_reducible exact ih1 _)
   | (with_reducible exact LeO.refl _)
   | (with_reducible exact LeO.none _)
   | (with_reducible refine LeO.ite ?_ ?_)
   | (with_reducible refine LeO.bind ?_ (fun _ => ?_))
  ·intro y0
   unfold spec_Takes.j1
   repeat' first
   | (with_reducible exact ih0 _ _ _ _)
   | (with_reducible exact ih1 _)
   | (with_reducible exact LeO.refl _)
   | (with_reducible exact LeO.none _)
   | (with_reducible refine LeO.ite ?_ ?_)
   | (with_reducible refine LeO.bind ?_ (fun _ => ?_))
theorem spec_Takes.mono : ∀ a0 a1 a2 k, LeO (spec_Takes.f k a0 a1 a2) (spec_Takes.f (k + 1) a0 a1 a2) := by
 intro a0 a1 a2 k
 obtain ⟨ih0, ih1⟩ := spec_Takes.mono_l k
 unfold spec_Takes.f
 repeat' first
   | (with_reducible exact ih0 _ _ _ _)
   | (with_reducible exact ih1 _)
   | (with_reducible exact LeO.refl _)
   | (with_reducible exact LeO.none _)
   | (with_reducible refine LeO.ite ?_ ?_)
   | (with_reducible refine LeO.bind ?_ (fun _ => ?_))
theorem spec_Takes.calls (k : Nat) (A0_0 : Option Addr) (c0_0 : Nat) (l0_0 : List (S100)) (a1_0 : Int) (a1_1 : Int) (r : Int) (w : World) (hr0_0 : Kd.C k100 w A0_0 l0_0.length l0_0) (hc0_0 : l0_0.length ≤ c0_0) (h : spec_Takes.f k l0_0 a1_0 a1_1 = some r) :
  Calls Try.prog 118 #[.agg #[.slice A0_0 l0_0.length c0_0], .agg #[.int .i64 a1_0, .int .i64 a1_1]] w fun e w' => e = .returned (.int .i64 r) ∧ Below w.heap.size w w' := by
 have hu30 := Try.underlying30
 have hu102 := Try.underlying102
 have HR0_0 := am hr0_0
 have HC0_0 := am hc0_0
 clear hr0_0 hc0_0
 have HB := am (Below.refl w.heap.size w)
 have H : ((spec_l03Binary.f a1_0).bind fun t160 => (if t160 = true then (spec_Takes.j0 k true l0_0 a1_0 a1_1) else (spec_Takes.j0 k (a1_0 == 35) l0_0 a1_0 a1_1))) = some r := h
 clear h
 have HC3 := am H
 clear H
 go_enter Try.func118, Try.ntmps118
 go_upto_region 1 with (first | ((with_reducible refine gate_dst (N := 2) rfl ?_); (try (refine gate_guard (by rfl) ?_; dsimp only)); refine box_event ?hg (N := 2) ?hd (cs := #[.slice A0_0 l0_0.length c0_0]) (t := 30) ?hr ?_; (case hd => rfl); (case hg => rfl); (case hr => exact gs); intro gb158 hg w4 hbox hb; have BK158 := am (hbox); have GW158 := am ((by rw [hg]; exact (below_size (bw HB)) : w.heap.size ≤ gb158)); have GE158 := am ((by rw [hg]; exact (below_size (bw HB)) : w.heap.size ≤ gb158)); replace HB := am (below_step (bw HB) hb); clear hb hbox hg) | ((with_reducible refine gate_dst (N := 3) rfl ?_); (try (refine gate_guard (by rfl) ?_; dsimp only)); refine box_event ?hg (N := 3) ?hd (cs := #[.int .i64 a1_0, .int .i64 a1_1]) (t := 102) ?hr ?_; (case hd => rfl); (case hg => rfl); (case hr => exact gs); intro gb159 hg w5 hbox hb; have BK159 := am (hbox); have GW159 := am ((by rw [hg]; exact (below_size (bw HB)) : w.heap.size ≤ gb159)); have GE159 := am ((by rw [hg]; exact (below_size (bw HB)) : w.heap.size ≤ gb159)); replace HB := am (below_step (bw HB) hb); have NB158_159 := am ((by rw [hg]; exact Nat.ne_of_lt (blk_lt (g := gb158) (o := .cells #[.slice A0_0 l0_0.length c0_0] 30 (0, 0)) (bp BK158)) : gb158 ≠ gb159)); have NB159_158 := am ((by rw [hg]; exact Nat.ne_of_gt (blk_lt (g := gb158) (o := .cells #[.slice A0_0 l0_0.length c0_0] 30 (0, 0)) (bp BK158)) : gb159 ≠ gb158)); replace BK158 := am (blk_below (g := gb158) (o := .cells #[.slice A0_0 l0_0.length c0_0] 30 (0, 0)) (bp BK158) hb); clear hb hbox hg))
 (try simp only [Act.put, sa, sz, ss])
 go_cut [5] (fun v5 wc => ∃ (kq : Nat) (x5_2 : Bool), v5 = .bool x5_2 ∧ Aside0 (spec_Takes.j0 kq x5_2 l0_0 a1_0 a1_1 = some r) ∧ Aside0 (kq ≤ k) ∧ Aside0 (wc.heap[gb158]? = some (.cells #[(.slice A0_0 l0_0.length c0_0)] 30 (0, 0))) ∧ Aside0 (wc.heap[gb159]? = some (.cells #[.int .i64 a1_0, .int .i64 a1_1] 102 (0, 0))) ∧ Aside0 (Below w.heap.size w wc))
 case first =>
  have H := HC3.out
  clear HC3
  replace H := Option.bind_eq_some_iff.mp H
  obtain ⟨t160, A60, H⟩ := H
  replace H : (if t160 = true then (spec_Takes.j0 k true l0_0 a1_0 a1_1) else (spec_Takes.j0 k (a1_0 == 35) l0_0 a1_0 a1_1)) = some r := H
  have A6 := am A60
  clear A60
  by_cases c7 : t160 = true
  ·subst c7
   have H1 : (spec_Takes.j0 k true l0_0 a1_0 a1_1) = some r := by rw [if_pos rfl] at H; exact H
   clear H
   have H := H1
   clear H1
   have H' := am H
   clear H
   have hnb8 := NB159_158.out
   have hnc8 := NB158_159.out
   have hcz9_0 : w5.cell? ⟨gb159, 0, none⟩ = some (.int .i64 a1_0) := bc BK159 0
   have hcz9_1 : w5.cell? ⟨gb159, 1, none⟩ = some (.int .i64 a1_1) := bc BK159 1
   have hfz9_0 := bf BK159 0
   have hfz9_1 := bf BK159 1
   go_wp2_with (first | ((with_reducible refine gate_callee (f := 168) rfl ?_); refine goesL_ (some 8) rfl rfl Try.func168 (by kernel_rfl) rfl #[.int .i64 a1_0] rfl gl ?_; (with_reducible refine (spec_l03Binary.calls a1_0 true _ A6.out).mono ?_); rintro e w' ⟨rfl, ⟨nd, rfl⟩⟩; refine ⟨_, rfl, ?_⟩))
   go_meet
   case rel => exact ⟨_, (true), dr, H', ⟨by first | omega | exact Nat.le_refl _⟩, ⟨bp BK158⟩, ⟨bp BK159⟩, ⟨bw HB⟩⟩
  ·replace c7 := Bool.eq_false_iff.mpr c7
   subst c7
   have H1 : (spec_Takes.j0 k (a1_0 == 35) l0_0 a1_0 a1_1) = some r := by rw [if_neg (show ¬ (false = true) by decide)] at H; exact H
   clear H
   have H := H1
   clear H1
   have H' := am H
   clear H
   have hnb10 := NB159_158.out
   have hnc10 := NB158_159.out
   have hcz11_0 : w5.cell? ⟨gb159, 0, none⟩ = some (.int .i64 a1_0) := bc BK159 0
   have hcz11_1 : w5.cell? ⟨gb159, 1, none⟩ = some (.int .i64 a1_1) := bc BK159 1
   have hfz11_0 := bf BK159 0
   have hfz11_1 := bf BK159 1
   go_wp2_with (first | ((with_reducible refine gate_callee (f := 168) rfl ?_); refine goesL_ (some 8) rfl rfl Try.func168 (by kernel_rfl) rfl #[.int .i64 a1_0] rfl gl ?_; (with_reducible refine (spec_l03Binary.calls a1_0 false _ A6.out).mono ?_); rintro e w' ⟨rfl, ⟨nd, rfl⟩⟩; refine ⟨_, rfl, ?_⟩))
   go_meet
   case rel => exact ⟨_, ((a1_0 == 35)), dr, H', ⟨by first | omega | exact Nat.le_refl _⟩, ⟨bp BK158⟩, ⟨bp BK159⟩, ⟨bw HB⟩⟩
 case rest =>
  clear HC3
  (try clear c1); (try clear p2); (try clear c7); (try clear c8); (try clear c10); (try clear c11); (try clear hcz11_0); (try clear hcz11_1); (try clear hcz9_0); (try clear hcz9_1); (try clear hfz11_0); (try clear hfz11_1); (try clear hfz9_0); (try clear hfz9_1)
  obtain ⟨kq, x5_2, rfl, HA, HJ2, BK158, BK159, HB⟩ := hcut
  cases kq with
  | zero => exact absurd HA.out (by simp [spec_Takes.j0])
  | succ kj2 =>
   have H := HA.out
   clear HA
   simp only [spec_Takes.j0] at H
   by_cases c12 : x5_2 = true
   ·subst c12
    have H1 : (some 2) = some r := by rw [if_pos rfl] at H; exact H
    clear H
    have H := H1
    clear H1
    obtain rfl := Option.some.inj H
    go_wp2
    go_ret
    exact ⟨er, bw HB⟩
   ·replace c12 := Bool.eq_false_iff.mpr c12
    subst c12
    have H1 : (if a1_0 = 36 then (some 3) else (if a1_0 = 32 then (if a1_1 < 0 then (some 0) else (if a1_1 ≥ (l0_0.length : Int) then (some 0) else (if 0 ≤ a1_1 then (if a1_1 < (l0_0.length : Int) then (some ((rd_T100 l0_0 a1_1).f0)) else (none)) else (none)))) else ((spec_l03Unary.f a1_0).bind fun t162 => (if t162 = true then (some 1) else (if a1_0 = 3 then (spec_Takes.j1 kj2 (a1_0 == 3)) else (if a1_0 = 4 then (spec_Takes.j1 kj2 (a1_0 == 4)) else (if a1_0 = 5 then (spec_Takes.j1 kj2 (a1_0 == 5)) else (if a1_0 = 31 then (spec_Takes.j1 kj2 (a1_0 == 31)) else (if a1_0 = 33 then (spec_Takes.j1 kj2 (a1_0 == 33)) else (if a1_0 = 34 then (spec_Takes.j1 kj2 (a1_0 == 34)) else (if a1_0 = 37 then (spec_Takes.j1 kj2 (a1_0 == 37)) else (spec_Takes.j1 kj2 (a1_0 == 38))))))))))))) = some r := by rw [if_neg (show ¬ (false = true) by decide)] at H; exact H
    clear H
    have H := H1
    clear H1
    by_cases c13 : a1_0 = 36
    ·rw [if_pos c13] at H
     have c13b0 : (a1_0 == 36) = true := beq_iff_eq.mpr c13
     have c13b1 : (a1_0 != 36) = false := bne_eq_false_iff_eq.mpr c13
     clear c13
     obtain rfl := Option.some.inj H
     have hnb14 := NB159_158.out
     have hnc14 := NB158_159.out
     have hcz15_0 : wc.cell? ⟨gb159, 0, none⟩ = some (.int .i64 a1_0) := bc BK159 0
     have hcz15_1 : wc.cell? ⟨gb159, 1, none⟩ = some (.int .i64 a1_1) := bc BK159 1
     have hfz15_0 := bf BK159 0
     have hfz15_1 := bf BK159 1
     go_wp2
     go_ret
     exact ⟨er, bw HB⟩
    ·rw [if_neg c13] at H
     have c13b0 : (a1_0 == 36) = false := beq_eq_false_iff_ne.mpr c13
     have c13b1 : (a1_0 != 36) = true := bne_iff_ne.mpr c13
     by_cases c16 : a1_0 = 32
     ·rw [if_pos c16] at H
      have c16b0 : (a1_0 == 32) = true := beq_iff_eq.mpr c16
      have c16b1 : (a1_0 != 32) = false := bne_eq_false_iff_eq.mpr c16
      clear c16
      by_cases c17 : a1_1 < 0
      ·rw [if_pos c17] at H
       have c17b0 := decide_eq_true c17
       clear c17
       obtain rfl := Option.some.inj H
       have hnb18 := NB159_158.out
       have hnc18 := NB158_159.out
       have hcz19_0 : wc.cell? ⟨gb159, 0, none⟩ = some (.int .i64 a1_0) := bc BK159 0
       have hcz19_1 : wc.cell? ⟨gb159, 1, none⟩ = some (.int .i64 a1_1) := bc BK159 1
       have hfz19_0 := bf BK159 0
       have hfz19_1 := bf BK159 1
       go_wp2
       go_ret
       exact ⟨er, bw HB⟩
      ·rw [if_neg c17] at H
       have c17b0 := decide_eq_false c17
       clear c17
       by_cases c20 : a1_1 ≥ (l0_0.length : Int)
       ·rw [if_pos c20] at H
        have c20b0 : decide ((l0_0.length : Int) ≤ a1_1) = true := decide_eq_true c20
        clear c20
        obtain rfl := Option.some.inj H
        have hnb21 := NB159_158.out
        have hnc21 := NB158_159.out
        have hcz22_0 : wc.cell? ⟨gb159, 0, none⟩ = some (.int .i64 a1_0) := bc BK159 0
        have hcz22_1 : wc.cell? ⟨gb159, 1, none⟩ = some (.int .i64 a1_1) := bc BK159 1
        have hfz22_0 := bf BK159 0
        have hfz22_1 := bf BK159 1
        have hcz23_0 : wc.cell? ⟨gb158, 0, none⟩ = some (.slice A0_0 l0_0.length c0_0) := bc BK158 0
        have hfz23_0 := bf BK158 0
        go_wp2
        go_ret
        exact ⟨er, bw HB⟩
       ·rw [if_neg c20] at H
        have c20b0 : decide ((l0_0.length : Int) ≤ a1_1) = false := decide_eq_false c20
        clear c20
        by_cases c24 : 0 ≤ a1_1
        ·rw [if_pos c24] at H
         have c24b0 := decide_eq_true c24
         clear c24
         by_cases c25 : a1_1 < (l0_0.length : Int)
         ·rw [if_pos c25] at H
          have c25b0 := decide_eq_true c25
          clear c25
          obtain rfl := Option.some.inj H
          have hnb26 := NB159_158.out
          have hnc26 := NB158_159.out
          have hcz27_0 : wc.cell? ⟨gb159, 0, none⟩ = some (.int .i64 a1_0) := bc BK159 0
          have hcz27_1 : wc.cell? ⟨gb159, 1, none⟩ = some (.int .i64 a1_1) := bc BK159 1
          have hfz27_0 := bf BK159 0
          have hfz27_1 := bf BK159 1
          have hcz28_0 : wc.cell? ⟨gb158, 0, none⟩ = some (.slice A0_0 l0_0.length c0_0) := bc BK158 0
          have hfz28_0 := bf BK158 0
          have p161 : 0 ≤ (a1_1 : Int) := of_decide_eq_true as1
          have q161 : a1_1 < (l0_0.length : Int) := of_decide_eq_true as1
          obtain ⟨ad161, A161_2, c161_2, e161, hx161_0, hx161_1, hx161_2, hl161_2, hi161_2⟩ := at_T100 HR0_0.out a1_1 p161 q161
          cases e161
          replace hx161_0 := (HB.out.cell (World.block_lt_of_cell? w _ hx161_0)).trans hx161_0
          replace hx161_1 := (HB.out.cell (World.block_lt_of_cell? w _ hx161_1)).trans hx161_1
          replace hx161_2 := (HB.out.cell (World.block_lt_of_cell? w _ hx161_2)).trans hx161_2
          have HR161_2 := am hi161_2
          have HC161_2 := am hl161_2
          clear hi161_2 hl161_2
          replace p161 := eq_true p161
          replace q161 := eq_true q161
          go_wp2
          go_ret
          exact ⟨er, bw HB⟩
         ·rw [if_neg c25] at H
          exact absurd H (by simp)
        ·rw [if_neg c24] at H
         exact absurd H (by simp)
     ·rw [if_neg c16] at H
      have c16b0 : (a1_0 == 32) = false := beq_eq_false_iff_ne.mpr c16
      have c16b1 : (a1_0 != 32) = true := bne_iff_ne.mpr c16
      replace H := Option.bind_eq_some_iff.mp H
      obtain ⟨t162, A290, H⟩ := H
      replace H : (if t162 = true then (some 1) else (if a1_0 = 3 then (spec_Takes.j1 kj2 (a1_0 == 3)) else (if a1_0 = 4 then (spec_Takes.j1 kj2 (a1_0 == 4)) else (if a1_0 = 5 then (spec_Takes.j1 kj2 (a1_0 == 5)) else (if a1_0 = 31 then (spec_Takes.j1 kj2 (a1_0 == 31)) else (if a1_0 = 33 then (spec_Takes.j1 kj2 (a1_0 == 33)) else (if a1_0 = 34 then (spec_Takes.j1 kj2 (a1_0 == 34)) else (if a1_0 = 37 then (spec_Takes.j1 kj2 (a1_0 == 37)) else (spec_Takes.j1 kj2 (a1_0 == 38)))))))))) = some r := H
      have A29 := am A290
      clear A290
      by_cases c30 : t162 = true
      ·subst c30
       have H1 : (some 1) = some r := by rw [if_pos rfl] at H; exact H
       clear H
       have H := H1
       clear H1
       obtain rfl := Option.some.inj H
       have hnb31 := NB159_158.out
       have hnc31 := NB158_159.out
       have hcz32_0 : wc.cell? ⟨gb159, 0, none⟩ = some (.int .i64 a1_0) := bc BK159 0
       have hcz32_1 : wc.cell? ⟨gb159, 1, none⟩ = some (.int .i64 a1_1) := bc BK159 1
       have hfz32_0 := bf BK159 0
       have hfz32_1 := bf BK159 1
       go_wp2_with (first | ((with_reducible refine gate_callee (f := 169) rfl ?_); refine goesL_ (some 43) rfl rfl Try.func169 (by kernel_rfl) rfl #[.int .i64 a1_0] rfl gl ?_; (with_reducible refine (spec_l03Unary.calls a1_0 true _ A29.out).mono ?_); rintro e w' ⟨rfl, ⟨nd, rfl⟩⟩; refine ⟨_, rfl, ?_⟩))
       go_ret
       exact ⟨er, bw HB⟩
      ·replace c30 := Bool.eq_false_iff.mpr c30
       subst c30
       have H1 : (if a1_0 = 3 then (spec_Takes.j1 kj2 (a1_0 == 3)) else (if a1_0 = 4 then (spec_Takes.j1 kj2 (a1_0 == 4)) else (if a1_0 = 5 then (spec_Takes.j1 kj2 (a1_0 == 5)) else (if a1_0 = 31 then (spec_Takes.j1 kj2 (a1_0 == 31)) else (if a1_0 = 33 then (spec_Takes.j1 kj2 (a1_0 == 33)) else (if a1_0 = 34 then (spec_Takes.j1 kj2 (a1_0 == 34)) else (if a1_0 = 37 then (spec_Takes.j1 kj2 (a1_0 == 37)) else (spec_Takes.j1 kj2 (a1_0 == 38))))))))) = some r := by rw [if_neg (show ¬ (false = true) by decide)] at H; exact H
       clear H
       have H := H1
       clear H1
       have HC33 := am H
       clear H
       have hnb34 := NB159_158.out
       have hnc34 := NB158_159.out
       have hcz35_0 : wc.cell? ⟨gb159, 0, none⟩ = some (.int .i64 a1_0) := bc BK159 0
       have hcz35_1 : wc.cell? ⟨gb159, 1, none⟩ = some (.int .i64 a1_1) := bc BK159 1
       have hfz35_0 := bf BK159 0
       have hfz35_1 := bf BK159 1
       go_upto_if 46 with (first | ((with_reducible refine gate_callee (f := 169) rfl ?_); refine goesL_ (some 43) rfl rfl Try.func169 (by kernel_rfl) rfl #[.int .i64 a1_0] rfl gl ?_; (with_reducible refine (spec_l03Unary.calls a1_0 false _ A29.out).mono ?_); rintro e w' ⟨rfl, ⟨nd, rfl⟩⟩; refine ⟨_, rfl, ?_⟩))
       (try simp only [Act.put, sa, sz, ss])
       go_cut [46] (fun v46 wc => ∃ (kq : Nat) (x46_32 : Bool), v46 = .bool x46_32 ∧ Aside0 (spec_Takes.j1 kq x46_32 = some r) ∧ Aside0 (kq ≤ kj2) ∧ Aside0 (wc.heap[gb158]? = some (.cells #[(.slice A0_0 l0_0.length c0_0)] 30 (0, 0))) ∧ Aside0 (wc.heap[gb159]? = some (.cells #[.int .i64 a1_0, .int .i64 a1_1] 102 (0, 0))) ∧ Aside0 (Below w.heap.size w wc))
       case first =>
        have H := HC33.out
        clear HC33
        by_cases c36 : a1_0 = 3
        ·rw [if_pos c36] at H
         have c36b0 : (a1_0 == 3) = true := beq_iff_eq.mpr c36
         have c36b1 : (a1_0 != 3) = false := bne_eq_false_iff_eq.mpr c36
         clear c36
         (first | rw [c36b0] | (simp only [i64_w, i32_w]; rw [c36b0]) | skip)
         have H' := am H
         clear H
         go_wp2
         go_meet
         case rel => exact ⟨_, ((a1_0 == 3)), dr, H', ⟨by have := HJ2.out; first | omega | exact Nat.le_refl _⟩, ⟨bp BK158⟩, ⟨bp BK159⟩, ⟨bw HB⟩⟩
        ·rw [if_neg c36] at H
         have c36b0 : (a1_0 == 3) = false := beq_eq_false_iff_ne.mpr c36
         have c36b1 : (a1_0 != 3) = true := bne_iff_ne.mpr c36
         (first | rw [c36b0] | (simp only [i64_w, i32_w]; rw [c36b0]) | skip)
         by_cases c37 : a1_0 = 4
         ·rw [if_pos c37] at H
          have c37b0 : (a1_0 == 4) = true := beq_iff_eq.mpr c37
          have c37b1 : (a1_0 != 4) = false := bne_eq_false_iff_eq.mpr c37
          clear c37
          have H' := am H
          clear H
          go_wp2
          go_meet
          case rel => exact ⟨_, ((a1_0 == 4)), dr, H', ⟨by have := HJ2.out; first | omega | exact Nat.le_refl _⟩, ⟨bp BK158⟩, ⟨bp BK159⟩, ⟨bw HB⟩⟩
         ·rw [if_neg c37] at H
          have c37b0 : (a1_0 == 4) = false := beq_eq_false_iff_ne.mpr c37
          have c37b1 : (a1_0 != 4) = true := bne_iff_ne.mpr c37
          by_cases c38 : a1_0 = 5
          ·rw [if_pos c38] at H
           have c38b0 : (a1_0 == 5) = true := beq_iff_eq.mpr c38
           have c38b1 : (a1_0 != 5) = false := bne_eq_false_iff_eq.mpr c38
           clear c38
           have H' := am H
           clear H
           go_wp2
           go_meet
           case rel => exact ⟨_, ((a1_0 == 5)), dr, H', ⟨by have := HJ2.out; first | omega | exact Nat.le_refl _⟩, ⟨bp BK158⟩, ⟨bp BK159⟩, ⟨bw HB⟩⟩
          ·rw [if_neg c38] at H
           have c38b0 : (a1_0 == 5) = false := beq_eq_false_iff_ne.mpr c38
           have c38b1 : (a1_0 != 5) = true := bne_iff_ne.mpr c38
           by_cases c39 : a1_0 = 31
           ·rw [if_pos c39] at H
            have c39b0 : (a1_0 == 31) = true := beq_iff_eq.mpr c39
            have c39b1 : (a1_0 != 31) = false := bne_eq_false_iff_eq.mpr c39
            clear c39
            have H' := am H
            clear H
            go_wp2
            go_meet
            case rel => exact ⟨_, ((a1_0 == 31)), dr, H', ⟨by have := HJ2.out; first | omega | exact Nat.le_refl _⟩, ⟨bp BK158⟩, ⟨bp BK159⟩, ⟨bw HB⟩⟩
           ·rw [if_neg c39] at H
            have c39b0 : (a1_0 == 31) = false := beq_eq_false_iff_ne.mpr c39
            have c39b1 : (a1_0 != 31) = true := bne_iff_ne.mpr c39
            by_cases c40 : a1_0 = 33
            ·rw [if_pos c40] at H
             have c40b0 : (a1_0 == 33) = true := beq_iff_eq.mpr c40
             have c40b1 : (a1_0 != 33) = false := bne_eq_false_iff_eq.mpr c40
             clear c40
             have H' := am H
             clear H
             go_wp2
             go_meet
             case rel => exact ⟨_, ((a1_0 == 33)), dr, H', ⟨by have := HJ2.out; first | omega | exact Nat.le_refl _⟩, ⟨bp BK158⟩, ⟨bp BK159⟩, ⟨bw HB⟩⟩
            ·rw [if_neg c40] at H
             have c40b0 : (a1_0 == 33) = false := beq_eq_false_iff_ne.mpr c40
             have c40b1 : (a1_0 != 33) = true := bne_iff_ne.mpr c40
             by_cases c41 : a1_0 = 34
             ·rw [if_pos c41] at H
              have c41b0 : (a1_0 == 34) = true := beq_iff_eq.mpr c41
              have c41b1 : (a1_0 != 34) = false := bne_eq_false_iff_eq.mpr c41
              clear c41
              have H' := am H
              clear H
              go_wp2
              go_meet
              case rel => exact ⟨_, ((a1_0 == 34)), dr, H', ⟨by have := HJ2.out; first | omega | exact Nat.le_refl _⟩, ⟨bp BK158⟩, ⟨bp BK159⟩, ⟨bw HB⟩⟩
             ·rw [if_neg c41] at H
              have c41b0 : (a1_0 == 34) = false := beq_eq_false_iff_ne.mpr c41
              have c41b1 : (a1_0 != 34) = true := bne_iff_ne.mpr c41
              by_cases c42 : a1_0 = 37
              ·rw [if_pos c42] at H
               have c42b0 : (a1_0 == 37) = true := beq_iff_eq.mpr c42
               have c42b1 : (a1_0 != 37) = false := bne_eq_false_iff_eq.mpr c42
               clear c42
               have H' := am H
               clear H
               go_wp2
               go_meet
               case rel => exact ⟨_, ((a1_0 == 37)), dr, H', ⟨by have := HJ2.out; first | omega | exact Nat.le_refl _⟩, ⟨bp BK158⟩, ⟨bp BK159⟩, ⟨bw HB⟩⟩
              ·rw [if_neg c42] at H
               have c42b0 : (a1_0 == 37) = false := beq_eq_false_iff_ne.mpr c42
               have c42b1 : (a1_0 != 37) = true := bne_iff_ne.mpr c42
               have H' := am H
               clear H
               go_wp2
               go_meet
               case rel => exact ⟨_, ((a1_0 == 38)), dr, H', ⟨by have := HJ2.out; first | omega | exact Nat.le_refl _⟩, ⟨bp BK158⟩, ⟨bp BK159⟩, ⟨bw HB⟩⟩
       case rest =>
        clear HC33
        (try clear c1); (try clear p1); (try clear q1); (try clear hx1); (try clear c2); (try clear p2); (try clear c3); (try clear c4); (try clear c7); (try clear c8); (try clear c10); (try clear c11); (try clear c12); (try clear c13); (try clear c13b0); (try clear c13b1); (try clear c14); (try clear c16); (try clear c16b0); (try clear c16b1); (try clear p16); (try clear q16); (try clear hx16); (try clear c17); (try clear c17b0); (try clear c18); (try clear c20); (try clear c20b0); (try clear c21); (try clear c24); (try clear c24b0); (try clear c25); (try clear c25b0); (try clear c26); (try clear c30); (try clear c31); (try clear c34); (try clear c36); (try clear c36b0); (try clear c36b1); (try clear c37); (try clear c37b0); (try clear c37b1); (try clear c38); (try clear c38b0); (try clear c38b1); (try clear c39); (try clear c39b0); (try clear c39b1); (try clear c40); (try clear c40b0); (try clear c40b1); (try clear c41); (try clear c41b0); (try clear c41b1); (try clear c42); (try clear c42b0); (try clear c42b1); (try clear hcz11_0); (try clear hcz11_1); (try clear hcz15_0); (try clear hcz15_1); (try clear hcz19_0); (try clear hcz19_1); (try clear hcz22_0); (try clear hcz22_1); (try clear hcz23_0); (try clear hcz27_0); (try clear hcz27_1); (try clear hcz28_0); (try clear hcz32_0); (try clear hcz32_1); (try clear hcz35_0); (try clear hcz35_1); (try clear hcz9_0); (try clear hcz9_1); (try clear hfz11_0); (try clear hfz11_1); (try clear hfz15_0); (try clear hfz15_1); (try clear hfz19_0); (try clear hfz19_1); (try clear hfz22_0); (try clear hfz22_1); (try clear hfz23_0); (try clear hfz27_0); (try clear hfz27_1); (try clear hfz28_0); (try clear hfz32_0); (try clear hfz32_1); (try clear hfz35_0); (try clear hfz35_1); (try clear hfz9_0); (try clear hfz9_1); (try clear hx161_0); (try clear hx161_1); (try clear hx161_2); (try clear p161); (try clear p2); (try clear q161)
        obtain ⟨kq, x46_32, rfl, HA, HJ32, BK158, BK159, HB⟩ := hcut
        cases kq with
        | zero => exact absurd HA.out (by simp [spec_Takes.j1])
        | succ kj32 =>
         have H := HA.out
         clear HA
         simp only [spec_Takes.j1] at H
         by_cases c43 : x46_32 = true
         ·subst c43
          have H1 : (some 1) = some r := by rw [if_pos rfl] at H; exact H
          clear H
          have H := H1
          clear H1
          obtain rfl := Option.some.inj H
          go_wp2
          go_ret
          exact ⟨er, bw HB⟩
         ·replace c43 := Bool.eq_false_iff.mpr c43
          subst c43
          have H1 : (some 0) = some r := by rw [if_neg (show ¬ (false = true) by decide)] at H; exact H
          clear H
          have H := H1
          clear H1
          obtain rfl := Option.some.inj H
          go_wp2
          go_ret
          exact ⟨er, bw HB⟩

mutual
def spec_Puts.j0 : Nat → Bool → Int → Int → Option (Int)
 | 0, _, _, _ => none
 | k + 1, x10, x164000, x164001 => if x10 = true then (some 1) else (if x164000 = 4 then (some 2) else (if x164000 = 1 then (spec_Puts.j1 k (x164000 == 1)) else (if x164000 = 2 then (spec_Puts.j1 k (x164000 == 2)) else (if x164000 = 32 then (spec_Puts.j1 k (x164000 == 32)) else (if x164000 = 34 then (spec_Puts.j1 k (x164000 == 34)) else (if x164000 = 35 then (spec_Puts.j1 k (x164000 == 35)) else (spec_Puts.j1 k (x164000 == 37))))))))
def spec_Puts.j1 : Nat → Bool → Option (Int)
 | 0, _ => none
 | k + 1, x15 => if x15 = true then (some 1) else (some 0)
end
def spec_Puts.f (k : Nat) (a0_0 : Int) (a0_1 : Int) : Option (Int) := (spec_l03Binary.f a0_0).bind fun t164 => (if t164 = true then (spec_Puts.j0 k true a0_0 a0_1) else ((spec_l03Unary.f a0_0).bind fun t165 => (spec_Puts.j0 k t165 a0_0 a0_1)))
theorem spec_Puts.mono_l : ∀ k, (∀ y0 y1 y2, LeO (spec_Puts.j0 k y0 y1 y2) (spec_Puts.j0 (k + 1) y0 y1 y2)) ∧ (∀ y0, LeO (spec_Puts.j1 k y0) (spec_Puts.j1 (k + 1) y0))
 | 0 => ⟨fun _ _ _ r h => by simp [spec_Puts.j0] at h, fun _ r h => by simp [spec_Puts.j1] at h⟩
 | k + 1 => by
  obtain ⟨ih0, ih1⟩ := spec_Puts.mono_l k
  refine ⟨?_, ?_⟩
  ·intro y0 y1 y2
   unfold spec_Puts.j0
   repeat' first
   | (with_reducible exact ih0 _ _ _)
   | (with_reducible exact ih1 _)
   | (with_reducible exact LeO.refl _)
   | (with_reducible exact LeO.none _)
   | (with_reducible refine LeO.ite ?_ ?_)
   | (with_reducible refine LeO.bind ?_ (fun _ => ?_))
  ·intro y0
   unfold spec_Puts.j1
   repeat' first
   | (with_reducible exact ih0 _ _ _)
   | (with_reducible exact ih1 _)
   | (with_reducible exact LeO.refl _)
   | (with_reducible exact LeO.none _)
   | (with_reducible refine LeO.ite ?_ ?_)
   | (with_reducible refine LeO.bind ?_ (fun _ => ?_))
theorem spec_Puts.mono : ∀ a0 a1 k, LeO (spec_Puts.f k a0 a1) (spec_Puts.f (k + 1) a0 a1) := by
 intro a0 a1 k
 obtain ⟨ih0, ih1⟩ := spec_Puts.mono_l k
 unfold spec_Puts.f
 repeat' first
   | (with_reducible exact ih0 _ _ _)
   | (with_reducible exact ih1 _)
   | (with_reducible exact LeO.refl _)
   | (with_reducible exact LeO.none _)
   | (with_reducible refine LeO.ite ?_ ?_)
   | (with_reducible refine LeO.bind ?_ (fun _ => ?_))
theorem spec_Puts.calls (k : Nat) (a0_0 : Int) (a0_1 : Int) (r : Int) (w : World) (h : spec_Puts.f k a0_0 a0_1 = some r) :
  Calls Try.prog 119 #[.agg #[.int .i64 a0_0, .int .i64 a0_1]] w fun e w' => e = .returned (.int .i64 r) ∧ Below w.heap.size w w' := by
 have hu102 := Try.underlying102
 have HB := am (Below.refl w.heap.size w)
 have H : ((spec_l03Binary.f a0_0).bind fun t164 => (if t164 = true then (spec_Puts.j0 k true a0_0 a0_1) else ((spec_l03Unary.f a0_0).bind fun t165 => (spec_Puts.j0 k t165 a0_0 a0_1)))) = some r := h
 clear h
 have HC2 := am H
 clear H
 go_enter Try.func119, Try.ntmps119
 go_upto_region 1 with (first | ((with_reducible refine gate_dst (N := 1) rfl ?_); refine box_event ?hg (N := 1) ?hd (cs := #[.int .i64 a0_0, .int .i64 a0_1]) (t := 102) ?hr ?_; (case hd => rfl); (case hg => rfl); (case hr => exact gs); intro gb163 hg w3 hbox hb; have BK163 := am (hbox); have GW163 := am ((by rw [hg]; exact (below_size (bw HB)) : w.heap.size ≤ gb163)); have GE163 := am ((by rw [hg]; exact (below_size (bw HB)) : w.heap.size ≤ gb163)); replace HB := am (below_step (bw HB) hb); clear hb hbox hg))
 (try simp only [Act.put, sa, sz, ss])
 go_cut [10] (fun v10 wc => ∃ (kq : Nat) (x10_1 : Bool), v10 = .bool x10_1 ∧ Aside0 (spec_Puts.j0 kq x10_1 a0_0 a0_1 = some r) ∧ Aside0 (kq ≤ k) ∧ Aside0 (wc.heap[gb163]? = some (.cells #[.int .i64 a0_0, .int .i64 a0_1] 102 (0, 0))) ∧ Aside0 (Below w.heap.size w wc))
 case first =>
  have H := HC2.out
  clear HC2
  replace H := Option.bind_eq_some_iff.mp H
  obtain ⟨t164, A40, H⟩ := H
  replace H : (if t164 = true then (spec_Puts.j0 k true a0_0 a0_1) else ((spec_l03Unary.f a0_0).bind fun t165 => (spec_Puts.j0 k t165 a0_0 a0_1))) = some r := H
  have A4 := am A40
  clear A40
  by_cases c5 : t164 = true
  ·subst c5
   have H1 : (spec_Puts.j0 k true a0_0 a0_1) = some r := by rw [if_pos rfl] at H; exact H
   clear H
   have H := H1
   clear H1
   have H' := am H
   clear H
   have hcz6_0 : w3.cell? ⟨gb163, 0, none⟩ = some (.int .i64 a0_0) := bc BK163 0
   have hcz6_1 : w3.cell? ⟨gb163, 1, none⟩ = some (.int .i64 a0_1) := bc BK163 1
   have hfz6_0 := bf BK163 0
   have hfz6_1 := bf BK163 1
   go_wp2_with (first | ((with_reducible refine gate_callee (f := 168) rfl ?_); refine goesL_ (some 5) rfl rfl Try.func168 (by kernel_rfl) rfl #[.int .i64 a0_0] rfl gl ?_; (with_reducible refine (spec_l03Binary.calls a0_0 true _ A4.out).mono ?_); rintro e w' ⟨rfl, ⟨nd, rfl⟩⟩; refine ⟨_, rfl, ?_⟩))
   go_meet
   case rel => exact ⟨_, (true), dr, H', ⟨by first | omega | exact Nat.le_refl _⟩, ⟨bp BK163⟩, ⟨bw HB⟩⟩
  ·replace c5 := Bool.eq_false_iff.mpr c5
   subst c5
   have H1 : ((spec_l03Unary.f a0_0).bind fun t165 => (spec_Puts.j0 k t165 a0_0 a0_1)) = some r := by rw [if_neg (show ¬ (false = true) by decide)] at H; exact H
   clear H
   have H := H1
   clear H1
   replace H := Option.bind_eq_some_iff.mp H
   obtain ⟨t165, A70, H⟩ := H
   replace H : (spec_Puts.j0 k t165 a0_0 a0_1) = some r := H
   have A7 := am A70
   clear A70
   have H' := am H
   clear H
   have hcz8_0 : w3.cell? ⟨gb163, 0, none⟩ = some (.int .i64 a0_0) := bc BK163 0
   have hcz8_1 : w3.cell? ⟨gb163, 1, none⟩ = some (.int .i64 a0_1) := bc BK163 1
   have hfz8_0 := bf BK163 0
   have hfz8_1 := bf BK163 1
   go_wp2_with (first | ((with_reducible refine gate_callee (f := 168) rfl ?_); refine goesL_ (some 5) rfl rfl Try.func168 (by kernel_rfl) rfl #[.int .i64 a0_0] rfl gl ?_; (with_reducible refine (spec_l03Binary.calls a0_0 false _ A4.out).mono ?_); rintro e w' ⟨rfl, ⟨nd, rfl⟩⟩; refine ⟨_, rfl, ?_⟩) | (go_at_call 169; (with_reducible refine (spec_l03Unary.calls a0_0 t165 _ A7.out).mono ?_); rintro e w' ⟨rfl, ⟨nd, rfl⟩⟩))
   go_meet
   case rel => exact ⟨_, (t165), dr, H', ⟨by first | omega | exact Nat.le_refl _⟩, ⟨bp BK163⟩, ⟨bw HB⟩⟩
 case rest =>
  clear HC2
  (try clear c1); (try clear p2); (try clear c5); (try clear hcz6_0); (try clear hcz6_1); (try clear hcz8_0); (try clear hcz8_1); (try clear hfz6_0); (try clear hfz6_1); (try clear hfz8_0); (try clear hfz8_1)
  obtain ⟨kq, x10_1, rfl, HA, HJ1, BK163, HB⟩ := hcut
  cases kq with
  | zero => exact absurd HA.out (by simp [spec_Puts.j0])
  | succ kj1 =>
   have H := HA.out
   clear HA
   simp only [spec_Puts.j0] at H
   by_cases c9 : x10_1 = true
   ·subst c9
    have H1 : (some 1) = some r := by rw [if_pos rfl] at H; exact H
    clear H
    have H := H1
    clear H1
    obtain rfl := Option.some.inj H
    go_wp2
    go_ret
    exact ⟨er, bw HB⟩
   ·replace c9 := Bool.eq_false_iff.mpr c9
    subst c9
    have H1 : (if a0_0 = 4 then (some 2) else (if a0_0 = 1 then (spec_Puts.j1 kj1 (a0_0 == 1)) else (if a0_0 = 2 then (spec_Puts.j1 kj1 (a0_0 == 2)) else (if a0_0 = 32 then (spec_Puts.j1 kj1 (a0_0 == 32)) else (if a0_0 = 34 then (spec_Puts.j1 kj1 (a0_0 == 34)) else (if a0_0 = 35 then (spec_Puts.j1 kj1 (a0_0 == 35)) else (spec_Puts.j1 kj1 (a0_0 == 37)))))))) = some r := by rw [if_neg (show ¬ (false = true) by decide)] at H; exact H
    clear H
    have H := H1
    clear H1
    by_cases c10 : a0_0 = 4
    ·rw [if_pos c10] at H
     have c10b0 : (a0_0 == 4) = true := beq_iff_eq.mpr c10
     have c10b1 : (a0_0 != 4) = false := bne_eq_false_iff_eq.mpr c10
     clear c10
     obtain rfl := Option.some.inj H
     have hcz11_0 : wc.cell? ⟨gb163, 0, none⟩ = some (.int .i64 a0_0) := bc BK163 0
     have hcz11_1 : wc.cell? ⟨gb163, 1, none⟩ = some (.int .i64 a0_1) := bc BK163 1
     have hfz11_0 := bf BK163 0
     have hfz11_1 := bf BK163 1
     go_wp2
     go_ret
     exact ⟨er, bw HB⟩
    ·rw [if_neg c10] at H
     have c10b0 : (a0_0 == 4) = false := beq_eq_false_iff_ne.mpr c10
     have c10b1 : (a0_0 != 4) = true := bne_iff_ne.mpr c10
     have HC12 := am H
     clear H
     have hcz13_0 : wc.cell? ⟨gb163, 0, none⟩ = some (.int .i64 a0_0) := bc BK163 0
     have hcz13_1 : wc.cell? ⟨gb163, 1, none⟩ = some (.int .i64 a0_1) := bc BK163 1
     have hfz13_0 := bf BK163 0
     have hfz13_1 := bf BK163 1
     go_upto_if 15 with (fail)
     go_cut [15] (fun v15 wc => ∃ (kq : Nat) (x15_11 : Bool), v15 = .bool x15_11 ∧ Aside0 (spec_Puts.j1 kq x15_11 = some r) ∧ Aside0 (kq ≤ kj1) ∧ Aside0 (wc.heap[gb163]? = some (.cells #[.int .i64 a0_0, .int .i64 a0_1] 102 (0, 0))) ∧ Aside0 (Below w.heap.size w wc))
     case first =>
      have H := HC12.out
      clear HC12
      by_cases c14 : a0_0 = 1
      ·rw [if_pos c14] at H
       have c14b0 : (a0_0 == 1) = true := beq_iff_eq.mpr c14
       have c14b1 : (a0_0 != 1) = false := bne_eq_false_iff_eq.mpr c14
       clear c14
       (first | rw [c14b0] | (simp only [i64_w, i32_w]; rw [c14b0]) | skip)
       have H' := am H
       clear H
       go_wp2
       go_meet
       case rel => exact ⟨_, ((a0_0 == 1)), dr, H', ⟨by have := HJ1.out; first | omega | exact Nat.le_refl _⟩, ⟨bp BK163⟩, ⟨bw HB⟩⟩
      ·rw [if_neg c14] at H
       have c14b0 : (a0_0 == 1) = false := beq_eq_false_iff_ne.mpr c14
       have c14b1 : (a0_0 != 1) = true := bne_iff_ne.mpr c14
       (first | rw [c14b0] | (simp only [i64_w, i32_w]; rw [c14b0]) | skip)
       by_cases c15 : a0_0 = 2
       ·rw [if_pos c15] at H
        have c15b0 : (a0_0 == 2) = true := beq_iff_eq.mpr c15
        have c15b1 : (a0_0 != 2) = false := bne_eq_false_iff_eq.mpr c15
        clear c15
        have H' := am H
        clear H
        go_wp2
        go_meet
        case rel => exact ⟨_, ((a0_0 == 2)), dr, H', ⟨by have := HJ1.out; first | omega | exact Nat.le_refl _⟩, ⟨bp BK163⟩, ⟨bw HB⟩⟩
       ·rw [if_neg c15] at H
        have c15b0 : (a0_0 == 2) = false := beq_eq_false_iff_ne.mpr c15
        have c15b1 : (a0_0 != 2) = true := bne_iff_ne.mpr c15
        by_cases c16 : a0_0 = 32
        ·rw [if_pos c16] at H
         have c16b0 : (a0_0 == 32) = true := beq_iff_eq.mpr c16
         have c16b1 : (a0_0 != 32) = false := bne_eq_false_iff_eq.mpr c16
         clear c16
         have H' := am H
         clear H
         go_wp2
         go_meet
         case rel => exact ⟨_, ((a0_0 == 32)), dr, H', ⟨by have := HJ1.out; first | omega | exact Nat.le_refl _⟩, ⟨bp BK163⟩, ⟨bw HB⟩⟩
        ·rw [if_neg c16] at H
         have c16b0 : (a0_0 == 32) = false := beq_eq_false_iff_ne.mpr c16
         have c16b1 : (a0_0 != 32) = true := bne_iff_ne.mpr c16
         by_cases c17 : a0_0 = 34
         ·rw [if_pos c17] at H
          have c17b0 : (a0_0 == 34) = true := beq_iff_eq.mpr c17
          have c17b1 : (a0_0 != 34) = false := bne_eq_false_iff_eq.mpr c17
          clear c17
          have H' := am H
          clear H
          go_wp2
          go_meet
          case rel => exact ⟨_, ((a0_0 == 34)), dr, H', ⟨by have := HJ1.out; first | omega | exact Nat.le_refl _⟩, ⟨bp BK163⟩, ⟨bw HB⟩⟩
         ·rw [if_neg c17] at H
          have c17b0 : (a0_0 == 34) = false := beq_eq_false_iff_ne.mpr c17
          have c17b1 : (a0_0 != 34) = true := bne_iff_ne.mpr c17
          by_cases c18 : a0_0 = 35
          ·rw [if_pos c18] at H
           have c18b0 : (a0_0 == 35) = true := beq_iff_eq.mpr c18
           have c18b1 : (a0_0 != 35) = false := bne_eq_false_iff_eq.mpr c18
           clear c18
           have H' := am H
           clear H
           go_wp2
           go_meet
           case rel => exact ⟨_, ((a0_0 == 35)), dr, H', ⟨by have := HJ1.out; first | omega | exact Nat.le_refl _⟩, ⟨bp BK163⟩, ⟨bw HB⟩⟩
          ·rw [if_neg c18] at H
           have c18b0 : (a0_0 == 35) = false := beq_eq_false_iff_ne.mpr c18
           have c18b1 : (a0_0 != 35) = true := bne_iff_ne.mpr c18
           have H' := am H
           clear H
           go_wp2
           go_meet
           case rel => exact ⟨_, ((a0_0 == 37)), dr, H', ⟨by have := HJ1.out; first | omega | exact Nat.le_refl _⟩, ⟨bp BK163⟩, ⟨bw HB⟩⟩
     case rest =>
      clear HC12
      (try clear c1); (try clear p2); (try clear c5); (try clear c9); (try clear c10); (try clear c10b0); (try clear c10b1); (try clear c11); (try clear c14); (try clear c14b0); (try clear c14b1); (try clear c15); (try clear c15b0); (try clear c15b1); (try clear c16); (try clear c16b0); (try clear c16b1); (try clear c17); (try clear c17b0); (try clear c17b1); (try clear c18); (try clear c18b0); (try clear c18b1); (try clear hcz11_0); (try clear hcz11_1); (try clear hcz13_0); (try clear hcz13_1); (try clear hcz6_0); (try clear hcz6_1); (try clear hcz8_0); (try clear hcz8_1); (try clear hfz11_0); (try clear hfz11_1); (try clear hfz13_0); (try clear hfz13_1); (try clear hfz6_0); (try clear hfz6_1); (try clear hfz8_0); (try clear hfz8_1); (try clear p2)
      obtain ⟨kq, x15_11, rfl, HA, HJ11, BK163, HB⟩ := hcut
      cases kq with
      | zero => exact absurd HA.out (by simp [spec_Puts.j1])
      | succ kj11 =>
       have H := HA.out
       clear HA
       simp only [spec_Puts.j1] at H
       by_cases c19 : x15_11 = true
       ·subst c19
        have H1 : (some 1) = some r := by rw [if_pos rfl] at H; exact H
        clear H
        have H := H1
        clear H1
        obtain rfl := Option.some.inj H
        go_wp2
        go_ret
        exact ⟨er, bw HB⟩
       ·replace c19 := Bool.eq_false_iff.mpr c19
        subst c19
        have H1 : (some 0) = some r := by rw [if_neg (show ¬ (false = true) by decide)] at H; exact H
        clear H
        have H := H1
        clear H1
        obtain rfl := Option.some.inj H
        go_wp2
        go_ret
        exact ⟨er, bw HB⟩

end Go.Proofs.Ytbmjmaahcaoajaa.QFnExactHeaders
