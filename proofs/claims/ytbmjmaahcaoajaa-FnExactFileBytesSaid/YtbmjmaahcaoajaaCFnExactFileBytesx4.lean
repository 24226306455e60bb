import Derived.Test.YtbmjmaahcaoajaaCFnExactFileBytesx0
import Derived.Test.YtbmjmaahcaoajaaCFnExactFileBytesx3
namespace Go.Proofs.Ytbmjmaahcaoajaa.QFnExactFileBytes
open Go.RowKit Go.Proofs.YtbmjmaahcaoajaaW
open PrintWords PrintLast PrintMore PrintShort
attribute [local go_sem] max2_int min2_int max_two min_two max_three min_three max_four min_four   -- for this text's walks alone
set_option linter.unusedVariables false
set_option maxHeartbeats 8000000
set_option maxRecDepth 100000
set_option linter.unusedSimpArgs false

mutual
def spec_Puts.j0 : Nat → Bool → Int → Int → Option (Int)
 | 0, _, _, _ => none
 | k + 1, x10, x160000, x160001 => if x10 = true then (some 1) else (if x160000 = 4 then (some 2) else (if x160000 = 1 then (spec_Puts.j1 k (x160000 == 1)) else (if x160000 = 2 then (spec_Puts.j1 k (x160000 == 2)) else (if x160000 = 32 then (spec_Puts.j1 k (x160000 == 32)) else (if x160000 = 34 then (spec_Puts.j1 k (x160000 == 34)) else (if x160000 = 35 then (spec_Puts.j1 k (x160000 == 35)) else (spec_Puts.j1 k (x160000 == 37))))))))
def spec_Puts.j1 : Nat → Bool → Option (Int)
 | 0, _ => none
 | k + 1, x15 => if x15 = true then (some 1) else (some 0)
end
def spec_Puts.f (k : Nat) (a0_0 : Int) (a0_1 : Int) : Option (Int) := (spec_l03Binary.f a0_0).bind fun t160 => (if t160 = true then (spec_Puts.j0 k true a0_0 a0_1) else ((spec_l03Unary.f a0_0).bind fun t161 => (spec_Puts.j0 k t161 a0_0 a0_1)))
theorem spec_Puts.mono_l : ∀ k, (∀ y0 y1 y2, LeO (spec_Puts.j0 k y0 y1 y2) (spec_Puts.j0 (k + 1) y0 y1 y2)) ∧ (∀ y0, LeO (spec_Puts.j1 k y0) (spec_Puts.j1 (k + 1) y0))
 | 0 => ⟨fun _ _ _ r h => by simp [spec_Puts.j0] at h, fun _ r h => by simp [spec_Puts.j1] at h⟩
 | k + 1 => by
  obtain ⟨ih0, ih1⟩ := spec_Puts.mono_l k
  refine ⟨?_, ?_⟩
  ·intro y0 y1 y2
   unfold spec_Puts.j0
   repeat' first
   | (with_reducible exact ih0 _ _ _)
   | (with_reducible exact ih1 _)
   | (with_reducible exact LeO.refl _)
   | (with_reducible exact LeO.none _)
   | (with_reducible refine LeO.ite ?_ ?_)
   | (with_reducible refine LeO.bind ?_ (fun _ => ?_))
  ·intro y0
   unfold spec_Puts.j1
   repeat' first
   | (with_reducible exact ih0 _ _ _)
   | (with_reducible exact ih1 _)
   | (with_reducible exact LeO.refl _)
   | (with_reducible exact LeO.none _)
   | (with_reducible refine LeO.ite ?_ ?_)
   | (with_reducible refine LeO.bind ?_ (fun _ => ?_))
theorem spec_Puts.mono : ∀ a0 a1 k, LeO (spec_Puts.f k a0 a1) (spec_Puts.f (k + 1) a0 a1) := by
 intro a0 a1 k
 obtain ⟨ih0, ih1⟩ := spec_Puts.mono_l k
 unfold spec_Puts.f
 repeat' first
   | (with_reducible exact ih0 _ _ _)
   | (with_reducible exact ih1 _)
   | (with_reducible exact LeO.refl _)
   | (with_reducible exact LeO.none _)
   | (with_reducible refine LeO.ite ?_ ?_)
   | (with_reducible refine LeO.bind ?_ (fun _ => ?_))
theorem spec_Puts.calls (k : Nat) (a0_0 : Int) (a0_1 : Int) (r : Int) (w : World) (h : spec_Puts.f k a0_0 a0_1 = some r) :
  Calls Try.prog 119 #[.agg #[.int .i64 a0_0, .int .i64 a0_1]] w fun e w' => e = .returned (.int .i64 r) ∧ Below w.heap.size w w' := by
 have hu102 := Try.underlying102
 have HB := am (Below.refl w.heap.size w)
 have H : ((spec_l03Binary.f a0_0).bind fun t160 => (if t160 = true then (spec_Puts.j0 k true a0_0 a0_1) else ((spec_l03Unary.f a0_0).bind fun t161 => (spec_Puts.j0 k t161 a0_0 a0_1)))) = some r := h
 clear h
 have HC2 := am H
 clear H
 go_enter Try.func119, Try.ntmps119
 go_upto_region 1 with (first | ((with_reducible refine gate_dst (N := 1) rfl ?_); refine box_event ?hg (N := 1) ?hd (cs := #[.int .i64 a0_0, .int .i64 a0_1]) (t := 102) ?hr ?_; (case hd => rfl); (case hg => rfl); (case hr => exact gs); intro gb159 hg w3 hbox hb; have BK159 := am (hbox); have GW159 := am ((by rw [hg]; exact (below_size (bw HB)) : w.heap.size ≤ gb159)); have GE159 := am ((by rw [hg]; exact (below_size (bw HB)) : w.heap.size ≤ gb159)); replace HB := am (below_step (bw HB) hb); clear hb hbox hg))
 (try simp only [Act.put, sa, sz, ss])
 go_cut [10] (fun v10 wc => ∃ (kq : Nat) (x10_1 : Bool), v10 = .bool x10_1 ∧ Aside0 (spec_Puts.j0 kq x10_1 a0_0 a0_1 = some r) ∧ Aside0 (kq ≤ k) ∧ Aside0 (wc.heap[gb159]? = some (.cells #[.int .i64 a0_0, .int .i64 a0_1] 102 (0, 0))) ∧ Aside0 (Below w.heap.size w wc))
 case first =>
  have H := HC2.out
  clear HC2
  replace H := Option.bind_eq_some_iff.mp H
  obtain ⟨t160, A40, H⟩ := H
  replace H : (if t160 = true then (spec_Puts.j0 k true a0_0 a0_1) else ((spec_l03Unary.f a0_0).bind fun t161 => (spec_Puts.j0 k t161 a0_0 a0_1))) = some r := H
  have A4 := am A40
  clear A40
  by_cases c5 : t160 = true
  ·subst c5
   have H1 : (spec_Puts.j0 k true a0_0 a0_1) = some r := by rw [if_pos rfl] at H; exact H
   clear H
   have H := H1
   clear H1
   have H' := am H
   clear H
   have hcz6_0 : w3.cell? ⟨gb159, 0, none⟩ = some (.int .i64 a0_0) := bc BK159 0
   have hcz6_1 : w3.cell? ⟨gb159, 1, none⟩ = some (.int .i64 a0_1) := bc BK159 1
   have hfz6_0 := bf BK159 0
   have hfz6_1 := bf BK159 1
   go_wp2_with (first | ((with_reducible refine gate_callee (f := 168) rfl ?_); refine goesL_ (some 5) rfl rfl Try.func168 (by kernel_rfl) rfl #[.int .i64 a0_0] rfl gl ?_; (with_reducible refine (spec_l03Binary.calls a0_0 true _ A4.out).mono ?_); rintro e w' ⟨rfl, ⟨nd, rfl⟩⟩; refine ⟨_, rfl, ?_⟩))
   go_meet
   case rel => exact ⟨_, (true), dr, H', ⟨by first | omega | exact Nat.le_refl _⟩, ⟨bp BK159⟩, ⟨bw HB⟩⟩
  ·replace c5 := Bool.eq_false_iff.mpr c5
   subst c5
   have H1 : ((spec_l03Unary.f a0_0).bind fun t161 => (spec_Puts.j0 k t161 a0_0 a0_1)) = some r := by rw [if_neg (show ¬ (false = true) by decide)] at H; exact H
   clear H
   have H := H1
   clear H1
   replace H := Option.bind_eq_some_iff.mp H
   obtain ⟨t161, A70, H⟩ := H
   replace H : (spec_Puts.j0 k t161 a0_0 a0_1) = some r := H
   have A7 := am A70
   clear A70
   have H' := am H
   clear H
   have hcz8_0 : w3.cell? ⟨gb159, 0, none⟩ = some (.int .i64 a0_0) := bc BK159 0
   have hcz8_1 : w3.cell? ⟨gb159, 1, none⟩ = some (.int .i64 a0_1) := bc BK159 1
   have hfz8_0 := bf BK159 0
   have hfz8_1 := bf BK159 1
   go_wp2_with (first | ((with_reducible refine gate_callee (f := 168) rfl ?_); refine goesL_ (some 5) rfl rfl Try.func168 (by kernel_rfl) rfl #[.int .i64 a0_0] rfl gl ?_; (with_reducible refine (spec_l03Binary.calls a0_0 false _ A4.out).mono ?_); rintro e w' ⟨rfl, ⟨nd, rfl⟩⟩; refine ⟨_, rfl, ?_⟩) | (go_at_call 169; (with_reducible refine (spec_l03Unary.calls a0_0 t161 _ A7.out).mono ?_); rintro e w' ⟨rfl, ⟨nd, rfl⟩⟩))
   go_meet
   case rel => exact ⟨_, (t161), dr, H', ⟨by first | omega | exact Nat.le_refl _⟩, ⟨bp BK159⟩, ⟨bw HB⟩⟩
 case rest =>
  clear HC2
  (try clear c1); (try clear p2); (try clear c5); (try clear hcz6_0); (try clear hcz6_1); (try clear hcz8_0); (try clear hcz8_1); (try clear hfz6_0); (try clear hfz6_1); (try clear hfz8_0); (try clear hfz8_1)
  obtain ⟨kq, x10_1, rfl, HA, HJ1, BK159, HB⟩ := hcut
  cases kq with
  | zero => exact absurd HA.out (by simp [spec_Puts.j0])
  | succ kj1 =>
   have H := HA.out
   clear HA
   simp only [spec_Puts.j0] at H
   by_cases c9 : x10_1 = true
   ·subst c9
    have H1 : (some 1) = some r := by rw [if_pos rfl] at H; exact H
    clear H
    have H := H1
    clear H1
    obtain rfl := Option.some.inj H
    go_wp2
    go_ret
    exact ⟨er, bw HB⟩
   ·replace c9 := Bool.eq_false_iff.mpr c9
    subst c9
    have H1 : (if a0_0 = 4 then (some 2) else (if a0_0 = 1 then (spec_Puts.j1 kj1 (a0_0 == 1)) else (if a0_0 = 2 then (spec_Puts.j1 kj1 (a0_0 == 2)) else (if a0_0 = 32 then (spec_Puts.j1 kj1 (a0_0 == 32)) else (if a0_0 = 34 then (spec_Puts.j1 kj1 (a0_0 == 34)) else (if a0_0 = 35 then (spec_Puts.j1 kj1 (a0_0 == 35)) else (spec_Puts.j1 kj1 (a0_0 == 37)))))))) = some r := by rw [if_neg (show ¬ (false = true) by decide)] at H; exact H
    clear H
    have H := H1
    clear H1
    by_cases c10 : a0_0 = 4
    ·rw [if_pos c10] at H
     have c10b0 : (a0_0 == 4) = true := beq_iff_eq.mpr c10
     have c10b1 : (a0_0 != 4) = false := bne_eq_false_iff_eq.mpr c10
     clear c10
     obtain rfl := Option.some.inj H
     have hcz11_0 : wc.cell? ⟨gb159, 0, none⟩ = some (.int .i64 a0_0) := bc BK159 0
     have hcz11_1 : wc.cell? ⟨gb159, 1, none⟩ = some (.int .i64 a0_1) := bc BK159 1
     have hfz11_0 := bf BK159 0
     have hfz11_1 := bf BK159 1
     go_wp2
     go_ret
     exact ⟨er, bw HB⟩
    ·rw [if_neg c10] at H
     have c10b0 : (a0_0 == 4) = false := beq_eq_false_iff_ne.mpr c10
     have c10b1 : (a0_0 != 4) = true := bne_iff_ne.mpr c10
     have HC12 := am H
     clear H
     have hcz13_0 : wc.cell? ⟨gb159, 0, none⟩ = some (.int .i64 a0_0) := bc BK159 0
     have hcz13_1 : wc.cell? ⟨gb159, 1, none⟩ = some (.int .i64 a0_1) := bc BK159 1
     have hfz13_0 := bf BK159 0
     have hfz13_1 := bf BK159 1
     go_upto_if 15 with (fail)
     go_cut [15] (fun v15 wc => ∃ (kq : Nat) (x15_11 : Bool), v15 = .bool x15_11 ∧ Aside0 (spec_Puts.j1 kq x15_11 = some r) ∧ Aside0 (kq ≤ kj1) ∧ Aside0 (wc.heap[gb159]? = some (.cells #[.int .i64 a0_0, .int .i64 a0_1] 102 (0, 0))) ∧ Aside0 (Below w.heap.size w wc))
     case first =>
      have H := HC12.out
      clear HC12
      by_cases c14 : a0_0 = 1
      ·rw [if_pos c14] at H
       have c14b0 : (a0_0 == 1) = true := beq_iff_eq.mpr c14
       have c14b1 : (a0_0 != 1) = false := bne_eq_false_iff_eq.mpr c14
       clear c14
       (first | rw [c14b0] | (simp only [i64_w, i32_w]; rw [c14b0]) | skip)
       have H' := am H
       clear H
       go_wp2
       go_meet
       case rel => exact ⟨_, ((a0_0 == 1)), dr, H', ⟨by have := HJ1.out; first | omega | exact Nat.le_refl _⟩, ⟨bp BK159⟩, ⟨bw HB⟩⟩
      ·rw [if_neg c14] at H
       have c14b0 : (a0_0 == 1) = false := beq_eq_false_iff_ne.mpr c14
       have c14b1 : (a0_0 != 1) = true := bne_iff_ne.mpr c14
       (first | rw [c14b0] | (simp only [i64_w, i32_w]; rw [c14b0]) | skip)
       by_cases c15 : a0_0 = 2
       ·rw [if_pos c15] at H
        have c15b0 : (a0_0 == 2) = true := beq_iff_eq.mpr c15
        have c15b1 : (a0_0 != 2) = false := bne_eq_false_iff_eq.mpr c15
        clear c15
        have H' := am H
        clear H
        go_wp2
        go_meet
        case rel => exact ⟨_, ((a0_0 == 2)), dr, H', ⟨by have := HJ1.out; first | omega | exact Nat.le_refl _⟩, ⟨bp BK159⟩, ⟨bw HB⟩⟩
       ·rw [if_neg c15] at H
        have c15b0 : (a0_0 == 2) = false := beq_eq_false_iff_ne.mpr c15
        have c15b1 : (a0_0 != 2) = true := bne_iff_ne.mpr c15
        by_cases c16 : a0_0 = 32
        ·rw [if_pos c16] at H
         have c16b0 : (a0_0 == 32) = true := beq_iff_eq.mpr c16
         have c16b1 : (a0_0 != 32) = false := bne_eq_false_iff_eq.mpr c16
         clear c16
         have H' := am H
         clear H
         go_wp2
         go_meet
         case rel => exact ⟨_, ((a0_0 == 32)), dr, H', ⟨by have := HJ1.out; first | omega | exact Nat.le_refl _⟩, ⟨bp BK159⟩, ⟨bw HB⟩⟩
        ·rw [if_neg c16] at H
         have c16b0 : (a0_0 == 32) = false := beq_eq_false_iff_ne.mpr c16
         have c16b1 : (a0_0 != 32) = true := bne_iff_ne.mpr c16
         by_cases c17 : a0_0 = 34
         ·rw [if_pos c17] at H
          have c17b0 : (a0_0 == 34) = true := beq_iff_eq.mpr c17
          have c17b1 : (a0_0 != 34) = false := bne_eq_false_iff_eq.mpr c17
          clear c17
          have H' := am H
          clear H
          go_wp2
          go_meet
          case rel => exact ⟨_, ((a0_0 == 34)), dr, H', ⟨by have := HJ1.out; first | omega | exact Nat.le_refl _⟩, ⟨bp BK159⟩, ⟨bw HB⟩⟩
         ·rw [if_neg c17] at H
          have c17b0 : (a0_0 == 34) = false := beq_eq_false_iff_ne.mpr c17
          have c17b1 : (a0_0 != 34) = true := bne_iff_ne.mpr c17
          by_cases c18 : a0_0 = 35
          ·rw [if_pos c18] at H
           have c18b0 : (a0_0 == 35) = true := beq_iff_eq.mpr c18
           have c18b1 : (a0_0 != 35) = false := bne_eq_false_iff_eq.mpr c18
           clear c18
           have H' := am H
           clear H
           go_wp2
           go_meet
           case rel => exact ⟨_, ((a0_0 == 35)), dr, H', ⟨by have := HJ1.out; first | omega | exact Nat.le_refl _⟩, ⟨bp BK159⟩, ⟨bw HB⟩⟩
          ·rw [if_neg c18] at H
           have c18b0 : (a0_0 == 35) = false := beq_eq_false_iff_ne.mpr c18
           have c18b1 : (a0_0 != 35) = true := bne_iff_ne.mpr c18
           have H' := am H
           clear H
           go_wp2
           go_meet
           case rel => exact ⟨_, ((a0_0 == 37)), dr, H', ⟨by have := HJ1.out; first | omega | exact Nat.le_refl _⟩, ⟨bp BK159⟩, ⟨bw HB⟩⟩
     case rest =>
      clear HC12
      (try clear c1); (try clear p2); (try clear c5); (try clear c9); (try clear c10); (try clear c10b0); (try clear c10b1); (try clear c11); (try clear c14); (try clear c14b0); (try clear c14b1); (try clear c15); (try clear c15b0); (try clear c15b1); (try clear c16); (try clear c16b0); (try clear c16b1); (try clear c17); (try clear c17b0); (try clear c17b1); (try clear c18); (try clear c18b0); (try clear c18b1); (try clear hcz11_0); (try clear hcz11_1); (try clear hcz13_0); (try clear hcz13_1); (try clear hcz6_0); (try clear hcz6_1); (try clear hcz8_0); (try clear hcz8_1); (try clear hfz11_0); (try clear hfz11_1); (try clear hfz13_0); (try clear hfz13_1); (try clear hfz6_0); (try clear hfz6_1); (try clear hfz8_0); (try clear hfz8_1); (try clear p2)
      obtain ⟨kq, x15_11, rfl, HA, HJ11, BK159, HB⟩ := hcut
      cases kq with
      | zero => exact absurd HA.out (by simp [spec_Puts.j1])
      | succ kj11 =>
       have H := HA.out
       clear HA
       simp only [spec_Puts.j1] at H
       by_cases c19 : x15_11 = true
       ·subst c19
        have H1 : (some 1) = some r := by rw [if_pos rfl] at H; exact H
        clear H
        have H := H1
        clear H1
        obtain rfl := Option.some.inj H
        go_wp2
        go_ret
        exact ⟨er, bw HB⟩
       ·replace c19 := Bool.eq_false_iff.mpr c19
        subst c19
        have H1 : (some 0) = some r := by rw [if_neg (show ¬ (false = true) by decide)] at H; exact H
        clear H
        have H := H1
        clear H1
        obtain rfl := Option.some.inj H
        go_wp2
        go_ret
        exact ⟨er, bw HB⟩

end Go.Proofs.Ytbmjmaahcaoajaa.QFnExactFileBytes
