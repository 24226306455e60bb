import Derived.Test.YtbmjmaahcaoajaaCFnExactFileBytesx0
import Derived.Test.YtbmjmaahcaoajaaCFnExactFileBytesx9
namespace Go.Proofs.Ytbmjmaahcaoajaa.QFnExactFileBytes
open Go.RowKit Go.Proofs.YtbmjmaahcaoajaaW
open PrintWords PrintLast PrintMore PrintShort
attribute [local go_sem] max2_int min2_int max_two min_two max_three min_three max_four min_four   -- for this text's walks alone
set_option linter.unusedVariables false
set_option maxHeartbeats 8000000
set_option maxRecDepth 100000
set_option linter.unusedSimpArgs false

def impl_Puts.j0 : Nat → Bool → Int → Int → Option (Int)
 | 0, _, _, _ => none
 | k + 1, x7, x310000, x310001 => if x7 = true then (some 1) else ((impl_isArith.f x310000).bind fun t310 => (if t310 = true then (some 1) else (some 0)))
def impl_Puts.f (k : Nat) (a0_0 : Int) (a0_1 : Int) : Option (Int) := if a0_0 = 4 then (some 2) else (if a0_0 = 1 then (impl_Puts.j0 k (a0_0 == 1) a0_0 a0_1) else (if a0_0 = 2 then (impl_Puts.j0 k (a0_0 == 2) a0_0 a0_1) else (if a0_0 = 32 then (impl_Puts.j0 k (a0_0 == 32) a0_0 a0_1) else (if a0_0 = 34 then (impl_Puts.j0 k (a0_0 == 34) a0_0 a0_1) else (if a0_0 = 35 then (impl_Puts.j0 k (a0_0 == 35) a0_0 a0_1) else (impl_Puts.j0 k (a0_0 == 37) a0_0 a0_1))))))
theorem impl_Puts.mono_l : ∀ k, (∀ y0 y1 y2, LeO (impl_Puts.j0 k y0 y1 y2) (impl_Puts.j0 (k + 1) y0 y1 y2))
 | 0 => fun _ _ _ r h => by simp [impl_Puts.j0] at h
 | k + 1 => by
  have ih0 := impl_Puts.mono_l k
  ·intro y0 y1 y2
   unfold impl_Puts.j0
   repeat' first
   | (with_reducible exact ih0 _ _ _)
   | (with_reducible exact LeO.refl _)
   | (with_reducible exact LeO.none _)
   | (with_reducible refine LeO.ite ?_ ?_)
   | (with_reducible refine LeO.bind ?_ (fun _ => ?_))
theorem impl_Puts.mono : ∀ a0 a1 k, LeO (impl_Puts.f k a0 a1) (impl_Puts.f (k + 1) a0 a1) := by
 intro a0 a1 k
 have ih0 := impl_Puts.mono_l k
 unfold impl_Puts.f
 repeat' first
   | (with_reducible exact ih0 _ _ _)
   | (with_reducible exact LeO.refl _)
   | (with_reducible exact LeO.none _)
   | (with_reducible refine LeO.ite ?_ ?_)
   | (with_reducible refine LeO.bind ?_ (fun _ => ?_))
theorem impl_Puts.calls (k : Nat) (a0_0 : Int) (a0_1 : Int) (r : Int) (w : World) (h : impl_Puts.f k a0_0 a0_1 = some r) :
  Calls Try.prog 140 #[.agg #[.int .i64 a0_0, .int .i64 a0_1]] w fun e w' => e = .returned (.int .i64 r) ∧ Below w.heap.size w w' := by
 have hu102 := Try.underlying102
 have HB := am (Below.refl w.heap.size w)
 have H : (if a0_0 = 4 then (some 2) else (if a0_0 = 1 then (impl_Puts.j0 k (a0_0 == 1) a0_0 a0_1) else (if a0_0 = 2 then (impl_Puts.j0 k (a0_0 == 2) a0_0 a0_1) else (if a0_0 = 32 then (impl_Puts.j0 k (a0_0 == 32) a0_0 a0_1) else (if a0_0 = 34 then (impl_Puts.j0 k (a0_0 == 34) a0_0 a0_1) else (if a0_0 = 35 then (impl_Puts.j0 k (a0_0 == 35) a0_0 a0_1) else (impl_Puts.j0 k (a0_0 == 37) a0_0 a0_1))))))) = some r := h
 clear h
 by_cases c2 : a0_0 = 4
 ·rw [if_pos c2] at H
  have c2b0 : (a0_0 == 4) = true := beq_iff_eq.mpr c2
  have c2b1 : (a0_0 != 4) = false := bne_eq_false_iff_eq.mpr c2
  clear c2
  obtain rfl := Option.some.inj H
  go_enter Try.func140, Try.ntmps140
  go_wp2_with (first | ((with_reducible refine gate_dst (N := 1) rfl ?_); refine box_event ?hg (N := 1) ?hd (cs := #[.int .i64 a0_0, .int .i64 a0_1]) (t := 102) ?hr ?_; (case hd => rfl); (case hg => rfl); (case hr => exact gs); intro gb309 hg w3 hbox hb; have BK309 := am (hbox); have GW309 := am ((by rw [hg]; exact (below_size (bw HB)) : w.heap.size ≤ gb309)); have GE309 := am ((by rw [hg]; exact (below_size (bw HB)) : w.heap.size ≤ gb309)); replace HB := am (below_step (bw HB) hb); clear hb hbox hg; have hcz4_0 : w3.cell? ⟨gb309, 0, none⟩ = some (.int .i64 a0_0) := bc BK309 0; have hcz4_1 : w3.cell? ⟨gb309, 1, none⟩ = some (.int .i64 a0_1) := bc BK309 1; have hfz4_0 := bf BK309 0; have hfz4_1 := bf BK309 1))
  go_ret
  exact ⟨er, bw HB⟩
 ·rw [if_neg c2] at H
  have c2b0 : (a0_0 == 4) = false := beq_eq_false_iff_ne.mpr c2
  have c2b1 : (a0_0 != 4) = true := bne_iff_ne.mpr c2
  have HC5 := am H
  clear H
  go_enter Try.func140, Try.ntmps140
  go_upto_if 7 with (first | ((with_reducible refine gate_dst (N := 1) rfl ?_); refine box_event ?hg (N := 1) ?hd (cs := #[.int .i64 a0_0, .int .i64 a0_1]) (t := 102) ?hr ?_; (case hd => rfl); (case hg => rfl); (case hr => exact gs); intro gb309 hg w6 hbox hb; have BK309 := am (hbox); have GW309 := am ((by rw [hg]; exact (below_size (bw HB)) : w.heap.size ≤ gb309)); have GE309 := am ((by rw [hg]; exact (below_size (bw HB)) : w.heap.size ≤ gb309)); replace HB := am (below_step (bw HB) hb); clear hb hbox hg; have hcz7_0 : w6.cell? ⟨gb309, 0, none⟩ = some (.int .i64 a0_0) := bc BK309 0; have hcz7_1 : w6.cell? ⟨gb309, 1, none⟩ = some (.int .i64 a0_1) := bc BK309 1; have hfz7_0 := bf BK309 0; have hfz7_1 := bf BK309 1))
  (try simp only [Act.put, sa, sz, ss])
  go_cut [7] (fun v7 wc => ∃ (kq : Nat) (x7_4 : Bool), v7 = .bool x7_4 ∧ Aside0 (impl_Puts.j0 kq x7_4 a0_0 a0_1 = some r) ∧ Aside0 (kq ≤ k) ∧ Aside0 (wc.heap[gb309]? = some (.cells #[.int .i64 a0_0, .int .i64 a0_1] 102 (0, 0))) ∧ Aside0 (Below w.heap.size w wc))
  case first =>
   have H := HC5.out
   clear HC5
   by_cases c8 : a0_0 = 1
   ·rw [if_pos c8] at H
    have c8b0 : (a0_0 == 1) = true := beq_iff_eq.mpr c8
    have c8b1 : (a0_0 != 1) = false := bne_eq_false_iff_eq.mpr c8
    clear c8
    (first | rw [c8b0] | (simp only [i64_w, i32_w]; rw [c8b0]) | skip)
    have H' := am H
    clear H
    go_wp2
    go_meet
    case rel => exact ⟨_, ((a0_0 == 1)), dr, H', ⟨by first | omega | exact Nat.le_refl _⟩, ⟨bp BK309⟩, ⟨bw HB⟩⟩
   ·rw [if_neg c8] at H
    have c8b0 : (a0_0 == 1) = false := beq_eq_false_iff_ne.mpr c8
    have c8b1 : (a0_0 != 1) = true := bne_iff_ne.mpr c8
    (first | rw [c8b0] | (simp only [i64_w, i32_w]; rw [c8b0]) | skip)
    by_cases c9 : a0_0 = 2
    ·rw [if_pos c9] at H
     have c9b0 : (a0_0 == 2) = true := beq_iff_eq.mpr c9
     have c9b1 : (a0_0 != 2) = false := bne_eq_false_iff_eq.mpr c9
     clear c9
     have H' := am H
     clear H
     go_wp2
     go_meet
     case rel => exact ⟨_, ((a0_0 == 2)), dr, H', ⟨by first | omega | exact Nat.le_refl _⟩, ⟨bp BK309⟩, ⟨bw HB⟩⟩
    ·rw [if_neg c9] at H
     have c9b0 : (a0_0 == 2) = false := beq_eq_false_iff_ne.mpr c9
     have c9b1 : (a0_0 != 2) = true := bne_iff_ne.mpr c9
     by_cases c10 : a0_0 = 32
     ·rw [if_pos c10] at H
      have c10b0 : (a0_0 == 32) = true := beq_iff_eq.mpr c10
      have c10b1 : (a0_0 != 32) = false := bne_eq_false_iff_eq.mpr c10
      clear c10
      have H' := am H
      clear H
      go_wp2
      go_meet
      case rel => exact ⟨_, ((a0_0 == 32)), dr, H', ⟨by first | omega | exact Nat.le_refl _⟩, ⟨bp BK309⟩, ⟨bw HB⟩⟩
     ·rw [if_neg c10] at H
      have c10b0 : (a0_0 == 32) = false := beq_eq_false_iff_ne.mpr c10
      have c10b1 : (a0_0 != 32) = true := bne_iff_ne.mpr c10
      by_cases c11 : a0_0 = 34
      ·rw [if_pos c11] at H
       have c11b0 : (a0_0 == 34) = true := beq_iff_eq.mpr c11
       have c11b1 : (a0_0 != 34) = false := bne_eq_false_iff_eq.mpr c11
       clear c11
       have H' := am H
       clear H
       go_wp2
       go_meet
       case rel => exact ⟨_, ((a0_0 == 34)), dr, H', ⟨by first | omega | exact Nat.le_refl _⟩, ⟨bp BK309⟩, ⟨bw HB⟩⟩
      ·rw [if_neg c11] at H
       have c11b0 : (a0_0 == 34) = false := beq_eq_false_iff_ne.mpr c11
       have c11b1 : (a0_0 != 34) = true := bne_iff_ne.mpr c11
       by_cases c12 : a0_0 = 35
       ·rw [if_pos c12] at H
        have c12b0 : (a0_0 == 35) = true := beq_iff_eq.mpr c12
        have c12b1 : (a0_0 != 35) = false := bne_eq_false_iff_eq.mpr c12
        clear c12
        have H' := am H
        clear H
        go_wp2
        go_meet
        case rel => exact ⟨_, ((a0_0 == 35)), dr, H', ⟨by first | omega | exact Nat.le_refl _⟩, ⟨bp BK309⟩, ⟨bw HB⟩⟩
       ·rw [if_neg c12] at H
        have c12b0 : (a0_0 == 35) = false := beq_eq_false_iff_ne.mpr c12
        have c12b1 : (a0_0 != 35) = true := bne_iff_ne.mpr c12
        have H' := am H
        clear H
        go_wp2
        go_meet
        case rel => exact ⟨_, ((a0_0 == 37)), dr, H', ⟨by first | omega | exact Nat.le_refl _⟩, ⟨bp BK309⟩, ⟨bw HB⟩⟩
  case rest =>
   clear HC5
   (try clear c1); (try clear c2); (try clear c2b0); (try clear c2b1); (try clear p2); (try clear c8); (try clear c8b0); (try clear c8b1); (try clear c9); (try clear c9b0); (try clear c9b1); (try clear c10); (try clear c10b0); (try clear c10b1); (try clear c11); (try clear c11b0); (try clear c11b1); (try clear c12); (try clear c12b0); (try clear c12b1); (try clear hcz4_0); (try clear hcz4_1); (try clear hcz7_0); (try clear hcz7_1); (try clear hfz4_0); (try clear hfz4_1); (try clear hfz7_0); (try clear hfz7_1)
   obtain ⟨kq, x7_4, rfl, HA, HJ4, BK309, HB⟩ := hcut
   cases kq with
   | zero => exact absurd HA.out (by simp [impl_Puts.j0])
   | succ kj4 =>
    have H := HA.out
    clear HA
    simp only [impl_Puts.j0] at H
    by_cases c13 : x7_4 = true
    ·subst c13
     have H1 : (some 1) = some r := by rw [if_pos rfl] at H; exact H
     clear H
     have H := H1
     clear H1
     obtain rfl := Option.some.inj H
     go_wp2
     go_ret
     exact ⟨er, bw HB⟩
    ·replace c13 := Bool.eq_false_iff.mpr c13
     subst c13
     have H1 : ((impl_isArith.f a0_0).bind fun t310 => (if t310 = true then (some 1) else (some 0))) = some r := by rw [if_neg (show ¬ (false = true) by decide)] at H; exact H
     clear H
     have H := H1
     clear H1
     replace H := Option.bind_eq_some_iff.mp H
     obtain ⟨t310, A140, H⟩ := H
     replace H : (if t310 = true then (some 1) else (some 0)) = some r := H
     have A14 := am A140
     clear A140
     by_cases c15 : t310 = true
     ·subst c15
      have H1 : (some 1) = some r := by rw [if_pos rfl] at H; exact H
      clear H
      have H := H1
      clear H1
      obtain rfl := Option.some.inj H
      have hcz16_0 : wc.cell? ⟨gb309, 0, none⟩ = some (.int .i64 a0_0) := bc BK309 0
      have hcz16_1 : wc.cell? ⟨gb309, 1, none⟩ = some (.int .i64 a0_1) := bc BK309 1
      have hfz16_0 := bf BK309 0
      have hfz16_1 := bf BK309 1
      go_wp2_with (first | ((with_reducible refine gate_callee (f := 177) rfl ?_); refine goesL_ (some 16) rfl rfl Try.func177 (by kernel_rfl) rfl #[.int .i64 a0_0] rfl gl ?_; (with_reducible refine (impl_isArith.calls a0_0 true _ A14.out).mono ?_); rintro e w' ⟨rfl, ⟨nd, rfl⟩⟩; refine ⟨_, rfl, ?_⟩))
      go_ret
      exact ⟨er, bw HB⟩
     ·replace c15 := Bool.eq_false_iff.mpr c15
      subst c15
      have H1 : (some 0) = some r := by rw [if_neg (show ¬ (false = true) by decide)] at H; exact H
      clear H
      have H := H1
      clear H1
      obtain rfl := Option.some.inj H
      have hcz17_0 : wc.cell? ⟨gb309, 0, none⟩ = some (.int .i64 a0_0) := bc BK309 0
      have hcz17_1 : wc.cell? ⟨gb309, 1, none⟩ = some (.int .i64 a0_1) := bc BK309 1
      have hfz17_0 := bf BK309 0
      have hfz17_1 := bf BK309 1
      go_wp2_with (first | ((with_reducible refine gate_callee (f := 177) rfl ?_); refine goesL_ (some 16) rfl rfl Try.func177 (by kernel_rfl) rfl #[.int .i64 a0_0] rfl gl ?_; (with_reducible refine (impl_isArith.calls a0_0 false _ A14.out).mono ?_); rintro e w' ⟨rfl, ⟨nd, rfl⟩⟩; refine ⟨_, rfl, ?_⟩))
      go_ret
      exact ⟨er, bw HB⟩

def impl_next.f (a0_0 : Int) (a0_1 : Int) (a1 : Int) : Option (List Int) := if a0_0 = 33 then (some ([] : List Int)) else (if a0_0 = 30 then (some (([a0_1] : List Int))) else (if a0_0 = 31 then (some (([wrap64 (a1 + 1), a0_1] : List Int))) else (some (([wrap64 (a1 + 1)] : List Int)))))
theorem impl_next.calls (a0_0 : Int) (a0_1 : Int) (a1 : Int) (r : List Int) (w : World) (h : impl_next.f a0_0 a0_1 a1 = some r) :
  Calls Try.prog 147 #[.agg #[.int .i64 a0_0, .int .i64 a0_1], .int .i64 a1] w fun e w' => ∃ v0_ : Value, e = .returned (v0_) ∧ Kd.R (Kd.int .i64) 2 w' w.heap.size (fun _ => True) v0_ r ∧ Below w.heap.size w w' := by
 have hu102 := Try.underlying102
 have HB := am (Below.refl w.heap.size w)
 have H : (if a0_0 = 33 then (some ([] : List Int)) else (if a0_0 = 30 then (some (([a0_1] : List Int))) else (if a0_0 = 31 then (some (([wrap64 (a1 + 1), a0_1] : List Int))) else (some (([wrap64 (a1 + 1)] : List Int)))))) = some r := h
 clear h
 by_cases c3 : a0_0 = 33
 ·rw [if_pos c3] at H
  have c3b0 : (a0_0 == 33) = true := beq_iff_eq.mpr c3
  have c3b1 : (a0_0 != 33) = false := bne_eq_false_iff_eq.mpr c3
  clear c3
  obtain rfl := Option.some.inj H
  go_enter Try.func147, Try.ntmps147
  go_wp2_with (first | ((with_reducible refine gate_dst (N := 2) rfl ?_); refine box_event ?hg (N := 2) ?hd (cs := #[.int .i64 a0_0, .int .i64 a0_1]) (t := 102) ?hr ?_; (case hd => rfl); (case hg => rfl); (case hr => exact gs); intro gb311 hg w4 hbox hb; have BK311 := am (hbox); have GW311 := am ((by rw [hg]; exact (below_size (bw HB)) : w.heap.size ≤ gb311)); have GE311 := am ((by rw [hg]; exact (below_size (bw HB)) : w.heap.size ≤ gb311)); replace HB := am (below_step (bw HB) hb); clear hb hbox hg; have hcz5_0 : w4.cell? ⟨gb311, 0, none⟩ = some (.int .i64 a0_0) := bc BK311 0; have hcz5_1 : w4.cell? ⟨gb311, 1, none⟩ = some (.int .i64 a0_1) := bc BK311 1; have hfz5_0 := bf BK311 0; have hfz5_1 := bf BK311 1))
  go_ret
  exact ⟨_, er, by first | exact Kd.R_nil _ _ _ _ _ | exact Kd.N_nil _ _ _ _ _ | exact Kd.V_nil _ _ _ _ _ | exact Kd.Q_nil _ _ _ _ _ | exact Kd.S_nil _ _ _ _ _, bw HB⟩
 ·rw [if_neg c3] at H
  have c3b0 : (a0_0 == 33) = false := beq_eq_false_iff_ne.mpr c3
  have c3b1 : (a0_0 != 33) = true := bne_iff_ne.mpr c3
  by_cases c6 : a0_0 = 30
  ·rw [if_pos c6] at H
   have c6b0 : (a0_0 == 30) = true := beq_iff_eq.mpr c6
   have c6b1 : (a0_0 != 30) = false := bne_eq_false_iff_eq.mpr c6
   clear c6
   obtain ⟨y312, hy312⟩ : ∃ y_ : List Int, y_ = (([a0_1] : List Int)) := ⟨_, rfl⟩
   replace H : (some y312) = some r := by first | (rw [hy312]; with_reducible exact H) | (have H2_ := (Option.bind_some _ _).symm.trans H; rw [hy312]; with_reducible exact H2_) | (have H2_ := (Option.bind_some _ _).symm.trans H; with_reducible exact H2_) | with_reducible exact H | (rw [hy312]; exact H) | exact H
   have Ny312 := am hy312
   clear hy312
   obtain rfl := Option.some.inj H
   go_enter Try.func147, Try.ntmps147
   go_wp2_with (first | ((with_reducible refine gate_dst (N := 2) rfl ?_); refine box_event ?hg (N := 2) ?hd (cs := #[.int .i64 a0_0, .int .i64 a0_1]) (t := 102) ?hr ?_; (case hd => rfl); (case hg => rfl); (case hr => exact gs); intro gb311 hg w7 hbox hb; have BK311 := am (hbox); have GW311 := am ((by rw [hg]; exact (below_size (bw HB)) : w.heap.size ≤ gb311)); have GE311 := am ((by rw [hg]; exact (below_size (bw HB)) : w.heap.size ≤ gb311)); replace HB := am (below_step (bw HB) hb); clear hb hbox hg; have hcz8_0 : w7.cell? ⟨gb311, 0, none⟩ = some (.int .i64 a0_0) := bc BK311 0; have hcz8_1 : w7.cell? ⟨gb311, 1, none⟩ = some (.int .i64 a0_1) := bc BK311 1; have hfz8_0 := bf BK311 0; have hfz8_1 := bf BK311 1) | ((with_reducible refine gate_dst (N := 13) rfl ?_); refine Kd.R_lit (Kd.int .i64) _ 2 ?hg (N := 13) ?hd (xs := ([a0_1] : List Int)) (inner := [.int .i64 a0_1]) (ok := fun _ => True) (okp := fun _ => True) ?hr ?hp (fun _ hk => hk) trivial (Below.refl _ _) (Nat.le_refl _) (by simp) ?_; (case hd => rfl); (case hg => rfl); (case hr => exact gs); (case hp => exact (Reps.one (show Kd.M (Kd.int .i64) _ _ _ a0_1 [.int .i64 a0_1] from rfl) (Reps.none _ _))); intro v313 w9 ho10 hb hg_ hnew_; clear hg_ hnew_; (first | rw [← Ny312.out] at ho10 | (simp only [Int.reduceToNat] at ho10; rw [← Ny312.out] at ho10)); have HO314 := am (Kd.R_lower ho10 (below_size (bw HB))); replace BK311 := am (blk_below (g := gb311) (o := .cells #[.int .i64 a0_0, .int .i64 a0_1] 102 (0, 0)) (bp BK311) hb); replace HB := am (below_step (bw HB) hb); clear hb ho10))
   go_ret
   exact ⟨_, er, kR HO314, bw HB⟩
  ·rw [if_neg c6] at H
   have c6b0 : (a0_0 == 30) = false := beq_eq_false_iff_ne.mpr c6
   have c6b1 : (a0_0 != 30) = true := bne_iff_ne.mpr c6
   by_cases c11 : a0_0 = 31
   ·rw [if_pos c11] at H
    have c11b0 : (a0_0 == 31) = true := beq_iff_eq.mpr c11
    have c11b1 : (a0_0 != 31) = false := bne_eq_false_iff_eq.mpr c11
    clear c11
    obtain ⟨y315, hy315⟩ : ∃ y_ : List Int, y_ = (([wrap64 (a1 + 1), a0_1] : List Int)) := ⟨_, rfl⟩
    replace H : (some y315) = some r := by first | (rw [hy315]; with_reducible exact H) | (have H2_ := (Option.bind_some _ _).symm.trans H; rw [hy315]; with_reducible exact H2_) | (have H2_ := (Option.bind_some _ _).symm.trans H; with_reducible exact H2_) | with_reducible exact H | (rw [hy315]; exact H) | exact H
    have Ny315 := am hy315
    clear hy315
    obtain rfl := Option.some.inj H
    go_enter Try.func147, Try.ntmps147
    go_wp2_with (first | ((with_reducible refine gate_dst (N := 2) rfl ?_); refine box_event ?hg (N := 2) ?hd (cs := #[.int .i64 a0_0, .int .i64 a0_1]) (t := 102) ?hr ?_; (case hd => rfl); (case hg => rfl); (case hr => exact gs); intro gb311 hg w12 hbox hb; have BK311 := am (hbox); have GW311 := am ((by rw [hg]; exact (below_size (bw HB)) : w.heap.size ≤ gb311)); have GE311 := am ((by rw [hg]; exact (below_size (bw HB)) : w.heap.size ≤ gb311)); replace HB := am (below_step (bw HB) hb); clear hb hbox hg; have hcz13_0 : w12.cell? ⟨gb311, 0, none⟩ = some (.int .i64 a0_0) := bc BK311 0; have hcz13_1 : w12.cell? ⟨gb311, 1, none⟩ = some (.int .i64 a0_1) := bc BK311 1; have hfz13_0 := bf BK311 0; have hfz13_1 := bf BK311 1) | ((with_reducible refine gate_dst (N := 20) rfl ?_); refine Kd.R_lit (Kd.int .i64) _ 2 ?hg (N := 20) ?hd (xs := ([wrap64 (a1 + 1), a0_1] : List Int)) (inner := [.int .i64 (wrap64 (a1 + 1)), .int .i64 a0_1]) (ok := fun _ => True) (okp := fun _ => True) ?hr ?hp (fun _ hk => hk) trivial (Below.refl _ _) (Nat.le_refl _) (by simp) ?_; (case hd => rfl); (case hg => rfl); (case hr => exact gs); (case hp => exact (Reps.one (show Kd.M (Kd.int .i64) _ _ _ (wrap64 (a1 + 1)) [.int .i64 (wrap64 (a1 + 1))] from rfl) (Reps.one (show Kd.M (Kd.int .i64) _ _ _ a0_1 [.int .i64 a0_1] from rfl) (Reps.none _ _)))); intro v316 w14 ho15 hb hg_ hnew_; clear hg_ hnew_; (first | rw [← Ny315.out] at ho15 | (simp only [Int.reduceToNat] at ho15; rw [← Ny315.out] at ho15)); have HO317 := am (Kd.R_lower ho15 (below_size (bw HB))); replace BK311 := am (blk_below (g := gb311) (o := .cells #[.int .i64 a0_0, .int .i64 a0_1] 102 (0, 0)) (bp BK311) hb); replace HB := am (below_step (bw HB) hb); clear hb ho15))
    go_ret
    exact ⟨_, er, kR HO317, bw HB⟩
   ·rw [if_neg c11] at H
    have c11b0 : (a0_0 == 31) = false := beq_eq_false_iff_ne.mpr c11
    have c11b1 : (a0_0 != 31) = true := bne_iff_ne.mpr c11
    obtain ⟨y318, hy318⟩ : ∃ y_ : List Int, y_ = (([wrap64 (a1 + 1)] : List Int)) := ⟨_, rfl⟩
    replace H : (some y318) = some r := by first | (rw [hy318]; with_reducible exact H) | (have H2_ := (Option.bind_some _ _).symm.trans H; rw [hy318]; with_reducible exact H2_) | (have H2_ := (Option.bind_some _ _).symm.trans H; with_reducible exact H2_) | with_reducible exact H | (rw [hy318]; exact H) | exact H
    have Ny318 := am hy318
    clear hy318
    obtain rfl := Option.some.inj H
    go_enter Try.func147, Try.ntmps147
    go_wp2_with (first | ((with_reducible refine gate_dst (N := 2) rfl ?_); refine box_event ?hg (N := 2) ?hd (cs := #[.int .i64 a0_0, .int .i64 a0_1]) (t := 102) ?hr ?_; (case hd => rfl); (case hg => rfl); (case hr => exact gs); intro gb311 hg w16 hbox hb; have BK311 := am (hbox); have GW311 := am ((by rw [hg]; exact (below_size (bw HB)) : w.heap.size ≤ gb311)); have GE311 := am ((by rw [hg]; exact (below_size (bw HB)) : w.heap.size ≤ gb311)); replace HB := am (below_step (bw HB) hb); clear hb hbox hg; have hcz17_0 : w16.cell? ⟨gb311, 0, none⟩ = some (.int .i64 a0_0) := bc BK311 0; have hcz17_1 : w16.cell? ⟨gb311, 1, none⟩ = some (.int .i64 a0_1) := bc BK311 1; have hfz17_0 := bf BK311 0; have hfz17_1 := bf BK311 1) | ((with_reducible refine gate_dst (N := 23) rfl ?_); refine Kd.R_lit (Kd.int .i64) _ 2 ?hg (N := 23) ?hd (xs := ([wrap64 (a1 + 1)] : List Int)) (inner := [.int .i64 (wrap64 (a1 + 1))]) (ok := fun _ => True) (okp := fun _ => True) ?hr ?hp (fun _ hk => hk) trivial (Below.refl _ _) (Nat.le_refl _) (by simp) ?_; (case hd => rfl); (case hg => rfl); (case hr => exact gs); (case hp => exact (Reps.one (show Kd.M (Kd.int .i64) _ _ _ (wrap64 (a1 + 1)) [.int .i64 (wrap64 (a1 + 1))] from rfl) (Reps.none _ _))); intro v319 w18 ho19 hb hg_ hnew_; clear hg_ hnew_; (first | rw [← Ny318.out] at ho19 | (simp only [Int.reduceToNat] at ho19; rw [← Ny318.out] at ho19)); have HO320 := am (Kd.R_lower ho19 (below_size (bw HB))); replace BK311 := am (blk_below (g := gb311) (o := .cells #[.int .i64 a0_0, .int .i64 a0_1] 102 (0, 0)) (bp BK311) hb); replace HB := am (below_step (bw HB) hb); clear hb ho19))
    go_ret
    exact ⟨_, er, kR HO320, bw HB⟩

end Go.Proofs.Ytbmjmaahcaoajaa.QFnExactFileBytes
