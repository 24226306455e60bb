import Derived.Test.YtbmjmaahcaoajaaCFnExactHeadersx0
import Derived.Test.YtbmjmaahcaoajaaCFnExactHeadersx5
import Derived.Test.YtbmjmaahcaoajaaCFnExactHeadersx7
namespace Go.Proofs.Ytbmjmaahcaoajaa.QFnExactHeaders
open Go.RowKit Go.Proofs.YtbmjmaahcaoajaaW
open PrintWords PrintLast PrintMore PrintShort PrintIsh
attribute [local go_sem] max2_int min2_int max_two min_two max_three min_three max_four min_four   -- for this text's walks alone
set_option linter.unusedVariables false
set_option maxHeartbeats 8000000
set_option maxRecDepth 100000
set_option linter.unusedSimpArgs false

def spec_l04Is.f (k : Nat) (l0_0 : List (S100)) (a1 : Int) : Option (Bool) := (spec_l04Right.f k l0_0).bind fun t244 => (if t244 = true then (if a1 ≥ 0 then (some (decide (a1 < (l0_0.length : Int)))) else (some false)) else (some false))
theorem spec_l04Is.mono : ∀ a0 a1 k, LeO (spec_l04Is.f k a0 a1) (spec_l04Is.f (k + 1) a0 a1) := by
 intro a0 a1 k
 unfold spec_l04Is.f
 repeat' first
   | (with_reducible exact spec_l04Right.mono _ _)
   | (with_reducible exact LeO.refl _)
   | (with_reducible exact LeO.none _)
   | (with_reducible refine LeO.ite ?_ ?_)
   | (with_reducible refine LeO.bind ?_ (fun _ => ?_))
theorem spec_l04Is.calls (k : Nat) (A0_0 : Option Addr) (c0_0 : Nat) (l0_0 : List (S100)) (a1 : Int) (r : Bool) (w : World) (hr0_0 : Kd.C k100 w A0_0 l0_0.length l0_0) (hc0_0 : l0_0.length ≤ c0_0) (h : spec_l04Is.f k l0_0 a1 = some r) :
  Calls Try.prog 57 #[.agg #[.slice A0_0 l0_0.length c0_0], .int .i64 a1] w fun e w' => e = .returned (.bool r) ∧ Below w.heap.size w w' := by
 have hu30 := Try.underlying30
 have HR0_0 := am hr0_0
 have HC0_0 := am hc0_0
 clear hr0_0 hc0_0
 have HB := am (Below.refl w.heap.size w)
 have H : ((spec_l04Right.f k l0_0).bind fun t244 => (if t244 = true then (if a1 ≥ 0 then (some (decide (a1 < (l0_0.length : Int)))) else (some false)) else (some false))) = some r := h
 clear h
 replace H := Option.bind_eq_some_iff.mp H
 obtain ⟨t244, A30, H⟩ := H
 replace H : (if t244 = true then (if a1 ≥ 0 then (some (decide (a1 < (l0_0.length : Int)))) else (some false)) else (some false)) = some r := H
 have A3 := am A30
 clear A30
 by_cases c4 : t244 = true
 ·subst c4
  have H1 : (if a1 ≥ 0 then (some (decide (a1 < (l0_0.length : Int)))) else (some false)) = some r := by rw [if_pos rfl] at H; exact H
  clear H
  have H := H1
  clear H1
  by_cases c5 : a1 ≥ 0
  ·rw [if_pos c5] at H
   have c5b0 : decide (0 ≤ a1) = true := decide_eq_true c5
   clear c5
   obtain rfl := Option.some.inj H
   go_enter Try.func57, Try.ntmps57
   go_wp2_with (first | ((with_reducible refine gate_dst (N := 2) rfl ?_); (try (refine gate_guard (by rfl) ?_; dsimp only)); refine box_event ?hg (N := 2) ?hd (cs := #[.slice A0_0 l0_0.length c0_0]) (t := 30) ?hr ?_; (case hd => rfl); (case hg => rfl); (case hr => exact gs); intro gb243 hg w6 hbox hb; have BK243 := am (hbox); have GW243 := am ((by rw [hg]; exact (below_size (bw HB)) : w.heap.size ≤ gb243)); have GE243 := am ((by rw [hg]; exact (below_size (bw HB)) : w.heap.size ≤ gb243)); replace HB := am (below_step (bw HB) hb); clear hb hbox hg; have hcz7_0 : w6.cell? ⟨gb243, 0, none⟩ = some (.slice A0_0 l0_0.length c0_0) := bc BK243 0; have hfz7_0 := bf BK243 0) | ((with_reducible refine gate_callee (f := 63) rfl ?_); refine goesL_ (some 6) rfl rfl Try.func63 (by kernel_rfl) rfl #[.agg #[.slice A0_0 l0_0.length c0_0]] rfl gl ?_; (with_reducible refine (spec_l04Right.calls k _ _ l0_0 true _ ?side1 ?side2 A3.out).mono ?_); (case side1 => exact cc (Kd.C_below HR0_0.out HB.out)); (case side2 => exact HC0_0.out); rintro e w8 ⟨rfl, hb⟩; refine ⟨_, rfl, ?_⟩; replace BK243 := am (blk_below (g := gb243) (o := .cells #[.slice A0_0 l0_0.length c0_0] 30 (0, 0)) (bp BK243) hb); replace HB := am (below_step (bw HB) hb); (try clear hb); (try clear hb2); (try clear hk); (try clear hi); have hcz9_0 : w8.cell? ⟨gb243, 0, none⟩ = some (.slice A0_0 l0_0.length c0_0) := bc BK243 0; have hfz9_0 := bf BK243 0))
   go_ret
   exact ⟨er, bw HB⟩
  ·rw [if_neg c5] at H
   have c5b0 : decide (0 ≤ a1) = false := decide_eq_false c5
   clear c5
   obtain rfl := Option.some.inj H
   go_enter Try.func57, Try.ntmps57
   go_wp2_with (first | ((with_reducible refine gate_dst (N := 2) rfl ?_); (try (refine gate_guard (by rfl) ?_; dsimp only)); refine box_event ?hg (N := 2) ?hd (cs := #[.slice A0_0 l0_0.length c0_0]) (t := 30) ?hr ?_; (case hd => rfl); (case hg => rfl); (case hr => exact gs); intro gb243 hg w10 hbox hb; have BK243 := am (hbox); have GW243 := am ((by rw [hg]; exact (below_size (bw HB)) : w.heap.size ≤ gb243)); have GE243 := am ((by rw [hg]; exact (below_size (bw HB)) : w.heap.size ≤ gb243)); replace HB := am (below_step (bw HB) hb); clear hb hbox hg; have hcz11_0 : w10.cell? ⟨gb243, 0, none⟩ = some (.slice A0_0 l0_0.length c0_0) := bc BK243 0; have hfz11_0 := bf BK243 0) | ((with_reducible refine gate_callee (f := 63) rfl ?_); refine goesL_ (some 6) rfl rfl Try.func63 (by kernel_rfl) rfl #[.agg #[.slice A0_0 l0_0.length c0_0]] rfl gl ?_; (with_reducible refine (spec_l04Right.calls k _ _ l0_0 true _ ?side1 ?side2 A3.out).mono ?_); (case side1 => exact cc (Kd.C_below HR0_0.out HB.out)); (case side2 => exact HC0_0.out); rintro e w12 ⟨rfl, hb⟩; refine ⟨_, rfl, ?_⟩; replace BK243 := am (blk_below (g := gb243) (o := .cells #[.slice A0_0 l0_0.length c0_0] 30 (0, 0)) (bp BK243) hb); replace HB := am (below_step (bw HB) hb); (try clear hb); (try clear hb2); (try clear hk); (try clear hi)))
   go_ret
   exact ⟨er, bw HB⟩
 ·replace c4 := Bool.eq_false_iff.mpr c4
  subst c4
  have H1 : (some false) = some r := by rw [if_neg (show ¬ (false = true) by decide)] at H; exact H
  clear H
  have H := H1
  clear H1
  obtain rfl := Option.some.inj H
  go_enter Try.func57, Try.ntmps57
  go_wp2_with (first | ((with_reducible refine gate_dst (N := 2) rfl ?_); (try (refine gate_guard (by rfl) ?_; dsimp only)); refine box_event ?hg (N := 2) ?hd (cs := #[.slice A0_0 l0_0.length c0_0]) (t := 30) ?hr ?_; (case hd => rfl); (case hg => rfl); (case hr => exact gs); intro gb243 hg w13 hbox hb; have BK243 := am (hbox); have GW243 := am ((by rw [hg]; exact (below_size (bw HB)) : w.heap.size ≤ gb243)); have GE243 := am ((by rw [hg]; exact (below_size (bw HB)) : w.heap.size ≤ gb243)); replace HB := am (below_step (bw HB) hb); clear hb hbox hg; have hcz14_0 : w13.cell? ⟨gb243, 0, none⟩ = some (.slice A0_0 l0_0.length c0_0) := bc BK243 0; have hfz14_0 := bf BK243 0) | ((with_reducible refine gate_callee (f := 63) rfl ?_); refine goesL_ (some 6) rfl rfl Try.func63 (by kernel_rfl) rfl #[.agg #[.slice A0_0 l0_0.length c0_0]] rfl gl ?_; (with_reducible refine (spec_l04Right.calls k _ _ l0_0 false _ ?side1 ?side2 A3.out).mono ?_); (case side1 => exact cc (Kd.C_below HR0_0.out HB.out)); (case side2 => exact HC0_0.out); rintro e w15 ⟨rfl, hb⟩; refine ⟨_, rfl, ?_⟩; replace BK243 := am (blk_below (g := gb243) (o := .cells #[.slice A0_0 l0_0.length c0_0] 30 (0, 0)) (bp BK243) hb); replace HB := am (below_step (bw HB) hb); (try clear hb); (try clear hb2); (try clear hk); (try clear hi)))
  go_ret
  exact ⟨er, bw HB⟩

def spec_Heights.f (k : Nat) (l0_0 : List (S100)) (a1 : Int) : Option (List Int) := (spec_l04Is.f k l0_0 a1).bind fun t246 => (if t246 = true then ((spec_l04Heights.f k l0_0 a1).bind fun bt250 => (some bt250.1)) else (some (([] : List Int))))
theorem spec_Heights.mono : ∀ a0 a1 k, LeO (spec_Heights.f k a0 a1) (spec_Heights.f (k + 1) a0 a1) := by
 intro a0 a1 k
 unfold spec_Heights.f
 repeat' first
   | (with_reducible exact spec_l04Heights.mono _ _ _)
   | (with_reducible exact spec_l04Is.mono _ _ _)
   | (with_reducible exact LeO.refl _)
   | (with_reducible exact LeO.none _)
   | (with_reducible refine LeO.ite ?_ ?_)
   | (with_reducible refine LeO.bind ?_ (fun _ => ?_))
theorem spec_Heights.calls (k : Nat) (A0_0 : Option Addr) (c0_0 : Nat) (l0_0 : List (S100)) (a1 : Int) (r : List Int) (w : World) (hr0_0 : Kd.C k100 w A0_0 l0_0.length l0_0) (hc0_0 : l0_0.length ≤ c0_0) (h : spec_Heights.f k l0_0 a1 = some r) :
  Calls Try.prog 15 #[.agg #[.slice A0_0 l0_0.length c0_0], .int .i64 a1] w fun e w' => ∃ v0_ : Value, e = .returned (v0_) ∧ Kd.R (Kd.int .i64) 2 w' w.heap.size (fun _ => True) v0_ r ∧ Below w.heap.size w w' := by
 have hu30 := Try.underlying30
 have hu84 := Try.underlying84
 have HR0_0 := am hr0_0
 have HC0_0 := am hc0_0
 clear hr0_0 hc0_0
 have HB := am (Below.refl w.heap.size w)
 have H : ((spec_l04Is.f k l0_0 a1).bind fun t246 => (if t246 = true then ((spec_l04Heights.f k l0_0 a1).bind fun bt250 => (some bt250.1)) else (some (([] : List Int))))) = some r := h
 clear h
 replace H := Option.bind_eq_some_iff.mp H
 obtain ⟨t246, A30, H⟩ := H
 replace H : (if t246 = true then ((spec_l04Heights.f k l0_0 a1).bind fun bt250 => (some bt250.1)) else (some (([] : List Int)))) = some r := H
 have A3 := am A30
 clear A30
 by_cases c4 : t246 = true
 ·subst c4
  have H1 : ((spec_l04Heights.f k l0_0 a1).bind fun bt250 => (some bt250.1)) = some r := by rw [if_pos rfl] at H; exact H
  clear H
  have H := H1
  clear H1
  replace H := Option.bind_eq_some_iff.mp H
  obtain ⟨⟨t250, t253, t254, t255⟩, A50, H⟩ := H
  replace H : (some t250) = some r := H
  have A5 := am A50
  clear A50
  obtain rfl := Option.some.inj H
  go_enter Try.func15, Try.ntmps15
  go_wp2_with (first | ((with_reducible refine gate_dst (N := 2) rfl ?_); refine box_event ?hg (N := 2) ?hd (cs := #[.slice A0_0 l0_0.length c0_0]) (t := 30) ?hr ?_; (case hd => rfl); (case hg => rfl); (case hr => exact gs); intro gb245 hg w6 hbox hb; have BK245 := am (hbox); have GW245 := am ((by rw [hg]; exact (below_size (bw HB)) : w.heap.size ≤ gb245)); have GE245 := am ((by rw [hg]; exact (below_size (bw HB)) : w.heap.size ≤ gb245)); replace HB := am (below_step (bw HB) hb); clear hb hbox hg; have hcz7_0 : w6.cell? ⟨gb245, 0, none⟩ = some (.slice A0_0 l0_0.length c0_0) := bc BK245 0; have hfz7_0 := bf BK245 0) | ((with_reducible refine gate_callee (f := 57) rfl ?_); refine goesL_ (some 9) rfl rfl Try.func57 (by kernel_rfl) rfl #[.agg #[.slice A0_0 l0_0.length c0_0], .int .i64 a1] rfl gl ?_; (with_reducible refine (spec_l04Is.calls k _ _ l0_0 a1 true _ ?side1 ?side2 A3.out).mono ?_); (case side1 => exact cc (Kd.C_below HR0_0.out HB.out)); (case side2 => exact HC0_0.out); rintro e w8 ⟨rfl, hb⟩; refine ⟨_, rfl, ?_⟩; replace BK245 := am (blk_below (g := gb245) (o := .cells #[.slice A0_0 l0_0.length c0_0] 30 (0, 0)) (bp BK245) hb); replace HB := am (below_step (bw HB) hb); (try clear hb); (try clear hb2); (try clear hk); (try clear hi); have hcz9_0 : w8.cell? ⟨gb245, 0, none⟩ = some (.slice A0_0 l0_0.length c0_0) := bc BK245 0; have hfz9_0 := bf BK245 0) | ((with_reducible refine gate_callee (f := 58) rfl ?_); refine goesL_ (some 15) rfl rfl Try.func58 (by kernel_rfl) rfl #[.agg #[.slice A0_0 l0_0.length c0_0], .int .i64 a1] rfl gl ?_; (with_reducible refine (spec_l04Heights.calls k _ _ l0_0 a1 t250 t253 t254 t255 _ ?side1 ?side2 A5.out).mono ?_); (case side1 => exact cc (Kd.C_below HR0_0.out HB.out)); (case side2 => exact HC0_0.out); rintro e w10 ⟨v251, rfl, ho0, hb⟩; refine ⟨_, rfl, ?_⟩; have HO252 := am (Kd.R_lower ho0 (below_size (bw HB))); replace BK245 := am (blk_below (g := gb245) (o := .cells #[.slice A0_0 l0_0.length c0_0] 30 (0, 0)) (bp BK245) hb); replace HB := am (below_step (bw HB) hb); (try clear hb); (try clear hb2); (try clear hk); (try clear hi); (try clear ho0)) | ((with_reducible refine gate_dst (N := 6) rfl ?_); refine box_event ?hg (N := 6) ?hd (cs := #[.int .i64 0, .int .i64 0, .int .i64 0]) (t := 84) ?hr ?_; (case hd => rfl); (case hg => rfl); (case hr => exact gs); intro gb256 hg w11 hbox hb; replace HO252 := am (Kd.R_below (kR HO252) hb); have BK256 := am (hbox); have GW256 := am ((by rw [hg]; exact (below_size (bw HB)) : w.heap.size ≤ gb256)); have GE256 := am ((by rw [hg]; exact (below_size (bw HB)) : w.heap.size ≤ gb256)); replace HB := am (below_step (bw HB) hb); have NB245_256 := am ((by rw [hg]; exact Nat.ne_of_lt (blk_lt (g := gb245) (o := .cells #[.slice A0_0 l0_0.length c0_0] 30 (0, 0)) (bp BK245)) : gb245 ≠ gb256)); have NB256_245 := am ((by rw [hg]; exact Nat.ne_of_gt (blk_lt (g := gb245) (o := .cells #[.slice A0_0 l0_0.length c0_0] 30 (0, 0)) (bp BK245)) : gb256 ≠ gb245)); replace BK245 := am (blk_below (g := gb245) (o := .cells #[.slice A0_0 l0_0.length c0_0] 30 (0, 0)) (bp BK245) hb); clear hb hbox hg; have hnb12 := NB256_245.out; have hnc12 := NB245_256.out; have hcz13_0 : w11.cell? ⟨gb256, 0, none⟩ = some (.int .i64 0) := bc BK256 0; have hcz13_1 : w11.cell? ⟨gb256, 1, none⟩ = some (.int .i64 0) := bc BK256 1; have hcz13_2 : w11.cell? ⟨gb256, 2, none⟩ = some (.int .i64 0) := bc BK256 2; have hfz13_0 := bf BK256 0; have hfz13_1 := bf BK256 1; have hfz13_2 := bf BK256 2))
  go_ret
  exact ⟨_, er, by (with_reducible repeat (first | apply Kd.R_alloc | apply Kd.R_drewN | apply Kd.R_drew)); exact Kd.R_mono (Kd.R_far (p := ⟨gb256, 2, none⟩) (Kd.R_far (p := ⟨gb256, 1, none⟩) (Kd.R_far (p := ⟨gb256, 0, none⟩) (Kd.R_types HO252.out BK256.out (by decide)) (fun _ hk => hk.2) (.int .i64 t253)) (fun _ hk => hk.2) (.int .i64 t254)) (fun _ hk => hk.2) (.int .i64 t255)) (fun _ hk => trivial), bw HB⟩
 ·replace c4 := Bool.eq_false_iff.mpr c4
  subst c4
  have H1 : (some (([] : List Int))) = some r := by rw [if_neg (show ¬ (false = true) by decide)] at H; exact H
  clear H
  have H := H1
  clear H1
  obtain ⟨y247, hy247⟩ : ∃ y_ : List Int, y_ = (([] : List Int)) := ⟨_, rfl⟩
  replace H : (some y247) = some r := by first | (rw [hy247]; with_reducible exact H) | (have H2_ := (Option.bind_some _ _).symm.trans H; rw [hy247]; with_reducible exact H2_) | (have H2_ := (Option.bind_some _ _).symm.trans H; with_reducible exact H2_) | with_reducible exact H | (rw [hy247]; exact H) | exact H
  have Ny247 := am hy247
  clear hy247
  obtain rfl := Option.some.inj H
  go_enter Try.func15, Try.ntmps15
  go_wp2_with (first | ((with_reducible refine gate_dst (N := 2) rfl ?_); refine box_event ?hg (N := 2) ?hd (cs := #[.slice A0_0 l0_0.length c0_0]) (t := 30) ?hr ?_; (case hd => rfl); (case hg => rfl); (case hr => exact gs); intro gb245 hg w14 hbox hb; have BK245 := am (hbox); have GW245 := am ((by rw [hg]; exact (below_size (bw HB)) : w.heap.size ≤ gb245)); have GE245 := am ((by rw [hg]; exact (below_size (bw HB)) : w.heap.size ≤ gb245)); replace HB := am (below_step (bw HB) hb); clear hb hbox hg; have hcz15_0 : w14.cell? ⟨gb245, 0, none⟩ = some (.slice A0_0 l0_0.length c0_0) := bc BK245 0; have hfz15_0 := bf BK245 0) | ((with_reducible refine gate_callee (f := 57) rfl ?_); refine goesL_ (some 9) rfl rfl Try.func57 (by kernel_rfl) rfl #[.agg #[.slice A0_0 l0_0.length c0_0], .int .i64 a1] rfl gl ?_; (with_reducible refine (spec_l04Is.calls k _ _ l0_0 a1 false _ ?side1 ?side2 A3.out).mono ?_); (case side1 => exact cc (Kd.C_below HR0_0.out HB.out)); (case side2 => exact HC0_0.out); rintro e w16 ⟨rfl, hb⟩; refine ⟨_, rfl, ?_⟩; replace BK245 := am (blk_below (g := gb245) (o := .cells #[.slice A0_0 l0_0.length c0_0] 30 (0, 0)) (bp BK245) hb); replace HB := am (below_step (bw HB) hb); (try clear hb); (try clear hb2); (try clear hk); (try clear hi)) | ((with_reducible refine gate_dst (N := 11) rfl ?_); refine Kd.R_lit (Kd.int .i64) _ 2 ?hg (N := 11) ?hd (xs := ([] : List Int)) (inner := []) (ok := fun _ => True) (okp := fun _ => True) ?hr ?hp (fun _ hk => hk) trivial (Below.refl _ _) (Nat.le_refl _) (by simp) ?_; (case hd => rfl); (case hg => rfl); (case hr => exact gs); (case hp => exact (Reps.none _ _)); intro v248 w17 ho18 hb hg_ hnew_; clear hg_ hnew_; (first | rw [← Ny247.out] at ho18 | (simp only [Int.reduceToNat] at ho18; rw [← Ny247.out] at ho18)); have HO249 := am (Kd.R_lower ho18 (below_size (bw HB))); replace BK245 := am (blk_below (g := gb245) (o := .cells #[.slice A0_0 l0_0.length c0_0] 30 (0, 0)) (bp BK245) hb); replace HB := am (below_step (bw HB) hb); clear hb ho18))
  go_ret
  exact ⟨_, er, kR HO249, bw HB⟩

mutual
def spec_Headers.l0 : Nat → Int → List Int → List Int → Int → List (S100) → Option (List Int)
 | 0, _, _, _, _, _ => none
 | k + 1, x1, x5, x6, x7, x258000 => if x7 < (x5.length : Int) then (spec_Headers.l1 k x1 x5 x6 x7 false x7 x258000) else (some x6)
def spec_Headers.l1 : Nat → Int → List Int → List Int → Int → Bool → Int → List (S100) → Option (List Int)
 | 0, _, _, _, _, _, _, _ => none
 | k + 1, x1, x5, x6, x7, x8, x9, x258000 => if x9 < (x5.length : Int) then (if 0 ≤ x1 then (if x1 < (x258000.length : Int) then (if 0 ≤ x9 then (if x9 < (((rd_T100 x258000 x1).f2).length : Int) then (if x8 = true then (spec_Headers.l1 k x1 x5 x6 x7 true (wrap64 (x9 + 1)) x258000) else (if (rd x5 x9) ≥ 0 then (if ((rd_T102 ((rd_T100 x258000 x1).f2) x9).f0) = 30 then (spec_Headers.l1 k x1 x5 x6 x7 (((rd_T102 ((rd_T100 x258000 x1).f2) x9).f1) == x7) (wrap64 (x9 + 1)) x258000) else (if ((rd_T102 ((rd_T100 x258000 x1).f2) x9).f0) = 31 then (spec_Headers.l1 k x1 x5 x6 x7 (((rd_T102 ((rd_T100 x258000 x1).f2) x9).f1) == x7) (wrap64 (x9 + 1)) x258000) else (spec_Headers.l1 k x1 x5 x6 x7 false (wrap64 (x9 + 1)) x258000))) else (spec_Headers.l1 k x1 x5 x6 x7 false (wrap64 (x9 + 1)) x258000))) else (none)) else (none)) else (none)) else (none)) else (if x8 = true then (if x6.length < 17592186044416 then (spec_Headers.l0 k x1 x5 (x6 ++ [x7]) (wrap64 (x7 + 1)) x258000) else (none)) else (spec_Headers.l0 k x1 x5 x6 (wrap64 (x7 + 1)) x258000))
end
def spec_Headers.f (k : Nat) (l0_0 : List (S100)) (a1 : Int) : Option (List Int) := (spec_Heights.f k l0_0 a1).bind fun t258 => (spec_Headers.l0 k a1 t258 (([] : List Int)) 0 l0_0)
theorem spec_Headers.mono_l : ∀ k, (∀ y0 y1 y2 y3 y4, LeO (spec_Headers.l0 k y0 y1 y2 y3 y4) (spec_Headers.l0 (k + 1) y0 y1 y2 y3 y4)) ∧ (∀ y0 y1 y2 y3 y4 y5 y6, LeO (spec_Headers.l1 k y0 y1 y2 y3 y4 y5 y6) (spec_Headers.l1 (k + 1) y0 y1 y2 y3 y4 y5 y6))
 | 0 => ⟨fun _ _ _ _ _ r h => by simp [spec_Headers.l0] at h, fun _ _ _ _ _ _ _ r h => by simp [spec_Headers.l1] at h⟩
 | k + 1 => by
  obtain ⟨ih0, ih1⟩ := spec_Headers.mono_l k
  refine ⟨?_, ?_⟩
  ·intro y0 y1 y2 y3 y4
   unfold spec_Headers.l0
   repeat' first
   | (with_reducible exact ih0 _ _ _ _ _)
   | (with_reducible exact ih1 _ _ _ _ _ _ _)
   | (with_reducible exact spec_Heights.mono _ _ _)
   | (with_reducible exact LeO.refl _)
   | (with_reducible exact LeO.none _)
   | (with_reducible refine LeO.ite ?_ ?_)
   | (with_reducible refine LeO.bind ?_ (fun _ => ?_))
  ·intro y0 y1 y2 y3 y4 y5 y6
   unfold spec_Headers.l1
   repeat' first
   | (with_reducible exact ih0 _ _ _ _ _)
   | (with_reducible exact ih1 _ _ _ _ _ _ _)
   | (with_reducible exact spec_Heights.mono _ _ _)
   | (with_reducible exact LeO.refl _)
   | (with_reducible exact LeO.none _)
   | (with_reducible refine LeO.ite ?_ ?_)
   | (with_reducible refine LeO.bind ?_ (fun _ => ?_))
theorem spec_Headers.mono : ∀ a0 a1 k, LeO (spec_Headers.f k a0 a1) (spec_Headers.f (k + 1) a0 a1) := by
 intro a0 a1 k
 obtain ⟨ih0, ih1⟩ := spec_Headers.mono_l k
 unfold spec_Headers.f
 repeat' first
   | (with_reducible exact ih0 _ _ _ _ _)
   | (with_reducible exact ih1 _ _ _ _ _ _ _)
   | (with_reducible exact spec_Heights.mono _ _ _)
   | (with_reducible exact LeO.refl _)
   | (with_reducible exact LeO.none _)
   | (with_reducible refine LeO.ite ?_ ?_)
   | (with_reducible refine LeO.bind ?_ (fun _ => ?_))
theorem spec_Headers.calls (k : Nat) (A0_0 : Option Addr) (c0_0 : Nat) (l0_0 : List (S100)) (a1 : Int) (r : List Int) (w : World) (hr0_0 : Kd.C k100 w A0_0 l0_0.length l0_0) (hc0_0 : l0_0.length ≤ c0_0) (h : spec_Headers.f k l0_0 a1 = some r) :
  Calls Try.prog 25 #[.agg #[.slice A0_0 l0_0.length c0_0], .int .i64 a1] w fun e w' => ∃ v0_ : Value, e = .returned (v0_) ∧ Kd.R (Kd.int .i64) 2 w' w.heap.size (fun _ => True) v0_ r ∧ Below w.heap.size w w' := by
 have hu30 := Try.underlying30
 have hu102 := Try.underlying102
 have HR0_0 := am hr0_0
 have HC0_0 := am hc0_0
 clear hr0_0 hc0_0
 have HB := am (Below.refl w.heap.size w)
 have H : ((spec_Heights.f k l0_0 a1).bind fun t258 => (spec_Headers.l0 k a1 t258 (([] : List Int)) 0 l0_0)) = some r := h
 clear h
 replace H := Option.bind_eq_some_iff.mp H
 obtain ⟨t258, A30, H⟩ := H
 replace H : (spec_Headers.l0 k a1 t258 (([] : List Int)) 0 l0_0) = some r := H
 have A3 := am A30
 clear A30
 obtain ⟨y261, hy261⟩ : ∃ y_ : List Int, y_ = (([] : List Int)) := ⟨_, rfl⟩
 replace H : (spec_Headers.l0 k a1 t258 y261 0 l0_0) = some r := by first | (rw [hy261]; with_reducible exact H) | (have H2_ := (Option.bind_some _ _).symm.trans H; rw [hy261]; with_reducible exact H2_) | (have H2_ := (Option.bind_some _ _).symm.trans H; with_reducible exact H2_) | with_reducible exact H | (rw [hy261]; exact H) | exact H
 have Ny261 := am hy261
 clear hy261
 have H' := am H
 clear H
 go_enter Try.func25, Try.ntmps25
 go_wp2_with (first | ((with_reducible refine gate_dst (N := 2) rfl ?_); refine box_event ?hg (N := 2) ?hd (cs := #[.slice A0_0 l0_0.length c0_0]) (t := 30) ?hr ?_; (case hd => rfl); (case hg => rfl); (case hr => exact gs); intro gb257 hg w4 hbox hb; have BK257 := am (hbox); have GW257 := am ((by rw [hg]; exact (below_size (bw HB)) : w.heap.size ≤ gb257)); have GE257 := am ((by rw [hg]; exact (below_size (bw HB)) : w.heap.size ≤ gb257)); replace HB := am (below_step (bw HB) hb); clear hb hbox hg; have hcz5_0 : w4.cell? ⟨gb257, 0, none⟩ = some (.slice A0_0 l0_0.length c0_0) := bc BK257 0; have hfz5_0 := bf BK257 0) | ((with_reducible refine gate_callee (f := 15) rfl ?_); refine goesL_ (some 13) rfl rfl Try.func15 (by kernel_rfl) rfl #[.agg #[.slice A0_0 l0_0.length c0_0], .int .i64 a1] rfl gl ?_; (with_reducible refine (spec_Heights.calls k _ _ l0_0 a1 t258 _ ?side1 ?side2 A3.out).mono ?_); (case side1 => exact cc (Kd.C_below HR0_0.out HB.out)); (case side2 => exact HC0_0.out); rintro e w6 ⟨v259, rfl, ho0, hb⟩; refine ⟨_, rfl, ?_⟩; have HO260 := am (Kd.R_lower ho0 (below_size (bw HB))); replace BK257 := am (blk_below (g := gb257) (o := .cells #[.slice A0_0 l0_0.length c0_0] 30 (0, 0)) (bp BK257) hb); replace HB := am (below_step (bw HB) hb); (try clear hb); (try clear hb2); (try clear hk); (try clear hi); (try clear ho0)) | ((with_reducible refine gate_dst (N := 14) rfl ?_); refine Kd.R_lit (Kd.int .i64) _ 2 ?hg (N := 14) ?hd (xs := ([] : List Int)) (inner := []) (ok := fun _ => True) (okp := fun _ => True) ?hr ?hp (fun _ hk => hk) trivial (Below.refl _ _) (Nat.le_refl _) (by simp) ?_; (case hd => rfl); (case hg => rfl); (case hr => exact gs); (case hp => exact (Reps.none _ _)); intro v262 w7 ho8 hb hg_ hnew_; clear hg_ hnew_; (first | rw [← Ny261.out] at ho8 | (simp only [Int.reduceToNat] at ho8; rw [← Ny261.out] at ho8)); have HO263 := am (Kd.R_lower (Kd.R_new' ho8 (Kd.R_lt (kR HO260))) (below_size (bw HB))); replace HO260 := am (Kd.R_elder' (kR HO260) (Kd.R_base ho8) hb); replace BK257 := am (blk_below (g := gb257) (o := .cells #[.slice A0_0 l0_0.length c0_0] 30 (0, 0)) (bp BK257) hb); replace HB := am (below_step (bw HB) hb); clear hb ho8))
 go_loopg [6, 7] k (fun kq v6 v7 w' => ∃ (x6_1 : List Int) (x7_1 : Int), v7 = .int .i64 x7_1 ∧ Aside0 (spec_Headers.l0 kq a1 t258 x6_1 x7_1 l0_0 = some r) ∧ Aside0 (kq ≤ k) ∧ Aside0 (Kd.R (Kd.int .i64) 2 w' w.heap.size (fun k_ => some k_ ≠ (v6 : Value).ownBlock) v259 t258) ∧ Aside0 (Kd.R (Kd.int .i64) 2 w' w.heap.size (fun k_ => some k_ ≠ (v259 : Value).ownBlock) v6 x6_1) ∧ Aside0 (w'.heap[gb257]? = some (.cells #[(.slice A0_0 l0_0.length c0_0)] 30 (0, 0))) ∧ Aside0 (Below w.heap.size w w'))
 case atStart => exact ⟨(y261), (0), dr, H', ⟨Nat.le_refl _⟩, ⟨by (with_reducible repeat (first | apply Kd.R_alloc | apply Kd.R_drewN | apply Kd.R_drew)); exact Kd.R_mono HO260.out (fun _ hk => hk.2)⟩, ⟨by (with_reducible repeat (first | apply Kd.R_alloc | apply Kd.R_drewN | apply Kd.R_drew)); exact Kd.R_mono HO263.out (fun _ hk => hk.2)⟩, ⟨bp BK257⟩, ⟨bw HB⟩⟩
 case round =>
  clear H'
  (try clear c1); (try clear c2); (try clear p2); (try clear hcz5_0); (try clear hfz5_0)
  obtain ⟨x6_1, x7_1, rfl, HA, HK1, HO_5, HO_6, BK257, HB⟩ := hrel
  cases gk with
  | zero => exact absurd HA.out (by simp [spec_Headers.l0])
  | succ k1 =>
   have H := HA.out
   clear HA
   simp only [spec_Headers.l0] at H
   by_cases c9 : x7_1 < (t258.length : Int)
   ·rw [if_pos c9] at H
    have c9b0 := decide_eq_true c9
    clear c9
    have H' := am H
    clear H
    obtain ⟨Ao10, co10, eo10⟩ := Kd.R_slice HO_5.out
    subst eo10
    go_wp2
    go_loopg [8, 9] k1 (fun kq v8 v9 w' => ∃ (x8_2 : Bool) (x9_2 : Int), v8 = .bool x8_2 ∧ v9 = .int .i64 x9_2 ∧ Aside0 (spec_Headers.l1 kq a1 t258 x6_1 x7_1 x8_2 x9_2 l0_0 = some r) ∧ Aside0 (kq ≤ k1) ∧ Aside0 (Kd.R (Kd.int .i64) 2 w' w.heap.size (fun k_ => some k_ ≠ (u6 : Value).ownBlock) (.slice Ao10 t258.length co10) t258) ∧ Aside0 (Kd.R (Kd.int .i64) 2 w' w.heap.size (fun k_ => some k_ ≠ ((.slice Ao10 t258.length co10) : Value).ownBlock) u6 x6_1) ∧ Aside0 (w'.heap[gb257]? = some (.cells #[(.slice A0_0 l0_0.length c0_0)] 30 (0, 0))) ∧ Aside0 (Below w.heap.size w w'))
    case atStart => exact ⟨(false), (x7_1), dr, dr, H', ⟨Nat.le_refl _⟩, ⟨kR HO_5⟩, ⟨kR HO_6⟩, ⟨bp BK257⟩, ⟨bw HB⟩⟩
    case round =>
     clear H'
     (try clear c1); (try clear c2); (try clear p2); (try clear c9); (try clear c9b0); (try clear hcz5_0); (try clear hfz5_0); (try clear p2)
     obtain ⟨x8_2, x9_2, rfl, rfl, HA, HK2, HO_5, HO_6, BK257, HB⟩ := hrel
     cases gk with
     | zero => exact absurd HA.out (by simp [spec_Headers.l1])
     | succ k2 =>
      have H := HA.out
      clear HA
      simp only [spec_Headers.l1] at H
      by_cases c11 : x9_2 < (t258.length : Int)
      ·rw [if_pos c11] at H
       have c11b0 := decide_eq_true c11
       clear c11
       by_cases c12 : 0 ≤ a1
       ·rw [if_pos c12] at H
        have c12b0 := decide_eq_true c12
        clear c12
        by_cases c13 : a1 < (l0_0.length : Int)
        ·rw [if_pos c13] at H
         have c13b0 := decide_eq_true c13
         clear c13
         by_cases c14 : 0 ≤ x9_2
         ·rw [if_pos c14] at H
          have c14b0 := decide_eq_true c14
          clear c14
          by_cases c15 : x9_2 < (((rd_T100 l0_0 a1).f2).length : Int)
          ·rw [if_pos c15] at H
           have c15b0 := decide_eq_true c15
           clear c15
           by_cases c16 : x8_2 = true
           ·subst c16
            have H1 : (spec_Headers.l1 k2 a1 t258 x6_1 x7_1 true (wrap64 (x9_2 + 1)) l0_0) = some r := by rw [if_pos rfl] at H; exact H
            clear H
            have H := H1
            clear H1
            have H' := am H
            clear H
            have hcz17_0 : wr.cell? ⟨gb257, 0, none⟩ = some (.slice A0_0 l0_0.length c0_0) := bc BK257 0
            have hfz17_0 := bf BK257 0
            have p264 : 0 ≤ (a1 : Int) := of_decide_eq_true as1
            have q264 : a1 < (l0_0.length : Int) := of_decide_eq_true as1
            obtain ⟨ad264, A264_2, c264_2, e264, hx264_0, hx264_1, hx264_2, hl264_2, hi264_2⟩ := at_T100 HR0_0.out a1 p264 q264
            cases e264
            replace hx264_0 := (HB.out.cell (World.block_lt_of_cell? w _ hx264_0)).trans hx264_0
            replace hx264_1 := (HB.out.cell (World.block_lt_of_cell? w _ hx264_1)).trans hx264_1
            replace hx264_2 := (HB.out.cell (World.block_lt_of_cell? w _ hx264_2)).trans hx264_2
            have HR264_2 := am hi264_2
            have HC264_2 := am hl264_2
            clear hi264_2 hl264_2
            replace p264 := eq_true p264
            replace q264 := eq_true q264
            have p265 : 0 ≤ (x9_2 : Int) := of_decide_eq_true as1
            have q265 : x9_2 < (((rd_T100 l0_0 a1).f2).length : Int) := of_decide_eq_true as1
            obtain ⟨ad265, e265, hx265_0, hx265_1⟩ := at_T102 HR264_2.out x9_2 p265 q265
            cases e265
            replace hx265_0 := (HB.out.cell (World.block_lt_of_cell? w _ hx265_0)).trans hx265_0
            replace hx265_1 := (HB.out.cell (World.block_lt_of_cell? w _ hx265_1)).trans hx265_1
            replace p265 := eq_true p265
            replace q265 := eq_true q265
            go_wp2_with (first | ((with_reducible refine gate_dst (N := 10) rfl ?_); refine box_event ?hg (N := 10) ?hd (cs := #[.int .i64 0, .int .i64 0]) (t := 102) ?hr ?_; (case hd => rfl); (case hg => rfl); (case hr => exact gs); intro gb266 hg w18 hbox hb; replace HO_5 := am (Kd.R_below (kR HO_5) hb); replace HO_6 := am (Kd.R_below (kR HO_6) hb); have BK266 := am (hbox); have GW266 := am ((by rw [hg]; exact (below_size (bw HB)) : w.heap.size ≤ gb266)); have GE266 := am ((by rw [hg]; exact (below_size (bw HB)) : w.heap.size ≤ gb266)); replace HB := am (below_step (bw HB) hb); have NB257_266 := am ((by rw [hg]; exact Nat.ne_of_lt (blk_lt (g := gb257) (o := .cells #[.slice (some ad264) l0_0.length c0_0] 30 (0, 0)) (bp BK257)) : gb257 ≠ gb266)); have NB266_257 := am ((by rw [hg]; exact Nat.ne_of_gt (blk_lt (g := gb257) (o := .cells #[.slice (some ad264) l0_0.length c0_0] 30 (0, 0)) (bp BK257)) : gb266 ≠ gb257)); replace BK257 := am (blk_below (g := gb257) (o := .cells #[.slice (some ad264) l0_0.length c0_0] 30 (0, 0)) (bp BK257) hb); clear hb hbox hg; have hnb19 := NB266_257.out; have hnc19 := NB257_266.out; have hcz20_0 : w18.cell? ⟨gb266, 0, none⟩ = some (.int .i64 0) := bc BK266 0; have hcz20_1 : w18.cell? ⟨gb266, 1, none⟩ = some (.int .i64 0) := bc BK266 1; have hfz20_0 := bf BK266 0; have hfz20_1 := bf BK266 1))
            go_roundg k2
            case measure => have := HK1.out; have := HK2.out; omega
            case rel => exact ⟨(true), (wrap64 (x9_2 + 1)), dr, dr, H', ⟨by have := HK1.out; have := HK2.out; omega⟩, ⟨by (with_reducible repeat (first | apply Kd.R_alloc | apply Kd.R_drewN | apply Kd.R_drew)); exact Kd.R_mono (Kd.R_far (p := ⟨gb266, 1, none⟩) (Kd.R_far (p := ⟨gb266, 0, none⟩) (Kd.R_types HO_5.out BK266.out (by decide)) (fun _ hk => hk.2) (.int .i64 ((rd_T102 ((rd_T100 l0_0 a1).f2) x9_2).f0))) (fun _ hk => hk.2) (.int .i64 ((rd_T102 ((rd_T100 l0_0 a1).f2) x9_2).f1))) (fun _ hk => hk.1)⟩, ⟨by (with_reducible repeat (first | apply Kd.R_alloc | apply Kd.R_drewN | apply Kd.R_drew)); exact Kd.R_mono (Kd.R_far (p := ⟨gb266, 1, none⟩) (Kd.R_far (p := ⟨gb266, 0, none⟩) (Kd.R_types HO_6.out BK266.out (by decide)) (fun _ hk => hk.2) (.int .i64 ((rd_T102 ((rd_T100 l0_0 a1).f2) x9_2).f0))) (fun _ hk => hk.2) (.int .i64 ((rd_T102 ((rd_T100 l0_0 a1).f2) x9_2).f1))) (fun _ hk => hk.1)⟩, ⟨by (with_reducible repeat (first | apply dN | apply dW | apply dA)); refine blk_far ?_ NB257_266.out _; (with_reducible repeat (first | apply dN | apply dW | apply dA)); refine blk_far ?_ NB257_266.out _; exact bp BK257⟩, ⟨bw HB⟩⟩
           ·replace c16 := Bool.eq_false_iff.mpr c16
            subst c16
            have H1 : (if (rd t258 x9_2) ≥ 0 then (if ((rd_T102 ((rd_T100 l0_0 a1).f2) x9_2).f0) = 30 then (spec_Headers.l1 k2 a1 t258 x6_1 x7_1 (((rd_T102 ((rd_T100 l0_0 a1).f2) x9_2).f1) == x7_1) (wrap64 (x9_2 + 1)) l0_0) else (if ((rd_T102 ((rd_T100 l0_0 a1).f2) x9_2).f0) = 31 then (spec_Headers.l1 k2 a1 t258 x6_1 x7_1 (((rd_T102 ((rd_T100 l0_0 a1).f2) x9_2).f1) == x7_1) (wrap64 (x9_2 + 1)) l0_0) else (spec_Headers.l1 k2 a1 t258 x6_1 x7_1 false (wrap64 (x9_2 + 1)) l0_0))) else (spec_Headers.l1 k2 a1 t258 x6_1 x7_1 false (wrap64 (x9_2 + 1)) l0_0)) = some r := by rw [if_neg (show ¬ (false = true) by decide)] at H; exact H
            clear H
            have H := H1
            clear H1
            by_cases c21 : (rd t258 x9_2) ≥ 0
            ·rw [if_pos c21] at H
             have c21b0 : decide (0 ≤ (rd t258 x9_2)) = true := decide_eq_true c21
             clear c21
             by_cases c22 : ((rd_T102 ((rd_T100 l0_0 a1).f2) x9_2).f0) = 30
             ·rw [if_pos c22] at H
              have c22b0 : (((rd_T102 ((rd_T100 l0_0 a1).f2) x9_2).f0) == 30) = true := beq_iff_eq.mpr c22
              have c22b1 : (((rd_T102 ((rd_T100 l0_0 a1).f2) x9_2).f0) != 30) = false := bne_eq_false_iff_eq.mpr c22
              clear c22
              have H' := am H
              clear H
              have hcz23_0 : wr.cell? ⟨gb257, 0, none⟩ = some (.slice A0_0 l0_0.length c0_0) := bc BK257 0
              have hfz23_0 := bf BK257 0
              have p264 : 0 ≤ (a1 : Int) := of_decide_eq_true as1
              have q264 : a1 < (l0_0.length : Int) := of_decide_eq_true as1
              obtain ⟨ad264, A264_2, c264_2, e264, hx264_0, hx264_1, hx264_2, hl264_2, hi264_2⟩ := at_T100 HR0_0.out a1 p264 q264
              cases e264
              replace hx264_0 := (HB.out.cell (World.block_lt_of_cell? w _ hx264_0)).trans hx264_0
              replace hx264_1 := (HB.out.cell (World.block_lt_of_cell? w _ hx264_1)).trans hx264_1
              replace hx264_2 := (HB.out.cell (World.block_lt_of_cell? w _ hx264_2)).trans hx264_2
              have HR264_2 := am hi264_2
              have HC264_2 := am hl264_2
              clear hi264_2 hl264_2
              replace p264 := eq_true p264
              replace q264 := eq_true q264
              have p265 : 0 ≤ (x9_2 : Int) := of_decide_eq_true as1
              have q265 : x9_2 < (((rd_T100 l0_0 a1).f2).length : Int) := of_decide_eq_true as1
              obtain ⟨ad265, e265, hx265_0, hx265_1⟩ := at_T102 HR264_2.out x9_2 p265 q265
              cases e265
              replace hx265_0 := (HB.out.cell (World.block_lt_of_cell? w _ hx265_0)).trans hx265_0
              replace hx265_1 := (HB.out.cell (World.block_lt_of_cell? w _ hx265_1)).trans hx265_1
              replace p265 := eq_true p265
              replace q265 := eq_true q265
              go_wp2_with (first | ((with_reducible refine gate_dst (N := 10) rfl ?_); refine box_event ?hg (N := 10) ?hd (cs := #[.int .i64 0, .int .i64 0]) (t := 102) ?hr ?_; (case hd => rfl); (case hg => rfl); (case hr => exact gs); intro gb266 hg w24 hbox hb; replace HO_5 := am (Kd.R_below (kR HO_5) hb); replace HO_6 := am (Kd.R_below (kR HO_6) hb); have BK266 := am (hbox); have GW266 := am ((by rw [hg]; exact (below_size (bw HB)) : w.heap.size ≤ gb266)); have GE266 := am ((by rw [hg]; exact (below_size (bw HB)) : w.heap.size ≤ gb266)); replace HB := am (below_step (bw HB) hb); have NB257_266 := am ((by rw [hg]; exact Nat.ne_of_lt (blk_lt (g := gb257) (o := .cells #[.slice (some ad264) l0_0.length c0_0] 30 (0, 0)) (bp BK257)) : gb257 ≠ gb266)); have NB266_257 := am ((by rw [hg]; exact Nat.ne_of_gt (blk_lt (g := gb257) (o := .cells #[.slice (some ad264) l0_0.length c0_0] 30 (0, 0)) (bp BK257)) : gb266 ≠ gb257)); replace BK257 := am (blk_below (g := gb257) (o := .cells #[.slice (some ad264) l0_0.length c0_0] 30 (0, 0)) (bp BK257) hb); clear hb hbox hg; have hnb25 := NB266_257.out; have hnc25 := NB257_266.out; have hcz26_0 : w24.cell? ⟨gb266, 0, none⟩ = some (.int .i64 0) := bc BK266 0; have hcz26_1 : w24.cell? ⟨gb266, 1, none⟩ = some (.int .i64 0) := bc BK266 1; have hfz26_0 := bf BK266 0; have hfz26_1 := bf BK266 1; have p267 : 0 ≤ (x9_2 : Int) := of_decide_eq_true as1; have q267 : x9_2 < (t258.length : Int) := of_decide_eq_true as1; obtain ⟨ad267, e267, hx267_0⟩ := Kd.at_int (Kd.R_reads' HO_5.out).2.2 x9_2 p267 q267; cases e267; have hn267_0 : ad267.block ≠ gb266 := Kd.own_blk (Kd.R_ne HO_5.out BK266.out (by decide)); have hn267_1 : ad267.block ≠ gb266 := Kd.own_blk (Kd.R_ne HO_5.out BK266.out (by decide)); replace hx267_0 := (cell_far (p := ⟨gb266, 0, none⟩) (by first | (rw [add_block]; exact hn267_0) | (show (Addr.add _ _).block ≠ _; rw [add_block]; exact hn267_0) | exact hn267_0) (.int .i64 ((rd_T102 ((rd_T100 l0_0 a1).f2) x9_2).f0))).trans hx267_0; replace hx267_0 := (cell_far (p := ⟨gb266, 1, none⟩) (by first | (rw [add_block]; exact hn267_1) | (show (Addr.add _ _).block ≠ _; rw [add_block]; exact hn267_1) | exact hn267_1) (.int .i64 ((rd_T102 ((rd_T100 l0_0 a1).f2) x9_2).f1))).trans hx267_0; clear hn267_0; clear hn267_1; replace p267 := eq_true p267; replace q267 := eq_true q267))
              go_roundg k2
              case measure => have := HK1.out; have := HK2.out; omega
              case rel => exact ⟨((((rd_T102 ((rd_T100 l0_0 a1).f2) x9_2).f1) == x7_1)), (wrap64 (x9_2 + 1)), dr, dr, H', ⟨by have := HK1.out; have := HK2.out; omega⟩, ⟨by (with_reducible repeat (first | apply Kd.R_alloc | apply Kd.R_drewN | apply Kd.R_drew)); exact Kd.R_mono (Kd.R_far (p := ⟨gb266, 1, none⟩) (Kd.R_far (p := ⟨gb266, 0, none⟩) (Kd.R_types HO_5.out BK266.out (by decide)) (fun _ hk => hk.2) (.int .i64 ((rd_T102 ((rd_T100 l0_0 a1).f2) x9_2).f0))) (fun _ hk => hk.2) (.int .i64 ((rd_T102 ((rd_T100 l0_0 a1).f2) x9_2).f1))) (fun _ hk => hk.1)⟩, ⟨by (with_reducible repeat (first | apply Kd.R_alloc | apply Kd.R_drewN | apply Kd.R_drew)); exact Kd.R_mono (Kd.R_far (p := ⟨gb266, 1, none⟩) (Kd.R_far (p := ⟨gb266, 0, none⟩) (Kd.R_types HO_6.out BK266.out (by decide)) (fun _ hk => hk.2) (.int .i64 ((rd_T102 ((rd_T100 l0_0 a1).f2) x9_2).f0))) (fun _ hk => hk.2) (.int .i64 ((rd_T102 ((rd_T100 l0_0 a1).f2) x9_2).f1))) (fun _ hk => hk.1)⟩, ⟨by (with_reducible repeat (first | apply dN | apply dW | apply dA)); refine blk_far ?_ NB257_266.out _; (with_reducible repeat (first | apply dN | apply dW | apply dA)); refine blk_far ?_ NB257_266.out _; exact bp BK257⟩, ⟨bw HB⟩⟩
             ·rw [if_neg c22] at H
              have c22b0 : (((rd_T102 ((rd_T100 l0_0 a1).f2) x9_2).f0) == 30) = false := beq_eq_false_iff_ne.mpr c22
              have c22b1 : (((rd_T102 ((rd_T100 l0_0 a1).f2) x9_2).f0) != 30) = true := bne_iff_ne.mpr c22
              by_cases c27 : ((rd_T102 ((rd_T100 l0_0 a1).f2) x9_2).f0) = 31
              ·rw [if_pos c27] at H
               have c27b0 : (((rd_T102 ((rd_T100 l0_0 a1).f2) x9_2).f0) == 31) = true := beq_iff_eq.mpr c27
               have c27b1 : (((rd_T102 ((rd_T100 l0_0 a1).f2) x9_2).f0) != 31) = false := bne_eq_false_iff_eq.mpr c27
               clear c27
               have H' := am H
               clear H
               have hcz28_0 : wr.cell? ⟨gb257, 0, none⟩ = some (.slice A0_0 l0_0.length c0_0) := bc BK257 0
               have hfz28_0 := bf BK257 0
               have p264 : 0 ≤ (a1 : Int) := of_decide_eq_true as1
               have q264 : a1 < (l0_0.length : Int) := of_decide_eq_true as1
               obtain ⟨ad264, A264_2, c264_2, e264, hx264_0, hx264_1, hx264_2, hl264_2, hi264_2⟩ := at_T100 HR0_0.out a1 p264 q264
               cases e264
               replace hx264_0 := (HB.out.cell (World.block_lt_of_cell? w _ hx264_0)).trans hx264_0
               replace hx264_1 := (HB.out.cell (World.block_lt_of_cell? w _ hx264_1)).trans hx264_1
               replace hx264_2 := (HB.out.cell (World.block_lt_of_cell? w _ hx264_2)).trans hx264_2
               have HR264_2 := am hi264_2
               have HC264_2 := am hl264_2
               clear hi264_2 hl264_2
               replace p264 := eq_true p264
               replace q264 := eq_true q264
               have p265 : 0 ≤ (x9_2 : Int) := of_decide_eq_true as1
               have q265 : x9_2 < (((rd_T100 l0_0 a1).f2).length : Int) := of_decide_eq_true as1
               obtain ⟨ad265, e265, hx265_0, hx265_1⟩ := at_T102 HR264_2.out x9_2 p265 q265
               cases e265
               replace hx265_0 := (HB.out.cell (World.block_lt_of_cell? w _ hx265_0)).trans hx265_0
               replace hx265_1 := (HB.out.cell (World.block_lt_of_cell? w _ hx265_1)).trans hx265_1
               replace p265 := eq_true p265
               replace q265 := eq_true q265
               go_wp2_with (first | ((with_reducible refine gate_dst (N := 10) rfl ?_); refine box_event ?hg (N := 10) ?hd (cs := #[.int .i64 0, .int .i64 0]) (t := 102) ?hr ?_; (case hd => rfl); (case hg => rfl); (case hr => exact gs); intro gb266 hg w29 hbox hb; replace HO_5 := am (Kd.R_below (kR HO_5) hb); replace HO_6 := am (Kd.R_below (kR HO_6) hb); have BK266 := am (hbox); have GW266 := am ((by rw [hg]; exact (below_size (bw HB)) : w.heap.size ≤ gb266)); have GE266 := am ((by rw [hg]; exact (below_size (bw HB)) : w.heap.size ≤ gb266)); replace HB := am (below_step (bw HB) hb); have NB257_266 := am ((by rw [hg]; exact Nat.ne_of_lt (blk_lt (g := gb257) (o := .cells #[.slice (some ad264) l0_0.length c0_0] 30 (0, 0)) (bp BK257)) : gb257 ≠ gb266)); have NB266_257 := am ((by rw [hg]; exact Nat.ne_of_gt (blk_lt (g := gb257) (o := .cells #[.slice (some ad264) l0_0.length c0_0] 30 (0, 0)) (bp BK257)) : gb266 ≠ gb257)); replace BK257 := am (blk_below (g := gb257) (o := .cells #[.slice (some ad264) l0_0.length c0_0] 30 (0, 0)) (bp BK257) hb); clear hb hbox hg; have hnb30 := NB266_257.out; have hnc30 := NB257_266.out; have hcz31_0 : w29.cell? ⟨gb266, 0, none⟩ = some (.int .i64 0) := bc BK266 0; have hcz31_1 : w29.cell? ⟨gb266, 1, none⟩ = some (.int .i64 0) := bc BK266 1; have hfz31_0 := bf BK266 0; have hfz31_1 := bf BK266 1; have p267 : 0 ≤ (x9_2 : Int) := of_decide_eq_true as1; have q267 : x9_2 < (t258.length : Int) := of_decide_eq_true as1; obtain ⟨ad267, e267, hx267_0⟩ := Kd.at_int (Kd.R_reads' HO_5.out).2.2 x9_2 p267 q267; cases e267; have hn267_0 : ad267.block ≠ gb266 := Kd.own_blk (Kd.R_ne HO_5.out BK266.out (by decide)); have hn267_1 : ad267.block ≠ gb266 := Kd.own_blk (Kd.R_ne HO_5.out BK266.out (by decide)); replace hx267_0 := (cell_far (p := ⟨gb266, 0, none⟩) (by first | (rw [add_block]; exact hn267_0) | (show (Addr.add _ _).block ≠ _; rw [add_block]; exact hn267_0) | exact hn267_0) (.int .i64 ((rd_T102 ((rd_T100 l0_0 a1).f2) x9_2).f0))).trans hx267_0; replace hx267_0 := (cell_far (p := ⟨gb266, 1, none⟩) (by first | (rw [add_block]; exact hn267_1) | (show (Addr.add _ _).block ≠ _; rw [add_block]; exact hn267_1) | exact hn267_1) (.int .i64 ((rd_T102 ((rd_T100 l0_0 a1).f2) x9_2).f1))).trans hx267_0; clear hn267_0; clear hn267_1; replace p267 := eq_true p267; replace q267 := eq_true q267))
               go_roundg k2
               case measure => have := HK1.out; have := HK2.out; omega
               case rel => exact ⟨((((rd_T102 ((rd_T100 l0_0 a1).f2) x9_2).f1) == x7_1)), (wrap64 (x9_2 + 1)), dr, dr, H', ⟨by have := HK1.out; have := HK2.out; omega⟩, ⟨by (with_reducible repeat (first | apply Kd.R_alloc | apply Kd.R_drewN | apply Kd.R_drew)); exact Kd.R_mono (Kd.R_far (p := ⟨gb266, 1, none⟩) (Kd.R_far (p := ⟨gb266, 0, none⟩) (Kd.R_types HO_5.out BK266.out (by decide)) (fun _ hk => hk.2) (.int .i64 ((rd_T102 ((rd_T100 l0_0 a1).f2) x9_2).f0))) (fun _ hk => hk.2) (.int .i64 ((rd_T102 ((rd_T100 l0_0 a1).f2) x9_2).f1))) (fun _ hk => hk.1)⟩, ⟨by (with_reducible repeat (first | apply Kd.R_alloc | apply Kd.R_drewN | apply Kd.R_drew)); exact Kd.R_mono (Kd.R_far (p := ⟨gb266, 1, none⟩) (Kd.R_far (p := ⟨gb266, 0, none⟩) (Kd.R_types HO_6.out BK266.out (by decide)) (fun _ hk => hk.2) (.int .i64 ((rd_T102 ((rd_T100 l0_0 a1).f2) x9_2).f0))) (fun _ hk => hk.2) (.int .i64 ((rd_T102 ((rd_T100 l0_0 a1).f2) x9_2).f1))) (fun _ hk => hk.1)⟩, ⟨by (with_reducible repeat (first | apply dN | apply dW | apply dA)); refine blk_far ?_ NB257_266.out _; (with_reducible repeat (first | apply dN | apply dW | apply dA)); refine blk_far ?_ NB257_266.out _; exact bp BK257⟩, ⟨bw HB⟩⟩
              ·rw [if_neg c27] at H
               have c27b0 : (((rd_T102 ((rd_T100 l0_0 a1).f2) x9_2).f0) == 31) = false := beq_eq_false_iff_ne.mpr c27
               have c27b1 : (((rd_T102 ((rd_T100 l0_0 a1).f2) x9_2).f0) != 31) = true := bne_iff_ne.mpr c27
               have H' := am H
               clear H
               have hcz32_0 : wr.cell? ⟨gb257, 0, none⟩ = some (.slice A0_0 l0_0.length c0_0) := bc BK257 0
               have hfz32_0 := bf BK257 0
               have p264 : 0 ≤ (a1 : Int) := of_decide_eq_true as1
               have q264 : a1 < (l0_0.length : Int) := of_decide_eq_true as1
               obtain ⟨ad264, A264_2, c264_2, e264, hx264_0, hx264_1, hx264_2, hl264_2, hi264_2⟩ := at_T100 HR0_0.out a1 p264 q264
               cases e264
               replace hx264_0 := (HB.out.cell (World.block_lt_of_cell? w _ hx264_0)).trans hx264_0
               replace hx264_1 := (HB.out.cell (World.block_lt_of_cell? w _ hx264_1)).trans hx264_1
               replace hx264_2 := (HB.out.cell (World.block_lt_of_cell? w _ hx264_2)).trans hx264_2
               have HR264_2 := am hi264_2
               have HC264_2 := am hl264_2
               clear hi264_2 hl264_2
               replace p264 := eq_true p264
               replace q264 := eq_true q264
               have p265 : 0 ≤ (x9_2 : Int) := of_decide_eq_true as1
               have q265 : x9_2 < (((rd_T100 l0_0 a1).f2).length : Int) := of_decide_eq_true as1
               obtain ⟨ad265, e265, hx265_0, hx265_1⟩ := at_T102 HR264_2.out x9_2 p265 q265
               cases e265
               replace hx265_0 := (HB.out.cell (World.block_lt_of_cell? w _ hx265_0)).trans hx265_0
               replace hx265_1 := (HB.out.cell (World.block_lt_of_cell? w _ hx265_1)).trans hx265_1
               replace p265 := eq_true p265
               replace q265 := eq_true q265
               go_wp2_with (first | ((with_reducible refine gate_dst (N := 10) rfl ?_); refine box_event ?hg (N := 10) ?hd (cs := #[.int .i64 0, .int .i64 0]) (t := 102) ?hr ?_; (case hd => rfl); (case hg => rfl); (case hr => exact gs); intro gb266 hg w33 hbox hb; replace HO_5 := am (Kd.R_below (kR HO_5) hb); replace HO_6 := am (Kd.R_below (kR HO_6) hb); have BK266 := am (hbox); have GW266 := am ((by rw [hg]; exact (below_size (bw HB)) : w.heap.size ≤ gb266)); have GE266 := am ((by rw [hg]; exact (below_size (bw HB)) : w.heap.size ≤ gb266)); replace HB := am (below_step (bw HB) hb); have NB257_266 := am ((by rw [hg]; exact Nat.ne_of_lt (blk_lt (g := gb257) (o := .cells #[.slice (some ad264) l0_0.length c0_0] 30 (0, 0)) (bp BK257)) : gb257 ≠ gb266)); have NB266_257 := am ((by rw [hg]; exact Nat.ne_of_gt (blk_lt (g := gb257) (o := .cells #[.slice (some ad264) l0_0.length c0_0] 30 (0, 0)) (bp BK257)) : gb266 ≠ gb257)); replace BK257 := am (blk_below (g := gb257) (o := .cells #[.slice (some ad264) l0_0.length c0_0] 30 (0, 0)) (bp BK257) hb); clear hb hbox hg; have hnb34 := NB266_257.out; have hnc34 := NB257_266.out; have hcz35_0 : w33.cell? ⟨gb266, 0, none⟩ = some (.int .i64 0) := bc BK266 0; have hcz35_1 : w33.cell? ⟨gb266, 1, none⟩ = some (.int .i64 0) := bc BK266 1; have hfz35_0 := bf BK266 0; have hfz35_1 := bf BK266 1; have p267 : 0 ≤ (x9_2 : Int) := of_decide_eq_true as1; have q267 : x9_2 < (t258.length : Int) := of_decide_eq_true as1; obtain ⟨ad267, e267, hx267_0⟩ := Kd.at_int (Kd.R_reads' HO_5.out).2.2 x9_2 p267 q267; cases e267; have hn267_0 : ad267.block ≠ gb266 := Kd.own_blk (Kd.R_ne HO_5.out BK266.out (by decide)); have hn267_1 : ad267.block ≠ gb266 := Kd.own_blk (Kd.R_ne HO_5.out BK266.out (by decide)); replace hx267_0 := (cell_far (p := ⟨gb266, 0, none⟩) (by first | (rw [add_block]; exact hn267_0) | (show (Addr.add _ _).block ≠ _; rw [add_block]; exact hn267_0) | exact hn267_0) (.int .i64 ((rd_T102 ((rd_T100 l0_0 a1).f2) x9_2).f0))).trans hx267_0; replace hx267_0 := (cell_far (p := ⟨gb266, 1, none⟩) (by first | (rw [add_block]; exact hn267_1) | (show (Addr.add _ _).block ≠ _; rw [add_block]; exact hn267_1) | exact hn267_1) (.int .i64 ((rd_T102 ((rd_T100 l0_0 a1).f2) x9_2).f1))).trans hx267_0; clear hn267_0; clear hn267_1; replace p267 := eq_true p267; replace q267 := eq_true q267))
               go_roundg k2
               case measure => have := HK1.out; have := HK2.out; omega
               case rel => exact ⟨(false), (wrap64 (x9_2 + 1)), dr, dr, H', ⟨by have := HK1.out; have := HK2.out; omega⟩, ⟨by (with_reducible repeat (first | apply Kd.R_alloc | apply Kd.R_drewN | apply Kd.R_drew)); exact Kd.R_mono (Kd.R_far (p := ⟨gb266, 1, none⟩) (Kd.R_far (p := ⟨gb266, 0, none⟩) (Kd.R_types HO_5.out BK266.out (by decide)) (fun _ hk => hk.2) (.int .i64 ((rd_T102 ((rd_T100 l0_0 a1).f2) x9_2).f0))) (fun _ hk => hk.2) (.int .i64 ((rd_T102 ((rd_T100 l0_0 a1).f2) x9_2).f1))) (fun _ hk => hk.1)⟩, ⟨by (with_reducible repeat (first | apply Kd.R_alloc | apply Kd.R_drewN | apply Kd.R_drew)); exact Kd.R_mono (Kd.R_far (p := ⟨gb266, 1, none⟩) (Kd.R_far (p := ⟨gb266, 0, none⟩) (Kd.R_types HO_6.out BK266.out (by decide)) (fun _ hk => hk.2) (.int .i64 ((rd_T102 ((rd_T100 l0_0 a1).f2) x9_2).f0))) (fun _ hk => hk.2) (.int .i64 ((rd_T102 ((rd_T100 l0_0 a1).f2) x9_2).f1))) (fun _ hk => hk.1)⟩, ⟨by (with_reducible repeat (first | apply dN | apply dW | apply dA)); refine blk_far ?_ NB257_266.out _; (with_reducible repeat (first | apply dN | apply dW | apply dA)); refine blk_far ?_ NB257_266.out _; exact bp BK257⟩, ⟨bw HB⟩⟩
            ·rw [if_neg c21] at H
             have c21b0 : decide (0 ≤ (rd t258 x9_2)) = false := decide_eq_false c21
             clear c21
             have H' := am H
             clear H
             have hcz36_0 : wr.cell? ⟨gb257, 0, none⟩ = some (.slice A0_0 l0_0.length c0_0) := bc BK257 0
             have hfz36_0 := bf BK257 0
             have p264 : 0 ≤ (a1 : Int) := of_decide_eq_true as1
             have q264 : a1 < (l0_0.length : Int) := of_decide_eq_true as1
             obtain ⟨ad264, A264_2, c264_2, e264, hx264_0, hx264_1, hx264_2, hl264_2, hi264_2⟩ := at_T100 HR0_0.out a1 p264 q264
             cases e264
             replace hx264_0 := (HB.out.cell (World.block_lt_of_cell? w _ hx264_0)).trans hx264_0
             replace hx264_1 := (HB.out.cell (World.block_lt_of_cell? w _ hx264_1)).trans hx264_1
             replace hx264_2 := (HB.out.cell (World.block_lt_of_cell? w _ hx264_2)).trans hx264_2
             have HR264_2 := am hi264_2
             have HC264_2 := am hl264_2
             clear hi264_2 hl264_2
             replace p264 := eq_true p264
             replace q264 := eq_true q264
             have p265 : 0 ≤ (x9_2 : Int) := of_decide_eq_true as1
             have q265 : x9_2 < (((rd_T100 l0_0 a1).f2).length : Int) := of_decide_eq_true as1
             obtain ⟨ad265, e265, hx265_0, hx265_1⟩ := at_T102 HR264_2.out x9_2 p265 q265
             cases e265
             replace hx265_0 := (HB.out.cell (World.block_lt_of_cell? w _ hx265_0)).trans hx265_0
             replace hx265_1 := (HB.out.cell (World.block_lt_of_cell? w _ hx265_1)).trans hx265_1
             replace p265 := eq_true p265
             replace q265 := eq_true q265
             go_wp2_with (first | ((with_reducible refine gate_dst (N := 10) rfl ?_); refine box_event ?hg (N := 10) ?hd (cs := #[.int .i64 0, .int .i64 0]) (t := 102) ?hr ?_; (case hd => rfl); (case hg => rfl); (case hr => exact gs); intro gb266 hg w37 hbox hb; replace HO_5 := am (Kd.R_below (kR HO_5) hb); replace HO_6 := am (Kd.R_below (kR HO_6) hb); have BK266 := am (hbox); have GW266 := am ((by rw [hg]; exact (below_size (bw HB)) : w.heap.size ≤ gb266)); have GE266 := am ((by rw [hg]; exact (below_size (bw HB)) : w.heap.size ≤ gb266)); replace HB := am (below_step (bw HB) hb); have NB257_266 := am ((by rw [hg]; exact Nat.ne_of_lt (blk_lt (g := gb257) (o := .cells #[.slice (some ad264) l0_0.length c0_0] 30 (0, 0)) (bp BK257)) : gb257 ≠ gb266)); have NB266_257 := am ((by rw [hg]; exact Nat.ne_of_gt (blk_lt (g := gb257) (o := .cells #[.slice (some ad264) l0_0.length c0_0] 30 (0, 0)) (bp BK257)) : gb266 ≠ gb257)); replace BK257 := am (blk_below (g := gb257) (o := .cells #[.slice (some ad264) l0_0.length c0_0] 30 (0, 0)) (bp BK257) hb); clear hb hbox hg; have hnb38 := NB266_257.out; have hnc38 := NB257_266.out; have hcz39_0 : w37.cell? ⟨gb266, 0, none⟩ = some (.int .i64 0) := bc BK266 0; have hcz39_1 : w37.cell? ⟨gb266, 1, none⟩ = some (.int .i64 0) := bc BK266 1; have hfz39_0 := bf BK266 0; have hfz39_1 := bf BK266 1; have p267 : 0 ≤ (x9_2 : Int) := of_decide_eq_true as1; have q267 : x9_2 < (t258.length : Int) := of_decide_eq_true as1; obtain ⟨ad267, e267, hx267_0⟩ := Kd.at_int (Kd.R_reads' HO_5.out).2.2 x9_2 p267 q267; cases e267; have hn267_0 : ad267.block ≠ gb266 := Kd.own_blk (Kd.R_ne HO_5.out BK266.out (by decide)); have hn267_1 : ad267.block ≠ gb266 := Kd.own_blk (Kd.R_ne HO_5.out BK266.out (by decide)); replace hx267_0 := (cell_far (p := ⟨gb266, 0, none⟩) (by first | (rw [add_block]; exact hn267_0) | (show (Addr.add _ _).block ≠ _; rw [add_block]; exact hn267_0) | exact hn267_0) (.int .i64 ((rd_T102 ((rd_T100 l0_0 a1).f2) x9_2).f0))).trans hx267_0; replace hx267_0 := (cell_far (p := ⟨gb266, 1, none⟩) (by first | (rw [add_block]; exact hn267_1) | (show (Addr.add _ _).block ≠ _; rw [add_block]; exact hn267_1) | exact hn267_1) (.int .i64 ((rd_T102 ((rd_T100 l0_0 a1).f2) x9_2).f1))).trans hx267_0; clear hn267_0; clear hn267_1; replace p267 := eq_true p267; replace q267 := eq_true q267))
             go_roundg k2
             case measure => have := HK1.out; have := HK2.out; omega
             case rel => exact ⟨(false), (wrap64 (x9_2 + 1)), dr, dr, H', ⟨by have := HK1.out; have := HK2.out; omega⟩, ⟨by (with_reducible repeat (first | apply Kd.R_alloc | apply Kd.R_drewN | apply Kd.R_drew)); exact Kd.R_mono (Kd.R_far (p := ⟨gb266, 1, none⟩) (Kd.R_far (p := ⟨gb266, 0, none⟩) (Kd.R_types HO_5.out BK266.out (by decide)) (fun _ hk => hk.2) (.int .i64 ((rd_T102 ((rd_T100 l0_0 a1).f2) x9_2).f0))) (fun _ hk => hk.2) (.int .i64 ((rd_T102 ((rd_T100 l0_0 a1).f2) x9_2).f1))) (fun _ hk => hk.1)⟩, ⟨by (with_reducible repeat (first | apply Kd.R_alloc | apply Kd.R_drewN | apply Kd.R_drew)); exact Kd.R_mono (Kd.R_far (p := ⟨gb266, 1, none⟩) (Kd.R_far (p := ⟨gb266, 0, none⟩) (Kd.R_types HO_6.out BK266.out (by decide)) (fun _ hk => hk.2) (.int .i64 ((rd_T102 ((rd_T100 l0_0 a1).f2) x9_2).f0))) (fun _ hk => hk.2) (.int .i64 ((rd_T102 ((rd_T100 l0_0 a1).f2) x9_2).f1))) (fun _ hk => hk.1)⟩, ⟨by (with_reducible repeat (first | apply dN | apply dW | apply dA)); refine blk_far ?_ NB257_266.out _; (with_reducible repeat (first | apply dN | apply dW | apply dA)); refine blk_far ?_ NB257_266.out _; exact bp BK257⟩, ⟨bw HB⟩⟩
          ·rw [if_neg c15] at H
           exact absurd H (by simp)
         ·rw [if_neg c14] at H
          exact absurd H (by simp)
        ·rw [if_neg c13] at H
         exact absurd H (by simp)
       ·rw [if_neg c12] at H
        exact absurd H (by simp)
      ·rw [if_neg c11] at H
       have c11b0 := decide_eq_false c11
       clear c11
       by_cases c40 : x8_2 = true
       ·subst c40
        have H1 : (if x6_1.length < 17592186044416 then (spec_Headers.l0 k2 a1 t258 (x6_1 ++ [x7_1]) (wrap64 (x7_1 + 1)) l0_0) else (none)) = some r := by rw [if_pos rfl] at H; exact H
        clear H
        have H := H1
        clear H1
        by_cases c41 : x6_1.length < 17592186044416
        ·rw [if_pos c41] at H
         have LMc41 := am c41
         clear c41
         obtain ⟨y268, hy268⟩ : ∃ y_ : List Int, y_ = (x6_1 ++ [x7_1]) := ⟨_, rfl⟩
         replace H : (spec_Headers.l0 k2 a1 t258 y268 (wrap64 (x7_1 + 1)) l0_0) = some r := by first | (rw [hy268]; with_reducible exact H) | (have H2_ := (Option.bind_some _ _).symm.trans H; rw [hy268]; with_reducible exact H2_) | (have H2_ := (Option.bind_some _ _).symm.trans H; with_reducible exact H2_) | with_reducible exact H | (rw [hy268]; exact H) | exact H
         have Ny268 := am hy268
         clear hy268
         have H' := am H
         clear H
         go_wp2_with (first | ((with_reducible refine gate_builtin (b := .append) (xs := #[.tmp 62, .tmp 64]) rfl ?_); at_builtin; refine Kd.R_append (Kd.int .i64) (w0 := w) w.heap.size rfl (.tmp 62) (.tmp 64) 26 2 (.int .i64 0) 8 rfl Try.underlying26 info2 rfl (by decide) (by omega) u6 x6_1 x7_1 [.int .i64 x7_1] (fun k_ => some k_ ≠ (.slice Ao10 t258.length co10 : Value).ownBlock) (fun _ => False) rfl rfl ?aP (fun _ hk => hk.elim) ?aF ?aO ?aB ?aS ?aL ?_; (case aP => exact rfl); (case aB => exact (bw HB)); (case aF => exact (fun k_ hk => Kd.fresh' (Kd.R_lt (kR HO_5)) k_ hk)); (case aO => exact (kR HO_6)); (case aS => exact (below_size (bw HB))); (case aL => have := LMc41.out; omega); intro v269 w42 ho hb hg hat; rw [← Ny268.out] at ho; replace HO_5 := am (Kd.R_after (ok := (fun _ => True)) (by (with_reducible repeat (first | apply Kd.R_alloc | apply Kd.R_drewN | apply Kd.R_drew)); exact Kd.R_mono HO_5.out (fun _ hk => ⟨trivial, hk⟩)) hg hat); replace BK257 := am (blk_grown (g := gb257) (o := .cells #[.slice A0_0 l0_0.length c0_0] 30 (0, 0)) (bp BK257) hg (Kd.R_ne HO_6.out BK257.out (by decide))); replace HB := am (hb); have HO270 := am (ho); clear HO_6; clear ho hb hg hat))
         go_roundg k2
         case measure => have := HK1.out; have := HK2.out; omega
         case rel => exact ⟨(y268), (wrap64 (x7_1 + 1)), dr, H', ⟨by have := HK1.out; have := HK2.out; omega⟩, ⟨by (with_reducible repeat (first | apply Kd.R_alloc | apply Kd.R_drewN | apply Kd.R_drew)); exact Kd.R_mono HO_5.out (fun _ hk => hk.2)⟩, ⟨kR HO270⟩, ⟨bp BK257⟩, ⟨bw HB⟩⟩
        ·rw [if_neg c41] at H
         exact absurd H (by simp)
       ·replace c40 := Bool.eq_false_iff.mpr c40
        subst c40
        have H1 : (spec_Headers.l0 k2 a1 t258 x6_1 (wrap64 (x7_1 + 1)) l0_0) = some r := by rw [if_neg (show ¬ (false = true) by decide)] at H; exact H
        clear H
        have H := H1
        clear H1
        have H' := am H
        clear H
        go_wp2
        go_roundg k2
        case measure => have := HK1.out; have := HK2.out; omega
        case rel => exact ⟨(x6_1), (wrap64 (x7_1 + 1)), dr, H', ⟨by have := HK1.out; have := HK2.out; omega⟩, ⟨kR HO_5⟩, ⟨kR HO_6⟩, ⟨bp BK257⟩, ⟨bw HB⟩⟩
   ·rw [if_neg c9] at H
    have c9b0 := decide_eq_false c9
    clear c9
    obtain rfl := Option.some.inj H
    obtain ⟨Ao43, co43, eo43⟩ := Kd.R_slice HO_5.out
    subst eo43
    go_wp2
    go_ret
    exact ⟨_, er, by (with_reducible repeat (first | apply Kd.R_alloc | apply Kd.R_drewN | apply Kd.R_drew)); exact Kd.R_mono HO_6.out (fun _ hk => trivial), bw HB⟩

def impl_in.f (a0 : Int) (a1 : Int) (a2 : Int) : Option (Bool) := if a0 ≥ a1 then (some (decide (a0 ≤ a2))) else (some false)
theorem impl_in.calls (a0 : Int) (a1 : Int) (a2 : Int) (r : Bool) (w : World) (h : impl_in.f a0 a1 a2 = some r) :
  Calls Try.prog 85 #[.int .i64 a0, .int .i64 a1, .int .i64 a2] w fun e w' => e = .returned (.bool r) ∧ Drawn0 w w' := by
 have H : (if a0 ≥ a1 then (some (decide (a0 ≤ a2))) else (some false)) = some r := h
 clear h
 by_cases c4 : a0 ≥ a1
 ·rw [if_pos c4] at H
  have c4b0 : decide (a1 ≤ a0) = true := decide_eq_true c4
  clear c4
  obtain rfl := Option.some.inj H
  go_enter Try.func85, Try.ntmps85
  go_wp2
  go_ret
  exact ⟨by first | rfl | (simp; done) | (simp [*]; done), by repeat (first | exact Drawn0.refl _ | apply Drawn0.step)⟩
 ·rw [if_neg c4] at H
  have c4b0 : decide (a1 ≤ a0) = false := decide_eq_false c4
  clear c4
  obtain rfl := Option.some.inj H
  go_enter Try.func85, Try.ntmps85
  go_wp2
  go_ret
  exact ⟨by first | rfl | (simp; done) | (simp [*]; done), by repeat (first | exact Drawn0.refl _ | apply Drawn0.step)⟩

def impl_hasFunc.f (l0_0 : List (S100)) (a1 : Int) : Option (Bool) := if a1 ≥ 0 then (some (decide (a1 < (l0_0.length : Int)))) else (some false)
theorem impl_hasFunc.calls (A0_0 : Option Addr) (c0_0 : Nat) (l0_0 : List (S100)) (a1 : Int) (r : Bool) (w : World) (hr0_0 : Kd.C k100 w A0_0 l0_0.length l0_0) (hc0_0 : l0_0.length ≤ c0_0) (h : impl_hasFunc.f l0_0 a1 = some r) :
  Calls Try.prog 121 #[.agg #[.slice A0_0 l0_0.length c0_0], .int .i64 a1] w fun e w' => e = .returned (.bool r) ∧ Below w.heap.size w w' := by
 have hu30 := Try.underlying30
 have HR0_0 := am hr0_0
 have HC0_0 := am hc0_0
 clear hr0_0 hc0_0
 have HB := am (Below.refl w.heap.size w)
 have H : (if a1 ≥ 0 then (some (decide (a1 < (l0_0.length : Int)))) else (some false)) = some r := h
 clear h
 by_cases c3 : a1 ≥ 0
 ·rw [if_pos c3] at H
  have c3b0 : decide (0 ≤ a1) = true := decide_eq_true c3
  clear c3
  obtain rfl := Option.some.inj H
  go_enter Try.func121, Try.ntmps121
  go_wp2_with (first | ((with_reducible refine gate_dst (N := 2) rfl ?_); (try (refine gate_guard (by rfl) ?_; dsimp only)); refine box_event ?hg (N := 2) ?hd (cs := #[.slice A0_0 l0_0.length c0_0]) (t := 30) ?hr ?_; (case hd => rfl); (case hg => rfl); (case hr => exact gs); intro gb271 hg w4 hbox hb; have BK271 := am (hbox); have GW271 := am ((by rw [hg]; exact (below_size (bw HB)) : w.heap.size ≤ gb271)); have GE271 := am ((by rw [hg]; exact (below_size (bw HB)) : w.heap.size ≤ gb271)); replace HB := am (below_step (bw HB) hb); clear hb hbox hg; have hcz5_0 : w4.cell? ⟨gb271, 0, none⟩ = some (.slice A0_0 l0_0.length c0_0) := bc BK271 0; have hfz5_0 := bf BK271 0))
  go_ret
  exact ⟨er, bw HB⟩
 ·rw [if_neg c3] at H
  have c3b0 : decide (0 ≤ a1) = false := decide_eq_false c3
  clear c3
  obtain rfl := Option.some.inj H
  go_enter Try.func121, Try.ntmps121
  go_wp2_with (first | ((with_reducible refine gate_dst (N := 2) rfl ?_); (try (refine gate_guard (by rfl) ?_; dsimp only)); refine box_event ?hg (N := 2) ?hd (cs := #[.slice A0_0 l0_0.length c0_0]) (t := 30) ?hr ?_; (case hd => rfl); (case hg => rfl); (case hr => exact gs); intro gb271 hg w6 hbox hb; have BK271 := am (hbox); have GW271 := am ((by rw [hg]; exact (below_size (bw HB)) : w.heap.size ≤ gb271)); have GE271 := am ((by rw [hg]; exact (below_size (bw HB)) : w.heap.size ≤ gb271)); replace HB := am (below_step (bw HB) hb); clear hb hbox hg))
  go_ret
  exact ⟨er, bw HB⟩

def impl_opNames.f  : Option (List ByteArray) := some (([(⟨#[]⟩ : ByteArray), (⟨#[112, 117, 115, 104]⟩ : ByteArray), (⟨#[108, 111, 97, 100]⟩ : ByteArray), (⟨#[115, 116, 111, 114, 101]⟩ : ByteArray), (⟨#[100, 117, 112]⟩ : ByteArray), (⟨#[112, 111, 112]⟩ : ByteArray), (⟨#[]⟩ : ByteArray), (⟨#[]⟩ : ByteArray), (⟨#[]⟩ : ByteArray), (⟨#[]⟩ : ByteArray), (⟨#[97, 100, 100]⟩ : ByteArray), (⟨#[115, 117, 98]⟩ : ByteArray), (⟨#[109, 117, 108]⟩ : ByteArray), (⟨#[100, 105, 118]⟩ : ByteArray), (⟨#[114, 101, 109]⟩ : ByteArray), (⟨#[97, 110, 100]⟩ : ByteArray), (⟨#[111, 114]⟩ : ByteArray), (⟨#[120, 111, 114]⟩ : ByteArray), (⟨#[115, 104, 108]⟩ : ByteArray), (⟨#[115, 104, 114]⟩ : ByteArray), (⟨#[117, 115, 104, 114]⟩ : ByteArray), (⟨#[108, 101, 115, 115]⟩ : ByteArray), (⟨#[97, 116, 109, 111, 115, 116]⟩ : ByteArray), (⟨#[115, 97, 109, 101]⟩ : ByteArray), (⟨#[110, 101, 103]⟩ : ByteArray), (⟨#[110, 111, 116]⟩ : ByteArray), (⟨#[98, 121, 116, 101]⟩ : ByteArray), (⟨#[115, 104, 111, 114, 116]⟩ : ByteArray), (⟨#[105, 110, 116]⟩ : ByteArray), (⟨#[119, 111, 114, 100]⟩ : ByteArray), (⟨#[106, 117, 109, 112]⟩ : ByteArray), (⟨#[106, 122]⟩ : ByteArray), (⟨#[99, 97, 108, 108]⟩ : ByteArray), (⟨#[114, 101, 116]⟩ : ByteArray), (⟨#[110, 101, 119]⟩ : ByteArray), (⟨#[103, 101, 116]⟩ : ByteArray), (⟨#[115, 101, 116]⟩ : ByteArray), (⟨#[108, 101, 110]⟩ : ByteArray), (⟨#[111, 117, 116]⟩ : ByteArray)] : List ByteArray))
theorem impl_opNames.calls  (r : List ByteArray) (w : World) (h : impl_opNames.f  = some r) :
  Calls Try.prog 200 #[] w fun e w' => ∃ v0_ : Value, e = .returned (v0_) ∧ Kd.R Kd.string 9 w' w.heap.size (fun _ => True) v0_ r ∧ Below w.heap.size w w' := by
 have HB := am (Below.refl w.heap.size w)
 have H : (some (([(⟨#[]⟩ : ByteArray), (⟨#[112, 117, 115, 104]⟩ : ByteArray), (⟨#[108, 111, 97, 100]⟩ : ByteArray), (⟨#[115, 116, 111, 114, 101]⟩ : ByteArray), (⟨#[100, 117, 112]⟩ : ByteArray), (⟨#[112, 111, 112]⟩ : ByteArray), (⟨#[]⟩ : ByteArray), (⟨#[]⟩ : ByteArray), (⟨#[]⟩ : ByteArray), (⟨#[]⟩ : ByteArray), (⟨#[97, 100, 100]⟩ : ByteArray), (⟨#[115, 117, 98]⟩ : ByteArray), (⟨#[109, 117, 108]⟩ : ByteArray), (⟨#[100, 105, 118]⟩ : ByteArray), (⟨#[114, 101, 109]⟩ : ByteArray), (⟨#[97, 110, 100]⟩ : ByteArray), (⟨#[111, 114]⟩ : ByteArray), (⟨#[120, 111, 114]⟩ : ByteArray), (⟨#[115, 104, 108]⟩ : ByteArray), (⟨#[115, 104, 114]⟩ : ByteArray), (⟨#[117, 115, 104, 114]⟩ : ByteArray), (⟨#[108, 101, 115, 115]⟩ : ByteArray), (⟨#[97, 116, 109, 111, 115, 116]⟩ : ByteArray), (⟨#[115, 97, 109, 101]⟩ : ByteArray), (⟨#[110, 101, 103]⟩ : ByteArray), (⟨#[110, 111, 116]⟩ : ByteArray), (⟨#[98, 121, 116, 101]⟩ : ByteArray), (⟨#[115, 104, 111, 114, 116]⟩ : ByteArray), (⟨#[105, 110, 116]⟩ : ByteArray), (⟨#[119, 111, 114, 100]⟩ : ByteArray), (⟨#[106, 117, 109, 112]⟩ : ByteArray), (⟨#[106, 122]⟩ : ByteArray), (⟨#[99, 97, 108, 108]⟩ : ByteArray), (⟨#[114, 101, 116]⟩ : ByteArray), (⟨#[110, 101, 119]⟩ : ByteArray), (⟨#[103, 101, 116]⟩ : ByteArray), (⟨#[115, 101, 116]⟩ : ByteArray), (⟨#[108, 101, 110]⟩ : ByteArray), (⟨#[111, 117, 116]⟩ : ByteArray)] : List ByteArray))) = some r := h
 clear h
 obtain ⟨y272, hy272⟩ : ∃ y_ : List ByteArray, y_ = (([(⟨#[]⟩ : ByteArray), (⟨#[112, 117, 115, 104]⟩ : ByteArray), (⟨#[108, 111, 97, 100]⟩ : ByteArray), (⟨#[115, 116, 111, 114, 101]⟩ : ByteArray), (⟨#[100, 117, 112]⟩ : ByteArray), (⟨#[112, 111, 112]⟩ : ByteArray), (⟨#[]⟩ : ByteArray), (⟨#[]⟩ : ByteArray), (⟨#[]⟩ : ByteArray), (⟨#[]⟩ : ByteArray), (⟨#[97, 100, 100]⟩ : ByteArray), (⟨#[115, 117, 98]⟩ : ByteArray), (⟨#[109, 117, 108]⟩ : ByteArray), (⟨#[100, 105, 118]⟩ : ByteArray), (⟨#[114, 101, 109]⟩ : ByteArray), (⟨#[97, 110, 100]⟩ : ByteArray), (⟨#[111, 114]⟩ : ByteArray), (⟨#[120, 111, 114]⟩ : ByteArray), (⟨#[115, 104, 108]⟩ : ByteArray), (⟨#[115, 104, 114]⟩ : ByteArray), (⟨#[117, 115, 104, 114]⟩ : ByteArray), (⟨#[108, 101, 115, 115]⟩ : ByteArray), (⟨#[97, 116, 109, 111, 115, 116]⟩ : ByteArray), (⟨#[115, 97, 109, 101]⟩ : ByteArray), (⟨#[110, 101, 103]⟩ : ByteArray), (⟨#[110, 111, 116]⟩ : ByteArray), (⟨#[98, 121, 116, 101]⟩ : ByteArray), (⟨#[115, 104, 111, 114, 116]⟩ : ByteArray), (⟨#[105, 110, 116]⟩ : ByteArray), (⟨#[119, 111, 114, 100]⟩ : ByteArray), (⟨#[106, 117, 109, 112]⟩ : ByteArray), (⟨#[106, 122]⟩ : ByteArray), (⟨#[99, 97, 108, 108]⟩ : ByteArray), (⟨#[114, 101, 116]⟩ : ByteArray), (⟨#[110, 101, 119]⟩ : ByteArray), (⟨#[103, 101, 116]⟩ : ByteArray), (⟨#[115, 101, 116]⟩ : ByteArray), (⟨#[108, 101, 110]⟩ : ByteArray), (⟨#[111, 117, 116]⟩ : ByteArray)] : List ByteArray)) := ⟨_, rfl⟩
 replace H : (some y272) = some r := by first | (rw [hy272]; with_reducible exact H) | (have H2_ := (Option.bind_some _ _).symm.trans H; rw [hy272]; with_reducible exact H2_) | (have H2_ := (Option.bind_some _ _).symm.trans H; with_reducible exact H2_) | with_reducible exact H | (rw [hy272]; exact H) | exact H
 have Ny272 := am hy272
 clear hy272
 obtain rfl := Option.some.inj H
 go_enter Try.func200, Try.ntmps200
 go_wp2_with (first | ((with_reducible refine gate_dst (N := 1) rfl ?_); refine Kd.R_lit Kd.string _ 9 ?hg (N := 1) ?hd (xs := ([(⟨#[]⟩ : ByteArray), (⟨#[112, 117, 115, 104]⟩ : ByteArray), (⟨#[108, 111, 97, 100]⟩ : ByteArray), (⟨#[115, 116, 111, 114, 101]⟩ : ByteArray), (⟨#[100, 117, 112]⟩ : ByteArray), (⟨#[112, 111, 112]⟩ : ByteArray), (⟨#[]⟩ : ByteArray), (⟨#[]⟩ : ByteArray), (⟨#[]⟩ : ByteArray), (⟨#[]⟩ : ByteArray), (⟨#[97, 100, 100]⟩ : ByteArray), (⟨#[115, 117, 98]⟩ : ByteArray), (⟨#[109, 117, 108]⟩ : ByteArray), (⟨#[100, 105, 118]⟩ : ByteArray), (⟨#[114, 101, 109]⟩ : ByteArray), (⟨#[97, 110, 100]⟩ : ByteArray), (⟨#[111, 114]⟩ : ByteArray), (⟨#[120, 111, 114]⟩ : ByteArray), (⟨#[115, 104, 108]⟩ : ByteArray), (⟨#[115, 104, 114]⟩ : ByteArray), (⟨#[117, 115, 104, 114]⟩ : ByteArray), (⟨#[108, 101, 115, 115]⟩ : ByteArray), (⟨#[97, 116, 109, 111, 115, 116]⟩ : ByteArray), (⟨#[115, 97, 109, 101]⟩ : ByteArray), (⟨#[110, 101, 103]⟩ : ByteArray), (⟨#[110, 111, 116]⟩ : ByteArray), (⟨#[98, 121, 116, 101]⟩ : ByteArray), (⟨#[115, 104, 111, 114, 116]⟩ : ByteArray), (⟨#[105, 110, 116]⟩ : ByteArray), (⟨#[119, 111, 114, 100]⟩ : ByteArray), (⟨#[106, 117, 109, 112]⟩ : ByteArray), (⟨#[106, 122]⟩ : ByteArray), (⟨#[99, 97, 108, 108]⟩ : ByteArray), (⟨#[114, 101, 116]⟩ : ByteArray), (⟨#[110, 101, 119]⟩ : ByteArray), (⟨#[103, 101, 116]⟩ : ByteArray), (⟨#[115, 101, 116]⟩ : ByteArray), (⟨#[108, 101, 110]⟩ : ByteArray), (⟨#[111, 117, 116]⟩ : ByteArray)] : List ByteArray)) (inner := [.string (⟨#[]⟩ : ByteArray), .string (⟨#[112, 117, 115, 104]⟩ : ByteArray), .string (⟨#[108, 111, 97, 100]⟩ : ByteArray), .string (⟨#[115, 116, 111, 114, 101]⟩ : ByteArray), .string (⟨#[100, 117, 112]⟩ : ByteArray), .string (⟨#[112, 111, 112]⟩ : ByteArray), .string (⟨#[]⟩ : ByteArray), .string (⟨#[]⟩ : ByteArray), .string (⟨#[]⟩ : ByteArray), .string (⟨#[]⟩ : ByteArray), .string (⟨#[97, 100, 100]⟩ : ByteArray), .string (⟨#[115, 117, 98]⟩ : ByteArray), .string (⟨#[109, 117, 108]⟩ : ByteArray), .string (⟨#[100, 105, 118]⟩ : ByteArray), .string (⟨#[114, 101, 109]⟩ : ByteArray), .string (⟨#[97, 110, 100]⟩ : ByteArray), .string (⟨#[111, 114]⟩ : ByteArray), .string (⟨#[120, 111, 114]⟩ : ByteArray), .string (⟨#[115, 104, 108]⟩ : ByteArray), .string (⟨#[115, 104, 114]⟩ : ByteArray), .string (⟨#[117, 115, 104, 114]⟩ : ByteArray), .string (⟨#[108, 101, 115, 115]⟩ : ByteArray), .string (⟨#[97, 116, 109, 111, 115, 116]⟩ : ByteArray), .string (⟨#[115, 97, 109, 101]⟩ : ByteArray), .string (⟨#[110, 101, 103]⟩ : ByteArray), .string (⟨#[110, 111, 116]⟩ : ByteArray), .string (⟨#[98, 121, 116, 101]⟩ : ByteArray), .string (⟨#[115, 104, 111, 114, 116]⟩ : ByteArray), .string (⟨#[105, 110, 116]⟩ : ByteArray), .string (⟨#[119, 111, 114, 100]⟩ : ByteArray), .string (⟨#[106, 117, 109, 112]⟩ : ByteArray), .string (⟨#[106, 122]⟩ : ByteArray), .string (⟨#[99, 97, 108, 108]⟩ : ByteArray), .string (⟨#[114, 101, 116]⟩ : ByteArray), .string (⟨#[110, 101, 119]⟩ : ByteArray), .string (⟨#[103, 101, 116]⟩ : ByteArray), .string (⟨#[115, 101, 116]⟩ : ByteArray), .string (⟨#[108, 101, 110]⟩ : ByteArray), .string (⟨#[111, 117, 116]⟩ : ByteArray)]) (ok := fun _ => True) (okp := fun _ => True) ?hr ?hp (fun _ hk => hk) trivial (Below.refl _ _) (Nat.le_refl _) (by simp) ?_; (case hd => rfl); (case hg => rfl); (case hr => exact gs); (case hp => exact (Reps.one (show Kd.M Kd.string _ _ _ (⟨#[]⟩ : ByteArray) [.string (⟨#[]⟩ : ByteArray)] from rfl) (Reps.one (show Kd.M Kd.string _ _ _ (⟨#[112, 117, 115, 104]⟩ : ByteArray) [.string (⟨#[112, 117, 115, 104]⟩ : ByteArray)] from rfl) (Reps.one (show Kd.M Kd.string _ _ _ (⟨#[108, 111, 97, 100]⟩ : ByteArray) [.string (⟨#[108, 111, 97, 100]⟩ : ByteArray)] from rfl) (Reps.one (show Kd.M Kd.string _ _ _ (⟨#[115, 116, 111, 114, 101]⟩ : ByteArray) [.string (⟨#[115, 116, 111, 114, 101]⟩ : ByteArray)] from rfl) (Reps.one (show Kd.M Kd.string _ _ _ (⟨#[100, 117, 112]⟩ : ByteArray) [.string (⟨#[100, 117, 112]⟩ : ByteArray)] from rfl) (Reps.one (show Kd.M Kd.string _ _ _ (⟨#[112, 111, 112]⟩ : ByteArray) [.string (⟨#[112, 111, 112]⟩ : ByteArray)] from rfl) (Reps.one (show Kd.M Kd.string _ _ _ (⟨#[]⟩ : ByteArray) [.string (⟨#[]⟩ : ByteArray)] from rfl) (Reps.one (show Kd.M Kd.string _ _ _ (⟨#[]⟩ : ByteArray) [.string (⟨#[]⟩ : ByteArray)] from rfl) (Reps.one (show Kd.M Kd.string _ _ _ (⟨#[]⟩ : ByteArray) [.string (⟨#[]⟩ : ByteArray)] from rfl) (Reps.one (show Kd.M Kd.string _ _ _ (⟨#[]⟩ : ByteArray) [.string (⟨#[]⟩ : ByteArray)] from rfl) (Reps.one (show Kd.M Kd.string _ _ _ (⟨#[97, 100, 100]⟩ : ByteArray) [.string (⟨#[97, 100, 100]⟩ : ByteArray)] from rfl) (Reps.one (show Kd.M Kd.string _ _ _ (⟨#[115, 117, 98]⟩ : ByteArray) [.string (⟨#[115, 117, 98]⟩ : ByteArray)] from rfl) (Reps.one (show Kd.M Kd.string _ _ _ (⟨#[109, 117, 108]⟩ : ByteArray) [.string (⟨#[109, 117, 108]⟩ : ByteArray)] from rfl) (Reps.one (show Kd.M Kd.string _ _ _ (⟨#[100, 105, 118]⟩ : ByteArray) [.string (⟨#[100, 105, 118]⟩ : ByteArray)] from rfl) (Reps.one (show Kd.M Kd.string _ _ _ (⟨#[114, 101, 109]⟩ : ByteArray) [.string (⟨#[114, 101, 109]⟩ : ByteArray)] from rfl) (Reps.one (show Kd.M Kd.string _ _ _ (⟨#[97, 110, 100]⟩ : ByteArray) [.string (⟨#[97, 110, 100]⟩ : ByteArray)] from rfl) (Reps.one (show Kd.M Kd.string _ _ _ (⟨#[111, 114]⟩ : ByteArray) [.string (⟨#[111, 114]⟩ : ByteArray)] from rfl) (Reps.one (show Kd.M Kd.string _ _ _ (⟨#[120, 111, 114]⟩ : ByteArray) [.string (⟨#[120, 111, 114]⟩ : ByteArray)] from rfl) (Reps.one (show Kd.M Kd.string _ _ _ (⟨#[115, 104, 108]⟩ : ByteArray) [.string (⟨#[115, 104, 108]⟩ : ByteArray)] from rfl) (Reps.one (show Kd.M Kd.string _ _ _ (⟨#[115, 104, 114]⟩ : ByteArray) [.string (⟨#[115, 104, 114]⟩ : ByteArray)] from rfl) (Reps.one (show Kd.M Kd.string _ _ _ (⟨#[117, 115, 104, 114]⟩ : ByteArray) [.string (⟨#[117, 115, 104, 114]⟩ : ByteArray)] from rfl) (Reps.one (show Kd.M Kd.string _ _ _ (⟨#[108, 101, 115, 115]⟩ : ByteArray) [.string (⟨#[108, 101, 115, 115]⟩ : ByteArray)] from rfl) (Reps.one (show Kd.M Kd.string _ _ _ (⟨#[97, 116, 109, 111, 115, 116]⟩ : ByteArray) [.string (⟨#[97, 116, 109, 111, 115, 116]⟩ : ByteArray)] from rfl) (Reps.one (show Kd.M Kd.string _ _ _ (⟨#[115, 97, 109, 101]⟩ : ByteArray) [.string (⟨#[115, 97, 109, 101]⟩ : ByteArray)] from rfl) (Reps.one (show Kd.M Kd.string _ _ _ (⟨#[110, 101, 103]⟩ : ByteArray) [.string (⟨#[110, 101, 103]⟩ : ByteArray)] from rfl) (Reps.one (show Kd.M Kd.string _ _ _ (⟨#[110, 111, 116]⟩ : ByteArray) [.string (⟨#[110, 111, 116]⟩ : ByteArray)] from rfl) (Reps.one (show Kd.M Kd.string _ _ _ (⟨#[98, 121, 116, 101]⟩ : ByteArray) [.string (⟨#[98, 121, 116, 101]⟩ : ByteArray)] from rfl) (Reps.one (show Kd.M Kd.string _ _ _ (⟨#[115, 104, 111, 114, 116]⟩ : ByteArray) [.string (⟨#[115, 104, 111, 114, 116]⟩ : ByteArray)] from rfl) (Reps.one (show Kd.M Kd.string _ _ _ (⟨#[105, 110, 116]⟩ : ByteArray) [.string (⟨#[105, 110, 116]⟩ : ByteArray)] from rfl) (Reps.one (show Kd.M Kd.string _ _ _ (⟨#[119, 111, 114, 100]⟩ : ByteArray) [.string (⟨#[119, 111, 114, 100]⟩ : ByteArray)] from rfl) (Reps.one (show Kd.M Kd.string _ _ _ (⟨#[106, 117, 109, 112]⟩ : ByteArray) [.string (⟨#[106, 117, 109, 112]⟩ : ByteArray)] from rfl) (Reps.one (show Kd.M Kd.string _ _ _ (⟨#[106, 122]⟩ : ByteArray) [.string (⟨#[106, 122]⟩ : ByteArray)] from rfl) (Reps.one (show Kd.M Kd.string _ _ _ (⟨#[99, 97, 108, 108]⟩ : ByteArray) [.string (⟨#[99, 97, 108, 108]⟩ : ByteArray)] from rfl) (Reps.one (show Kd.M Kd.string _ _ _ (⟨#[114, 101, 116]⟩ : ByteArray) [.string (⟨#[114, 101, 116]⟩ : ByteArray)] from rfl) (Reps.one (show Kd.M Kd.string _ _ _ (⟨#[110, 101, 119]⟩ : ByteArray) [.string (⟨#[110, 101, 119]⟩ : ByteArray)] from rfl) (Reps.one (show Kd.M Kd.string _ _ _ (⟨#[103, 101, 116]⟩ : ByteArray) [.string (⟨#[103, 101, 116]⟩ : ByteArray)] from rfl) (Reps.one (show Kd.M Kd.string _ _ _ (⟨#[115, 101, 116]⟩ : ByteArray) [.string (⟨#[115, 101, 116]⟩ : ByteArray)] from rfl) (Reps.one (show Kd.M Kd.string _ _ _ (⟨#[108, 101, 110]⟩ : ByteArray) [.string (⟨#[108, 101, 110]⟩ : ByteArray)] from rfl) (Reps.one (show Kd.M Kd.string _ _ _ (⟨#[111, 117, 116]⟩ : ByteArray) [.string (⟨#[111, 117, 116]⟩ : ByteArray)] from rfl) (Reps.none _ _))))))))))))))))))))))))))))))))))))))))); intro v273 w1 ho2 hb hg_ hnew_; clear hg_ hnew_; (first | rw [← Ny272.out] at ho2 | (simp only [Int.reduceToNat] at ho2; rw [← Ny272.out] at ho2)); have HO274 := am (Kd.R_lower ho2 (below_size (bw HB))); replace HB := am (below_step (bw HB) hb); clear hb ho2))
 go_ret
 exact ⟨_, er, kR HO274, bw HB⟩

def impl_OpName.f (a0 : Int) : Option (ByteArray) := (impl_in.f a0 0 38).bind fun t275 => (if t275 = true then ((impl_opNames.f).bind fun t276 => (if 0 ≤ a0 then (if a0 < (t276.length : Int) then (some (rdOf ByteArray.empty t276 a0)) else (none)) else (none))) else (some (⟨#[]⟩ : ByteArray)))
theorem impl_OpName.calls (a0 : Int) (r : ByteArray) (w : World) (h : impl_OpName.f a0 = some r) :
  Calls Try.prog 192 #[.int .i64 a0] w fun e w' => e = .returned (.string r) ∧ Below w.heap.size w w' := by
 have HB := am (Below.refl w.heap.size w)
 have H : ((impl_in.f a0 0 38).bind fun t275 => (if t275 = true then ((impl_opNames.f).bind fun t276 => (if 0 ≤ a0 then (if a0 < (t276.length : Int) then (some (rdOf ByteArray.empty t276 a0)) else (none)) else (none))) else (some (⟨#[]⟩ : ByteArray)))) = some r := h
 clear h
 replace H := Option.bind_eq_some_iff.mp H
 obtain ⟨t275, A20, H⟩ := H
 replace H : (if t275 = true then ((impl_opNames.f).bind fun t276 => (if 0 ≤ a0 then (if a0 < (t276.length : Int) then (some (rdOf ByteArray.empty t276 a0)) else (none)) else (none))) else (some (⟨#[]⟩ : ByteArray))) = some r := H
 have A2 := am A20
 clear A20
 by_cases c3 : t275 = true
 ·subst c3
  have H1 : ((impl_opNames.f).bind fun t276 => (if 0 ≤ a0 then (if a0 < (t276.length : Int) then (some (rdOf ByteArray.empty t276 a0)) else (none)) else (none))) = some r := by rw [if_pos rfl] at H; exact H
  clear H
  have H := H1
  clear H1
  replace H := Option.bind_eq_some_iff.mp H
  obtain ⟨t276, A40, H⟩ := H
  replace H : (if 0 ≤ a0 then (if a0 < (t276.length : Int) then (some (rdOf ByteArray.empty t276 a0)) else (none)) else (none)) = some r := H
  have A4 := am A40
  clear A40
  by_cases c5 : 0 ≤ a0
  ·rw [if_pos c5] at H
   have c5b0 := decide_eq_true c5
   clear c5
   by_cases c6 : a0 < (t276.length : Int)
   ·rw [if_pos c6] at H
    have c6b0 := decide_eq_true c6
    clear c6
    obtain rfl := Option.some.inj H
    go_enter Try.func192, Try.ntmps192
    go_wp2_with (first | ((with_reducible refine gate_callee (f := 85) rfl ?_); refine goesL_ (some 4) rfl rfl Try.func85 (by kernel_rfl) rfl #[.int .i64 a0, .int .i64 0, .int .i64 38] rfl gl ?_; (with_reducible refine (impl_in.calls a0 0 38 true _ A2.out).mono ?_); rintro e w' ⟨rfl, ⟨nd, rfl⟩⟩; refine ⟨_, rfl, ?_⟩) | ((with_reducible refine gate_callee (f := 200) rfl ?_); refine goesL_ (some 6) rfl rfl Try.func200 (by kernel_rfl) rfl #[] rfl gl ?_; (with_reducible refine (impl_opNames.calls  t276 _ A4.out).mono ?_); rintro e w7 ⟨v277, rfl, ho0, hb⟩; refine ⟨_, rfl, ?_⟩; have HO278 := am (Kd.R_lower ho0 (below_size (bw HB))); replace HB := am (below_step (bw HB) hb); (try clear hb); (try clear hb2); (try clear hk); (try clear hi); (try clear ho0); obtain ⟨Ao8, co8, eo8⟩ := Kd.R_slice HO278.out; subst eo8; have p279 : 0 ≤ (a0 : Int) := of_decide_eq_true as1; have q279 : a0 < (t276.length : Int) := of_decide_eq_true as1; obtain ⟨ad279, e279, hx279_0⟩ := Kd.at_string (Kd.R_reads' HO278.out).2.2 a0 p279 q279; cases e279; replace p279 := eq_true p279; replace q279 := eq_true q279))
    go_ret
    exact ⟨er, bw HB⟩
   ·rw [if_neg c6] at H
    exact absurd H (by simp)
  ·rw [if_neg c5] at H
   exact absurd H (by simp)
 ·replace c3 := Bool.eq_false_iff.mpr c3
  subst c3
  have H1 : (some (⟨#[]⟩ : ByteArray)) = some r := by rw [if_neg (show ¬ (false = true) by decide)] at H; exact H
  clear H
  have H := H1
  clear H1
  obtain rfl := Option.some.inj H
  go_enter Try.func192, Try.ntmps192
  go_wp2_with (first | ((with_reducible refine gate_callee (f := 85) rfl ?_); refine goesL_ (some 4) rfl rfl Try.func85 (by kernel_rfl) rfl #[.int .i64 a0, .int .i64 0, .int .i64 38] rfl gl ?_; (with_reducible refine (impl_in.calls a0 0 38 false _ A2.out).mono ?_); rintro e w' ⟨rfl, ⟨nd, rfl⟩⟩; refine ⟨_, rfl, ?_⟩))
  go_ret
  exact ⟨er, bw HB⟩

end Go.Proofs.Ytbmjmaahcaoajaa.QFnExactHeaders
