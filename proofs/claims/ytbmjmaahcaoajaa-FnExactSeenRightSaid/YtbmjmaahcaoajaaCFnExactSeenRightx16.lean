import Derived.Test.YtbmjmaahcaoajaaCFnExactSeenRightx0
import Derived.Test.YtbmjmaahcaoajaaCFnExactSeenRightx13
import Derived.Test.YtbmjmaahcaoajaaCFnExactSeenRightx15
namespace Go.Proofs.Ytbmjmaahcaoajaa.QFnExactSeenRight
open Go.RowKit Go.Proofs.YtbmjmaahcaoajaaW
open PrintWords PrintLast PrintMore PrintShort
attribute [local go_sem] max2_int min2_int max_two min_two max_three min_three max_four min_four   -- for this text's walks alone
set_option linter.unusedVariables false
set_option maxHeartbeats 8000000
set_option maxRecDepth 100000
set_option linter.unusedSimpArgs false

def impl_SeenRight.f (k : Nat) (l0_0 : List (S100)) (l1 : List (S108)) : Option (Bool) := if (l1.length : Int) > 400 then (some false) else ((impl_known.f k l0_0).bind fun bt377 => (if bt377.2.2 = true then ((impl_prog_seenRight.f k bt377.1 bt377.2.1 l1).bind fun t385 => (some t385)) else (some false)))
theorem impl_SeenRight.mono : ∀ a0 a1 k, LeO (impl_SeenRight.f k a0 a1) (impl_SeenRight.f (k + 1) a0 a1) := by
 intro a0 a1 k
 unfold impl_SeenRight.f
 with_reducible repeat' first | exact impl_known.mono .. | exact impl_prog_seenRight.mono .. | exact LeO.refl _ | exact LeO.none _ | refine LeO.ite ?_ ?_ | refine LeO.bind ?_ (fun _ => ?_)
theorem impl_SeenRight.calls (k : Nat) (A0_0 : Option Addr) (c0_0 : Nat) (l0_0 : List (S100)) (A1 : Option Addr) (c1 : Nat) (l1 : List (S108)) (r : Bool) (w : World) (hr0_0 : Kd.C k100 w A0_0 l0_0.length l0_0) (hc0_0 : l0_0.length ≤ c0_0) (hr1 : Kd.C k108 w A1 l1.length l1) (hc1 : l1.length ≤ c1) (h : impl_SeenRight.f k l0_0 l1 = some r) :
  Calls Try.prog 30 #[.agg #[.slice A0_0 l0_0.length c0_0], .slice A1 l1.length c1] w fun e w' => e = .returned (.bool r) ∧ Below w.heap.size w w' := by
 have hu30 := Try.underlying30
 have HR0_0 := am hr0_0
 have HC0_0 := am hc0_0
 clear hr0_0 hc0_0
 have HR1 := am hr1
 have HC1 := am hc1
 clear hr1 hc1
 have HB := am (Below.refl w.heap.size w)
 have H : (if (l1.length : Int) > 400 then (some false) else ((impl_known.f k l0_0).bind fun bt377 => (if bt377.2.2 = true then ((impl_prog_seenRight.f k bt377.1 bt377.2.1 l1).bind fun t385 => (some t385)) else (some false)))) = some r := h
 clear h
 refine qG H ?_ ?_ <;> clear H <;> intro c3b0 H
 ·have c3 := of_decide_eq_true c3b0
  have c3b1 : decide (400 < l1.length) = true := decide_eq_true (by omega)
  clear c3
  obtain rfl := Option.some.inj H
  go_enter Try.func30, Try.ntmps30
  go_wp2_with (first | ((with_reducible refine gd 2 rfl ?_); refine bX 2 #[.slice A0_0 l0_0.length c0_0] 30 HB ?_; clear HB; intro gb376 w4 hg hb BK376 GW376 HB; clear hb hg))
  go_ret
  exact ⟨er, bw HB⟩
 have c3 := of_decide_eq_false c3b0
 have c3b1 : decide (400 < l1.length) = false := decide_eq_false (by omega)
 clear c3
 replace H := Option.bind_eq_some_iff.mp H
 obtain ⟨⟨t377, t380, t384⟩, A50, H⟩ := H
 replace H : (if t384 = true then ((impl_prog_seenRight.f k t377 t380 l1).bind fun t385 => (some t385)) else (some false)) = some r := H
 have A5 := am A50
 clear A50
 refine qT H ?_ ?_ <;> clear H <;> intro c6 H <;> subst c6
 ·refine be H ?_; clear H; intro t385 A7 H
  obtain rfl := Option.some.inj H
  go_enter Try.func30, Try.ntmps30
  go_wp2_with (first | ((with_reducible refine gd 2 rfl ?_); refine bX 2 #[.slice A0_0 l0_0.length c0_0] 30 HB ?_; clear HB; intro gb376 w8 hg hb BK376 GW376 HB; clear hb hg; have hcz9 := bK w8 BK376; have hfz9 := bF BK376) | ((with_reducible refine gk 66 rfl ?_); refine gC 66 (some 12) Try.func66 #[.agg #[.slice A0_0 l0_0.length c0_0]] ((impl_known.calls k (fun k_ => k_ < w.heap.size) _ _ l0_0 t377 t380 true _ (Kd.V_mk HC0_0.out (Kd.F_below (Kd.C_F k100_heap HR0_0.out) (bw HB))) A5.out).mono ?_); rintro e w10 ⟨v378, v381, gb383, rfl, ho0, ho1, hbx, hgx, hb⟩; refine ⟨_, rfl, ?_⟩; have HO379 := am (Kd.V_lower (Kd.V_mono (ok' := fun k_ => some k_ ≠ (v381 : Value).ownBlock ∧ k_ ≠ gb376) ho0 (fun k_ hk_ => ⟨hk_.2, Or.elim hk_.1 (fun hs_ => fun e_ => Nat.not_le.2 hs_ (by rw [e_]; exact GW376.out)) (fun hn_ => (Kd.freshB (g := gb376) (o := .cells #[.slice A0_0 l0_0.length c0_0] 30 (0, 0)) (bp BK376) k_ hn_))⟩)) (below_size (bw HB))); have HO382 := am (Kd.S_lower (Kd.S_mono (ok' := fun k_ => True) ho1 (fun _ hk_ => trivial)) (below_size (bw HB))); have BK383 := am (hbx); have GW383 := am ((Nat.le_trans (below_size (bw HB)) hgx)); have GE383 := am ((Nat.le_trans (below_size (bw HB)) hgx)); have NB376_383 := am ((Nat.ne_of_lt (Nat.lt_of_lt_of_le (blk_lt (g := gb376) (o := .cells #[.slice A0_0 l0_0.length c0_0] 30 (0, 0)) (bp BK376)) hgx) : gb376 ≠ gb383)); have NB383_376 := am ((Nat.ne_of_gt (Nat.lt_of_lt_of_le (blk_lt (g := gb376) (o := .cells #[.slice A0_0 l0_0.length c0_0] 30 (0, 0)) (bp BK376)) hgx) : gb383 ≠ gb376)); replace BK376 := bb BK376 hb; replace HB := bs HB hb; clear hb; (try clear ho0); (try clear ho1); (try clear hbx); (try clear hgx); obtain ⟨Ao11, co11, eo11⟩ := Kd.V_slice HO379.out; subst eo11; obtain ⟨Ao12, co12, eo12⟩ := Kd.S_slice HO382.out; subst eo12) | (go_at_call 73; refine (impl_prog_seenRight.calls k gb383 Ao11 co11 t377 Ao12 co12 t380 _ _ l1 t385 _ (bp BK383) (cc (Kd.V_reads' HO379.out).2.2) ((Kd.V_reads' HO379.out).2.1) (cc (Kd.S_reads' HO382.out).2.2) ((Kd.S_reads' HO382.out).2.1) (cc (Kd.C_below HR1.out HB.out)) HC1.out A7.out).mono ?_; rintro e w13 ⟨rfl, hb⟩; replace HO379 := am (Kd.V_below (kV HO379) hb); replace HO382 := am (Kd.S_below (kS HO382) hb); replace BK376 := bb BK376 hb; replace BK383 := bb BK383 hb; replace HB := bs HB hb; clear hb))
  go_ret
  exact ⟨er, bw HB⟩
 obtain rfl := Option.some.inj H
 go_enter Try.func30, Try.ntmps30
 go_wp2_with (first | ((with_reducible refine gd 2 rfl ?_); refine bX 2 #[.slice A0_0 l0_0.length c0_0] 30 HB ?_; clear HB; intro gb376 w14 hg hb BK376 GW376 HB; clear hb hg; have hcz15 := bK w14 BK376; have hfz15 := bF BK376) | ((with_reducible refine gk 66 rfl ?_); refine gC 66 (some 12) Try.func66 #[.agg #[.slice A0_0 l0_0.length c0_0]] ((impl_known.calls k (fun k_ => k_ < w.heap.size) _ _ l0_0 t377 t380 false _ (Kd.V_mk HC0_0.out (Kd.F_below (Kd.C_F k100_heap HR0_0.out) (bw HB))) A5.out).mono ?_); rintro e w16 ⟨v378, v381, gb383, rfl, ho0, ho1, hbx, hgx, hb⟩; refine ⟨_, rfl, ?_⟩; have HO379 := am (Kd.V_lower (Kd.V_mono (ok' := fun k_ => some k_ ≠ (v381 : Value).ownBlock ∧ k_ ≠ gb376) ho0 (fun k_ hk_ => ⟨hk_.2, Or.elim hk_.1 (fun hs_ => fun e_ => Nat.not_le.2 hs_ (by rw [e_]; exact GW376.out)) (fun hn_ => (Kd.freshB (g := gb376) (o := .cells #[.slice A0_0 l0_0.length c0_0] 30 (0, 0)) (bp BK376) k_ hn_))⟩)) (below_size (bw HB))); have HO382 := am (Kd.S_lower (Kd.S_mono (ok' := fun k_ => True) ho1 (fun _ hk_ => trivial)) (below_size (bw HB))); have BK383 := am (hbx); have GW383 := am ((Nat.le_trans (below_size (bw HB)) hgx)); have GE383 := am ((Nat.le_trans (below_size (bw HB)) hgx)); have NB376_383 := am ((Nat.ne_of_lt (Nat.lt_of_lt_of_le (blk_lt (g := gb376) (o := .cells #[.slice A0_0 l0_0.length c0_0] 30 (0, 0)) (bp BK376)) hgx) : gb376 ≠ gb383)); have NB383_376 := am ((Nat.ne_of_gt (Nat.lt_of_lt_of_le (blk_lt (g := gb376) (o := .cells #[.slice A0_0 l0_0.length c0_0] 30 (0, 0)) (bp BK376)) hgx) : gb383 ≠ gb376)); replace BK376 := bb BK376 hb; replace HB := bs HB hb; clear hb; (try clear ho0); (try clear ho1); (try clear hbx); (try clear hgx)))
 go_ret
 exact ⟨er, bw HB⟩

def laws_eqSeen.f (a0_0 : Int) (a0_1 : Int) (a0_2 : Int) (a0_3 : Int) (a1_0 : Int) (a1_1 : Int) (a1_2 : Int) (a1_3 : Int) : Option (Bool) := if a0_0 = a1_0 then (if a0_1 = a1_1 then (if a0_2 = a1_2 then (if a0_3 = a1_3 then (some true) else (some false)) else (some false)) else (some false)) else (some false)
theorem laws_eqSeen.calls (a0_0 : Int) (a0_1 : Int) (a0_2 : Int) (a0_3 : Int) (a1_0 : Int) (a1_1 : Int) (a1_2 : Int) (a1_3 : Int) (r : Bool) (w : World) (h : laws_eqSeen.f a0_0 a0_1 a0_2 a0_3 a1_0 a1_1 a1_2 a1_3 = some r) :
  Calls Try.prog 74 #[.agg #[.int .i64 a0_0, .int .i64 a0_1, .int .i64 a0_2, .int .i64 a0_3], .agg #[.int .i64 a1_0, .int .i64 a1_1, .int .i64 a1_2, .int .i64 a1_3]] w fun e w' => e = .returned (.bool r) ∧ Below w.heap.size w w' := by
 have hu108 := Try.underlying108
 have HB := am (Below.refl w.heap.size w)
 have H : (if a0_0 = a1_0 then (if a0_1 = a1_1 then (if a0_2 = a1_2 then (if a0_3 = a1_3 then (some true) else (some false)) else (some false)) else (some false)) else (some false)) = some r := h
 clear h
 refine qE H ?_ ?_ <;> clear H
 ·intro c3b0 c3b1 H
  refine qE H ?_ ?_ <;> clear H
  ·intro c4b0 c4b1 H
   refine qE H ?_ ?_ <;> clear H
   ·intro c5b0 c5b1 H
    refine qE H ?_ ?_ <;> clear H
    ·intro c6b0 c6b1 H
     obtain rfl := Option.some.inj H
     go_enter Try.func74, Try.ntmps74
     go_wp2_with (first | ((with_reducible refine gd 2 rfl ?_); refine bX 2 #[.int .i64 a0_0, .int .i64 a0_1, .int .i64 a0_2, .int .i64 a0_3] 108 HB ?_; clear HB; intro gb386 w7 hg hb BK386 GW386 HB; clear hb hg) | ((with_reducible refine gd 3 rfl ?_); refine bX 3 #[.int .i64 a1_0, .int .i64 a1_1, .int .i64 a1_2, .int .i64 a1_3] 108 HB ?_; clear HB; intro gb387 w8 hg hb BK387 GW387 HB; obtain ⟨NB386_387, NB387_386, BK386⟩ := b3 hg BK386 hb; clear hb hg; have hnb9 := NB386_387.out; have hnc9 := NB387_386.out; have hcz10 := bK w8 BK386; have hfz10 := bF BK386; have hcz11 := bK w8 BK387; have hfz11 := bF BK387))
     go_ret
     exact ⟨er, bw HB⟩
    intro c6 c6b0 c6b1 H
    obtain rfl := Option.some.inj H
    go_enter Try.func74, Try.ntmps74
    go_wp2_with (first | ((with_reducible refine gd 2 rfl ?_); refine bX 2 #[.int .i64 a0_0, .int .i64 a0_1, .int .i64 a0_2, .int .i64 a0_3] 108 HB ?_; clear HB; intro gb386 w12 hg hb BK386 GW386 HB; clear hb hg) | ((with_reducible refine gd 3 rfl ?_); refine bX 3 #[.int .i64 a1_0, .int .i64 a1_1, .int .i64 a1_2, .int .i64 a1_3] 108 HB ?_; clear HB; intro gb387 w13 hg hb BK387 GW387 HB; obtain ⟨NB386_387, NB387_386, BK386⟩ := b3 hg BK386 hb; clear hb hg; have hnb14 := NB386_387.out; have hnc14 := NB387_386.out; have hcz15 := bK w13 BK386; have hfz15 := bF BK386; have hcz16 := bK w13 BK387; have hfz16 := bF BK387))
    go_ret
    exact ⟨er, bw HB⟩
   intro c5 c5b0 c5b1 H
   obtain rfl := Option.some.inj H
   go_enter Try.func74, Try.ntmps74
   go_wp2_with (first | ((with_reducible refine gd 2 rfl ?_); refine bX 2 #[.int .i64 a0_0, .int .i64 a0_1, .int .i64 a0_2, .int .i64 a0_3] 108 HB ?_; clear HB; intro gb386 w17 hg hb BK386 GW386 HB; clear hb hg) | ((with_reducible refine gd 3 rfl ?_); refine bX 3 #[.int .i64 a1_0, .int .i64 a1_1, .int .i64 a1_2, .int .i64 a1_3] 108 HB ?_; clear HB; intro gb387 w18 hg hb BK387 GW387 HB; obtain ⟨NB386_387, NB387_386, BK386⟩ := b3 hg BK386 hb; clear hb hg; have hnb19 := NB386_387.out; have hnc19 := NB387_386.out; have hcz20 := bK w18 BK386; have hfz20 := bF BK386; have hcz21 := bK w18 BK387; have hfz21 := bF BK387))
   go_ret
   exact ⟨er, bw HB⟩
  intro c4 c4b0 c4b1 H
  obtain rfl := Option.some.inj H
  go_enter Try.func74, Try.ntmps74
  go_wp2_with (first | ((with_reducible refine gd 2 rfl ?_); refine bX 2 #[.int .i64 a0_0, .int .i64 a0_1, .int .i64 a0_2, .int .i64 a0_3] 108 HB ?_; clear HB; intro gb386 w22 hg hb BK386 GW386 HB; clear hb hg) | ((with_reducible refine gd 3 rfl ?_); refine bX 3 #[.int .i64 a1_0, .int .i64 a1_1, .int .i64 a1_2, .int .i64 a1_3] 108 HB ?_; clear HB; intro gb387 w23 hg hb BK387 GW387 HB; obtain ⟨NB386_387, NB387_386, BK386⟩ := b3 hg BK386 hb; clear hb hg; have hnb24 := NB386_387.out; have hnc24 := NB387_386.out; have hcz25 := bK w23 BK386; have hfz25 := bF BK386; have hcz26 := bK w23 BK387; have hfz26 := bF BK387))
  go_ret
  exact ⟨er, bw HB⟩
 intro c3 c3b0 c3b1 H
 obtain rfl := Option.some.inj H
 go_enter Try.func74, Try.ntmps74
 go_wp2_with (first | ((with_reducible refine gd 2 rfl ?_); refine bX 2 #[.int .i64 a0_0, .int .i64 a0_1, .int .i64 a0_2, .int .i64 a0_3] 108 HB ?_; clear HB; intro gb386 w27 hg hb BK386 GW386 HB; clear hb hg) | ((with_reducible refine gd 3 rfl ?_); refine bX 3 #[.int .i64 a1_0, .int .i64 a1_1, .int .i64 a1_2, .int .i64 a1_3] 108 HB ?_; clear HB; intro gb387 w28 hg hb BK387 GW387 HB; obtain ⟨NB386_387, NB387_386, BK386⟩ := b3 hg BK386 hb; clear hb hg; have hnb29 := NB386_387.out; have hnc29 := NB387_386.out; have hcz30 := bK w28 BK386; have hfz30 := bF BK386; have hcz31 := bK w28 BK387; have hfz31 := bF BK387))
 go_ret
 exact ⟨er, bw HB⟩

def laws_eqSeenS.l0 : Nat → List (S108) → List (S108) → Int → Option (Bool)
 | 0, _, _, _ => none
 | k + 1, x0, x1, x5 => if x5 < (x0.length : Int) then (if 0 ≤ x5 then (if x5 < (x1.length : Int) then ((laws_eqSeen.f ((rd_T108 x0 x5).f0) ((rd_T108 x0 x5).f1) ((rd_T108 x0 x5).f2) ((rd_T108 x0 x5).f3) ((rd_T108 x1 x5).f0) ((rd_T108 x1 x5).f1) ((rd_T108 x1 x5).f2) ((rd_T108 x1 x5).f3)).bind fun t390 => (if t390 = true then (laws_eqSeenS.l0 k x0 x1 (wrap64 (x5 + 1))) else (some false))) else (none)) else (none)) else (some true)
def laws_eqSeenS.f (k : Nat) (l0 : List (S108)) (l1 : List (S108)) : Option (Bool) := if (l0.length : Int) = (l1.length : Int) then (laws_eqSeenS.l0 k l0 l1 0) else (some false)
theorem laws_eqSeenS.mono_l : ∀ k, (∀ y0 y1 y2, LeO (laws_eqSeenS.l0 k y0 y1 y2) (laws_eqSeenS.l0 (k + 1) y0 y1 y2))
 | 0 => fun _ _ _ r h => by simp [laws_eqSeenS.l0] at h
 | k + 1 => by
  have ih0 := laws_eqSeenS.mono_l k
  ·intro y0 y1 y2
   unfold laws_eqSeenS.l0
   with_reducible repeat' first | exact ih0 .. | exact LeO.refl _ | exact LeO.none _ | refine LeO.ite ?_ ?_ | refine LeO.bind ?_ (fun _ => ?_)
theorem laws_eqSeenS.mono : ∀ a0 a1 k, LeO (laws_eqSeenS.f k a0 a1) (laws_eqSeenS.f (k + 1) a0 a1) := by
 intro a0 a1 k
 have ih0 := laws_eqSeenS.mono_l k
 unfold laws_eqSeenS.f
 with_reducible repeat' first | exact ih0 .. | exact LeO.refl _ | exact LeO.none _ | refine LeO.ite ?_ ?_ | refine LeO.bind ?_ (fun _ => ?_)
def laws_eqSeenS.T6 : Bool × List (List Nat × List Nat) := (true, [([], []), ([], []), ([0, 1], [0, 1]), ([2], [2]), ([], []), ([], []), ([4, 5], [4, 5]), ([6], [6]), ([3, 7], [3, 7]), ([8], [8])])
def laws_eqSeenS.B6 : List Nat := [0, 0, 3, 7, 0, 0, 48, 112, 255, 511]
theorem laws_eqSeenS.tab6 : rtab .any (opsOf Try.f31 6) = laws_eqSeenS.T6 := by kernel_rfl
theorem laws_eqSeenS.bits6 : waitsOk laws_eqSeenS.T6.2 laws_eqSeenS.B6 = true := by kernel_rfl
theorem laws_eqSeenS.calls (k : Nat) (A0 : Option Addr) (c0 : Nat) (l0 : List (S108)) (A1 : Option Addr) (c1 : Nat) (l1 : List (S108)) (r : Bool) (w : World) (hr0 : Kd.C k108 w A0 l0.length l0) (hc0 : l0.length ≤ c0) (hr1 : Kd.C k108 w A1 l1.length l1) (hc1 : l1.length ≤ c1) (h : laws_eqSeenS.f k l0 l1 = some r) :
  Calls Try.prog 31 #[.slice A0 l0.length c0, .slice A1 l1.length c1] w fun e w' => e = .returned (.bool r) ∧ Below w.heap.size w w' := by
 have hu108 := Try.underlying108
 have HR0 := am hr0
 have HC0 := am hc0
 clear hr0 hc0
 have HR1 := am hr1
 have HC1 := am hc1
 clear hr1 hc1
 have HB := am (Below.refl w.heap.size w)
 have H : (if (l0.length : Int) = (l1.length : Int) then (laws_eqSeenS.l0 k l0 l1 0) else (some false)) = some r := h
 clear h
 by_cases c3 : (l0.length : Int) = (l1.length : Int)
 ·rw [if_pos c3] at H
  have c3b0 : ((l0.length : Int) == (l1.length : Int)) = true := beq_iff_eq.mpr c3
  have c3b1 : ((l0.length : Int) != (l1.length : Int)) = false := bne_eq_false_iff_eq.mpr c3
  have c3b2 : (l0.length == l1.length) = true := by first | simpa using c3 | (simp at c3 ⊢; omega)
  clear c3
  have H' := am H
  clear H
  go_enter Try.func31, Try.ntmps31
  go_wp2
  go_loopg [5] k (fun kq v5 w' => ∃ (x5_1 : Int), v5 = .int .i64 x5_1 ∧ Aside0 (laws_eqSeenS.l0 kq l0 l1 x5_1 = some r) ∧ Aside0 (kq ≤ k) ∧ Aside0 (Below w.heap.size w w'))
  case atStart => exact ⟨(0), dr, H', ⟨Nat.le_refl _⟩, ⟨bw HB⟩⟩
  clear H'
  (try clear c1); (try clear p2); (try clear c3); (try clear c3b0); (try clear c3b1); (try clear c3b2)
  obtain ⟨x5_1, rfl, HA, HK1, HB⟩ := hrel
  rcases gk with _ | k1
  ·exact absurd HA.out (by simp [laws_eqSeenS.l0])
  have H := HA.out
  clear HA
  simp only [laws_eqSeenS.l0] at H
  refine qI H ?_ ?_ <;> clear H <;> intro c4b0 H
  ·refine iM H ?_; clear H; intro c5b0 H
   refine iM H ?_; clear H; intro c6b0 H
   refine be H ?_; clear H; intro t390 A7 H
   refine qT H ?_ ?_ <;> clear H <;> intro c8 H <;> subst c8
   ·have H' := am H
    clear H
    try go_wp2
    replace HB := am (below_drew1 HB.out)
    have p388 : 0 ≤ (x5_1 : Int) := of_decide_eq_true as1
    have q388 : x5_1 < (l0.length : Int) := of_decide_eq_true as1
    obtain ⟨ad388, e388, hx388_0, hx388_1, hx388_2, hx388_3⟩ := at_T108 HR0.out x5_1 p388 q388
    have hw388_3 := hx388_3
    have hw388_2 := hx388_2
    have hw388_1 := hx388_1
    have hw388_0 := hx388_0
    cases e388
    replace hx388_0 := cl HB hx388_0
    replace hx388_1 := cl HB hx388_1
    replace hx388_2 := cl HB hx388_2
    replace hx388_3 := cl HB hx388_3
    replace p388 := eq_true p388
    replace q388 := eq_true q388
    have p389 : 0 ≤ (x5_1 : Int) := of_decide_eq_true as1
    have q389 : x5_1 < (l1.length : Int) := of_decide_eq_true as1
    obtain ⟨ad389, e389, hx389_0, hx389_1, hx389_2, hx389_3⟩ := at_T108 HR1.out x5_1 p389 q389
    have hw389_3 := hx389_3
    have hw389_2 := hx389_2
    have hw389_1 := hx389_1
    have hw389_0 := hx389_0
    cases e389
    replace hx389_0 := cl HB hx389_0
    replace hx389_1 := cl HB hx389_1
    replace hx389_2 := cl HB hx389_2
    replace hx389_3 := cl HB hx389_3
    replace p389 := eq_true p389
    replace q389 := eq_true q389
    refine start_ (n := 10) (S := fun w' => w'.cell? (ad388.add ((x5_1).toNat * 4)) = some (.int .i64 ((rd_T108 l0 x5_1).f0)) ∧ w'.cell? ⟨(ad388.add ((x5_1).toNat * 4)).block, (ad388.add ((x5_1).toNat * 4)).off + 1, none⟩ = some (.int .i64 ((rd_T108 l0 x5_1).f1)) ∧ w'.cell? ⟨(ad388.add ((x5_1).toNat * 4)).block, (ad388.add ((x5_1).toNat * 4)).off + 2, none⟩ = some (.int .i64 ((rd_T108 l0 x5_1).f2)) ∧ w'.cell? ⟨(ad388.add ((x5_1).toNat * 4)).block, (ad388.add ((x5_1).toNat * 4)).off + 3, none⟩ = some (.int .i64 ((rd_T108 l0 x5_1).f3)) ∧ w'.cell? (ad389.add ((x5_1).toNat * 4)) = some (.int .i64 ((rd_T108 l1 x5_1).f0)) ∧ w'.cell? ⟨(ad389.add ((x5_1).toNat * 4)).block, (ad389.add ((x5_1).toNat * 4)).off + 1, none⟩ = some (.int .i64 ((rd_T108 l1 x5_1).f1)) ∧ w'.cell? ⟨(ad389.add ((x5_1).toNat * 4)).block, (ad389.add ((x5_1).toNat * 4)).off + 2, none⟩ = some (.int .i64 ((rd_T108 l1 x5_1).f2)) ∧ w'.cell? ⟨(ad389.add ((x5_1).toNat * 4)).block, (ad389.add ((x5_1).toNat * 4)).off + 3, none⟩ = some (.int .i64 ((rd_T108 l1 x5_1).f3))) (ds := []) (bv 10 0) (by kernel_rfl) rfl (by kernel_rfl) ⟨(cq HB hw388_0), (cq HB hw388_1), (cq HB hw388_2), (cq HB hw388_3), (cq HB hw389_0), (cq HB hw389_1), (cq HB hw389_2), (cq HB hw389_3)⟩ (fun hHeld => ?_); refine with_tabW laws_eqSeenS.tab6 laws_eqSeenS.bits6 (fun HT_ HW_ => ?_)
    generalize wr.drew = w9 at HB hx388_0 hx388_1 hx388_2 hx388_3 hx389_0 hx389_1 hx389_2 hx389_3 hHeld ⊢
    refine pu 0 17 10 1 HT_ ?_
    refine pu 1 18 10 3 HT_ ?_
    refine pu 2 19 10 7 HT_ ?_
    refine pu 4 21 10 23 HT_ ?_
    refine pu 5 22 10 55 HT_ ?_
    refine pu 6 23 10 119 HT_ ?_
    refine tk 3 20 10 127 HT_ HW_ hHeld ?_
    refine tk 7 24 10 255 HT_ HW_ hHeld ?_
    refine on 8 (some 25) 10 511 HT_ fun K hK => ?_
    refine goes_ Try.func74 (by kernel_rfl) rfl #[.agg #[.int .i64 ((rd_T108 l0 x5_1).f0), .int .i64 ((rd_T108 l0 x5_1).f1), .int .i64 ((rd_T108 l0 x5_1).f2), .int .i64 ((rd_T108 l0 x5_1).f3)], .agg #[.int .i64 ((rd_T108 l1 x5_1).f0), .int .i64 ((rd_T108 l1 x5_1).f1), .int .i64 ((rd_T108 l1 x5_1).f2), .int .i64 ((rd_T108 l1 x5_1).f3)]] (by rfl) rfl rfl gl ?_
    with_reducible refine (laws_eqSeen.calls ((rd_T108 l0 x5_1).f0) ((rd_T108 l0 x5_1).f1) ((rd_T108 l0 x5_1).f2) ((rd_T108 l0 x5_1).f3) ((rd_T108 l1 x5_1).f0) ((rd_T108 l1 x5_1).f1) ((rd_T108 l1 x5_1).f2) ((rd_T108 l1 x5_1).f3) true _ A7.out).mono ?_
    rintro e w10 ⟨rfl, hb⟩
    refine ⟨_, rfl, ?_⟩
    replace HB := am (below_step (bw HB) hb)
    clear hb
    refine hK.out _ _ ⟨(cq HB hw388_0), (cq HB hw388_1), (cq HB hw388_2), (cq HB hw388_3), (cq HB hw389_0), (cq HB hw389_1), (cq HB hw389_2), (cq HB hw389_3)⟩ (fun hHeld => ?_)
    clear hK K
    refine nm (some 25) ?_
    refine pu 9 26 10 1023 HT_ ?_
    refine done_ (done_of HT_.out (by kernel_rfl)) ?_
    try go_wp2
    go_roundg k1
    case measure => have := HK1.out; omega
    case rel => exact ⟨(wrap64 (x5_1 + 1)), dr, H', ⟨by have := HK1.out; omega⟩, ⟨bw HB⟩⟩
   obtain rfl := Option.some.inj H
   try go_wp2
   replace HB := am (below_drew1 HB.out)
   have p388 : 0 ≤ (x5_1 : Int) := of_decide_eq_true as1
   have q388 : x5_1 < (l0.length : Int) := of_decide_eq_true as1
   obtain ⟨ad388, e388, hx388_0, hx388_1, hx388_2, hx388_3⟩ := at_T108 HR0.out x5_1 p388 q388
   have hw388_3 := hx388_3
   have hw388_2 := hx388_2
   have hw388_1 := hx388_1
   have hw388_0 := hx388_0
   cases e388
   replace hx388_0 := cl HB hx388_0
   replace hx388_1 := cl HB hx388_1
   replace hx388_2 := cl HB hx388_2
   replace hx388_3 := cl HB hx388_3
   replace p388 := eq_true p388
   replace q388 := eq_true q388
   have p389 : 0 ≤ (x5_1 : Int) := of_decide_eq_true as1
   have q389 : x5_1 < (l1.length : Int) := of_decide_eq_true as1
   obtain ⟨ad389, e389, hx389_0, hx389_1, hx389_2, hx389_3⟩ := at_T108 HR1.out x5_1 p389 q389
   have hw389_3 := hx389_3
   have hw389_2 := hx389_2
   have hw389_1 := hx389_1
   have hw389_0 := hx389_0
   cases e389
   replace hx389_0 := cl HB hx389_0
   replace hx389_1 := cl HB hx389_1
   replace hx389_2 := cl HB hx389_2
   replace hx389_3 := cl HB hx389_3
   replace p389 := eq_true p389
   replace q389 := eq_true q389
   refine start_ (n := 10) (S := fun w' => w'.cell? (ad388.add ((x5_1).toNat * 4)) = some (.int .i64 ((rd_T108 l0 x5_1).f0)) ∧ w'.cell? ⟨(ad388.add ((x5_1).toNat * 4)).block, (ad388.add ((x5_1).toNat * 4)).off + 1, none⟩ = some (.int .i64 ((rd_T108 l0 x5_1).f1)) ∧ w'.cell? ⟨(ad388.add ((x5_1).toNat * 4)).block, (ad388.add ((x5_1).toNat * 4)).off + 2, none⟩ = some (.int .i64 ((rd_T108 l0 x5_1).f2)) ∧ w'.cell? ⟨(ad388.add ((x5_1).toNat * 4)).block, (ad388.add ((x5_1).toNat * 4)).off + 3, none⟩ = some (.int .i64 ((rd_T108 l0 x5_1).f3)) ∧ w'.cell? (ad389.add ((x5_1).toNat * 4)) = some (.int .i64 ((rd_T108 l1 x5_1).f0)) ∧ w'.cell? ⟨(ad389.add ((x5_1).toNat * 4)).block, (ad389.add ((x5_1).toNat * 4)).off + 1, none⟩ = some (.int .i64 ((rd_T108 l1 x5_1).f1)) ∧ w'.cell? ⟨(ad389.add ((x5_1).toNat * 4)).block, (ad389.add ((x5_1).toNat * 4)).off + 2, none⟩ = some (.int .i64 ((rd_T108 l1 x5_1).f2)) ∧ w'.cell? ⟨(ad389.add ((x5_1).toNat * 4)).block, (ad389.add ((x5_1).toNat * 4)).off + 3, none⟩ = some (.int .i64 ((rd_T108 l1 x5_1).f3))) (ds := []) (bv 10 0) (by kernel_rfl) rfl (by kernel_rfl) ⟨(cq HB hw388_0), (cq HB hw388_1), (cq HB hw388_2), (cq HB hw388_3), (cq HB hw389_0), (cq HB hw389_1), (cq HB hw389_2), (cq HB hw389_3)⟩ (fun hHeld => ?_); refine with_tabW laws_eqSeenS.tab6 laws_eqSeenS.bits6 (fun HT_ HW_ => ?_)
   generalize wr.drew = w11 at HB hx388_0 hx388_1 hx388_2 hx388_3 hx389_0 hx389_1 hx389_2 hx389_3 hHeld ⊢
   refine pu 0 17 10 1 HT_ ?_
   refine pu 1 18 10 3 HT_ ?_
   refine pu 2 19 10 7 HT_ ?_
   refine pu 4 21 10 23 HT_ ?_
   refine pu 5 22 10 55 HT_ ?_
   refine pu 6 23 10 119 HT_ ?_
   refine tk 3 20 10 127 HT_ HW_ hHeld ?_
   refine tk 7 24 10 255 HT_ HW_ hHeld ?_
   refine on 8 (some 25) 10 511 HT_ fun K hK => ?_
   refine goes_ Try.func74 (by kernel_rfl) rfl #[.agg #[.int .i64 ((rd_T108 l0 x5_1).f0), .int .i64 ((rd_T108 l0 x5_1).f1), .int .i64 ((rd_T108 l0 x5_1).f2), .int .i64 ((rd_T108 l0 x5_1).f3)], .agg #[.int .i64 ((rd_T108 l1 x5_1).f0), .int .i64 ((rd_T108 l1 x5_1).f1), .int .i64 ((rd_T108 l1 x5_1).f2), .int .i64 ((rd_T108 l1 x5_1).f3)]] (by rfl) rfl rfl gl ?_
   with_reducible refine (laws_eqSeen.calls ((rd_T108 l0 x5_1).f0) ((rd_T108 l0 x5_1).f1) ((rd_T108 l0 x5_1).f2) ((rd_T108 l0 x5_1).f3) ((rd_T108 l1 x5_1).f0) ((rd_T108 l1 x5_1).f1) ((rd_T108 l1 x5_1).f2) ((rd_T108 l1 x5_1).f3) false _ A7.out).mono ?_
   rintro e w12 ⟨rfl, hb⟩
   refine ⟨_, rfl, ?_⟩
   replace HB := am (below_step (bw HB) hb)
   clear hb
   refine hK.out _ _ ⟨(cq HB hw388_0), (cq HB hw388_1), (cq HB hw388_2), (cq HB hw388_3), (cq HB hw389_0), (cq HB hw389_1), (cq HB hw389_2), (cq HB hw389_3)⟩ (fun hHeld => ?_)
   clear hK K
   refine nm (some 25) ?_
   refine pu 9 26 10 1023 HT_ ?_
   refine done_ (done_of HT_.out (by kernel_rfl)) ?_
   try go_wp2
   go_ret
   exact ⟨er, bw HB⟩
  obtain rfl := Option.some.inj H
  go_wp2
  go_ret
  exact ⟨er, bw HB⟩
 rw [if_neg c3] at H
 have c3b0 : ((l0.length : Int) == (l1.length : Int)) = false := beq_eq_false_iff_ne.mpr c3
 have c3b1 : ((l0.length : Int) != (l1.length : Int)) = true := bne_iff_ne.mpr c3
 have c3b2 : (l0.length == l1.length) = false := by first | simpa using c3 | (simp at c3 ⊢; omega)
 obtain rfl := Option.some.inj H
 go_enter Try.func31, Try.ntmps31
 go_wp2
 go_ret
 exact ⟨er, bw HB⟩

end Go.Proofs.Ytbmjmaahcaoajaa.QFnExactSeenRight
