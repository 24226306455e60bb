import Derived.Test.YtmfhmfhkknijeaaCFnExactAsmRightx0
import Derived.Test.YtmfhmfhkknijeaaCFnExactAsmRightx15
import Derived.Test.YtmfhmfhkknijeaaCFnExactAsmRightx18
namespace Go.Proofs.Ytmfhmfhkknijeaa.QFnExactAsmRight
open Go.RowKit Go.Proofs.YtmfhmfhkknijeaaW
open PrintWords PrintLast PrintMore PrintShort
attribute [local go_sem] max2_int min2_int max_two min_two max_three min_three max_four min_four   -- for this text's walks alone
set_option linter.unusedVariables false
set_option maxHeartbeats 8000000
set_option maxRecDepth 100000
set_option linter.unusedSimpArgs false

def impl_AsmRight.f (k : Nat) (l0_0 : List (S50)) (a1_0 : Int) (l1_1 : List (S59)) (l1_2 : List (List (S63))) : Option (Bool) := (impl_known.f k l0_0).bind fun bt513 => (if bt513.2.2 = true then ((impl_prog_asmRight.f k bt513.1 bt513.2.1 a1_0 l1_1 l1_2).bind fun t521 => (some t521)) else (some false))
theorem impl_AsmRight.mono : ∀ a0 a1 a2 a3 k, LeO (impl_AsmRight.f k a0 a1 a2 a3) (impl_AsmRight.f (k + 1) a0 a1 a2 a3) := by
 intro a0 a1 a2 a3 k
 unfold impl_AsmRight.f
 with_reducible repeat' first | exact impl_known.mono .. | exact impl_prog_asmRight.mono .. | exact LeO.refl _ | exact LeO.none _ | refine LeO.ite ?_ ?_ | refine LeO.bind ?_ (fun _ => ?_)
theorem impl_AsmRight.calls (k : Nat) (A0_0 : Option Addr) (c0_0 : Nat) (l0_0 : List (S50)) (a1_0 : Int) (A1_1 : Option Addr) (c1_1 : Nat) (l1_1 : List (S59)) (A1_2 : Option Addr) (c1_2 : Nat) (l1_2 : List (List (S63))) (r : Bool) (w : World) (hr0_0 : Kd.C k50 w A0_0 l0_0.length l0_0) (hc0_0 : l0_0.length ≤ c0_0) (hr1_1 : Kd.C k59 w A1_1 l1_1.length l1_1) (hc1_1 : l1_1.length ≤ c1_1) (hr1_2 : Kd.C (Kd.slice 63 k63) w A1_2 l1_2.length l1_2) (hc1_2 : l1_2.length ≤ c1_2) (h : impl_AsmRight.f k l0_0 a1_0 l1_1 l1_2 = some r) :
  Calls Try.prog 9 #[.agg #[.slice A0_0 l0_0.length c0_0], .agg #[.int .i64 a1_0, .slice A1_1 l1_1.length c1_1, .slice A1_2 l1_2.length c1_2]] w fun e w' => e = .returned (.bool r) ∧ Below w.heap.size w w' := by
 have hu34 := Try.underlying34
 have hu39 := Try.underlying39
 have HR0_0 := am hr0_0
 have HC0_0 := am hc0_0
 clear hr0_0 hc0_0
 have HR1_1 := am hr1_1
 have HC1_1 := am hc1_1
 clear hr1_1 hc1_1
 have HR1_2 := am hr1_2
 have HC1_2 := am hc1_2
 clear hr1_2 hc1_2
 have HB := am (Below.refl w.heap.size w)
 have H : ((impl_known.f k l0_0).bind fun bt513 => (if bt513.2.2 = true then ((impl_prog_asmRight.f k bt513.1 bt513.2.1 a1_0 l1_1 l1_2).bind fun t521 => (some t521)) else (some false))) = some r := h
 clear h
 replace H := Option.bind_eq_some_iff.mp H
 obtain ⟨⟨t513, t516, t520⟩, A30, H⟩ := H
 replace H : (if t520 = true then ((impl_prog_asmRight.f k t513 t516 a1_0 l1_1 l1_2).bind fun t521 => (some t521)) else (some false)) = some r := H
 have A3 := am A30
 clear A30
 refine qT H ?_ ?_ <;> clear H <;> intro c4 H <;> subst c4
 ·refine be H ?_; clear H; intro t521 A5 H
  obtain rfl := Option.some.inj H
  go_enter Try.func9, Try.ntmps9
  go_wp2_with (first | ((with_reducible refine gd 2 rfl ?_); refine bX 2 #[.slice A0_0 l0_0.length c0_0] 34 HB ?_; clear HB; intro gb511 w6 hg hb BK511 GW511 HB; clear hb hg) | ((with_reducible refine gd 3 rfl ?_); refine bX 3 #[.int .i64 a1_0, .slice A1_1 l1_1.length c1_1, .slice A1_2 l1_2.length c1_2] 39 HB ?_; clear HB; intro gb512 w7 hg hb BK512 GW512 HB; obtain ⟨NB511_512, NB512_511, BK511⟩ := b3 hg BK511 hb; clear hb hg; have hnb8 := NB511_512.out; have hnc8 := NB512_511.out; have hcz9 := bK w7 BK511; have hfz9 := bF BK511) | ((with_reducible refine gk 22 rfl ?_); refine gC 22 (some 9) Try.func22 #[.agg #[.slice A0_0 l0_0.length c0_0]] ((impl_known.calls k (fun k_ => k_ < w.heap.size) _ _ l0_0 t513 t516 true _ (Kd.V_mk HC0_0.out (Kd.F_below (Kd.C_F k50_heap HR0_0.out) (bw HB))) A3.out).mono ?_); rintro e w10 ⟨v514, v517, gb519, rfl, ho0, ho1, hbx, hgx, hb⟩; refine ⟨_, rfl, ?_⟩; have HO515 := am (Kd.V_lower (Kd.V_mono (ok' := fun k_ => some k_ ≠ (v517 : Value).ownBlock ∧ k_ ≠ gb511 ∧ k_ ≠ gb512) ho0 (fun k_ hk_ => ⟨hk_.2, Or.elim hk_.1 (fun hs_ => fun e_ => Nat.not_le.2 hs_ (by rw [e_]; exact GW511.out)) (fun hn_ => (Kd.freshB (g := gb511) (o := .cells #[.slice A0_0 l0_0.length c0_0] 34 (0, 0)) (bp BK511) k_ hn_)), Or.elim hk_.1 (fun hs_ => fun e_ => Nat.not_le.2 hs_ (by rw [e_]; exact GW512.out)) (fun hn_ => (Kd.freshB (g := gb512) (o := .cells #[.int .i64 a1_0, .slice A1_1 l1_1.length c1_1, .slice A1_2 l1_2.length c1_2] 39 (0, 0)) (bp BK512) k_ hn_))⟩)) (below_size (bw HB))); have HO518 := am (Kd.S_lower (Kd.S_mono (ok' := fun k_ => True) ho1 (fun _ hk_ => trivial)) (below_size (bw HB))); have BK519 := am (hbx); have GW519 := am ((Nat.le_trans (below_size (bw HB)) hgx)); have GE519 := am ((Nat.le_trans (below_size (bw HB)) hgx)); have NB511_519 := am ((Nat.ne_of_lt (Nat.lt_of_lt_of_le (blk_lt (g := gb511) (o := .cells #[.slice A0_0 l0_0.length c0_0] 34 (0, 0)) (bp BK511)) hgx) : gb511 ≠ gb519)); have NB519_511 := am ((Nat.ne_of_gt (Nat.lt_of_lt_of_le (blk_lt (g := gb511) (o := .cells #[.slice A0_0 l0_0.length c0_0] 34 (0, 0)) (bp BK511)) hgx) : gb519 ≠ gb511)); replace BK511 := bb BK511 hb; have NB512_519 := am ((Nat.ne_of_lt (Nat.lt_of_lt_of_le (blk_lt (g := gb512) (o := .cells #[.int .i64 a1_0, .slice A1_1 l1_1.length c1_1, .slice A1_2 l1_2.length c1_2] 39 (0, 0)) (bp BK512)) hgx) : gb512 ≠ gb519)); have NB519_512 := am ((Nat.ne_of_gt (Nat.lt_of_lt_of_le (blk_lt (g := gb512) (o := .cells #[.int .i64 a1_0, .slice A1_1 l1_1.length c1_1, .slice A1_2 l1_2.length c1_2] 39 (0, 0)) (bp BK512)) hgx) : gb519 ≠ gb512)); replace BK512 := bb BK512 hb; replace HB := bs HB hb; clear hb; (try clear ho0); (try clear ho1); (try clear hbx); (try clear hgx); have hnb11 := NB512_519.out; have hnc11 := NB519_512.out; have hcz12 := bK w10 BK512; have hfz12 := bF BK512; obtain ⟨Ao13, co13, eo13⟩ := Kd.V_slice HO515.out; subst eo13; obtain ⟨Ao14, co14, eo14⟩ := Kd.S_slice HO518.out; subst eo14) | (go_at_call 23; refine (impl_prog_asmRight.calls k gb519 Ao13 co13 t513 Ao14 co14 t516 a1_0 _ _ l1_1 _ _ l1_2 t521 _ (bp BK519) (cc (Kd.V_reads' HO515.out).2.2) ((Kd.V_reads' HO515.out).2.1) (cc (Kd.S_reads' HO518.out).2.2) ((Kd.S_reads' HO518.out).2.1) (cc (Kd.C_below HR1_1.out HB.out)) HC1_1.out (cc (Kd.C_below HR1_2.out HB.out)) HC1_2.out A5.out).mono ?_; rintro e w15 ⟨rfl, hb⟩; replace HO515 := am (Kd.V_below (kV HO515) hb); replace HO518 := am (Kd.S_below (kS HO518) hb); replace BK511 := bb BK511 hb; replace BK512 := bb BK512 hb; replace BK519 := bb BK519 hb; replace HB := bs HB hb; clear hb))
  go_ret
  exact ⟨er, bw HB⟩
 obtain rfl := Option.some.inj H
 go_enter Try.func9, Try.ntmps9
 go_wp2_with (first | ((with_reducible refine gd 2 rfl ?_); refine bX 2 #[.slice A0_0 l0_0.length c0_0] 34 HB ?_; clear HB; intro gb511 w16 hg hb BK511 GW511 HB; clear hb hg) | ((with_reducible refine gd 3 rfl ?_); refine bX 3 #[.int .i64 a1_0, .slice A1_1 l1_1.length c1_1, .slice A1_2 l1_2.length c1_2] 39 HB ?_; clear HB; intro gb512 w17 hg hb BK512 GW512 HB; obtain ⟨NB511_512, NB512_511, BK511⟩ := b3 hg BK511 hb; clear hb hg; have hnb18 := NB511_512.out; have hnc18 := NB512_511.out; have hcz19 := bK w17 BK511; have hfz19 := bF BK511) | ((with_reducible refine gk 22 rfl ?_); refine gC 22 (some 9) Try.func22 #[.agg #[.slice A0_0 l0_0.length c0_0]] ((impl_known.calls k (fun k_ => k_ < w.heap.size) _ _ l0_0 t513 t516 false _ (Kd.V_mk HC0_0.out (Kd.F_below (Kd.C_F k50_heap HR0_0.out) (bw HB))) A3.out).mono ?_); rintro e w20 ⟨v514, v517, gb519, rfl, ho0, ho1, hbx, hgx, hb⟩; refine ⟨_, rfl, ?_⟩; have HO515 := am (Kd.V_lower (Kd.V_mono (ok' := fun k_ => some k_ ≠ (v517 : Value).ownBlock ∧ k_ ≠ gb511 ∧ k_ ≠ gb512) ho0 (fun k_ hk_ => ⟨hk_.2, Or.elim hk_.1 (fun hs_ => fun e_ => Nat.not_le.2 hs_ (by rw [e_]; exact GW511.out)) (fun hn_ => (Kd.freshB (g := gb511) (o := .cells #[.slice A0_0 l0_0.length c0_0] 34 (0, 0)) (bp BK511) k_ hn_)), Or.elim hk_.1 (fun hs_ => fun e_ => Nat.not_le.2 hs_ (by rw [e_]; exact GW512.out)) (fun hn_ => (Kd.freshB (g := gb512) (o := .cells #[.int .i64 a1_0, .slice A1_1 l1_1.length c1_1, .slice A1_2 l1_2.length c1_2] 39 (0, 0)) (bp BK512) k_ hn_))⟩)) (below_size (bw HB))); have HO518 := am (Kd.S_lower (Kd.S_mono (ok' := fun k_ => True) ho1 (fun _ hk_ => trivial)) (below_size (bw HB))); have BK519 := am (hbx); have GW519 := am ((Nat.le_trans (below_size (bw HB)) hgx)); have GE519 := am ((Nat.le_trans (below_size (bw HB)) hgx)); have NB511_519 := am ((Nat.ne_of_lt (Nat.lt_of_lt_of_le (blk_lt (g := gb511) (o := .cells #[.slice A0_0 l0_0.length c0_0] 34 (0, 0)) (bp BK511)) hgx) : gb511 ≠ gb519)); have NB519_511 := am ((Nat.ne_of_gt (Nat.lt_of_lt_of_le (blk_lt (g := gb511) (o := .cells #[.slice A0_0 l0_0.length c0_0] 34 (0, 0)) (bp BK511)) hgx) : gb519 ≠ gb511)); replace BK511 := bb BK511 hb; have NB512_519 := am ((Nat.ne_of_lt (Nat.lt_of_lt_of_le (blk_lt (g := gb512) (o := .cells #[.int .i64 a1_0, .slice A1_1 l1_1.length c1_1, .slice A1_2 l1_2.length c1_2] 39 (0, 0)) (bp BK512)) hgx) : gb512 ≠ gb519)); have NB519_512 := am ((Nat.ne_of_gt (Nat.lt_of_lt_of_le (blk_lt (g := gb512) (o := .cells #[.int .i64 a1_0, .slice A1_1 l1_1.length c1_1, .slice A1_2 l1_2.length c1_2] 39 (0, 0)) (bp BK512)) hgx) : gb519 ≠ gb512)); replace BK512 := bb BK512 hb; replace HB := bs HB hb; clear hb; (try clear ho0); (try clear ho1); (try clear hbx); (try clear hgx)))
 go_ret
 exact ⟨er, bw HB⟩

def laws_eqIns.f (a0_0 : Int) (a0_1 : Int) (a1_0 : Int) (a1_1 : Int) : Option (Bool) := if a0_0 = a1_0 then (if a0_1 = a1_1 then (some true) else (some false)) else (some false)
theorem laws_eqIns.calls (a0_0 : Int) (a0_1 : Int) (a1_0 : Int) (a1_1 : Int) (r : Bool) (w : World) (h : laws_eqIns.f a0_0 a0_1 a1_0 a1_1 = some r) :
  Calls Try.prog 81 #[.agg #[.int .i64 a0_0, .int .i64 a0_1], .agg #[.int .i64 a1_0, .int .i64 a1_1]] w fun e w' => e = .returned (.bool r) ∧ Below w.heap.size w w' := by
 have hu88 := Try.underlying88
 have HB := am (Below.refl w.heap.size w)
 have H : (if a0_0 = a1_0 then (if a0_1 = a1_1 then (some true) else (some false)) else (some false)) = some r := h
 clear h
 have HC3 := am H
 clear H
 go_enter Try.func81, Try.ntmps81
 go_upto_if 9 with (first | ((with_reducible refine gd 2 rfl ?_); refine bX 2 #[.int .i64 a0_0, .int .i64 a0_1] 88 HB ?_; clear HB; intro gb522 w4 hg hb BK522 GW522 HB; clear hb hg) | ((with_reducible refine gd 3 rfl ?_); refine bX 3 #[.int .i64 a1_0, .int .i64 a1_1] 88 HB ?_; clear HB; intro gb523 w5 hg hb BK523 GW523 HB; obtain ⟨NB522_523, NB523_522, BK522⟩ := b3 hg BK522 hb; clear hb hg; have hnb6 := NB522_523.out; have hnc6 := NB523_522.out; have hcz7 := bK w5 BK522; have hfz7 := bF BK522; have hcz8 := bK w5 BK523; have hfz8 := bF BK523))
 (try simp only [Act.put, sa, sz, ss])
 have H := HC3.out
 clear HC3
 refine qE H ?_ ?_ <;> clear H
 ·intro c9b0 c9b1 H
  (first | rw [c9b0] | (simp only [i64_w, i32_w]; rw [c9b0]) | skip)
  refine qE H ?_ ?_ <;> clear H
  ·intro c10b0 c10b1 H
   obtain rfl := Option.some.inj H
   have hnb11 := NB522_523.out
   have hnc11 := NB523_522.out
   have hcz12 := bK w5 BK522
   have hfz12 := bF BK522
   have hcz13 := bK w5 BK523
   have hfz13 := bF BK523
   go_wp2
   go_ret
   exact ⟨er, bw HB⟩
  intro c10 c10b0 c10b1 H
  obtain rfl := Option.some.inj H
  have hnb14 := NB522_523.out
  have hnc14 := NB523_522.out
  have hcz15 := bK w5 BK522
  have hfz15 := bF BK522
  have hcz16 := bK w5 BK523
  have hfz16 := bF BK523
  go_wp2
  go_ret
  exact ⟨er, bw HB⟩
 intro c9 c9b0 c9b1 H
 (first | rw [c9b0] | (simp only [i64_w, i32_w]; rw [c9b0]) | skip)
 obtain rfl := Option.some.inj H
 go_wp2
 go_ret
 exact ⟨er, bw HB⟩

def laws_eqInsS.l0 : Nat → List (S88) → List (S88) → Int → Option (Bool)
 | 0, _, _, _ => none
 | k + 1, x0, x1, x5 => if x5 < (x0.length : Int) then (if 0 ≤ x5 then (if x5 < (x1.length : Int) then ((laws_eqIns.f ((rd_T88 x0 x5).f0) ((rd_T88 x0 x5).f1) ((rd_T88 x1 x5).f0) ((rd_T88 x1 x5).f1)).bind fun t526 => (if t526 = true then (laws_eqInsS.l0 k x0 x1 (wrap64 (x5 + 1))) else (some false))) else (none)) else (none)) else (some true)
def laws_eqInsS.f (k : Nat) (l0 : List (S88)) (l1 : List (S88)) : Option (Bool) := if (l0.length : Int) = (l1.length : Int) then (laws_eqInsS.l0 k l0 l1 0) else (some false)
theorem laws_eqInsS.mono_l : ∀ k, (∀ y0 y1 y2, LeO (laws_eqInsS.l0 k y0 y1 y2) (laws_eqInsS.l0 (k + 1) y0 y1 y2))
 | 0 => fun _ _ _ r h => by simp [laws_eqInsS.l0] at h
 | k + 1 => by
  have ih0 := laws_eqInsS.mono_l k
  ·intro y0 y1 y2
   unfold laws_eqInsS.l0
   with_reducible repeat' first | exact ih0 .. | exact LeO.refl _ | exact LeO.none _ | refine LeO.ite ?_ ?_ | refine LeO.bind ?_ (fun _ => ?_)
theorem laws_eqInsS.mono : ∀ a0 a1 k, LeO (laws_eqInsS.f k a0 a1) (laws_eqInsS.f (k + 1) a0 a1) := by
 intro a0 a1 k
 have ih0 := laws_eqInsS.mono_l k
 unfold laws_eqInsS.f
 with_reducible repeat' first | exact ih0 .. | exact LeO.refl _ | exact LeO.none _ | refine LeO.ite ?_ ?_ | refine LeO.bind ?_ (fun _ => ?_)
def laws_eqInsS.T6 : Bool × List (List Nat × List Nat) := (true, [([], []), ([], []), ([0, 1], [0, 1]), ([2], [2]), ([], []), ([], []), ([4, 5], [4, 5]), ([6], [6]), ([3, 7], [3, 7]), ([8], [8])])
def laws_eqInsS.B6 : List Nat := [0, 0, 3, 7, 0, 0, 48, 112, 255, 511]
theorem laws_eqInsS.tab6 : rtab .any (opsOf Try.f70 6) = laws_eqInsS.T6 := by kernel_rfl
theorem laws_eqInsS.bits6 : waitsOk laws_eqInsS.T6.2 laws_eqInsS.B6 = true := by kernel_rfl
theorem laws_eqInsS.calls (k : Nat) (A0 : Option Addr) (c0 : Nat) (l0 : List (S88)) (A1 : Option Addr) (c1 : Nat) (l1 : List (S88)) (r : Bool) (w : World) (hr0 : Kd.C k88 w A0 l0.length l0) (hc0 : l0.length ≤ c0) (hr1 : Kd.C k88 w A1 l1.length l1) (hc1 : l1.length ≤ c1) (h : laws_eqInsS.f k l0 l1 = some r) :
  Calls Try.prog 70 #[.slice A0 l0.length c0, .slice A1 l1.length c1] w fun e w' => e = .returned (.bool r) ∧ Below w.heap.size w w' := by
 have hu88 := Try.underlying88
 have HR0 := am hr0
 have HC0 := am hc0
 clear hr0 hc0
 have HR1 := am hr1
 have HC1 := am hc1
 clear hr1 hc1
 have HB := am (Below.refl w.heap.size w)
 have H : (if (l0.length : Int) = (l1.length : Int) then (laws_eqInsS.l0 k l0 l1 0) else (some false)) = some r := h
 clear h
 by_cases c3 : (l0.length : Int) = (l1.length : Int)
 ·rw [if_pos c3] at H
  have c3b0 : ((l0.length : Int) == (l1.length : Int)) = true := beq_iff_eq.mpr c3
  have c3b1 : ((l0.length : Int) != (l1.length : Int)) = false := bne_eq_false_iff_eq.mpr c3
  have c3b2 : (l0.length == l1.length) = true := by first | simpa using c3 | (simp at c3 ⊢; omega)
  clear c3
  have H' := am H
  clear H
  go_enter Try.func70, Try.ntmps70
  go_wp2
  go_loopg [5] k (fun kq v5 w' => ∃ (x5_1 : Int), v5 = .int .i64 x5_1 ∧ Aside0 (laws_eqInsS.l0 kq l0 l1 x5_1 = some r) ∧ Aside0 (kq ≤ k) ∧ Aside0 (Below w.heap.size w w'))
  case atStart => exact ⟨(0), dr, H', ⟨Nat.le_refl _⟩, ⟨bw HB⟩⟩
  clear H'
  (try clear c1); (try clear p2); (try clear c3); (try clear c3b0); (try clear c3b1); (try clear c3b2)
  obtain ⟨x5_1, rfl, HA, HK1, HB⟩ := hrel
  rcases gk with _ | k1
  ·exact absurd HA.out (by simp [laws_eqInsS.l0])
  have H := HA.out
  clear HA
  simp only [laws_eqInsS.l0] at H
  refine qI H ?_ ?_ <;> clear H <;> intro c4b0 H
  ·refine iM H ?_; clear H; intro c5b0 H
   refine iM H ?_; clear H; intro c6b0 H
   refine be H ?_; clear H; intro t526 A7 H
   have HC8 := am H
   clear H
   try go_wp2
   replace HB := am (below_drew1 HB.out)
   have p524 : 0 ≤ (x5_1 : Int) := of_decide_eq_true as1
   have q524 : x5_1 < (l0.length : Int) := of_decide_eq_true as1
   obtain ⟨ad524, e524, hx524_0, hx524_1⟩ := at_T88 HR0.out x5_1 p524 q524
   have hw524_1 := hx524_1
   have hw524_0 := hx524_0
   cases e524
   replace hx524_0 := cl HB hx524_0
   replace hx524_1 := cl HB hx524_1
   replace p524 := eq_true p524
   replace q524 := eq_true q524
   have p525 : 0 ≤ (x5_1 : Int) := of_decide_eq_true as1
   have q525 : x5_1 < (l1.length : Int) := of_decide_eq_true as1
   obtain ⟨ad525, e525, hx525_0, hx525_1⟩ := at_T88 HR1.out x5_1 p525 q525
   have hw525_1 := hx525_1
   have hw525_0 := hx525_0
   cases e525
   replace hx525_0 := cl HB hx525_0
   replace hx525_1 := cl HB hx525_1
   replace p525 := eq_true p525
   replace q525 := eq_true q525
   refine start_ (n := 10) (S := fun w' => w'.cell? (ad524.add ((x5_1).toNat * 2)) = some (.int .i64 ((rd_T88 l0 x5_1).f0)) ∧ w'.cell? ⟨(ad524.add ((x5_1).toNat * 2)).block, (ad524.add ((x5_1).toNat * 2)).off + 1, none⟩ = some (.int .i64 ((rd_T88 l0 x5_1).f1)) ∧ w'.cell? (ad525.add ((x5_1).toNat * 2)) = some (.int .i64 ((rd_T88 l1 x5_1).f0)) ∧ w'.cell? ⟨(ad525.add ((x5_1).toNat * 2)).block, (ad525.add ((x5_1).toNat * 2)).off + 1, none⟩ = some (.int .i64 ((rd_T88 l1 x5_1).f1))) (ds := []) (bv 10 0) (by kernel_rfl) rfl (by kernel_rfl) ⟨(cq HB hw524_0), (cq HB hw524_1), (cq HB hw525_0), (cq HB hw525_1)⟩ (fun hHeld => ?_); refine with_tabW laws_eqInsS.tab6 laws_eqInsS.bits6 (fun HT_ HW_ => ?_)
   generalize wr.drew = w9 at HB hx524_0 hx524_1 hx525_0 hx525_1 hHeld ⊢
   refine pu 0 17 10 1 HT_ ?_
   refine pu 1 18 10 3 HT_ ?_
   refine pu 2 19 10 7 HT_ ?_
   refine pu 4 21 10 23 HT_ ?_
   refine pu 5 22 10 55 HT_ ?_
   refine pu 6 23 10 119 HT_ ?_
   refine tk 3 20 10 127 HT_ HW_ hHeld ?_
   refine tk 7 24 10 255 HT_ HW_ hHeld ?_
   refine on 8 (some 25) 10 511 HT_ fun K hK => ?_
   refine goes_ Try.func81 (by kernel_rfl) rfl #[.agg #[.int .i64 ((rd_T88 l0 x5_1).f0), .int .i64 ((rd_T88 l0 x5_1).f1)], .agg #[.int .i64 ((rd_T88 l1 x5_1).f0), .int .i64 ((rd_T88 l1 x5_1).f1)]] (by rfl) rfl rfl gl ?_
   with_reducible refine (laws_eqIns.calls ((rd_T88 l0 x5_1).f0) ((rd_T88 l0 x5_1).f1) ((rd_T88 l1 x5_1).f0) ((rd_T88 l1 x5_1).f1) t526 _ A7.out).mono ?_
   rintro e w10 ⟨rfl, hb⟩
   refine ⟨_, rfl, ?_⟩
   replace HB := am (below_step (bw HB) hb)
   clear hb
   refine hK.out _ _ ⟨(cq HB hw524_0), (cq HB hw524_1), (cq HB hw525_0), (cq HB hw525_1)⟩ (fun hHeld => ?_)
   clear hK K
   refine nm (some 25) ?_
   refine pu 9 26 10 1023 HT_ ?_
   refine done_ (done_of HT_.out (by kernel_rfl)) ?_
   go_upto_if 26 with (fail)
   (try simp only [Act.put, sa, sz, ss])
   have H := HC8.out
   clear HC8
   refine qT H ?_ ?_ <;> clear H <;> intro c11 H <;> subst c11
   ·have H' := am H
    clear H
    go_wp2
    go_roundg k1
    case measure => have := HK1.out; omega
    case rel => exact ⟨(wrap64 (x5_1 + 1)), dr, H', ⟨by have := HK1.out; omega⟩, ⟨bw HB⟩⟩
   obtain rfl := Option.some.inj H
   go_wp2
   go_ret
   exact ⟨er, bw HB⟩
  obtain rfl := Option.some.inj H
  go_wp2
  go_ret
  exact ⟨er, bw HB⟩
 rw [if_neg c3] at H
 have c3b0 : ((l0.length : Int) == (l1.length : Int)) = false := beq_eq_false_iff_ne.mpr c3
 have c3b1 : ((l0.length : Int) != (l1.length : Int)) = true := bne_iff_ne.mpr c3
 have c3b2 : (l0.length == l1.length) = false := by first | simpa using c3 | (simp at c3 ⊢; omega)
 obtain rfl := Option.some.inj H
 go_enter Try.func70, Try.ntmps70
 go_wp2
 go_ret
 exact ⟨er, bw HB⟩

def laws_eqFunc.f (k : Nat) (a0_0 : Int) (a0_1 : Int) (l0_2 : List (S88)) (a1_0 : Int) (a1_1 : Int) (l1_2 : List (S88)) : Option (Bool) := if a0_0 = a1_0 then (if a0_1 = a1_1 then ((laws_eqInsS.f k l0_2 l1_2).bind fun t529 => (if t529 = true then (some true) else (some false))) else (some false)) else (some false)
theorem laws_eqFunc.mono : ∀ a0 a1 a2 a3 a4 a5 k, LeO (laws_eqFunc.f k a0 a1 a2 a3 a4 a5) (laws_eqFunc.f (k + 1) a0 a1 a2 a3 a4 a5) := by
 intro a0 a1 a2 a3 a4 a5 k
 unfold laws_eqFunc.f
 with_reducible repeat' first | exact laws_eqInsS.mono .. | exact LeO.refl _ | exact LeO.none _ | refine LeO.ite ?_ ?_ | refine LeO.bind ?_ (fun _ => ?_)
theorem laws_eqFunc.calls (k : Nat) (a0_0 : Int) (a0_1 : Int) (A0_2 : Option Addr) (c0_2 : Nat) (l0_2 : List (S88)) (a1_0 : Int) (a1_1 : Int) (A1_2 : Option Addr) (c1_2 : Nat) (l1_2 : List (S88)) (r : Bool) (w : World) (hr0_2 : Kd.C k88 w A0_2 l0_2.length l0_2) (hc0_2 : l0_2.length ≤ c0_2) (hr1_2 : Kd.C k88 w A1_2 l1_2.length l1_2) (hc1_2 : l1_2.length ≤ c1_2) (h : laws_eqFunc.f k a0_0 a0_1 l0_2 a1_0 a1_1 l1_2 = some r) :
  Calls Try.prog 50 #[.agg #[.int .i64 a0_0, .int .i64 a0_1, .slice A0_2 l0_2.length c0_2], .agg #[.int .i64 a1_0, .int .i64 a1_1, .slice A1_2 l1_2.length c1_2]] w fun e w' => e = .returned (.bool r) ∧ Below w.heap.size w w' := by
 have hu50 := Try.underlying50
 have HR0_2 := am hr0_2
 have HC0_2 := am hc0_2
 clear hr0_2 hc0_2
 have HR1_2 := am hr1_2
 have HC1_2 := am hc1_2
 clear hr1_2 hc1_2
 have HB := am (Below.refl w.heap.size w)
 have H : (if a0_0 = a1_0 then (if a0_1 = a1_1 then ((laws_eqInsS.f k l0_2 l1_2).bind fun t529 => (if t529 = true then (some true) else (some false))) else (some false)) else (some false)) = some r := h
 clear h
 have HC3 := am H
 clear H
 go_enter Try.func50, Try.ntmps50
 go_upto_if 9 with (first | ((with_reducible refine gd 2 rfl ?_); refine bX 2 #[.int .i64 a0_0, .int .i64 a0_1, .slice A0_2 l0_2.length c0_2] 50 HB ?_; clear HB; intro gb527 w4 hg hb BK527 GW527 HB; clear hb hg) | ((with_reducible refine gd 3 rfl ?_); refine bX 3 #[.int .i64 a1_0, .int .i64 a1_1, .slice A1_2 l1_2.length c1_2] 50 HB ?_; clear HB; intro gb528 w5 hg hb BK528 GW528 HB; obtain ⟨NB527_528, NB528_527, BK527⟩ := b3 hg BK527 hb; clear hb hg; have hnb6 := NB527_528.out; have hnc6 := NB528_527.out; have hcz7 := bK w5 BK527; have hfz7 := bF BK527; have hcz8 := bK w5 BK528; have hfz8 := bF BK528))
 (try simp only [Act.put, sa, sz, ss])
 have H := HC3.out
 clear HC3
 refine qE H ?_ ?_ <;> clear H
 ·intro c9b0 c9b1 H
  (first | rw [c9b0] | (simp only [i64_w, i32_w]; rw [c9b0]) | skip)
  refine qE H ?_ ?_ <;> clear H
  ·intro c10b0 c10b1 H
   refine be H ?_; clear H; intro t529 A11 H
   have HC12 := am H
   clear H
   have hnb13 := NB527_528.out
   have hnc13 := NB528_527.out
   have hcz14 := bK w5 BK527
   have hfz14 := bF BK527
   have hcz15 := bK w5 BK528
   have hfz15 := bF BK528
   go_upto_if 20 with (first | ((with_reducible refine gk 70 rfl ?_); refine gB 70 (some 19) Try.func70 #[.slice A0_2 l0_2.length c0_2, .slice A1_2 l1_2.length c1_2] (laws_eqInsS.calls k _ _ l0_2 _ _ l1_2 t529 _ (cc (Kd.C_below HR0_2.out HB.out)) HC0_2.out (cc (Kd.C_below HR1_2.out HB.out)) HC1_2.out A11.out) ?_; intro w16 hb; replace BK527 := bb BK527 hb; replace BK528 := bb BK528 hb; replace HB := bs HB hb; clear hb))
   (try simp only [Act.put, sa, sz, ss])
   have H := HC12.out
   clear HC12
   refine qT H ?_ ?_ <;> clear H <;> intro c17 H <;> subst c17
   ·obtain rfl := Option.some.inj H
    go_wp2
    go_ret
    exact ⟨er, bw HB⟩
   obtain rfl := Option.some.inj H
   go_wp2
   go_ret
   exact ⟨er, bw HB⟩
  intro c10 c10b0 c10b1 H
  obtain rfl := Option.some.inj H
  have hnb18 := NB527_528.out
  have hnc18 := NB528_527.out
  have hcz19 := bK w5 BK527
  have hfz19 := bF BK527
  have hcz20 := bK w5 BK528
  have hfz20 := bF BK528
  go_wp2
  go_ret
  exact ⟨er, bw HB⟩
 intro c9 c9b0 c9b1 H
 (first | rw [c9b0] | (simp only [i64_w, i32_w]; rw [c9b0]) | skip)
 obtain rfl := Option.some.inj H
 go_wp2
 go_ret
 exact ⟨er, bw HB⟩

def laws_eqFuncS.l0 : Nat → List (S50) → List (S50) → Int → Option (Bool)
 | 0, _, _, _ => none
 | k + 1, x0, x1, x5 => if x5 < (x0.length : Int) then (if 0 ≤ x5 then (if x5 < (x1.length : Int) then ((laws_eqFunc.f k ((rd_T50 x0 x5).f0) ((rd_T50 x0 x5).f1) ((rd_T50 x0 x5).f2) ((rd_T50 x1 x5).f0) ((rd_T50 x1 x5).f1) ((rd_T50 x1 x5).f2)).bind fun t532 => (if t532 = true then (laws_eqFuncS.l0 k x0 x1 (wrap64 (x5 + 1))) else (some false))) else (none)) else (none)) else (some true)
def laws_eqFuncS.f (k : Nat) (l0 : List (S50)) (l1 : List (S50)) : Option (Bool) := if (l0.length : Int) = (l1.length : Int) then (laws_eqFuncS.l0 k l0 l1 0) else (some false)
theorem laws_eqFuncS.mono_l : ∀ k, (∀ y0 y1 y2, LeO (laws_eqFuncS.l0 k y0 y1 y2) (laws_eqFuncS.l0 (k + 1) y0 y1 y2))
 | 0 => fun _ _ _ r h => by simp [laws_eqFuncS.l0] at h
 | k + 1 => by
  have ih0 := laws_eqFuncS.mono_l k
  ·intro y0 y1 y2
   unfold laws_eqFuncS.l0
   with_reducible repeat' first | exact ih0 .. | exact laws_eqFunc.mono .. | exact LeO.refl _ | exact LeO.none _ | refine LeO.ite ?_ ?_ | refine LeO.bind ?_ (fun _ => ?_)
theorem laws_eqFuncS.mono : ∀ a0 a1 k, LeO (laws_eqFuncS.f k a0 a1) (laws_eqFuncS.f (k + 1) a0 a1) := by
 intro a0 a1 k
 have ih0 := laws_eqFuncS.mono_l k
 unfold laws_eqFuncS.f
 with_reducible repeat' first | exact ih0 .. | exact laws_eqFunc.mono .. | exact LeO.refl _ | exact LeO.none _ | refine LeO.ite ?_ ?_ | refine LeO.bind ?_ (fun _ => ?_)
def laws_eqFuncS.T6 : Bool × List (List Nat × List Nat) := (true, [([], []), ([], []), ([0, 1], [0, 1]), ([2], [2]), ([], []), ([], []), ([4, 5], [4, 5]), ([6], [6]), ([3, 7], [3, 7]), ([8], [8])])
def laws_eqFuncS.B6 : List Nat := [0, 0, 3, 7, 0, 0, 48, 112, 255, 511]
theorem laws_eqFuncS.tab6 : rtab .any (opsOf Try.f24 6) = laws_eqFuncS.T6 := by kernel_rfl
theorem laws_eqFuncS.bits6 : waitsOk laws_eqFuncS.T6.2 laws_eqFuncS.B6 = true := by kernel_rfl
theorem laws_eqFuncS.calls (k : Nat) (A0 : Option Addr) (c0 : Nat) (l0 : List (S50)) (A1 : Option Addr) (c1 : Nat) (l1 : List (S50)) (r : Bool) (w : World) (hr0 : Kd.C k50 w A0 l0.length l0) (hc0 : l0.length ≤ c0) (hr1 : Kd.C k50 w A1 l1.length l1) (hc1 : l1.length ≤ c1) (h : laws_eqFuncS.f k l0 l1 = some r) :
  Calls Try.prog 24 #[.slice A0 l0.length c0, .slice A1 l1.length c1] w fun e w' => e = .returned (.bool r) ∧ Below w.heap.size w w' := by
 have hu50 := Try.underlying50
 have HR0 := am hr0
 have HC0 := am hc0
 clear hr0 hc0
 have HR1 := am hr1
 have HC1 := am hc1
 clear hr1 hc1
 have HB := am (Below.refl w.heap.size w)
 have H : (if (l0.length : Int) = (l1.length : Int) then (laws_eqFuncS.l0 k l0 l1 0) else (some false)) = some r := h
 clear h
 by_cases c3 : (l0.length : Int) = (l1.length : Int)
 ·rw [if_pos c3] at H
  have c3b0 : ((l0.length : Int) == (l1.length : Int)) = true := beq_iff_eq.mpr c3
  have c3b1 : ((l0.length : Int) != (l1.length : Int)) = false := bne_eq_false_iff_eq.mpr c3
  have c3b2 : (l0.length == l1.length) = true := by first | simpa using c3 | (simp at c3 ⊢; omega)
  clear c3
  have H' := am H
  clear H
  go_enter Try.func24, Try.ntmps24
  go_wp2
  go_loopg [5] k (fun kq v5 w' => ∃ (x5_1 : Int), v5 = .int .i64 x5_1 ∧ Aside0 (laws_eqFuncS.l0 kq l0 l1 x5_1 = some r) ∧ Aside0 (kq ≤ k) ∧ Aside0 (Below w.heap.size w w'))
  case atStart => exact ⟨(0), dr, H', ⟨Nat.le_refl _⟩, ⟨bw HB⟩⟩
  clear H'
  (try clear c1); (try clear c2); (try clear p2); (try clear c3); (try clear c3b0); (try clear c3b1); (try clear c3b2)
  obtain ⟨x5_1, rfl, HA, HK1, HB⟩ := hrel
  rcases gk with _ | k1
  ·exact absurd HA.out (by simp [laws_eqFuncS.l0])
  have H := HA.out
  clear HA
  simp only [laws_eqFuncS.l0] at H
  refine qI H ?_ ?_ <;> clear H <;> intro c4b0 H
  ·refine iM H ?_; clear H; intro c5b0 H
   refine iM H ?_; clear H; intro c6b0 H
   refine be H ?_; clear H; intro t532 A7 H
   have HC8 := am H
   clear H
   try go_wp2
   replace HB := am (below_drew1 HB.out)
   have p530 : 0 ≤ (x5_1 : Int) := of_decide_eq_true as1
   have q530 : x5_1 < (l0.length : Int) := of_decide_eq_true as1
   obtain ⟨ad530, A530_2, c530_2, e530, hx530_0, hx530_1, hx530_2, hl530_2, hi530_2⟩ := at_T50 HR0.out x5_1 p530 q530
   have hw530_2 := hx530_2
   have hw530_1 := hx530_1
   have hw530_0 := hx530_0
   cases e530
   replace hx530_0 := cl HB hx530_0
   replace hx530_1 := cl HB hx530_1
   replace hx530_2 := cl HB hx530_2
   have HR530_2 := am hi530_2
   have HC530_2 := am hl530_2
   clear hi530_2 hl530_2
   replace p530 := eq_true p530
   replace q530 := eq_true q530
   have p531 : 0 ≤ (x5_1 : Int) := of_decide_eq_true as1
   have q531 : x5_1 < (l1.length : Int) := of_decide_eq_true as1
   obtain ⟨ad531, A531_2, c531_2, e531, hx531_0, hx531_1, hx531_2, hl531_2, hi531_2⟩ := at_T50 HR1.out x5_1 p531 q531
   have hw531_2 := hx531_2
   have hw531_1 := hx531_1
   have hw531_0 := hx531_0
   cases e531
   replace hx531_0 := cl HB hx531_0
   replace hx531_1 := cl HB hx531_1
   replace hx531_2 := cl HB hx531_2
   have HR531_2 := am hi531_2
   have HC531_2 := am hl531_2
   clear hi531_2 hl531_2
   replace p531 := eq_true p531
   replace q531 := eq_true q531
   refine start_ (n := 10) (S := fun w' => w'.cell? (ad530.add ((x5_1).toNat * 3)) = some (.int .i64 ((rd_T50 l0 x5_1).f0)) ∧ w'.cell? ⟨(ad530.add ((x5_1).toNat * 3)).block, (ad530.add ((x5_1).toNat * 3)).off + 1, none⟩ = some (.int .i64 ((rd_T50 l0 x5_1).f1)) ∧ w'.cell? ⟨(ad530.add ((x5_1).toNat * 3)).block, (ad530.add ((x5_1).toNat * 3)).off + 2, none⟩ = some (.slice A530_2 ((rd_T50 l0 x5_1).f2).length c530_2) ∧ w'.cell? (ad531.add ((x5_1).toNat * 3)) = some (.int .i64 ((rd_T50 l1 x5_1).f0)) ∧ w'.cell? ⟨(ad531.add ((x5_1).toNat * 3)).block, (ad531.add ((x5_1).toNat * 3)).off + 1, none⟩ = some (.int .i64 ((rd_T50 l1 x5_1).f1)) ∧ w'.cell? ⟨(ad531.add ((x5_1).toNat * 3)).block, (ad531.add ((x5_1).toNat * 3)).off + 2, none⟩ = some (.slice A531_2 ((rd_T50 l1 x5_1).f2).length c531_2)) (ds := []) (bv 10 0) (by kernel_rfl) rfl (by kernel_rfl) ⟨(cq HB hw530_0), (cq HB hw530_1), (cq HB hw530_2), (cq HB hw531_0), (cq HB hw531_1), (cq HB hw531_2)⟩ (fun hHeld => ?_); refine with_tabW laws_eqFuncS.tab6 laws_eqFuncS.bits6 (fun HT_ HW_ => ?_)
   generalize wr.drew = w9 at HB HR530_2 HR531_2 hx530_0 hx530_1 hx530_2 hx531_0 hx531_1 hx531_2 hHeld ⊢
   refine pu 0 17 10 1 HT_ ?_
   refine pu 1 18 10 3 HT_ ?_
   refine pu 2 19 10 7 HT_ ?_
   refine pu 4 21 10 23 HT_ ?_
   refine pu 5 22 10 55 HT_ ?_
   refine pu 6 23 10 119 HT_ ?_
   refine tk 3 20 10 127 HT_ HW_ hHeld ?_
   refine tk 7 24 10 255 HT_ HW_ hHeld ?_
   refine on 8 (some 25) 10 511 HT_ fun K hK => ?_
   refine goes_ Try.func50 (by kernel_rfl) rfl #[.agg #[.int .i64 ((rd_T50 l0 x5_1).f0), .int .i64 ((rd_T50 l0 x5_1).f1), .slice A530_2 ((rd_T50 l0 x5_1).f2).length c530_2], .agg #[.int .i64 ((rd_T50 l1 x5_1).f0), .int .i64 ((rd_T50 l1 x5_1).f1), .slice A531_2 ((rd_T50 l1 x5_1).f2).length c531_2]] (by rfl) rfl rfl gl ?_
   with_reducible refine (laws_eqFunc.calls k1 ((rd_T50 l0 x5_1).f0) ((rd_T50 l0 x5_1).f1) _ _ ((rd_T50 l0 x5_1).f2) ((rd_T50 l1 x5_1).f0) ((rd_T50 l1 x5_1).f1) _ _ ((rd_T50 l1 x5_1).f2) t532 _ ?side1 ?side2 ?side3 ?side4 A7.out).mono ?_
   (case side1 => exact cc (Kd.C_below HR530_2.out HB.out))
   (case side2 => exact HC530_2.out)
   (case side3 => exact cc (Kd.C_below HR531_2.out HB.out))
   (case side4 => exact HC531_2.out)
   rintro e w10 ⟨rfl, hb⟩
   refine ⟨_, rfl, ?_⟩
   replace HB := am (below_step (bw HB) hb)
   clear hb
   refine hK.out _ _ ⟨(cq HB hw530_0), (cq HB hw530_1), (cq HB hw530_2), (cq HB hw531_0), (cq HB hw531_1), (cq HB hw531_2)⟩ (fun hHeld => ?_)
   clear hK K
   refine nm (some 25) ?_
   refine pu 9 26 10 1023 HT_ ?_
   refine done_ (done_of HT_.out (by kernel_rfl)) ?_
   go_upto_if 26 with (fail)
   (try simp only [Act.put, sa, sz, ss])
   have H := HC8.out
   clear HC8
   refine qT H ?_ ?_ <;> clear H <;> intro c11 H <;> subst c11
   ·have H' := am H
    clear H
    go_wp2
    go_roundg k1
    case measure => have := HK1.out; omega
    case rel => exact ⟨(wrap64 (x5_1 + 1)), dr, H', ⟨by have := HK1.out; omega⟩, ⟨bw HB⟩⟩
   obtain rfl := Option.some.inj H
   go_wp2
   go_ret
   exact ⟨er, bw HB⟩
  obtain rfl := Option.some.inj H
  go_wp2
  go_ret
  exact ⟨er, bw HB⟩
 rw [if_neg c3] at H
 have c3b0 : ((l0.length : Int) == (l1.length : Int)) = false := beq_eq_false_iff_ne.mpr c3
 have c3b1 : ((l0.length : Int) != (l1.length : Int)) = true := bne_iff_ne.mpr c3
 have c3b2 : (l0.length == l1.length) = false := by first | simpa using c3 | (simp at c3 ⊢; omega)
 obtain rfl := Option.some.inj H
 go_enter Try.func24, Try.ntmps24
 go_wp2
 go_ret
 exact ⟨er, bw HB⟩

def laws_eqProgram.f (k : Nat) (l0_0 : List (S50)) (l1_0 : List (S50)) : Option (Bool) := (laws_eqFuncS.f k l0_0 l1_0).bind fun t535 => (if t535 = true then (some true) else (some false))
theorem laws_eqProgram.mono : ∀ a0 a1 k, LeO (laws_eqProgram.f k a0 a1) (laws_eqProgram.f (k + 1) a0 a1) := by
 intro a0 a1 k
 unfold laws_eqProgram.f
 with_reducible repeat' first | exact laws_eqFuncS.mono .. | exact LeO.refl _ | exact LeO.none _ | refine LeO.ite ?_ ?_ | refine LeO.bind ?_ (fun _ => ?_)
theorem laws_eqProgram.calls (k : Nat) (A0_0 : Option Addr) (c0_0 : Nat) (l0_0 : List (S50)) (A1_0 : Option Addr) (c1_0 : Nat) (l1_0 : List (S50)) (r : Bool) (w : World) (hr0_0 : Kd.C k50 w A0_0 l0_0.length l0_0) (hc0_0 : l0_0.length ≤ c0_0) (hr1_0 : Kd.C k50 w A1_0 l1_0.length l1_0) (hc1_0 : l1_0.length ≤ c1_0) (h : laws_eqProgram.f k l0_0 l1_0 = some r) :
  Calls Try.prog 10 #[.agg #[.slice A0_0 l0_0.length c0_0], .agg #[.slice A1_0 l1_0.length c1_0]] w fun e w' => e = .returned (.bool r) ∧ Below w.heap.size w w' := by
 have hu34 := Try.underlying34
 have HR0_0 := am hr0_0
 have HC0_0 := am hc0_0
 clear hr0_0 hc0_0
 have HR1_0 := am hr1_0
 have HC1_0 := am hc1_0
 clear hr1_0 hc1_0
 have HB := am (Below.refl w.heap.size w)
 have H : ((laws_eqFuncS.f k l0_0 l1_0).bind fun t535 => (if t535 = true then (some true) else (some false))) = some r := h
 clear h
 refine be H ?_; clear H; intro t535 A3 H
 have HC4 := am H
 clear H
 go_enter Try.func10, Try.ntmps10
 go_upto_if 10 with (first | ((with_reducible refine gd 2 rfl ?_); refine bX 2 #[.slice A0_0 l0_0.length c0_0] 34 HB ?_; clear HB; intro gb533 w5 hg hb BK533 GW533 HB; clear hb hg) | ((with_reducible refine gd 3 rfl ?_); refine bX 3 #[.slice A1_0 l1_0.length c1_0] 34 HB ?_; clear HB; intro gb534 w6 hg hb BK534 GW534 HB; obtain ⟨NB533_534, NB534_533, BK533⟩ := b3 hg BK533 hb; clear hb hg; have hnb7 := NB533_534.out; have hnc7 := NB534_533.out; have hcz8 := bK w6 BK533; have hfz8 := bF BK533; have hcz9 := bK w6 BK534; have hfz9 := bF BK534) | ((with_reducible refine gk 24 rfl ?_); refine gB 24 (some 9) Try.func24 #[.slice A0_0 l0_0.length c0_0, .slice A1_0 l1_0.length c1_0] (laws_eqFuncS.calls k _ _ l0_0 _ _ l1_0 t535 _ (cc (Kd.C_below HR0_0.out HB.out)) HC0_0.out (cc (Kd.C_below HR1_0.out HB.out)) HC1_0.out A3.out) ?_; intro w10 hb; replace BK533 := bb BK533 hb; replace BK534 := bb BK534 hb; replace HB := bs HB hb; clear hb))
 (try simp only [Act.put, sa, sz, ss])
 have H := HC4.out
 clear HC4
 refine qT H ?_ ?_ <;> clear H <;> intro c11 H <;> subst c11
 ·obtain rfl := Option.some.inj H
  go_wp2
  go_ret
  exact ⟨er, bw HB⟩
 obtain rfl := Option.some.inj H
 go_wp2
 go_ret
 exact ⟨er, bw HB⟩

end Go.Proofs.Ytmfhmfhkknijeaa.QFnExactAsmRight
