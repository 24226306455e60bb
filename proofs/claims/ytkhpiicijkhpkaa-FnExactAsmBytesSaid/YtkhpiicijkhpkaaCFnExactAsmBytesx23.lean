import Derived.Test.YtkhpiicijkhpkaaCFnExactAsmBytesx0
namespace Go.Proofs.Ytkhpiicijkhpkaa.QFnExactAsmBytes
open Go.RowKit Go.Proofs.YtkhpiicijkhpkaaW
open PrintWords PrintLast PrintMore PrintShort PrintIsh
attribute [local go_sem] max2_int min2_int max_two min_two max_three min_three max_four min_four
set_option linter.unusedVariables false
set_option maxHeartbeats 8000000
set_option maxRecDepth 100000
set_option linter.unusedSimpArgs false

def laws_eqVal.f (a0_0 : Int) (a0_1 : Int) (a1_0 : Int) (a1_1 : Int) : Option (Bool) := if a0_0 = a1_0 then (if a0_1 = a1_1 then (some true) else (some false)) else (some false)
theorem laws_eqVal.calls (a0_0 : Int) (a0_1 : Int) (a1_0 : Int) (a1_1 : Int) (r : Bool) (w : World) (h : laws_eqVal.f a0_0 a0_1 a1_0 a1_1 = some r) :
  Calls Try.prog 136 #[.agg #[.int .i64 a0_0, .int .i64 a0_1], .agg #[.int .i64 a1_0, .int .i64 a1_1]] w fun e w' => e = .returned (.bool r) ∧ Below w.heap.size w w' := by
 have hu82 := Try.underlying82
 have HB := am (Below.refl w.heap.size w)
 have H : (if a0_0 = a1_0 then (if a0_1 = a1_1 then (some true) else (some false)) else (some false)) = some r := h
 clear h
 have HC3 := am H
 clear H
 go_enter Try.func136, Try.ntmps136
 go_upto_if 9 with (first | ((with_reducible refine gd 2 rfl ?_); refine bX 2 #[.int .i64 a0_0, .int .i64 a0_1] 82 HB ?_; clear HB; intro gb681 w4 hg hb BK681 GW681 HB; clear hb hg) | ((with_reducible refine gd 3 rfl ?_); refine bX 3 #[.int .i64 a1_0, .int .i64 a1_1] 82 HB ?_; clear HB; intro gb682 w5 hg hb BK682 GW682 HB; obtain ⟨NB681_682, NB682_681, BK681⟩ := b3 hg BK681 hb; clear hb hg; have hnb6 := NB681_682.out; have hnc6 := NB682_681.out; have hcz7 := bK w5 BK681; have hfz7 := bF BK681; have hcz8 := bK w5 BK682; have hfz8 := bF BK682))
 (try simp only [Act.put, sa, sz, ss])
 have H := HC3.out
 clear HC3
 refine qE H ?_ ?_ <;> clear H
 ·intro c9b0 c9b1 H
  (first | rw [c9b0] | (simp only [i64_w, i32_w]; rw [c9b0]) | skip)
  refine qE H ?_ ?_ <;> clear H
  ·intro c10b0 c10b1 H
   obtain rfl := oi H
   have hnb11 := NB681_682.out
   have hnc11 := NB682_681.out
   have hcz12 := bK w5 BK681
   have hfz12 := bF BK681
   have hcz13 := bK w5 BK682
   have hfz13 := bF BK682
   go_wp2
   go_ret
   exact ⟨er, bw HB⟩
  intro c10 c10b0 c10b1 H
  obtain rfl := oi H
  have hnb14 := NB681_682.out
  have hnc14 := NB682_681.out
  have hcz15 := bK w5 BK681
  have hfz15 := bF BK681
  have hcz16 := bK w5 BK682
  have hfz16 := bF BK682
  go_wp2
  go_ret
  exact ⟨er, bw HB⟩
 intro c9 c9b0 c9b1 H
 (first | rw [c9b0] | (simp only [i64_w, i32_w]; rw [c9b0]) | skip)
 obtain rfl := oi H
 go_wp2
 go_ret
 exact ⟨er, bw HB⟩

def laws_eqValS.l0 : Nat → List (S82) → List (S82) → Int → Option (Bool)
 | 0, _, _, _ => none
 | k + 1, x0, x1, x5 => if x5 < (x0.length : Int) then (if 0 ≤ x5 then (if x5 < (x1.length : Int) then ((laws_eqVal.f ((rd_T82 x0 x5).f0) ((rd_T82 x0 x5).f1) ((rd_T82 x1 x5).f0) ((rd_T82 x1 x5).f1)).bind fun t685 => (if t685 = true then (laws_eqValS.l0 k x0 x1 (wrap64 (x5 + 1))) else (some false))) else (none)) else (none)) else (some true)
def laws_eqValS.f (k : Nat) (l0 : List (S82)) (l1 : List (S82)) : Option (Bool) := if (l0.length : Int) = (l1.length : Int) then (laws_eqValS.l0 k l0 l1 0) else (some false)
def laws_eqValS.T6 : Bool × List (List Nat × List Nat) := (true, [([], []), ([], []), ([0, 1], [0, 1]), ([2], [2]), ([], []), ([], []), ([4, 5], [4, 5]), ([6], [6]), ([3, 7], [3, 7]), ([8], [8])])
def laws_eqValS.B6 : List Nat := [0, 0, 3, 7, 0, 0, 48, 112, 255, 511]
theorem laws_eqValS.tab6 : rtab .any (opsOf Try.f91 6) = laws_eqValS.T6 := by kernel_rfl
theorem laws_eqValS.bits6 : waitsOk laws_eqValS.T6.2 laws_eqValS.B6 = true := by kernel_rfl
theorem laws_eqValS.calls (k : Nat) (A0 : Option Addr) (c0 : Nat) (l0 : List (S82)) (A1 : Option Addr) (c1 : Nat) (l1 : List (S82)) (r : Bool) (w : World) (hr0 : Kd.C k82 w A0 l0.length l0) (hc0 : l0.length ≤ c0) (hr1 : Kd.C k82 w A1 l1.length l1) (hc1 : l1.length ≤ c1) (h : laws_eqValS.f k l0 l1 = some r) :
  Calls Try.prog 91 #[.slice A0 l0.length c0, .slice A1 l1.length c1] w fun e w' => e = .returned (.bool r) ∧ Below w.heap.size w w' := by
 have hu82 := Try.underlying82
 have HR0 := am hr0
 have HC0 := am hc0
 clear hr0 hc0
 have HR1 := am hr1
 have HC1 := am hc1
 clear hr1 hc1
 have HB := am (Below.refl w.heap.size w)
 have H : (if (l0.length : Int) = (l1.length : Int) then (laws_eqValS.l0 k l0 l1 0) else (some false)) = some r := h
 clear h
 by_cases c3 : (l0.length : Int) = (l1.length : Int)
 ·rw [if_pos c3] at H
  have c3b0 : ((l0.length : Int) == (l1.length : Int)) = true := beq_iff_eq.mpr c3
  have c3b1 : ((l0.length : Int) != (l1.length : Int)) = false := bne_eq_false_iff_eq.mpr c3
  have c3b2 : (l0.length == l1.length) = true := by first | simpa using c3 | (simp at c3 ⊢; omega)
  clear c3
  have H' := am H
  clear H
  go_enter Try.func91, Try.ntmps91
  go_wp2
  go_loopg [5] k (fun kq v5 w' => ∃ (x5_1 : Int), v5 = .int .i64 x5_1 ∧ Aside0 (laws_eqValS.l0 kq l0 l1 x5_1 = some r) ∧ Aside0 (kq ≤ k) ∧ Aside0 (Below w.heap.size w w'))
  case atStart => exact ⟨(0), dr, H', ⟨Nat.le_refl _⟩, ⟨bw HB⟩⟩
  clear H'
  obtain ⟨x5_1, rfl, HA, HK1, HB⟩ := hrel
  rcases gk with _ | k1
  ·exact absurd HA.out (by simp [laws_eqValS.l0])
  have H := HA.out
  clear HA
  simp only [laws_eqValS.l0] at H
  refine qI H ?_ ?_ <;> clear H <;> intro c4b0 H
  ·refine iM H ?_; clear H; intro c5b0 H
   refine iM H ?_; clear H; intro c6b0 H
   refine be H ?_; clear H; intro t685 A7 H
   have HC8 := am H
   clear H
   try go_wp2
   replace HB := am (below_drew1 HB.out)
   have p683 : 0 ≤ (x5_1 : Int) := dt
   have q683 : x5_1 < (l0.length : Int) := dt
   obtain ⟨ad683, e683, hx683_0, hx683_1⟩ := at_T82 HR0.out x5_1 p683 q683
   have hw683_1 := hx683_1
   have hw683_0 := hx683_0
   cases e683
   replace hx683_0 := cl HB hx683_0
   replace hx683_1 := cl HB hx683_1
   replace p683 := eq_true p683
   replace q683 := eq_true q683
   have p684 : 0 ≤ (x5_1 : Int) := dt
   have q684 : x5_1 < (l1.length : Int) := dt
   obtain ⟨ad684, e684, hx684_0, hx684_1⟩ := at_T82 HR1.out x5_1 p684 q684
   have hw684_1 := hx684_1
   have hw684_0 := hx684_0
   cases e684
   replace hx684_0 := cl HB hx684_0
   replace hx684_1 := cl HB hx684_1
   replace p684 := eq_true p684
   replace q684 := eq_true q684
   refine start_ (n := 10) (S := fun w' => w'.cell? (ad683.add ((x5_1).toNat * 2)) = some (.int .i64 ((rd_T82 l0 x5_1).f0)) ∧ w'.cell? ⟨(ad683.add ((x5_1).toNat * 2)).block, (ad683.add ((x5_1).toNat * 2)).off + 1, none⟩ = some (.int .i64 ((rd_T82 l0 x5_1).f1)) ∧ w'.cell? (ad684.add ((x5_1).toNat * 2)) = some (.int .i64 ((rd_T82 l1 x5_1).f0)) ∧ w'.cell? ⟨(ad684.add ((x5_1).toNat * 2)).block, (ad684.add ((x5_1).toNat * 2)).off + 1, none⟩ = some (.int .i64 ((rd_T82 l1 x5_1).f1))) (ds := []) (bv 10 0) (by kernel_rfl) rfl (by kernel_rfl) ⟨(cq HB hw683_0), (cq HB hw683_1), (cq HB hw684_0), (cq HB hw684_1)⟩ (fun hHeld => ?_); refine with_tabW laws_eqValS.tab6 laws_eqValS.bits6 (fun HT_ HW_ => ?_)
   generalize wr.drew = w9 at HB hx683_0 hx683_1 hx684_0 hx684_1 hHeld ⊢
   refine pu 0 17 10 1 HT_ ?_
   refine pu 1 18 10 3 HT_ ?_
   refine pu 2 19 10 7 HT_ ?_
   refine pu 4 21 10 23 HT_ ?_
   refine pu 5 22 10 55 HT_ ?_
   refine pu 6 23 10 119 HT_ ?_
   refine tk 3 20 10 127 HT_ HW_ hHeld ?_
   refine tk 7 24 10 255 HT_ HW_ hHeld ?_
   refine on 8 (some 25) 10 511 HT_ fun K hK => ?_
   refine goes_ Try.func136 (by kernel_rfl) rfl #[.agg #[.int .i64 ((rd_T82 l0 x5_1).f0), .int .i64 ((rd_T82 l0 x5_1).f1)], .agg #[.int .i64 ((rd_T82 l1 x5_1).f0), .int .i64 ((rd_T82 l1 x5_1).f1)]] (by rfl) rfl rfl gl ?_
   with_reducible refine (laws_eqVal.calls ((rd_T82 l0 x5_1).f0) ((rd_T82 l0 x5_1).f1) ((rd_T82 l1 x5_1).f0) ((rd_T82 l1 x5_1).f1) t685 _ A7.out).mono ?_
   rintro e w10 ⟨rfl, hb⟩
   refine ⟨_, rfl, ?_⟩
   replace HB := am (below_step (bw HB) hb)
   clear hb
   refine hK.out _ _ ⟨(cq HB hw683_0), (cq HB hw683_1), (cq HB hw684_0), (cq HB hw684_1)⟩ (fun hHeld => ?_)
   clear hK K
   refine nm (some 25) ?_
   refine pu 9 26 10 1023 HT_ ?_
   refine done_ (done_of HT_.out (by kernel_rfl)) ?_
   go_upto_if 26 with (fail)
   (try simp only [Act.put, sa, sz, ss])
   have H := HC8.out
   clear HC8
   refine qT H ?_ ?_ <;> clear H <;> intro c11 H <;> subst c11
   ·have H' := am H
    clear H
    go_wp2
    go_roundg k1
    case measure => have := HK1.out; omega
    case rel => exact ⟨(wrap64 (x5_1 + 1)), dr, H', ⟨by have := HK1.out; omega⟩, ⟨bw HB⟩⟩
   obtain rfl := oi H
   go_wp2
   go_ret
   exact ⟨er, bw HB⟩
  obtain rfl := oi H
  go_wp2
  go_ret
  exact ⟨er, bw HB⟩
 rw [if_neg c3] at H
 have c3b0 : ((l0.length : Int) == (l1.length : Int)) = false := beq_eq_false_iff_ne.mpr c3
 have c3b1 : ((l0.length : Int) != (l1.length : Int)) = true := bne_iff_ne.mpr c3
 have c3b2 : (l0.length == l1.length) = false := by first | simpa using c3 | (simp at c3 ⊢; omega)
 obtain rfl := oi H
 go_enter Try.func91, Try.ntmps91
 go_wp2
 go_ret
 exact ⟨er, bw HB⟩

def laws_eqMov.f (a0_0 : Int) (a0_1 : Int) (a0_2 : Int) (a1_0 : Int) (a1_1 : Int) (a1_2 : Int) : Option (Bool) := if a0_0 = a1_0 then ((laws_eqVal.f a0_1 a0_2 a1_1 a1_2).bind fun t688 => (if t688 = true then (some true) else (some false))) else (some false)
theorem laws_eqMov.calls (a0_0 : Int) (a0_1 : Int) (a0_2 : Int) (a1_0 : Int) (a1_1 : Int) (a1_2 : Int) (r : Bool) (w : World) (h : laws_eqMov.f a0_0 a0_1 a0_2 a1_0 a1_1 a1_2 = some r) :
  Calls Try.prog 158 #[.agg #[.int .i64 a0_0, .int .i64 a0_1, .int .i64 a0_2], .agg #[.int .i64 a1_0, .int .i64 a1_1, .int .i64 a1_2]] w fun e w' => e = .returned (.bool r) ∧ Below w.heap.size w w' := by
 have hu84 := Try.underlying84
 have hu82 := Try.underlying82
 have HB := am (Below.refl w.heap.size w)
 have H : (if a0_0 = a1_0 then ((laws_eqVal.f a0_1 a0_2 a1_1 a1_2).bind fun t688 => (if t688 = true then (some true) else (some false))) else (some false)) = some r := h
 clear h
 have HC3 := am H
 clear H
 go_enter Try.func158, Try.ntmps158
 go_upto_if 9 with (first | ((with_reducible refine gd 2 rfl ?_); refine bX 2 #[.int .i64 a0_0, .int .i64 a0_1, .int .i64 a0_2] 84 HB ?_; clear HB; intro gb686 w4 hg hb BK686 GW686 HB; clear hb hg) | ((with_reducible refine gd 3 rfl ?_); refine bX 3 #[.int .i64 a1_0, .int .i64 a1_1, .int .i64 a1_2] 84 HB ?_; clear HB; intro gb687 w5 hg hb BK687 GW687 HB; obtain ⟨NB686_687, NB687_686, BK686⟩ := b3 hg BK686 hb; clear hb hg; have hnb6 := NB686_687.out; have hnc6 := NB687_686.out; have hcz7 := bK w5 BK686; have hfz7 := bF BK686; have hcz8 := bK w5 BK687; have hfz8 := bF BK687))
 (try simp only [Act.put, sa, sz, ss])
 have H := HC3.out
 clear HC3
 refine qE H ?_ ?_ <;> clear H
 ·intro c9b0 c9b1 H
  (first | rw [c9b0] | (simp only [i64_w, i32_w]; rw [c9b0]) | skip)
  refine be H ?_; clear H; intro t688 A10 H
  have HC11 := am H
  clear H
  have hnb12 := NB686_687.out
  have hnc12 := NB687_686.out
  have hcz13 := bK w5 BK686
  have hfz13 := bF BK686
  have hcz14 := bK w5 BK687
  have hfz14 := bF BK687
  go_upto_if 15 with (first | ((with_reducible refine gate_callee (f := 136) rfl ?_); refine goesL_ (some 14) rfl rfl Try.func136 (by kernel_rfl) rfl #[.agg #[.int .i64 a0_1, .int .i64 a0_2], .agg #[.int .i64 a1_1, .int .i64 a1_2]] rfl gl ?_; (with_reducible refine (laws_eqVal.calls a0_1 a0_2 a1_1 a1_2 t688 _ A10.out).mono ?_); rintro e w15 ⟨rfl, hb⟩; refine ⟨_, rfl, ?_⟩; replace BK686 := bb BK686 hb; replace BK687 := bb BK687 hb; replace HB := bs HB hb; clear hb))
  (try simp only [Act.put, sa, sz, ss])
  have H := HC11.out
  clear HC11
  refine qT H ?_ ?_ <;> clear H <;> intro c16 H <;> subst c16
  ·obtain rfl := oi H
   go_wp2
   go_ret
   exact ⟨er, bw HB⟩
  obtain rfl := oi H
  go_wp2
  go_ret
  exact ⟨er, bw HB⟩
 intro c9 c9b0 c9b1 H
 (first | rw [c9b0] | (simp only [i64_w, i32_w]; rw [c9b0]) | skip)
 obtain rfl := oi H
 go_wp2
 go_ret
 exact ⟨er, bw HB⟩

def laws_eqMovS.l0 : Nat → List (S84) → List (S84) → Int → Option (Bool)
 | 0, _, _, _ => none
 | k + 1, x0, x1, x5 => if x5 < (x0.length : Int) then (if 0 ≤ x5 then (if x5 < (x1.length : Int) then ((laws_eqMov.f ((rd_T84 x0 x5).f0) ((rd_T84 x0 x5).f1.f0) ((rd_T84 x0 x5).f1.f1) ((rd_T84 x1 x5).f0) ((rd_T84 x1 x5).f1.f0) ((rd_T84 x1 x5).f1.f1)).bind fun t691 => (if t691 = true then (laws_eqMovS.l0 k x0 x1 (wrap64 (x5 + 1))) else (some false))) else (none)) else (none)) else (some true)
def laws_eqMovS.f (k : Nat) (l0 : List (S84)) (l1 : List (S84)) : Option (Bool) := if (l0.length : Int) = (l1.length : Int) then (laws_eqMovS.l0 k l0 l1 0) else (some false)
def laws_eqMovS.T6 : Bool × List (List Nat × List Nat) := (true, [([], []), ([], []), ([0, 1], [0, 1]), ([2], [2]), ([], []), ([], []), ([4, 5], [4, 5]), ([6], [6]), ([3, 7], [3, 7]), ([8], [8])])
def laws_eqMovS.B6 : List Nat := [0, 0, 3, 7, 0, 0, 48, 112, 255, 511]
theorem laws_eqMovS.tab6 : rtab .any (opsOf Try.f135 6) = laws_eqMovS.T6 := by kernel_rfl
theorem laws_eqMovS.bits6 : waitsOk laws_eqMovS.T6.2 laws_eqMovS.B6 = true := by kernel_rfl
theorem laws_eqMovS.calls (k : Nat) (A0 : Option Addr) (c0 : Nat) (l0 : List (S84)) (A1 : Option Addr) (c1 : Nat) (l1 : List (S84)) (r : Bool) (w : World) (hr0 : Kd.C k84 w A0 l0.length l0) (hc0 : l0.length ≤ c0) (hr1 : Kd.C k84 w A1 l1.length l1) (hc1 : l1.length ≤ c1) (h : laws_eqMovS.f k l0 l1 = some r) :
  Calls Try.prog 135 #[.slice A0 l0.length c0, .slice A1 l1.length c1] w fun e w' => e = .returned (.bool r) ∧ Below w.heap.size w w' := by
 have hu84 := Try.underlying84
 have HR0 := am hr0
 have HC0 := am hc0
 clear hr0 hc0
 have HR1 := am hr1
 have HC1 := am hc1
 clear hr1 hc1
 have HB := am (Below.refl w.heap.size w)
 have H : (if (l0.length : Int) = (l1.length : Int) then (laws_eqMovS.l0 k l0 l1 0) else (some false)) = some r := h
 clear h
 by_cases c3 : (l0.length : Int) = (l1.length : Int)
 ·rw [if_pos c3] at H
  have c3b0 : ((l0.length : Int) == (l1.length : Int)) = true := beq_iff_eq.mpr c3
  have c3b1 : ((l0.length : Int) != (l1.length : Int)) = false := bne_eq_false_iff_eq.mpr c3
  have c3b2 : (l0.length == l1.length) = true := by first | simpa using c3 | (simp at c3 ⊢; omega)
  clear c3
  have H' := am H
  clear H
  go_enter Try.func135, Try.ntmps135
  go_wp2
  go_loopg [5] k (fun kq v5 w' => ∃ (x5_1 : Int), v5 = .int .i64 x5_1 ∧ Aside0 (laws_eqMovS.l0 kq l0 l1 x5_1 = some r) ∧ Aside0 (kq ≤ k) ∧ Aside0 (Below w.heap.size w w'))
  case atStart => exact ⟨(0), dr, H', ⟨Nat.le_refl _⟩, ⟨bw HB⟩⟩
  clear H'
  obtain ⟨x5_1, rfl, HA, HK1, HB⟩ := hrel
  rcases gk with _ | k1
  ·exact absurd HA.out (by simp [laws_eqMovS.l0])
  have H := HA.out
  clear HA
  simp only [laws_eqMovS.l0] at H
  refine qI H ?_ ?_ <;> clear H <;> intro c4b0 H
  ·refine iM H ?_; clear H; intro c5b0 H
   refine iM H ?_; clear H; intro c6b0 H
   refine be H ?_; clear H; intro t691 A7 H
   have HC8 := am H
   clear H
   try go_wp2
   replace HB := am (below_drew1 HB.out)
   have p689 : 0 ≤ (x5_1 : Int) := dt
   have q689 : x5_1 < (l0.length : Int) := dt
   obtain ⟨ad689, e689, hx689_0, hx689_1, hx689_2⟩ := at_T84 HR0.out x5_1 p689 q689
   have hw689_2 := hx689_2
   have hw689_1 := hx689_1
   have hw689_0 := hx689_0
   cases e689
   replace hx689_0 := cl HB hx689_0
   replace hx689_1 := cl HB hx689_1
   replace hx689_2 := cl HB hx689_2
   replace p689 := eq_true p689
   replace q689 := eq_true q689
   have p690 : 0 ≤ (x5_1 : Int) := dt
   have q690 : x5_1 < (l1.length : Int) := dt
   obtain ⟨ad690, e690, hx690_0, hx690_1, hx690_2⟩ := at_T84 HR1.out x5_1 p690 q690
   have hw690_2 := hx690_2
   have hw690_1 := hx690_1
   have hw690_0 := hx690_0
   cases e690
   replace hx690_0 := cl HB hx690_0
   replace hx690_1 := cl HB hx690_1
   replace hx690_2 := cl HB hx690_2
   replace p690 := eq_true p690
   replace q690 := eq_true q690
   refine start_ (n := 10) (S := fun w' => w'.cell? (ad689.add ((x5_1).toNat * 3)) = some (.int .i64 ((rd_T84 l0 x5_1).f0)) ∧ w'.cell? ⟨(ad689.add ((x5_1).toNat * 3)).block, (ad689.add ((x5_1).toNat * 3)).off + 1, none⟩ = some (.int .i64 ((rd_T84 l0 x5_1).f1.f0)) ∧ w'.cell? ⟨(ad689.add ((x5_1).toNat * 3)).block, (ad689.add ((x5_1).toNat * 3)).off + 2, none⟩ = some (.int .i64 ((rd_T84 l0 x5_1).f1.f1)) ∧ w'.cell? (ad690.add ((x5_1).toNat * 3)) = some (.int .i64 ((rd_T84 l1 x5_1).f0)) ∧ w'.cell? ⟨(ad690.add ((x5_1).toNat * 3)).block, (ad690.add ((x5_1).toNat * 3)).off + 1, none⟩ = some (.int .i64 ((rd_T84 l1 x5_1).f1.f0)) ∧ w'.cell? ⟨(ad690.add ((x5_1).toNat * 3)).block, (ad690.add ((x5_1).toNat * 3)).off + 2, none⟩ = some (.int .i64 ((rd_T84 l1 x5_1).f1.f1))) (ds := []) (bv 10 0) (by kernel_rfl) rfl (by kernel_rfl) ⟨(cq HB hw689_0), (cq HB hw689_1), (cq HB hw689_2), (cq HB hw690_0), (cq HB hw690_1), (cq HB hw690_2)⟩ (fun hHeld => ?_); refine with_tabW laws_eqMovS.tab6 laws_eqMovS.bits6 (fun HT_ HW_ => ?_)
   generalize wr.drew = w9 at HB hx689_0 hx689_1 hx689_2 hx690_0 hx690_1 hx690_2 hHeld ⊢
   refine pu 0 17 10 1 HT_ ?_
   refine pu 1 18 10 3 HT_ ?_
   refine pu 2 19 10 7 HT_ ?_
   refine pu 4 21 10 23 HT_ ?_
   refine pu 5 22 10 55 HT_ ?_
   refine pu 6 23 10 119 HT_ ?_
   refine tk 3 20 10 127 HT_ HW_ hHeld ?_
   refine tk 7 24 10 255 HT_ HW_ hHeld ?_
   refine on 8 (some 25) 10 511 HT_ fun K hK => ?_
   refine goes_ Try.func158 (by kernel_rfl) rfl #[.agg #[.int .i64 ((rd_T84 l0 x5_1).f0), .int .i64 ((rd_T84 l0 x5_1).f1.f0), .int .i64 ((rd_T84 l0 x5_1).f1.f1)], .agg #[.int .i64 ((rd_T84 l1 x5_1).f0), .int .i64 ((rd_T84 l1 x5_1).f1.f0), .int .i64 ((rd_T84 l1 x5_1).f1.f1)]] (by rfl) rfl rfl gl ?_
   with_reducible refine (laws_eqMov.calls ((rd_T84 l0 x5_1).f0) ((rd_T84 l0 x5_1).f1.f0) ((rd_T84 l0 x5_1).f1.f1) ((rd_T84 l1 x5_1).f0) ((rd_T84 l1 x5_1).f1.f0) ((rd_T84 l1 x5_1).f1.f1) t691 _ A7.out).mono ?_
   rintro e w10 ⟨rfl, hb⟩
   refine ⟨_, rfl, ?_⟩
   replace HB := am (below_step (bw HB) hb)
   clear hb
   refine hK.out _ _ ⟨(cq HB hw689_0), (cq HB hw689_1), (cq HB hw689_2), (cq HB hw690_0), (cq HB hw690_1), (cq HB hw690_2)⟩ (fun hHeld => ?_)
   clear hK K
   refine nm (some 25) ?_
   refine pu 9 26 10 1023 HT_ ?_
   refine done_ (done_of HT_.out (by kernel_rfl)) ?_
   go_upto_if 26 with (fail)
   (try simp only [Act.put, sa, sz, ss])
   have H := HC8.out
   clear HC8
   refine qT H ?_ ?_ <;> clear H <;> intro c11 H <;> subst c11
   ·have H' := am H
    clear H
    go_wp2
    go_roundg k1
    case measure => have := HK1.out; omega
    case rel => exact ⟨(wrap64 (x5_1 + 1)), dr, H', ⟨by have := HK1.out; omega⟩, ⟨bw HB⟩⟩
   obtain rfl := oi H
   go_wp2
   go_ret
   exact ⟨er, bw HB⟩
  obtain rfl := oi H
  go_wp2
  go_ret
  exact ⟨er, bw HB⟩
 rw [if_neg c3] at H
 have c3b0 : ((l0.length : Int) == (l1.length : Int)) = false := beq_eq_false_iff_ne.mpr c3
 have c3b1 : ((l0.length : Int) != (l1.length : Int)) = true := bne_iff_ne.mpr c3
 have c3b2 : (l0.length == l1.length) = false := by first | simpa using c3 | (simp at c3 ⊢; omega)
 obtain rfl := oi H
 go_enter Try.func135, Try.ntmps135
 go_wp2
 go_ret
 exact ⟨er, bw HB⟩

end Go.Proofs.Ytkhpiicijkhpkaa.QFnExactAsmBytes
