import Derived.Test.YticdldoijkdffaaCFnExactMixToldx0
namespace Go.Proofs.Yticdldoijkdffaa.QFnExactMixTold
open Go.RowKit Go.Proofs.YticdldoijkdffaaW
open PrintWords PrintLast PrintMore PrintShort PrintIsh
attribute [local go_sem] max2_int min2_int max_two min_two max_three min_three max_four min_four   -- for this text's walks alone
set_option linter.unusedVariables false
set_option maxHeartbeats 8000000
set_option maxRecDepth 100000
set_option linter.unusedSimpArgs false

def laws_eqInt64S.l0 : Nat → List Int → List Int → Int → Option (Bool)
 | 0, _, _, _ => none
 | k + 1, x0, x1, x5 => if x5 < (x0.length : Int) then (if 0 ≤ x5 then (if x5 < (x1.length : Int) then (if (rd x0 x5) = (rd x1 x5) then (laws_eqInt64S.l0 k x0 x1 (wrap64 (x5 + 1))) else (some false)) else (none)) else (none)) else (some true)
def laws_eqInt64S.f (k : Nat) (l0 : List Int) (l1 : List Int) : Option (Bool) := if (l0.length : Int) = (l1.length : Int) then (laws_eqInt64S.l0 k l0 l1 0) else (some false)
theorem laws_eqInt64S.mono_l : ∀ k, (∀ y0 y1 y2, LeO (laws_eqInt64S.l0 k y0 y1 y2) (laws_eqInt64S.l0 (k + 1) y0 y1 y2))
 | 0 => fun _ _ _ r h => by simp [laws_eqInt64S.l0] at h
 | k + 1 => by
  have ih0 := laws_eqInt64S.mono_l k
  ·intro y0 y1 y2
   unfold laws_eqInt64S.l0
   with_reducible repeat' first | exact ih0 .. | exact LeO.refl _ | exact LeO.none _ | refine LeO.ite ?_ ?_ | refine LeO.bind ?_ (fun _ => ?_)
theorem laws_eqInt64S.mono : ∀ a0 a1 k, LeO (laws_eqInt64S.f k a0 a1) (laws_eqInt64S.f (k + 1) a0 a1) := by
 intro a0 a1 k
 have ih0 := laws_eqInt64S.mono_l k
 unfold laws_eqInt64S.f
 with_reducible repeat' first | exact ih0 .. | exact LeO.refl _ | exact LeO.none _ | refine LeO.ite ?_ ?_ | refine LeO.bind ?_ (fun _ => ?_)
theorem laws_eqInt64S.calls (k : Nat) (A0 : Option Addr) (c0 : Nat) (l0 : List Int) (A1 : Option Addr) (c1 : Nat) (l1 : List Int) (r : Bool) (w : World) (hr0 : Kd.C (Kd.int .i64) w A0 l0.length l0) (hc0 : l0.length ≤ c0) (hr1 : Kd.C (Kd.int .i64) w A1 l1.length l1) (hc1 : l1.length ≤ c1) (h : laws_eqInt64S.f k l0 l1 = some r) :
  Calls Try.prog 25 #[.slice A0 l0.length c0, .slice A1 l1.length c1] w fun e w' => e = .returned (.bool r) ∧ Drawn0 w w' := by
 have HR0 := am hr0
 have HC0 := am hc0
 clear hr0 hc0
 have HR1 := am hr1
 have HC1 := am hc1
 clear hr1 hc1
 have H : (if (l0.length : Int) = (l1.length : Int) then (laws_eqInt64S.l0 k l0 l1 0) else (some false)) = some r := h
 clear h
 by_cases c3 : (l0.length : Int) = (l1.length : Int)
 ·rw [if_pos c3] at H
  have c3b0 : ((l0.length : Int) == (l1.length : Int)) = true := beq_iff_eq.mpr c3
  have c3b1 : ((l0.length : Int) != (l1.length : Int)) = false := bne_eq_false_iff_eq.mpr c3
  have c3b2 : (l0.length == l1.length) = true := by first | simpa using c3 | (simp at c3 ⊢; omega)
  clear c3
  have H' := am H
  clear H
  go_enter Try.func25, Try.ntmps25
  go_wp2
  repeat (go_quiet (fail); try go_wp2)
  go_loopg [5] k (fun kq v5 w' => ∃ (x5_1 : Int), v5 = .int .i64 x5_1 ∧ Aside0 (laws_eqInt64S.l0 kq l0 l1 x5_1 = some r) ∧ Aside0 (kq ≤ k) ∧ Drawn0 w w')
  case atStart => exact ⟨(0), dr, H', ⟨Nat.le_refl _⟩, by repeat (first | exact Drawn0.refl _ | apply Drawn0.step)⟩
  clear H'
  (try clear c1); (try clear c2); (try clear p2); (try clear c3); (try clear c3b0); (try clear c3b1); (try clear c3b2)
  obtain ⟨x5_1, rfl, HA, HK1, ⟨m1, rfl⟩⟩ := hrel
  rcases gk with _ | k1
  ·exact absurd HA.out (by simp [laws_eqInt64S.l0])
  have H := HA.out
  clear HA
  simp only [laws_eqInt64S.l0] at H
  refine qI H ?_ ?_ <;> clear H <;> intro c4b0 H
  ·refine iM H ?_; clear H; intro c5b0 H
   refine iM H ?_; clear H; intro c6b0 H
   refine qE H ?_ ?_ <;> clear H
   ·intro c7b0 c7b1 H
    have H' := am H
    clear H
    have p311 : 0 ≤ (x5_1 : Int) := of_decide_eq_true as1
    have q311 : x5_1 < (l0.length : Int) := of_decide_eq_true as1
    obtain ⟨ad311, e311, hx311_0⟩ := Kd.at_int HR0.out x5_1 p311 q311
    cases e311
    replace p311 := eq_true p311
    replace q311 := eq_true q311
    have p312 : 0 ≤ (x5_1 : Int) := of_decide_eq_true as1
    have q312 : x5_1 < (l1.length : Int) := of_decide_eq_true as1
    obtain ⟨ad312, e312, hx312_0⟩ := Kd.at_int HR1.out x5_1 p312 q312
    cases e312
    replace p312 := eq_true p312
    replace q312 := eq_true q312
    go_wp2
    repeat (go_quiet (fail); try go_wp2)
    go_roundg k1
    case measure => have := HK1.out; omega
    case rel => exact ⟨(wrap64 (x5_1 + 1)), dr, H', ⟨by have := HK1.out; omega⟩, by repeat (first | exact Drawn0.refl _ | apply Drawn0.step)⟩
   intro c7 c7b0 c7b1 H
   obtain rfl := Option.some.inj H
   have p311 : 0 ≤ (x5_1 : Int) := of_decide_eq_true as1
   have q311 : x5_1 < (l0.length : Int) := of_decide_eq_true as1
   obtain ⟨ad311, e311, hx311_0⟩ := Kd.at_int HR0.out x5_1 p311 q311
   cases e311
   replace p311 := eq_true p311
   replace q311 := eq_true q311
   have p312 : 0 ≤ (x5_1 : Int) := of_decide_eq_true as1
   have q312 : x5_1 < (l1.length : Int) := of_decide_eq_true as1
   obtain ⟨ad312, e312, hx312_0⟩ := Kd.at_int HR1.out x5_1 p312 q312
   cases e312
   replace p312 := eq_true p312
   replace q312 := eq_true q312
   go_wp2
   repeat (go_quiet (fail); try go_wp2)
   go_ret
   exact ⟨by first | rfl | (simp; done) | (simp [*]; done), by repeat (first | exact Drawn0.refl _ | apply Drawn0.step)⟩
  obtain rfl := Option.some.inj H
  go_wp2
  repeat (go_quiet (fail); try go_wp2)
  go_ret
  exact ⟨by first | rfl | (simp; done) | (simp [*]; done), by repeat (first | exact Drawn0.refl _ | apply Drawn0.step)⟩
 rw [if_neg c3] at H
 have c3b0 : ((l0.length : Int) == (l1.length : Int)) = false := beq_eq_false_iff_ne.mpr c3
 have c3b1 : ((l0.length : Int) != (l1.length : Int)) = true := bne_iff_ne.mpr c3
 have c3b2 : (l0.length == l1.length) = false := by first | simpa using c3 | (simp at c3 ⊢; omega)
 obtain rfl := Option.some.inj H
 go_enter Try.func25, Try.ntmps25
 go_wp2
 repeat (go_quiet (fail); try go_wp2)
 go_ret
 exact ⟨by first | rfl | (simp; done) | (simp [*]; done), by repeat (first | exact Drawn0.refl _ | apply Drawn0.step)⟩

def laws_eqFrame.f (k : Nat) (a0_0 : Int) (a0_1 : Int) (l0_2 : List Int) (l0_3 : List Int) (a1_0 : Int) (a1_1 : Int) (l1_2 : List Int) (l1_3 : List Int) : Option (Bool) := if a0_0 = a1_0 then (if a0_1 = a1_1 then ((laws_eqInt64S.f k l0_2 l1_2).bind fun t315 => (if t315 = true then ((laws_eqInt64S.f k l0_3 l1_3).bind fun t316 => (if t316 = true then (some true) else (some false))) else (some false))) else (some false)) else (some false)
theorem laws_eqFrame.mono : ∀ a0 a1 a2 a3 a4 a5 a6 a7 k, LeO (laws_eqFrame.f k a0 a1 a2 a3 a4 a5 a6 a7) (laws_eqFrame.f (k + 1) a0 a1 a2 a3 a4 a5 a6 a7) := by
 intro a0 a1 a2 a3 a4 a5 a6 a7 k
 unfold laws_eqFrame.f
 with_reducible repeat' first | exact laws_eqInt64S.mono .. | exact LeO.refl _ | exact LeO.none _ | refine LeO.ite ?_ ?_ | refine LeO.bind ?_ (fun _ => ?_)
theorem laws_eqFrame.calls (k : Nat) (a0_0 : Int) (a0_1 : Int) (A0_2 : Option Addr) (c0_2 : Nat) (l0_2 : List Int) (A0_3 : Option Addr) (c0_3 : Nat) (l0_3 : List Int) (a1_0 : Int) (a1_1 : Int) (A1_2 : Option Addr) (c1_2 : Nat) (l1_2 : List Int) (A1_3 : Option Addr) (c1_3 : Nat) (l1_3 : List Int) (r : Bool) (w : World) (hr0_2 : Kd.C (Kd.int .i64) w A0_2 l0_2.length l0_2) (hc0_2 : l0_2.length ≤ c0_2) (hr0_3 : Kd.C (Kd.int .i64) w A0_3 l0_3.length l0_3) (hc0_3 : l0_3.length ≤ c0_3) (hr1_2 : Kd.C (Kd.int .i64) w A1_2 l1_2.length l1_2) (hc1_2 : l1_2.length ≤ c1_2) (hr1_3 : Kd.C (Kd.int .i64) w A1_3 l1_3.length l1_3) (hc1_3 : l1_3.length ≤ c1_3) (h : laws_eqFrame.f k a0_0 a0_1 l0_2 l0_3 a1_0 a1_1 l1_2 l1_3 = some r) :
  Calls Try.prog 42 #[.agg #[.int .i64 a0_0, .int .i64 a0_1, .slice A0_2 l0_2.length c0_2, .slice A0_3 l0_3.length c0_3], .agg #[.int .i64 a1_0, .int .i64 a1_1, .slice A1_2 l1_2.length c1_2, .slice A1_3 l1_3.length c1_3]] w fun e w' => e = .returned (.bool r) ∧ Below w.heap.size w w' := by
 have hu79 := Try.underlying79
 have HR0_2 := am hr0_2
 have HC0_2 := am hc0_2
 clear hr0_2 hc0_2
 have HR0_3 := am hr0_3
 have HC0_3 := am hc0_3
 clear hr0_3 hc0_3
 have HR1_2 := am hr1_2
 have HC1_2 := am hc1_2
 clear hr1_2 hc1_2
 have HR1_3 := am hr1_3
 have HC1_3 := am hc1_3
 clear hr1_3 hc1_3
 have HB := am (Below.refl w.heap.size w)
 have H : (if a0_0 = a1_0 then (if a0_1 = a1_1 then ((laws_eqInt64S.f k l0_2 l1_2).bind fun t315 => (if t315 = true then ((laws_eqInt64S.f k l0_3 l1_3).bind fun t316 => (if t316 = true then (some true) else (some false))) else (some false))) else (some false)) else (some false)) = some r := h
 clear h
 have HC3 := am H
 clear H
 go_enter Try.func42, Try.ntmps42
 go_upto_if 9 with (first | ((with_reducible refine gd 2 rfl ?_); refine bX 2 #[.int .i64 a0_0, .int .i64 a0_1, .slice A0_2 l0_2.length c0_2, .slice A0_3 l0_3.length c0_3] 79 HB ?_; clear HB; intro gb313 w4 hg hb BK313 GW313 HB; clear hb hg) | ((with_reducible refine gd 3 rfl ?_); refine bX 3 #[.int .i64 a1_0, .int .i64 a1_1, .slice A1_2 l1_2.length c1_2, .slice A1_3 l1_3.length c1_3] 79 HB ?_; clear HB; intro gb314 w5 hg hb BK314 GW314 HB; obtain ⟨NB313_314, NB314_313, BK313⟩ := b3 hg BK313 hb; clear hb hg; have hnb6 := NB313_314.out; have hnc6 := NB314_313.out; have hcz7 := bK w5 BK313; have hfz7 := bF BK313; have hcz8 := bK w5 BK314; have hfz8 := bF BK314))
 (try simp only [Act.put, sa, sz, ss])
 have H := HC3.out
 clear HC3
 refine qE H ?_ ?_ <;> clear H
 ·intro c9b0 c9b1 H
  (first | rw [c9b0] | (simp only [i64_w, i32_w]; rw [c9b0]) | skip)
  refine qE H ?_ ?_ <;> clear H
  ·intro c10b0 c10b1 H
   refine be H ?_; clear H; intro t315 A11 H
   have HC12 := am H
   clear H
   have hnb13 := NB313_314.out
   have hnc13 := NB314_313.out
   have hcz14 := bK w5 BK313
   have hfz14 := bF BK313
   have hcz15 := bK w5 BK314
   have hfz15 := bF BK314
   go_upto_if 20 with (first | ((with_reducible refine gk 25 rfl ?_); refine gD 25 (some 19) Try.func25 #[.slice A0_2 l0_2.length c0_2, .slice A1_2 l1_2.length c1_2] (laws_eqInt64S.calls k _ _ l0_2 _ _ l1_2 t315 _ (cc (Kd.C_below HR0_2.out HB.out)) HC0_2.out (cc (Kd.C_below HR1_2.out HB.out)) HC1_2.out A11.out) ?_; intro nd))
   (try simp only [Act.put, sa, sz, ss])
   (try simp only [World.drewN_drewN])
   generalize hq_ : World.drewN w5 _ = w16
   replace BK313 : Aside0 (w16.heap[gb313]? = some (.cells #[.int .i64 a0_0, .int .i64 a0_1, .slice A0_2 l0_2.length c0_2, .slice A0_3 l0_3.length c0_3] 79 (0, 0))) := ⟨by rw [← hq_]; exact (bp BK313)⟩
   replace BK314 : Aside0 (w16.heap[gb314]? = some (.cells #[.int .i64 a1_0, .int .i64 a1_1, .slice A1_2 l1_2.length c1_2, .slice A1_3 l1_3.length c1_3] 79 (0, 0))) := ⟨by rw [← hq_]; exact (bp BK314)⟩
   replace HB : Aside0 (Below w.heap.size w w16) := ⟨by rw [← hq_]; exact (bw HB)⟩
   clear hq_
   have H := HC12.out
   clear HC12
   refine qT H ?_ ?_ <;> clear H <;> intro c17 H <;> subst c17
   ·refine be H ?_; clear H; intro t316 A18 H
    have HC19 := am H
    clear H
    have hnb20 := NB313_314.out
    have hnc20 := NB314_313.out
    have hcz21 := bK w16 BK313
    have hfz21 := bF BK313
    have hcz22 := bK w16 BK314
    have hfz22 := bF BK314
    go_upto_if 26 with (first | ((with_reducible refine gk 25 rfl ?_); refine gD 25 (some 25) Try.func25 #[.slice A0_3 l0_3.length c0_3, .slice A1_3 l1_3.length c1_3] (laws_eqInt64S.calls k _ _ l0_3 _ _ l1_3 t316 _ (cc (Kd.C_below HR0_3.out HB.out)) HC0_3.out (cc (Kd.C_below HR1_3.out HB.out)) HC1_3.out A18.out) ?_; intro nd))
    (try simp only [Act.put, sa, sz, ss])
    (try simp only [World.drewN_drewN])
    generalize hq_ : World.drewN w16 _ = w23
    replace BK313 : Aside0 (w23.heap[gb313]? = some (.cells #[.int .i64 a0_0, .int .i64 a0_1, .slice A0_2 l0_2.length c0_2, .slice A0_3 l0_3.length c0_3] 79 (0, 0))) := ⟨by rw [← hq_]; exact (bp BK313)⟩
    replace BK314 : Aside0 (w23.heap[gb314]? = some (.cells #[.int .i64 a1_0, .int .i64 a1_1, .slice A1_2 l1_2.length c1_2, .slice A1_3 l1_3.length c1_3] 79 (0, 0))) := ⟨by rw [← hq_]; exact (bp BK314)⟩
    replace HB : Aside0 (Below w.heap.size w w23) := ⟨by rw [← hq_]; exact (bw HB)⟩
    clear hq_
    have H := HC19.out
    clear HC19
    refine qT H ?_ ?_ <;> clear H <;> intro c24 H <;> subst c24
    ·obtain rfl := Option.some.inj H
     go_wp2
     go_ret
     exact ⟨er, bw HB⟩
    obtain rfl := Option.some.inj H
    go_wp2
    go_ret
    exact ⟨er, bw HB⟩
   obtain rfl := Option.some.inj H
   go_wp2
   go_ret
   exact ⟨er, bw HB⟩
  intro c10 c10b0 c10b1 H
  obtain rfl := Option.some.inj H
  have hnb25 := NB313_314.out
  have hnc25 := NB314_313.out
  have hcz26 := bK w5 BK313
  have hfz26 := bF BK313
  have hcz27 := bK w5 BK314
  have hfz27 := bF BK314
  go_wp2
  go_ret
  exact ⟨er, bw HB⟩
 intro c9 c9b0 c9b1 H
 (first | rw [c9b0] | (simp only [i64_w, i32_w]; rw [c9b0]) | skip)
 obtain rfl := Option.some.inj H
 go_wp2
 go_ret
 exact ⟨er, bw HB⟩

def laws_eqFrameS.l0 : Nat → List (S79) → List (S79) → Int → Option (Bool)
 | 0, _, _, _ => none
 | k + 1, x0, x1, x5 => if x5 < (x0.length : Int) then (if 0 ≤ x5 then (if x5 < (x1.length : Int) then ((laws_eqFrame.f k ((rd_T79 x0 x5).f0) ((rd_T79 x0 x5).f1) ((rd_T79 x0 x5).f2) ((rd_T79 x0 x5).f3) ((rd_T79 x1 x5).f0) ((rd_T79 x1 x5).f1) ((rd_T79 x1 x5).f2) ((rd_T79 x1 x5).f3)).bind fun t319 => (if t319 = true then (laws_eqFrameS.l0 k x0 x1 (wrap64 (x5 + 1))) else (some false))) else (none)) else (none)) else (some true)
def laws_eqFrameS.f (k : Nat) (l0 : List (S79)) (l1 : List (S79)) : Option (Bool) := if (l0.length : Int) = (l1.length : Int) then (laws_eqFrameS.l0 k l0 l1 0) else (some false)
theorem laws_eqFrameS.mono_l : ∀ k, (∀ y0 y1 y2, LeO (laws_eqFrameS.l0 k y0 y1 y2) (laws_eqFrameS.l0 (k + 1) y0 y1 y2))
 | 0 => fun _ _ _ r h => by simp [laws_eqFrameS.l0] at h
 | k + 1 => by
  have ih0 := laws_eqFrameS.mono_l k
  ·intro y0 y1 y2
   unfold laws_eqFrameS.l0
   with_reducible repeat' first | exact ih0 .. | exact laws_eqFrame.mono .. | exact LeO.refl _ | exact LeO.none _ | refine LeO.ite ?_ ?_ | refine LeO.bind ?_ (fun _ => ?_)
theorem laws_eqFrameS.mono : ∀ a0 a1 k, LeO (laws_eqFrameS.f k a0 a1) (laws_eqFrameS.f (k + 1) a0 a1) := by
 intro a0 a1 k
 have ih0 := laws_eqFrameS.mono_l k
 unfold laws_eqFrameS.f
 with_reducible repeat' first | exact ih0 .. | exact laws_eqFrame.mono .. | exact LeO.refl _ | exact LeO.none _ | refine LeO.ite ?_ ?_ | refine LeO.bind ?_ (fun _ => ?_)
def laws_eqFrameS.T6 : Bool × List (List Nat × List Nat) := (true, [([], []), ([], []), ([0, 1], [0, 1]), ([2], [2]), ([], []), ([], []), ([4, 5], [4, 5]), ([6], [6]), ([3, 7], [3, 7]), ([8], [8])])
def laws_eqFrameS.B6 : List Nat := [0, 0, 3, 7, 0, 0, 48, 112, 255, 511]
theorem laws_eqFrameS.tab6 : rtab .any (opsOf Try.f23 6) = laws_eqFrameS.T6 := by kernel_rfl
theorem laws_eqFrameS.bits6 : waitsOk laws_eqFrameS.T6.2 laws_eqFrameS.B6 = true := by kernel_rfl
theorem laws_eqFrameS.calls (k : Nat) (A0 : Option Addr) (c0 : Nat) (l0 : List (S79)) (A1 : Option Addr) (c1 : Nat) (l1 : List (S79)) (r : Bool) (w : World) (hr0 : Kd.C k79 w A0 l0.length l0) (hc0 : l0.length ≤ c0) (hr1 : Kd.C k79 w A1 l1.length l1) (hc1 : l1.length ≤ c1) (h : laws_eqFrameS.f k l0 l1 = some r) :
  Calls Try.prog 23 #[.slice A0 l0.length c0, .slice A1 l1.length c1] w fun e w' => e = .returned (.bool r) ∧ Below w.heap.size w w' := by
 have hu79 := Try.underlying79
 have HR0 := am hr0
 have HC0 := am hc0
 clear hr0 hc0
 have HR1 := am hr1
 have HC1 := am hc1
 clear hr1 hc1
 have HB := am (Below.refl w.heap.size w)
 have H : (if (l0.length : Int) = (l1.length : Int) then (laws_eqFrameS.l0 k l0 l1 0) else (some false)) = some r := h
 clear h
 by_cases c3 : (l0.length : Int) = (l1.length : Int)
 ·rw [if_pos c3] at H
  have c3b0 : ((l0.length : Int) == (l1.length : Int)) = true := beq_iff_eq.mpr c3
  have c3b1 : ((l0.length : Int) != (l1.length : Int)) = false := bne_eq_false_iff_eq.mpr c3
  have c3b2 : (l0.length == l1.length) = true := by first | simpa using c3 | (simp at c3 ⊢; omega)
  clear c3
  have H' := am H
  clear H
  go_enter Try.func23, Try.ntmps23
  go_wp2
  go_loopg [5] k (fun kq v5 w' => ∃ (x5_1 : Int), v5 = .int .i64 x5_1 ∧ Aside0 (laws_eqFrameS.l0 kq l0 l1 x5_1 = some r) ∧ Aside0 (kq ≤ k) ∧ Aside0 (Below w.heap.size w w'))
  case atStart => exact ⟨(0), dr, H', ⟨Nat.le_refl _⟩, ⟨bw HB⟩⟩
  clear H'
  (try clear c1); (try clear c2); (try clear p2); (try clear c3); (try clear c3b0); (try clear c3b1); (try clear c3b2)
  obtain ⟨x5_1, rfl, HA, HK1, HB⟩ := hrel
  rcases gk with _ | k1
  ·exact absurd HA.out (by simp [laws_eqFrameS.l0])
  have H := HA.out
  clear HA
  simp only [laws_eqFrameS.l0] at H
  refine qI H ?_ ?_ <;> clear H <;> intro c4b0 H
  ·refine iM H ?_; clear H; intro c5b0 H
   refine iM H ?_; clear H; intro c6b0 H
   refine be H ?_; clear H; intro t319 A7 H
   have HC8 := am H
   clear H
   try go_wp2
   replace HB := am (below_drew1 HB.out)
   have p317 : 0 ≤ (x5_1 : Int) := of_decide_eq_true as1
   have q317 : x5_1 < (l0.length : Int) := of_decide_eq_true as1
   obtain ⟨ad317, A317_2, c317_2, A317_3, c317_3, e317, hx317_0, hx317_1, hx317_2, hx317_3, hl317_2, hi317_2, hl317_3, hi317_3⟩ := at_T79 HR0.out x5_1 p317 q317
   have hw317_3 := hx317_3
   have hw317_2 := hx317_2
   have hw317_1 := hx317_1
   have hw317_0 := hx317_0
   cases e317
   replace hx317_0 := cl HB hx317_0
   replace hx317_1 := cl HB hx317_1
   replace hx317_2 := cl HB hx317_2
   replace hx317_3 := cl HB hx317_3
   have HR317_2 := am hi317_2
   have HC317_2 := am hl317_2
   clear hi317_2 hl317_2
   have HR317_3 := am hi317_3
   have HC317_3 := am hl317_3
   clear hi317_3 hl317_3
   replace p317 := eq_true p317
   replace q317 := eq_true q317
   have p318 : 0 ≤ (x5_1 : Int) := of_decide_eq_true as1
   have q318 : x5_1 < (l1.length : Int) := of_decide_eq_true as1
   obtain ⟨ad318, A318_2, c318_2, A318_3, c318_3, e318, hx318_0, hx318_1, hx318_2, hx318_3, hl318_2, hi318_2, hl318_3, hi318_3⟩ := at_T79 HR1.out x5_1 p318 q318
   have hw318_3 := hx318_3
   have hw318_2 := hx318_2
   have hw318_1 := hx318_1
   have hw318_0 := hx318_0
   cases e318
   replace hx318_0 := cl HB hx318_0
   replace hx318_1 := cl HB hx318_1
   replace hx318_2 := cl HB hx318_2
   replace hx318_3 := cl HB hx318_3
   have HR318_2 := am hi318_2
   have HC318_2 := am hl318_2
   clear hi318_2 hl318_2
   have HR318_3 := am hi318_3
   have HC318_3 := am hl318_3
   clear hi318_3 hl318_3
   replace p318 := eq_true p318
   replace q318 := eq_true q318
   refine start_ (n := 10) (S := fun w' => w'.cell? (ad317.add ((x5_1).toNat * 4)) = some (.int .i64 ((rd_T79 l0 x5_1).f0)) ∧ w'.cell? ⟨(ad317.add ((x5_1).toNat * 4)).block, (ad317.add ((x5_1).toNat * 4)).off + 1, none⟩ = some (.int .i64 ((rd_T79 l0 x5_1).f1)) ∧ w'.cell? ⟨(ad317.add ((x5_1).toNat * 4)).block, (ad317.add ((x5_1).toNat * 4)).off + 2, none⟩ = some (.slice A317_2 ((rd_T79 l0 x5_1).f2).length c317_2) ∧ w'.cell? ⟨(ad317.add ((x5_1).toNat * 4)).block, (ad317.add ((x5_1).toNat * 4)).off + 3, none⟩ = some (.slice A317_3 ((rd_T79 l0 x5_1).f3).length c317_3) ∧ w'.cell? (ad318.add ((x5_1).toNat * 4)) = some (.int .i64 ((rd_T79 l1 x5_1).f0)) ∧ w'.cell? ⟨(ad318.add ((x5_1).toNat * 4)).block, (ad318.add ((x5_1).toNat * 4)).off + 1, none⟩ = some (.int .i64 ((rd_T79 l1 x5_1).f1)) ∧ w'.cell? ⟨(ad318.add ((x5_1).toNat * 4)).block, (ad318.add ((x5_1).toNat * 4)).off + 2, none⟩ = some (.slice A318_2 ((rd_T79 l1 x5_1).f2).length c318_2) ∧ w'.cell? ⟨(ad318.add ((x5_1).toNat * 4)).block, (ad318.add ((x5_1).toNat * 4)).off + 3, none⟩ = some (.slice A318_3 ((rd_T79 l1 x5_1).f3).length c318_3)) (ds := []) (bv 10 0) (by kernel_rfl) rfl (by kernel_rfl) ⟨(cq HB hw317_0), (cq HB hw317_1), (cq HB hw317_2), (cq HB hw317_3), (cq HB hw318_0), (cq HB hw318_1), (cq HB hw318_2), (cq HB hw318_3)⟩ (fun hHeld => ?_); refine with_tabW laws_eqFrameS.tab6 laws_eqFrameS.bits6 (fun HT_ HW_ => ?_)
   generalize wr.drew = w9 at HB HR317_2 HR317_3 HR318_2 HR318_3 hx317_0 hx317_1 hx317_2 hx317_3 hx318_0 hx318_1 hx318_2 hx318_3 hHeld ⊢
   refine pu 0 17 10 1 HT_ ?_
   refine pu 1 18 10 3 HT_ ?_
   refine pu 2 19 10 7 HT_ ?_
   refine pu 4 21 10 23 HT_ ?_
   refine pu 5 22 10 55 HT_ ?_
   refine pu 6 23 10 119 HT_ ?_
   refine tk 3 20 10 127 HT_ HW_ hHeld ?_
   refine tk 7 24 10 255 HT_ HW_ hHeld ?_
   refine on 8 (some 25) 10 511 HT_ fun K hK => ?_
   refine goes_ Try.func42 (by kernel_rfl) rfl #[.agg #[.int .i64 ((rd_T79 l0 x5_1).f0), .int .i64 ((rd_T79 l0 x5_1).f1), .slice A317_2 ((rd_T79 l0 x5_1).f2).length c317_2, .slice A317_3 ((rd_T79 l0 x5_1).f3).length c317_3], .agg #[.int .i64 ((rd_T79 l1 x5_1).f0), .int .i64 ((rd_T79 l1 x5_1).f1), .slice A318_2 ((rd_T79 l1 x5_1).f2).length c318_2, .slice A318_3 ((rd_T79 l1 x5_1).f3).length c318_3]] (by rfl) rfl rfl gl ?_
   with_reducible refine (laws_eqFrame.calls k1 ((rd_T79 l0 x5_1).f0) ((rd_T79 l0 x5_1).f1) _ _ ((rd_T79 l0 x5_1).f2) _ _ ((rd_T79 l0 x5_1).f3) ((rd_T79 l1 x5_1).f0) ((rd_T79 l1 x5_1).f1) _ _ ((rd_T79 l1 x5_1).f2) _ _ ((rd_T79 l1 x5_1).f3) t319 _ ?side1 ?side2 ?side3 ?side4 ?side5 ?side6 ?side7 ?side8 A7.out).mono ?_
   (case side1 => exact cc (Kd.C_below HR317_2.out HB.out))
   (case side2 => exact HC317_2.out)
   (case side3 => exact cc (Kd.C_below HR317_3.out HB.out))
   (case side4 => exact HC317_3.out)
   (case side5 => exact cc (Kd.C_below HR318_2.out HB.out))
   (case side6 => exact HC318_2.out)
   (case side7 => exact cc (Kd.C_below HR318_3.out HB.out))
   (case side8 => exact HC318_3.out)
   rintro e w10 ⟨rfl, hb⟩
   refine ⟨_, rfl, ?_⟩
   replace HB := am (below_step (bw HB) hb)
   clear hb
   refine hK.out _ _ ⟨(cq HB hw317_0), (cq HB hw317_1), (cq HB hw317_2), (cq HB hw317_3), (cq HB hw318_0), (cq HB hw318_1), (cq HB hw318_2), (cq HB hw318_3)⟩ (fun hHeld => ?_)
   clear hK K
   refine nm (some 25) ?_
   refine pu 9 26 10 1023 HT_ ?_
   refine done_ (done_of HT_.out (by kernel_rfl)) ?_
   go_upto_if 26 with (fail)
   (try simp only [Act.put, sa, sz, ss])
   have H := HC8.out
   clear HC8
   refine qT H ?_ ?_ <;> clear H <;> intro c11 H <;> subst c11
   ·have H' := am H
    clear H
    go_wp2
    go_roundg k1
    case measure => have := HK1.out; omega
    case rel => exact ⟨(wrap64 (x5_1 + 1)), dr, H', ⟨by have := HK1.out; omega⟩, ⟨bw HB⟩⟩
   obtain rfl := Option.some.inj H
   go_wp2
   go_ret
   exact ⟨er, bw HB⟩
  obtain rfl := Option.some.inj H
  go_wp2
  go_ret
  exact ⟨er, bw HB⟩
 rw [if_neg c3] at H
 have c3b0 : ((l0.length : Int) == (l1.length : Int)) = false := beq_eq_false_iff_ne.mpr c3
 have c3b1 : ((l0.length : Int) != (l1.length : Int)) = true := bne_iff_ne.mpr c3
 have c3b2 : (l0.length == l1.length) = false := by first | simpa using c3 | (simp at c3 ⊢; omega)
 obtain rfl := Option.some.inj H
 go_enter Try.func23, Try.ntmps23
 go_wp2
 go_ret
 exact ⟨er, bw HB⟩

def laws_eqInt64SS.l0 : Nat → List (List Int) → List (List Int) → Int → Option (Bool)
 | 0, _, _, _ => none
 | k + 1, x0, x1, x5 => if x5 < (x0.length : Int) then (if 0 ≤ x5 then (if x5 < (x1.length : Int) then ((laws_eqInt64S.f k (rd_L10 x0 x5) (rd_L10 x1 x5)).bind fun t322 => (if t322 = true then (laws_eqInt64SS.l0 k x0 x1 (wrap64 (x5 + 1))) else (some false))) else (none)) else (none)) else (some true)
def laws_eqInt64SS.f (k : Nat) (l0 : List (List Int)) (l1 : List (List Int)) : Option (Bool) := if (l0.length : Int) = (l1.length : Int) then (laws_eqInt64SS.l0 k l0 l1 0) else (some false)
theorem laws_eqInt64SS.mono_l : ∀ k, (∀ y0 y1 y2, LeO (laws_eqInt64SS.l0 k y0 y1 y2) (laws_eqInt64SS.l0 (k + 1) y0 y1 y2))
 | 0 => fun _ _ _ r h => by simp [laws_eqInt64SS.l0] at h
 | k + 1 => by
  have ih0 := laws_eqInt64SS.mono_l k
  ·intro y0 y1 y2
   unfold laws_eqInt64SS.l0
   with_reducible repeat' first | exact ih0 .. | exact laws_eqInt64S.mono .. | exact LeO.refl _ | exact LeO.none _ | refine LeO.ite ?_ ?_ | refine LeO.bind ?_ (fun _ => ?_)
theorem laws_eqInt64SS.mono : ∀ a0 a1 k, LeO (laws_eqInt64SS.f k a0 a1) (laws_eqInt64SS.f (k + 1) a0 a1) := by
 intro a0 a1 k
 have ih0 := laws_eqInt64SS.mono_l k
 unfold laws_eqInt64SS.f
 with_reducible repeat' first | exact ih0 .. | exact laws_eqInt64S.mono .. | exact LeO.refl _ | exact LeO.none _ | refine LeO.ite ?_ ?_ | refine LeO.bind ?_ (fun _ => ?_)
theorem laws_eqInt64SS.calls (k : Nat) (A0 : Option Addr) (c0 : Nat) (l0 : List (List Int)) (A1 : Option Addr) (c1 : Nat) (l1 : List (List Int)) (r : Bool) (w : World) (hr0 : Kd.C (Kd.slice 2 (Kd.int .i64)) w A0 l0.length l0) (hc0 : l0.length ≤ c0) (hr1 : Kd.C (Kd.slice 2 (Kd.int .i64)) w A1 l1.length l1) (hc1 : l1.length ≤ c1) (h : laws_eqInt64SS.f k l0 l1 = some r) :
  Calls Try.prog 24 #[.slice A0 l0.length c0, .slice A1 l1.length c1] w fun e w' => e = .returned (.bool r) ∧ Drawn0 w w' := by
 have HR0 := am hr0
 have HC0 := am hc0
 clear hr0 hc0
 have HR1 := am hr1
 have HC1 := am hc1
 clear hr1 hc1
 have H : (if (l0.length : Int) = (l1.length : Int) then (laws_eqInt64SS.l0 k l0 l1 0) else (some false)) = some r := h
 clear h
 by_cases c3 : (l0.length : Int) = (l1.length : Int)
 ·rw [if_pos c3] at H
  have c3b0 : ((l0.length : Int) == (l1.length : Int)) = true := beq_iff_eq.mpr c3
  have c3b1 : ((l0.length : Int) != (l1.length : Int)) = false := bne_eq_false_iff_eq.mpr c3
  have c3b2 : (l0.length == l1.length) = true := by first | simpa using c3 | (simp at c3 ⊢; omega)
  clear c3
  have H' := am H
  clear H
  go_enter Try.func24, Try.ntmps24
  go_wp2
  repeat (go_quiet (fail); try go_wp2)
  go_loopg [5] k (fun kq v5 w' => ∃ (x5_1 : Int), v5 = .int .i64 x5_1 ∧ Aside0 (laws_eqInt64SS.l0 kq l0 l1 x5_1 = some r) ∧ Aside0 (kq ≤ k) ∧ Drawn0 w w')
  case atStart => exact ⟨(0), dr, H', ⟨Nat.le_refl _⟩, by repeat (first | exact Drawn0.refl _ | apply Drawn0.step)⟩
  clear H'
  (try clear c1); (try clear c2); (try clear p2); (try clear c3); (try clear c3b0); (try clear c3b1); (try clear c3b2)
  obtain ⟨x5_1, rfl, HA, HK1, ⟨m1, rfl⟩⟩ := hrel
  rcases gk with _ | k1
  ·exact absurd HA.out (by simp [laws_eqInt64SS.l0])
  have H := HA.out
  clear HA
  simp only [laws_eqInt64SS.l0] at H
  refine qI H ?_ ?_ <;> clear H <;> intro c4b0 H
  ·refine iM H ?_; clear H; intro c5b0 H
   refine iM H ?_; clear H; intro c6b0 H
   refine be H ?_; clear H; intro t322 A7 H
   have HC8 := am H
   clear H
   have p320 : 0 ≤ (x5_1 : Int) := of_decide_eq_true as1
   have q320 : x5_1 < (l0.length : Int) := of_decide_eq_true as1
   obtain ⟨ad320, A320_0, c320_0, e320, hx320_0, hl320_0, hi320_0⟩ := at_L10 HR0.out x5_1 p320 q320
   cases e320
   have HR320_0 := am hi320_0
   have HC320_0 := am hl320_0
   clear hi320_0 hl320_0
   replace p320 := eq_true p320
   replace q320 := eq_true q320
   have p321 : 0 ≤ (x5_1 : Int) := of_decide_eq_true as1
   have q321 : x5_1 < (l1.length : Int) := of_decide_eq_true as1
   obtain ⟨ad321, A321_0, c321_0, e321, hx321_0, hl321_0, hi321_0⟩ := at_L10 HR1.out x5_1 p321 q321
   cases e321
   have HR321_0 := am hi321_0
   have HC321_0 := am hl321_0
   clear hi321_0 hl321_0
   replace p321 := eq_true p321
   replace q321 := eq_true q321
   go_upto_if 26 with (first | (go_at_call 25; refine (laws_eqInt64S.calls k1 _ _ (rd_L10 l0 x5_1) _ _ (rd_L10 l1 x5_1) t322 _ (by repeat (first | exact HR320_0.out | (with_reducible refine Kd.C_alloc ?_ _) | (with_reducible refine Kd.C_drewN ?_ _) | (with_reducible refine Kd.C_drew ?_))) HC320_0.out (by repeat (first | exact HR321_0.out | (with_reducible refine Kd.C_alloc ?_ _) | (with_reducible refine Kd.C_drewN ?_ _) | (with_reducible refine Kd.C_drew ?_))) HC321_0.out A7.out).mono ?_; rintro e w' ⟨rfl, ⟨nd, rfl⟩⟩; (try first | exact ⟨rfl, _, World.drewN_drewN _ _ _⟩ | exact ⟨rfl, _, Eq.trans (World.drewN_drewN _ _ _) (congrArg (World.drewN _) (Nat.add_assoc _ _ _))⟩)))
   repeat (go_quiet (first | (go_at_call 25; refine (laws_eqInt64S.calls k1 _ _ (rd_L10 l0 x5_1) _ _ (rd_L10 l1 x5_1) t322 _ (by repeat (first | exact HR320_0.out | (with_reducible refine Kd.C_alloc ?_ _) | (with_reducible refine Kd.C_drewN ?_ _) | (with_reducible refine Kd.C_drew ?_))) HC320_0.out (by repeat (first | exact HR321_0.out | (with_reducible refine Kd.C_alloc ?_ _) | (with_reducible refine Kd.C_drewN ?_ _) | (with_reducible refine Kd.C_drew ?_))) HC321_0.out A7.out).mono ?_; rintro e w' ⟨rfl, ⟨nd, rfl⟩⟩; (try first | exact ⟨rfl, _, World.drewN_drewN _ _ _⟩ | exact ⟨rfl, _, Eq.trans (World.drewN_drewN _ _ _) (congrArg (World.drewN _) (Nat.add_assoc _ _ _))⟩))); go_upto_if 26 with (first | (go_at_call 25; refine (laws_eqInt64S.calls k1 _ _ (rd_L10 l0 x5_1) _ _ (rd_L10 l1 x5_1) t322 _ (by repeat (first | exact HR320_0.out | (with_reducible refine Kd.C_alloc ?_ _) | (with_reducible refine Kd.C_drewN ?_ _) | (with_reducible refine Kd.C_drew ?_))) HC320_0.out (by repeat (first | exact HR321_0.out | (with_reducible refine Kd.C_alloc ?_ _) | (with_reducible refine Kd.C_drewN ?_ _) | (with_reducible refine Kd.C_drew ?_))) HC321_0.out A7.out).mono ?_; rintro e w' ⟨rfl, ⟨nd, rfl⟩⟩; (try first | exact ⟨rfl, _, World.drewN_drewN _ _ _⟩ | exact ⟨rfl, _, Eq.trans (World.drewN_drewN _ _ _) (congrArg (World.drewN _) (Nat.add_assoc _ _ _))⟩))))
   (try simp only [Act.put, sa, sz, ss])
   have H := HC8.out
   clear HC8
   refine qT H ?_ ?_ <;> clear H <;> intro c9 H <;> subst c9
   ·have H' := am H
    clear H
    go_wp2
    repeat (go_quiet (fail); try go_wp2)
    go_roundg k1
    case measure => have := HK1.out; omega
    case rel => exact ⟨(wrap64 (x5_1 + 1)), dr, H', ⟨by have := HK1.out; omega⟩, by repeat (first | exact Drawn0.refl _ | apply Drawn0.step)⟩
   obtain rfl := Option.some.inj H
   go_wp2
   repeat (go_quiet (fail); try go_wp2)
   go_ret
   exact ⟨by first | rfl | (simp; done) | (simp [*]; done), by repeat (first | exact Drawn0.refl _ | apply Drawn0.step)⟩
  obtain rfl := Option.some.inj H
  go_wp2
  repeat (go_quiet (fail); try go_wp2)
  go_ret
  exact ⟨by first | rfl | (simp; done) | (simp [*]; done), by repeat (first | exact Drawn0.refl _ | apply Drawn0.step)⟩
 rw [if_neg c3] at H
 have c3b0 : ((l0.length : Int) == (l1.length : Int)) = false := beq_eq_false_iff_ne.mpr c3
 have c3b1 : ((l0.length : Int) != (l1.length : Int)) = true := bne_iff_ne.mpr c3
 have c3b2 : (l0.length == l1.length) = false := by first | simpa using c3 | (simp at c3 ⊢; omega)
 obtain rfl := Option.some.inj H
 go_enter Try.func24, Try.ntmps24
 go_wp2
 repeat (go_quiet (fail); try go_wp2)
 go_ret
 exact ⟨by first | rfl | (simp; done) | (simp [*]; done), by repeat (first | exact Drawn0.refl _ | apply Drawn0.step)⟩

end Go.Proofs.Yticdldoijkdffaa.QFnExactMixTold
