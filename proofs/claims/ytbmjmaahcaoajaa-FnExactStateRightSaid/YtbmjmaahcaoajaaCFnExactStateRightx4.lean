import Derived.Test.YtbmjmaahcaoajaaCFnExactStateRightx0
import Derived.Test.YtbmjmaahcaoajaaCFnExactStateRightx3
namespace Go.Proofs.Ytbmjmaahcaoajaa.QFnExactStateRight
open Go.RowKit Go.Proofs.YtbmjmaahcaoajaaW
open PrintWords PrintLast PrintMore PrintShort
attribute [local go_sem] max2_int min2_int max_two min_two max_three min_three max_four min_four   -- for this text's walks alone
set_option linter.unusedVariables false
set_option maxHeartbeats 8000000
set_option maxRecDepth 100000
set_option linter.unusedSimpArgs false

def laws_eqFrame.f (k : Nat) (a0_0 : Int) (a0_1 : Int) (l0_2 : List Int) (l0_3 : List Int) (a1_0 : Int) (a1_1 : Int) (l1_2 : List Int) (l1_3 : List Int) : Option (Bool) := if a0_0 = a1_0 then (if a0_1 = a1_1 then ((laws_eqInt64S.f k l0_2 l1_2).bind fun t157 => (if t157 = true then ((laws_eqInt64S.f k l0_3 l1_3).bind fun t158 => (if t158 = true then (some true) else (some false))) else (some false))) else (some false)) else (some false)
theorem laws_eqFrame.mono : ∀ a0 a1 a2 a3 a4 a5 a6 a7 k, LeO (laws_eqFrame.f k a0 a1 a2 a3 a4 a5 a6 a7) (laws_eqFrame.f (k + 1) a0 a1 a2 a3 a4 a5 a6 a7) := by
 intro a0 a1 a2 a3 a4 a5 a6 a7 k
 unfold laws_eqFrame.f
 with_reducible repeat' first | exact laws_eqInt64S.mono .. | exact LeO.refl _ | exact LeO.none _ | refine LeO.ite ?_ ?_ | refine LeO.bind ?_ (fun _ => ?_)
theorem laws_eqFrame.calls (k : Nat) (a0_0 : Int) (a0_1 : Int) (A0_2 : Option Addr) (c0_2 : Nat) (l0_2 : List Int) (A0_3 : Option Addr) (c0_3 : Nat) (l0_3 : List Int) (a1_0 : Int) (a1_1 : Int) (A1_2 : Option Addr) (c1_2 : Nat) (l1_2 : List Int) (A1_3 : Option Addr) (c1_3 : Nat) (l1_3 : List Int) (r : Bool) (w : World) (hr0_2 : Kd.C (Kd.int .i64) w A0_2 l0_2.length l0_2) (hc0_2 : l0_2.length ≤ c0_2) (hr0_3 : Kd.C (Kd.int .i64) w A0_3 l0_3.length l0_3) (hc0_3 : l0_3.length ≤ c0_3) (hr1_2 : Kd.C (Kd.int .i64) w A1_2 l1_2.length l1_2) (hc1_2 : l1_2.length ≤ c1_2) (hr1_3 : Kd.C (Kd.int .i64) w A1_3 l1_3.length l1_3) (hc1_3 : l1_3.length ≤ c1_3) (h : laws_eqFrame.f k a0_0 a0_1 l0_2 l0_3 a1_0 a1_1 l1_2 l1_3 = some r) :
  Calls Try.prog 150 #[.agg #[.int .i64 a0_0, .int .i64 a0_1, .slice A0_2 l0_2.length c0_2, .slice A0_3 l0_3.length c0_3], .agg #[.int .i64 a1_0, .int .i64 a1_1, .slice A1_2 l1_2.length c1_2, .slice A1_3 l1_3.length c1_3]] w fun e w' => e = .returned (.bool r) ∧ Below w.heap.size w w' := by
 have hu129 := Try.underlying129
 have HR0_2 := am hr0_2
 have HC0_2 := am hc0_2
 clear hr0_2 hc0_2
 have HR0_3 := am hr0_3
 have HC0_3 := am hc0_3
 clear hr0_3 hc0_3
 have HR1_2 := am hr1_2
 have HC1_2 := am hc1_2
 clear hr1_2 hc1_2
 have HR1_3 := am hr1_3
 have HC1_3 := am hc1_3
 clear hr1_3 hc1_3
 have HB := am (Below.refl w.heap.size w)
 have H : (if a0_0 = a1_0 then (if a0_1 = a1_1 then ((laws_eqInt64S.f k l0_2 l1_2).bind fun t157 => (if t157 = true then ((laws_eqInt64S.f k l0_3 l1_3).bind fun t158 => (if t158 = true then (some true) else (some false))) else (some false))) else (some false)) else (some false)) = some r := h
 clear h
 have HC3 := am H
 clear H
 go_enter Try.func150, Try.ntmps150
 go_upto_if 9 with (first | ((with_reducible refine gd 2 rfl ?_); refine bX 2 #[.int .i64 a0_0, .int .i64 a0_1, .slice A0_2 l0_2.length c0_2, .slice A0_3 l0_3.length c0_3] 129 HB ?_; clear HB; intro gb155 w4 hg hb BK155 GW155 HB; clear hb hg) | ((with_reducible refine gd 3 rfl ?_); refine bX 3 #[.int .i64 a1_0, .int .i64 a1_1, .slice A1_2 l1_2.length c1_2, .slice A1_3 l1_3.length c1_3] 129 HB ?_; clear HB; intro gb156 w5 hg hb BK156 GW156 HB; obtain ⟨NB155_156, NB156_155, BK155⟩ := b3 hg BK155 hb; clear hb hg; have hnb6 := NB155_156.out; have hnc6 := NB156_155.out; have hcz7 := bK w5 BK155; have hfz7 := bF BK155; have hcz8 := bK w5 BK156; have hfz8 := bF BK156))
 (try simp only [Act.put, sa, sz, ss])
 have H := HC3.out
 clear HC3
 refine qE H ?_ ?_ <;> clear H
 ·intro c9b0 c9b1 H
  (first | rw [c9b0] | (simp only [i64_w, i32_w]; rw [c9b0]) | skip)
  refine qE H ?_ ?_ <;> clear H
  ·intro c10b0 c10b1 H
   refine be H ?_; clear H; intro t157 A11 H
   have HC12 := am H
   clear H
   have hnb13 := NB155_156.out
   have hnc13 := NB156_155.out
   have hcz14 := bK w5 BK155
   have hfz14 := bF BK155
   have hcz15 := bK w5 BK156
   have hfz15 := bF BK156
   go_upto_if 20 with (first | ((with_reducible refine gk 18 rfl ?_); refine gD 18 (some 19) Try.func18 #[.slice A0_2 l0_2.length c0_2, .slice A1_2 l1_2.length c1_2] (laws_eqInt64S.calls k _ _ l0_2 _ _ l1_2 t157 _ (cc (Kd.C_below HR0_2.out HB.out)) HC0_2.out (cc (Kd.C_below HR1_2.out HB.out)) HC1_2.out A11.out) ?_; intro nd))
   (try simp only [Act.put, sa, sz, ss])
   (try simp only [World.drewN_drewN])
   generalize hq_ : World.drewN w5 _ = w16
   replace BK155 : Aside0 (w16.heap[gb155]? = some (.cells #[.int .i64 a0_0, .int .i64 a0_1, .slice A0_2 l0_2.length c0_2, .slice A0_3 l0_3.length c0_3] 129 (0, 0))) := ⟨by rw [← hq_]; exact (bp BK155)⟩
   replace BK156 : Aside0 (w16.heap[gb156]? = some (.cells #[.int .i64 a1_0, .int .i64 a1_1, .slice A1_2 l1_2.length c1_2, .slice A1_3 l1_3.length c1_3] 129 (0, 0))) := ⟨by rw [← hq_]; exact (bp BK156)⟩
   replace HB : Aside0 (Below w.heap.size w w16) := ⟨by rw [← hq_]; exact (bw HB)⟩
   clear hq_
   have H := HC12.out
   clear HC12
   refine qT H ?_ ?_ <;> clear H <;> intro c17 H <;> subst c17
   ·refine be H ?_; clear H; intro t158 A18 H
    have HC19 := am H
    clear H
    have hnb20 := NB155_156.out
    have hnc20 := NB156_155.out
    have hcz21 := bK w16 BK155
    have hfz21 := bF BK155
    have hcz22 := bK w16 BK156
    have hfz22 := bF BK156
    go_upto_if 26 with (first | ((with_reducible refine gk 18 rfl ?_); refine gD 18 (some 25) Try.func18 #[.slice A0_3 l0_3.length c0_3, .slice A1_3 l1_3.length c1_3] (laws_eqInt64S.calls k _ _ l0_3 _ _ l1_3 t158 _ (cc (Kd.C_below HR0_3.out HB.out)) HC0_3.out (cc (Kd.C_below HR1_3.out HB.out)) HC1_3.out A18.out) ?_; intro nd))
    (try simp only [Act.put, sa, sz, ss])
    (try simp only [World.drewN_drewN])
    generalize hq_ : World.drewN w16 _ = w23
    replace BK155 : Aside0 (w23.heap[gb155]? = some (.cells #[.int .i64 a0_0, .int .i64 a0_1, .slice A0_2 l0_2.length c0_2, .slice A0_3 l0_3.length c0_3] 129 (0, 0))) := ⟨by rw [← hq_]; exact (bp BK155)⟩
    replace BK156 : Aside0 (w23.heap[gb156]? = some (.cells #[.int .i64 a1_0, .int .i64 a1_1, .slice A1_2 l1_2.length c1_2, .slice A1_3 l1_3.length c1_3] 129 (0, 0))) := ⟨by rw [← hq_]; exact (bp BK156)⟩
    replace HB : Aside0 (Below w.heap.size w w23) := ⟨by rw [← hq_]; exact (bw HB)⟩
    clear hq_
    have H := HC19.out
    clear HC19
    refine qT H ?_ ?_ <;> clear H <;> intro c24 H <;> subst c24
    ·obtain rfl := Option.some.inj H
     go_wp2
     go_ret
     exact ⟨er, bw HB⟩
    obtain rfl := Option.some.inj H
    go_wp2
    go_ret
    exact ⟨er, bw HB⟩
   obtain rfl := Option.some.inj H
   go_wp2
   go_ret
   exact ⟨er, bw HB⟩
  intro c10 c10b0 c10b1 H
  obtain rfl := Option.some.inj H
  have hnb25 := NB155_156.out
  have hnc25 := NB156_155.out
  have hcz26 := bK w5 BK155
  have hfz26 := bF BK155
  have hcz27 := bK w5 BK156
  have hfz27 := bF BK156
  go_wp2
  go_ret
  exact ⟨er, bw HB⟩
 intro c9 c9b0 c9b1 H
 (first | rw [c9b0] | (simp only [i64_w, i32_w]; rw [c9b0]) | skip)
 obtain rfl := Option.some.inj H
 go_wp2
 go_ret
 exact ⟨er, bw HB⟩

def laws_eqFrameS.l0 : Nat → List (S129) → List (S129) → Int → Option (Bool)
 | 0, _, _, _ => none
 | k + 1, x0, x1, x5 => if x5 < (x0.length : Int) then (if 0 ≤ x5 then (if x5 < (x1.length : Int) then ((laws_eqFrame.f k ((rd_T129 x0 x5).f0) ((rd_T129 x0 x5).f1) ((rd_T129 x0 x5).f2) ((rd_T129 x0 x5).f3) ((rd_T129 x1 x5).f0) ((rd_T129 x1 x5).f1) ((rd_T129 x1 x5).f2) ((rd_T129 x1 x5).f3)).bind fun t161 => (if t161 = true then (laws_eqFrameS.l0 k x0 x1 (wrap64 (x5 + 1))) else (some false))) else (none)) else (none)) else (some true)
def laws_eqFrameS.f (k : Nat) (l0 : List (S129)) (l1 : List (S129)) : Option (Bool) := if (l0.length : Int) = (l1.length : Int) then (laws_eqFrameS.l0 k l0 l1 0) else (some false)
theorem laws_eqFrameS.mono_l : ∀ k, (∀ y0 y1 y2, LeO (laws_eqFrameS.l0 k y0 y1 y2) (laws_eqFrameS.l0 (k + 1) y0 y1 y2))
 | 0 => fun _ _ _ r h => by simp [laws_eqFrameS.l0] at h
 | k + 1 => by
  have ih0 := laws_eqFrameS.mono_l k
  ·intro y0 y1 y2
   unfold laws_eqFrameS.l0
   with_reducible repeat' first | exact ih0 .. | exact laws_eqFrame.mono .. | exact LeO.refl _ | exact LeO.none _ | refine LeO.ite ?_ ?_ | refine LeO.bind ?_ (fun _ => ?_)
theorem laws_eqFrameS.mono : ∀ a0 a1 k, LeO (laws_eqFrameS.f k a0 a1) (laws_eqFrameS.f (k + 1) a0 a1) := by
 intro a0 a1 k
 have ih0 := laws_eqFrameS.mono_l k
 unfold laws_eqFrameS.f
 with_reducible repeat' first | exact ih0 .. | exact laws_eqFrame.mono .. | exact LeO.refl _ | exact LeO.none _ | refine LeO.ite ?_ ?_ | refine LeO.bind ?_ (fun _ => ?_)
def laws_eqFrameS.T6 : Bool × List (List Nat × List Nat) := (true, [([], []), ([], []), ([0, 1], [0, 1]), ([2], [2]), ([], []), ([], []), ([4, 5], [4, 5]), ([6], [6]), ([3, 7], [3, 7]), ([8], [8])])
def laws_eqFrameS.B6 : List Nat := [0, 0, 3, 7, 0, 0, 48, 112, 255, 511]
theorem laws_eqFrameS.tab6 : rtab .any (opsOf Try.f87 6) = laws_eqFrameS.T6 := by kernel_rfl
theorem laws_eqFrameS.bits6 : waitsOk laws_eqFrameS.T6.2 laws_eqFrameS.B6 = true := by kernel_rfl
theorem laws_eqFrameS.calls (k : Nat) (A0 : Option Addr) (c0 : Nat) (l0 : List (S129)) (A1 : Option Addr) (c1 : Nat) (l1 : List (S129)) (r : Bool) (w : World) (hr0 : Kd.C k129 w A0 l0.length l0) (hc0 : l0.length ≤ c0) (hr1 : Kd.C k129 w A1 l1.length l1) (hc1 : l1.length ≤ c1) (h : laws_eqFrameS.f k l0 l1 = some r) :
  Calls Try.prog 87 #[.slice A0 l0.length c0, .slice A1 l1.length c1] w fun e w' => e = .returned (.bool r) ∧ Below w.heap.size w w' := by
 have hu129 := Try.underlying129
 have HR0 := am hr0
 have HC0 := am hc0
 clear hr0 hc0
 have HR1 := am hr1
 have HC1 := am hc1
 clear hr1 hc1
 have HB := am (Below.refl w.heap.size w)
 have H : (if (l0.length : Int) = (l1.length : Int) then (laws_eqFrameS.l0 k l0 l1 0) else (some false)) = some r := h
 clear h
 by_cases c3 : (l0.length : Int) = (l1.length : Int)
 ·rw [if_pos c3] at H
  have c3b0 : ((l0.length : Int) == (l1.length : Int)) = true := beq_iff_eq.mpr c3
  have c3b1 : ((l0.length : Int) != (l1.length : Int)) = false := bne_eq_false_iff_eq.mpr c3
  have c3b2 : (l0.length == l1.length) = true := by first | simpa using c3 | (simp at c3 ⊢; omega)
  clear c3
  have H' := am H
  clear H
  go_enter Try.func87, Try.ntmps87
  go_wp2
  go_loopg [5] k (fun kq v5 w' => ∃ (x5_1 : Int), v5 = .int .i64 x5_1 ∧ Aside0 (laws_eqFrameS.l0 kq l0 l1 x5_1 = some r) ∧ Aside0 (kq ≤ k) ∧ Aside0 (Below w.heap.size w w'))
  case atStart => exact ⟨(0), dr, H', ⟨Nat.le_refl _⟩, ⟨bw HB⟩⟩
  clear H'
  (try clear c1); (try clear p2); (try clear c3); (try clear c3b0); (try clear c3b1); (try clear c3b2)
  obtain ⟨x5_1, rfl, HA, HK1, HB⟩ := hrel
  rcases gk with _ | k1
  ·exact absurd HA.out (by simp [laws_eqFrameS.l0])
  have H := HA.out
  clear HA
  simp only [laws_eqFrameS.l0] at H
  refine qI H ?_ ?_ <;> clear H <;> intro c4b0 H
  ·refine iM H ?_; clear H; intro c5b0 H
   refine iM H ?_; clear H; intro c6b0 H
   refine be H ?_; clear H; intro t161 A7 H
   have HC8 := am H
   clear H
   try go_wp2
   replace HB := am (below_drew1 HB.out)
   have p159 : 0 ≤ (x5_1 : Int) := of_decide_eq_true as1
   have q159 : x5_1 < (l0.length : Int) := of_decide_eq_true as1
   obtain ⟨ad159, A159_2, c159_2, A159_3, c159_3, e159, hx159_0, hx159_1, hx159_2, hx159_3, hl159_2, hi159_2, hl159_3, hi159_3⟩ := at_T129 HR0.out x5_1 p159 q159
   have hw159_3 := hx159_3
   have hw159_2 := hx159_2
   have hw159_1 := hx159_1
   have hw159_0 := hx159_0
   cases e159
   replace hx159_0 := cl HB hx159_0
   replace hx159_1 := cl HB hx159_1
   replace hx159_2 := cl HB hx159_2
   replace hx159_3 := cl HB hx159_3
   have HR159_2 := am hi159_2
   have HC159_2 := am hl159_2
   clear hi159_2 hl159_2
   have HR159_3 := am hi159_3
   have HC159_3 := am hl159_3
   clear hi159_3 hl159_3
   replace p159 := eq_true p159
   replace q159 := eq_true q159
   have p160 : 0 ≤ (x5_1 : Int) := of_decide_eq_true as1
   have q160 : x5_1 < (l1.length : Int) := of_decide_eq_true as1
   obtain ⟨ad160, A160_2, c160_2, A160_3, c160_3, e160, hx160_0, hx160_1, hx160_2, hx160_3, hl160_2, hi160_2, hl160_3, hi160_3⟩ := at_T129 HR1.out x5_1 p160 q160
   have hw160_3 := hx160_3
   have hw160_2 := hx160_2
   have hw160_1 := hx160_1
   have hw160_0 := hx160_0
   cases e160
   replace hx160_0 := cl HB hx160_0
   replace hx160_1 := cl HB hx160_1
   replace hx160_2 := cl HB hx160_2
   replace hx160_3 := cl HB hx160_3
   have HR160_2 := am hi160_2
   have HC160_2 := am hl160_2
   clear hi160_2 hl160_2
   have HR160_3 := am hi160_3
   have HC160_3 := am hl160_3
   clear hi160_3 hl160_3
   replace p160 := eq_true p160
   replace q160 := eq_true q160
   refine start_ (n := 10) (S := fun w' => w'.cell? (ad159.add ((x5_1).toNat * 4)) = some (.int .i64 ((rd_T129 l0 x5_1).f0)) ∧ w'.cell? ⟨(ad159.add ((x5_1).toNat * 4)).block, (ad159.add ((x5_1).toNat * 4)).off + 1, none⟩ = some (.int .i64 ((rd_T129 l0 x5_1).f1)) ∧ w'.cell? ⟨(ad159.add ((x5_1).toNat * 4)).block, (ad159.add ((x5_1).toNat * 4)).off + 2, none⟩ = some (.slice A159_2 ((rd_T129 l0 x5_1).f2).length c159_2) ∧ w'.cell? ⟨(ad159.add ((x5_1).toNat * 4)).block, (ad159.add ((x5_1).toNat * 4)).off + 3, none⟩ = some (.slice A159_3 ((rd_T129 l0 x5_1).f3).length c159_3) ∧ w'.cell? (ad160.add ((x5_1).toNat * 4)) = some (.int .i64 ((rd_T129 l1 x5_1).f0)) ∧ w'.cell? ⟨(ad160.add ((x5_1).toNat * 4)).block, (ad160.add ((x5_1).toNat * 4)).off + 1, none⟩ = some (.int .i64 ((rd_T129 l1 x5_1).f1)) ∧ w'.cell? ⟨(ad160.add ((x5_1).toNat * 4)).block, (ad160.add ((x5_1).toNat * 4)).off + 2, none⟩ = some (.slice A160_2 ((rd_T129 l1 x5_1).f2).length c160_2) ∧ w'.cell? ⟨(ad160.add ((x5_1).toNat * 4)).block, (ad160.add ((x5_1).toNat * 4)).off + 3, none⟩ = some (.slice A160_3 ((rd_T129 l1 x5_1).f3).length c160_3)) (ds := []) (bv 10 0) (by kernel_rfl) rfl (by kernel_rfl) ⟨(cq HB hw159_0), (cq HB hw159_1), (cq HB hw159_2), (cq HB hw159_3), (cq HB hw160_0), (cq HB hw160_1), (cq HB hw160_2), (cq HB hw160_3)⟩ (fun hHeld => ?_); refine with_tabW laws_eqFrameS.tab6 laws_eqFrameS.bits6 (fun HT_ HW_ => ?_)
   generalize wr.drew = w9 at HB HR159_2 HR159_3 HR160_2 HR160_3 hx159_0 hx159_1 hx159_2 hx159_3 hx160_0 hx160_1 hx160_2 hx160_3 hHeld ⊢
   refine pu 0 17 10 1 HT_ ?_
   refine pu 1 18 10 3 HT_ ?_
   refine pu 2 19 10 7 HT_ ?_
   refine pu 4 21 10 23 HT_ ?_
   refine pu 5 22 10 55 HT_ ?_
   refine pu 6 23 10 119 HT_ ?_
   refine tk 3 20 10 127 HT_ HW_ hHeld ?_
   refine tk 7 24 10 255 HT_ HW_ hHeld ?_
   refine on 8 (some 25) 10 511 HT_ fun K hK => ?_
   refine goes_ Try.func150 (by kernel_rfl) rfl #[.agg #[.int .i64 ((rd_T129 l0 x5_1).f0), .int .i64 ((rd_T129 l0 x5_1).f1), .slice A159_2 ((rd_T129 l0 x5_1).f2).length c159_2, .slice A159_3 ((rd_T129 l0 x5_1).f3).length c159_3], .agg #[.int .i64 ((rd_T129 l1 x5_1).f0), .int .i64 ((rd_T129 l1 x5_1).f1), .slice A160_2 ((rd_T129 l1 x5_1).f2).length c160_2, .slice A160_3 ((rd_T129 l1 x5_1).f3).length c160_3]] (by rfl) rfl rfl gl ?_
   with_reducible refine (laws_eqFrame.calls k1 ((rd_T129 l0 x5_1).f0) ((rd_T129 l0 x5_1).f1) _ _ ((rd_T129 l0 x5_1).f2) _ _ ((rd_T129 l0 x5_1).f3) ((rd_T129 l1 x5_1).f0) ((rd_T129 l1 x5_1).f1) _ _ ((rd_T129 l1 x5_1).f2) _ _ ((rd_T129 l1 x5_1).f3) t161 _ ?side1 ?side2 ?side3 ?side4 ?side5 ?side6 ?side7 ?side8 A7.out).mono ?_
   (case side1 => exact cc (Kd.C_below HR159_2.out HB.out))
   (case side2 => exact HC159_2.out)
   (case side3 => exact cc (Kd.C_below HR159_3.out HB.out))
   (case side4 => exact HC159_3.out)
   (case side5 => exact cc (Kd.C_below HR160_2.out HB.out))
   (case side6 => exact HC160_2.out)
   (case side7 => exact cc (Kd.C_below HR160_3.out HB.out))
   (case side8 => exact HC160_3.out)
   rintro e w10 ⟨rfl, hb⟩
   refine ⟨_, rfl, ?_⟩
   replace HB := am (below_step (bw HB) hb)
   clear hb
   refine hK.out _ _ ⟨(cq HB hw159_0), (cq HB hw159_1), (cq HB hw159_2), (cq HB hw159_3), (cq HB hw160_0), (cq HB hw160_1), (cq HB hw160_2), (cq HB hw160_3)⟩ (fun hHeld => ?_)
   clear hK K
   refine nm (some 25) ?_
   refine pu 9 26 10 1023 HT_ ?_
   refine done_ (done_of HT_.out (by kernel_rfl)) ?_
   go_upto_if 26 with (fail)
   (try simp only [Act.put, sa, sz, ss])
   have H := HC8.out
   clear HC8
   refine qT H ?_ ?_ <;> clear H <;> intro c11 H <;> subst c11
   ·have H' := am H
    clear H
    go_wp2
    go_roundg k1
    case measure => have := HK1.out; omega
    case rel => exact ⟨(wrap64 (x5_1 + 1)), dr, H', ⟨by have := HK1.out; omega⟩, ⟨bw HB⟩⟩
   obtain rfl := Option.some.inj H
   go_wp2
   go_ret
   exact ⟨er, bw HB⟩
  obtain rfl := Option.some.inj H
  go_wp2
  go_ret
  exact ⟨er, bw HB⟩
 rw [if_neg c3] at H
 have c3b0 : ((l0.length : Int) == (l1.length : Int)) = false := beq_eq_false_iff_ne.mpr c3
 have c3b1 : ((l0.length : Int) != (l1.length : Int)) = true := bne_iff_ne.mpr c3
 have c3b2 : (l0.length == l1.length) = false := by first | simpa using c3 | (simp at c3 ⊢; omega)
 obtain rfl := Option.some.inj H
 go_enter Try.func87, Try.ntmps87
 go_wp2
 go_ret
 exact ⟨er, bw HB⟩

def laws_eqInt64SS.l0 : Nat → List (List Int) → List (List Int) → Int → Option (Bool)
 | 0, _, _, _ => none
 | k + 1, x0, x1, x5 => if x5 < (x0.length : Int) then (if 0 ≤ x5 then (if x5 < (x1.length : Int) then ((laws_eqInt64S.f k (rd_L7 x0 x5) (rd_L7 x1 x5)).bind fun t164 => (if t164 = true then (laws_eqInt64SS.l0 k x0 x1 (wrap64 (x5 + 1))) else (some false))) else (none)) else (none)) else (some true)
def laws_eqInt64SS.f (k : Nat) (l0 : List (List Int)) (l1 : List (List Int)) : Option (Bool) := if (l0.length : Int) = (l1.length : Int) then (laws_eqInt64SS.l0 k l0 l1 0) else (some false)
theorem laws_eqInt64SS.mono_l : ∀ k, (∀ y0 y1 y2, LeO (laws_eqInt64SS.l0 k y0 y1 y2) (laws_eqInt64SS.l0 (k + 1) y0 y1 y2))
 | 0 => fun _ _ _ r h => by simp [laws_eqInt64SS.l0] at h
 | k + 1 => by
  have ih0 := laws_eqInt64SS.mono_l k
  ·intro y0 y1 y2
   unfold laws_eqInt64SS.l0
   with_reducible repeat' first | exact ih0 .. | exact laws_eqInt64S.mono .. | exact LeO.refl _ | exact LeO.none _ | refine LeO.ite ?_ ?_ | refine LeO.bind ?_ (fun _ => ?_)
theorem laws_eqInt64SS.mono : ∀ a0 a1 k, LeO (laws_eqInt64SS.f k a0 a1) (laws_eqInt64SS.f (k + 1) a0 a1) := by
 intro a0 a1 k
 have ih0 := laws_eqInt64SS.mono_l k
 unfold laws_eqInt64SS.f
 with_reducible repeat' first | exact ih0 .. | exact laws_eqInt64S.mono .. | exact LeO.refl _ | exact LeO.none _ | refine LeO.ite ?_ ?_ | refine LeO.bind ?_ (fun _ => ?_)
theorem laws_eqInt64SS.calls (k : Nat) (A0 : Option Addr) (c0 : Nat) (l0 : List (List Int)) (A1 : Option Addr) (c1 : Nat) (l1 : List (List Int)) (r : Bool) (w : World) (hr0 : Kd.C (Kd.slice 2 (Kd.int .i64)) w A0 l0.length l0) (hc0 : l0.length ≤ c0) (hr1 : Kd.C (Kd.slice 2 (Kd.int .i64)) w A1 l1.length l1) (hc1 : l1.length ≤ c1) (h : laws_eqInt64SS.f k l0 l1 = some r) :
  Calls Try.prog 88 #[.slice A0 l0.length c0, .slice A1 l1.length c1] w fun e w' => e = .returned (.bool r) ∧ Drawn0 w w' := by
 have HR0 := am hr0
 have HC0 := am hc0
 clear hr0 hc0
 have HR1 := am hr1
 have HC1 := am hc1
 clear hr1 hc1
 have H : (if (l0.length : Int) = (l1.length : Int) then (laws_eqInt64SS.l0 k l0 l1 0) else (some false)) = some r := h
 clear h
 by_cases c3 : (l0.length : Int) = (l1.length : Int)
 ·rw [if_pos c3] at H
  have c3b0 : ((l0.length : Int) == (l1.length : Int)) = true := beq_iff_eq.mpr c3
  have c3b1 : ((l0.length : Int) != (l1.length : Int)) = false := bne_eq_false_iff_eq.mpr c3
  have c3b2 : (l0.length == l1.length) = true := by first | simpa using c3 | (simp at c3 ⊢; omega)
  clear c3
  have H' := am H
  clear H
  go_enter Try.func88, Try.ntmps88
  go_wp2
  repeat (go_quiet (fail); try go_wp2)
  go_loopg [5] k (fun kq v5 w' => ∃ (x5_1 : Int), v5 = .int .i64 x5_1 ∧ Aside0 (laws_eqInt64SS.l0 kq l0 l1 x5_1 = some r) ∧ Aside0 (kq ≤ k) ∧ Drawn0 w w')
  case atStart => exact ⟨(0), dr, H', ⟨Nat.le_refl _⟩, by repeat (first | exact Drawn0.refl _ | apply Drawn0.step)⟩
  clear H'
  (try clear c1); (try clear p2); (try clear c3); (try clear c3b0); (try clear c3b1); (try clear c3b2)
  obtain ⟨x5_1, rfl, HA, HK1, ⟨m1, rfl⟩⟩ := hrel
  rcases gk with _ | k1
  ·exact absurd HA.out (by simp [laws_eqInt64SS.l0])
  have H := HA.out
  clear HA
  simp only [laws_eqInt64SS.l0] at H
  refine qI H ?_ ?_ <;> clear H <;> intro c4b0 H
  ·refine iM H ?_; clear H; intro c5b0 H
   refine iM H ?_; clear H; intro c6b0 H
   refine be H ?_; clear H; intro t164 A7 H
   have HC8 := am H
   clear H
   have p162 : 0 ≤ (x5_1 : Int) := of_decide_eq_true as1
   have q162 : x5_1 < (l0.length : Int) := of_decide_eq_true as1
   obtain ⟨ad162, A162_0, c162_0, e162, hx162_0, hl162_0, hi162_0⟩ := at_L7 HR0.out x5_1 p162 q162
   cases e162
   have HR162_0 := am hi162_0
   have HC162_0 := am hl162_0
   clear hi162_0 hl162_0
   replace p162 := eq_true p162
   replace q162 := eq_true q162
   have p163 : 0 ≤ (x5_1 : Int) := of_decide_eq_true as1
   have q163 : x5_1 < (l1.length : Int) := of_decide_eq_true as1
   obtain ⟨ad163, A163_0, c163_0, e163, hx163_0, hl163_0, hi163_0⟩ := at_L7 HR1.out x5_1 p163 q163
   cases e163
   have HR163_0 := am hi163_0
   have HC163_0 := am hl163_0
   clear hi163_0 hl163_0
   replace p163 := eq_true p163
   replace q163 := eq_true q163
   go_upto_if 26 with (first | (go_at_call 18; refine (laws_eqInt64S.calls k1 _ _ (rd_L7 l0 x5_1) _ _ (rd_L7 l1 x5_1) t164 _ (by repeat (first | exact HR162_0.out | (with_reducible refine Kd.C_alloc ?_ _) | (with_reducible refine Kd.C_drewN ?_ _) | (with_reducible refine Kd.C_drew ?_))) HC162_0.out (by repeat (first | exact HR163_0.out | (with_reducible refine Kd.C_alloc ?_ _) | (with_reducible refine Kd.C_drewN ?_ _) | (with_reducible refine Kd.C_drew ?_))) HC163_0.out A7.out).mono ?_; rintro e w' ⟨rfl, ⟨nd, rfl⟩⟩; (try first | exact ⟨rfl, _, World.drewN_drewN _ _ _⟩ | exact ⟨rfl, _, Eq.trans (World.drewN_drewN _ _ _) (congrArg (World.drewN _) (Nat.add_assoc _ _ _))⟩)))
   repeat (go_quiet (first | (go_at_call 18; refine (laws_eqInt64S.calls k1 _ _ (rd_L7 l0 x5_1) _ _ (rd_L7 l1 x5_1) t164 _ (by repeat (first | exact HR162_0.out | (with_reducible refine Kd.C_alloc ?_ _) | (with_reducible refine Kd.C_drewN ?_ _) | (with_reducible refine Kd.C_drew ?_))) HC162_0.out (by repeat (first | exact HR163_0.out | (with_reducible refine Kd.C_alloc ?_ _) | (with_reducible refine Kd.C_drewN ?_ _) | (with_reducible refine Kd.C_drew ?_))) HC163_0.out A7.out).mono ?_; rintro e w' ⟨rfl, ⟨nd, rfl⟩⟩; (try first | exact ⟨rfl, _, World.drewN_drewN _ _ _⟩ | exact ⟨rfl, _, Eq.trans (World.drewN_drewN _ _ _) (congrArg (World.drewN _) (Nat.add_assoc _ _ _))⟩))); go_upto_if 26 with (first | (go_at_call 18; refine (laws_eqInt64S.calls k1 _ _ (rd_L7 l0 x5_1) _ _ (rd_L7 l1 x5_1) t164 _ (by repeat (first | exact HR162_0.out | (with_reducible refine Kd.C_alloc ?_ _) | (with_reducible refine Kd.C_drewN ?_ _) | (with_reducible refine Kd.C_drew ?_))) HC162_0.out (by repeat (first | exact HR163_0.out | (with_reducible refine Kd.C_alloc ?_ _) | (with_reducible refine Kd.C_drewN ?_ _) | (with_reducible refine Kd.C_drew ?_))) HC163_0.out A7.out).mono ?_; rintro e w' ⟨rfl, ⟨nd, rfl⟩⟩; (try first | exact ⟨rfl, _, World.drewN_drewN _ _ _⟩ | exact ⟨rfl, _, Eq.trans (World.drewN_drewN _ _ _) (congrArg (World.drewN _) (Nat.add_assoc _ _ _))⟩))))
   (try simp only [Act.put, sa, sz, ss])
   have H := HC8.out
   clear HC8
   refine qT H ?_ ?_ <;> clear H <;> intro c9 H <;> subst c9
   ·have H' := am H
    clear H
    go_wp2
    repeat (go_quiet (fail); try go_wp2)
    go_roundg k1
    case measure => have := HK1.out; omega
    case rel => exact ⟨(wrap64 (x5_1 + 1)), dr, H', ⟨by have := HK1.out; omega⟩, by repeat (first | exact Drawn0.refl _ | apply Drawn0.step)⟩
   obtain rfl := Option.some.inj H
   go_wp2
   repeat (go_quiet (fail); try go_wp2)
   go_ret
   exact ⟨by first | rfl | (simp; done) | (simp [*]; done), by repeat (first | exact Drawn0.refl _ | apply Drawn0.step)⟩
  obtain rfl := Option.some.inj H
  go_wp2
  repeat (go_quiet (fail); try go_wp2)
  go_ret
  exact ⟨by first | rfl | (simp; done) | (simp [*]; done), by repeat (first | exact Drawn0.refl _ | apply Drawn0.step)⟩
 rw [if_neg c3] at H
 have c3b0 : ((l0.length : Int) == (l1.length : Int)) = false := beq_eq_false_iff_ne.mpr c3
 have c3b1 : ((l0.length : Int) != (l1.length : Int)) = true := bne_iff_ne.mpr c3
 have c3b2 : (l0.length == l1.length) = false := by first | simpa using c3 | (simp at c3 ⊢; omega)
 obtain rfl := Option.some.inj H
 go_enter Try.func88, Try.ntmps88
 go_wp2
 repeat (go_quiet (fail); try go_wp2)
 go_ret
 exact ⟨by first | rfl | (simp; done) | (simp [*]; done), by repeat (first | exact Drawn0.refl _ | apply Drawn0.step)⟩

end Go.Proofs.Ytbmjmaahcaoajaa.QFnExactStateRight
