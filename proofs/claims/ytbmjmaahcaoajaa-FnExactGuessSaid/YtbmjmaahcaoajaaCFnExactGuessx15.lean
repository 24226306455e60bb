import Derived.Test.YtbmjmaahcaoajaaCFnExactGuessx0
import Derived.Test.YtbmjmaahcaoajaaCFnExactGuessx9
import Derived.Test.YtbmjmaahcaoajaaCFnExactGuessx14
namespace Go.Proofs.Ytbmjmaahcaoajaa.QFnExactGuess
open Go.RowKit Go.Proofs.YtbmjmaahcaoajaaW
open PrintWords PrintLast PrintMore PrintShort PrintIsh
attribute [local go_sem] max2_int min2_int max_two min_two max_three min_three max_four min_four   -- for this text's walks alone
set_option linter.unusedVariables false
set_option maxHeartbeats 8000000
set_option maxRecDepth 100000
set_option linter.unusedSimpArgs false

mutual
def impl_prog_seenRight.l0 : Nat → List (S108) → List (S108) → Int → Int → List (S100) → List (List Int) → Option (Bool)
 | 0, _, _, _, _, _, _ => none
 | k + 1, x1, x7, x8, x9, x1000, x1001 => if x9 < x8 then (if 0 ≤ x9 then (if x9 < (x7.length : Int) then ((impl_prog_isJz.f x1000 x1001 ((rd_T108 x7 x9).f0) ((rd_T108 x7 x9).f1)).bind fun t386 => (if t386 = true then ((impl_in.f ((rd_T108 x7 x9).f2) 0 1000000).bind fun t387 => (if t387 = true then ((impl_in.f ((rd_T108 x7 x9).f3) 0 1000000).bind fun t388 => (if t388 = true then (if (wrap64 (((rd_T108 x7 x9).f2) + ((rd_T108 x7 x9).f3))) = 0 then (impl_prog_seenRight.j1 k x1 x7 x8 x9 true x1000 x1001) else (if x9 > 0 then (if 0 ≤ (wrap64 (x9 - 1)) then (if (wrap64 (x9 - 1)) < (x1.length : Int) then ((impl_bySpot.f ((rd_T108 x1 (wrap64 (x9 - 1))).f0) ((rd_T108 x1 (wrap64 (x9 - 1))).f1) ((rd_T108 x1 (wrap64 (x9 - 1))).f2) ((rd_T108 x1 (wrap64 (x9 - 1))).f3) ((rd_T108 x7 x9).f0) ((rd_T108 x7 x9).f1) ((rd_T108 x7 x9).f2) ((rd_T108 x7 x9).f3)).bind fun t390 => (impl_prog_seenRight.j1 k x1 x7 x8 x9 (decide (t390 ≥ 0)) x1000 x1001)) else (none)) else (none)) else (impl_prog_seenRight.j1 k x1 x7 x8 x9 false x1000 x1001))) else (impl_prog_seenRight.j1 k x1 x7 x8 x9 true x1000 x1001))) else (impl_prog_seenRight.j1 k x1 x7 x8 x9 true x1000 x1001))) else (impl_prog_seenRight.j1 k x1 x7 x8 x9 true x1000 x1001))) else (none)) else (none)) else (some (decide ((x1.length : Int) ≤ 400)))
def impl_prog_seenRight.j1 : Nat → List (S108) → List (S108) → Int → Int → Bool → List (S100) → List (List Int) → Option (Bool)
 | 0, _, _, _, _, _, _, _ => none
 | k + 1, x1, x7, x8, x9, x54, x1000, x1001 => if x54 = true then (some false) else (impl_prog_seenRight.l0 k x1 x7 x8 (wrap64 (x9 + 1)) x1000 x1001)
end
def impl_prog_seenRight.f (k : Nat) (l0_0 : List (S100)) (l0_1 : List (List Int)) (l1 : List (S108)) : Option (Bool) := impl_prog_seenRight.l0 k l1 l1 (l1.length : Int) 0 l0_0 l0_1
theorem impl_prog_seenRight.mono_l : ∀ k, (∀ y0 y1 y2 y3 y4 y5, LeO (impl_prog_seenRight.l0 k y0 y1 y2 y3 y4 y5) (impl_prog_seenRight.l0 (k + 1) y0 y1 y2 y3 y4 y5)) ∧ (∀ y0 y1 y2 y3 y4 y5 y6, LeO (impl_prog_seenRight.j1 k y0 y1 y2 y3 y4 y5 y6) (impl_prog_seenRight.j1 (k + 1) y0 y1 y2 y3 y4 y5 y6))
 | 0 => ⟨fun _ _ _ _ _ _ r h => by simp [impl_prog_seenRight.l0] at h, fun _ _ _ _ _ _ _ r h => by simp [impl_prog_seenRight.j1] at h⟩
 | k + 1 => by
  obtain ⟨ih0, ih1⟩ := impl_prog_seenRight.mono_l k
  refine ⟨?_, ?_⟩
  ·intro y0 y1 y2 y3 y4 y5
   unfold impl_prog_seenRight.l0
   with_reducible repeat' first | exact ih0 .. | exact ih1 .. | exact LeO.refl _ | exact LeO.none _ | refine LeO.ite ?_ ?_ | refine LeO.bind ?_ (fun _ => ?_)
  ·intro y0 y1 y2 y3 y4 y5 y6
   unfold impl_prog_seenRight.j1
   with_reducible repeat' first | exact ih0 .. | exact ih1 .. | exact LeO.refl _ | exact LeO.none _ | refine LeO.ite ?_ ?_ | refine LeO.bind ?_ (fun _ => ?_)
theorem impl_prog_seenRight.mono : ∀ a0 a1 a2 k, LeO (impl_prog_seenRight.f k a0 a1 a2) (impl_prog_seenRight.f (k + 1) a0 a1 a2) := by
 intro a0 a1 a2 k
 obtain ⟨ih0, ih1⟩ := impl_prog_seenRight.mono_l k
 unfold impl_prog_seenRight.f
 with_reducible repeat' first | exact ih0 .. | exact ih1 .. | exact LeO.refl _ | exact LeO.none _ | refine LeO.ite ?_ ?_ | refine LeO.bind ?_ (fun _ => ?_)
def impl_prog_seenRight.T4 : Bool × List (List Nat × List Nat) := (true, [([], []), ([], []), ([1], [1]), ([], []), ([3], [3]), ([0, 2, 4], [0, 2, 4]), ([5], [5]), ([6, 5], [6]), ([7], [7]), ([8, 7], [7, 8]), ([9, 7, 7], [7, 9]), ([10, 7], [7, 10]), ([7, 11], [7, 11]), ([12, 10], [12]), ([13], [13]), ([14, 13], [13, 14]), ([15, 13, 13], [13, 15]), ([16, 13], [13, 16]), ([13, 17], [13, 17]), ([18, 16], [18]), ([19], [19]), ([20, 19], [19, 20]), ([19], [19]), ([22, 19], [19, 22]), ([21, 23, 19], [19, 21, 23]), ([24, 19], [19, 24]), ([19, 25], [19, 25]), ([26, 19], [26]), ([27], [27]), ([28, 27], [27, 28]), ([29, 27, 27], [27, 29]), ([30], [30]), ([30], [30]), ([32, 30], [30, 32]), ([31, 33, 30], [30, 31, 33]), ([34, 30], [30, 34]), ([30], [30]), ([35, 36, 30, 30], [30, 35, 36]), ([37, 30], [30, 37]), ([30, 38, 27], [27, 30, 38]), ([27, 39], [27, 39])])
def impl_prog_seenRight.B4 : List Nat := [0, 0, 2, 0, 8, 31, 63, 127, 255, 511, 1023, 2047, 4095, 8191, 16383, 32767, 65535, 131071, 262143, 524287, 1048575, 2097151, 1048575, 5242879, 16777215, 33554431, 67108863, 134217727, 268435455, 536870911, 1073741823, 2147483647, 2147483647, 6442450943, 17179869183, 34359738367, 2147483647, 137438953471, 274877906943, 549755813887, 1099511627775]
theorem impl_prog_seenRight.tab4 : rtab .any (opsOf Try.f73 4) = impl_prog_seenRight.T4 := by kernel_rfl
theorem impl_prog_seenRight.bits4 : waitsOk impl_prog_seenRight.T4.2 impl_prog_seenRight.B4 = true := by kernel_rfl
theorem impl_prog_seenRight.calls (k : Nat) (g0_ : Nat) (A0_0 : Option Addr) (c0_0 : Nat) (l0_0 : List (S100)) (A0_1 : Option Addr) (c0_1 : Nat) (l0_1 : List (List Int)) (A1 : Option Addr) (c1 : Nat) (l1 : List (S108)) (r : Bool) (w : World) (hp0 : w.heap[g0_]? = some (.cells #[.slice A0_0 l0_0.length c0_0, .slice A0_1 l0_1.length c0_1] 92 (0, 0))) (hr0_0 : Kd.C k100 w A0_0 l0_0.length l0_0) (hc0_0 : l0_0.length ≤ c0_0) (hr0_1 : Kd.C (Kd.slice 2 (Kd.int .i64)) w A0_1 l0_1.length l0_1) (hc0_1 : l0_1.length ≤ c0_1) (hr1 : Kd.C k108 w A1 l1.length l1) (hc1 : l1.length ≤ c1) (h : impl_prog_seenRight.f k l0_0 l0_1 l1 = some r) :
  Calls Try.prog 73 #[.pointer (some ⟨g0_, 0, none⟩), .slice A1 l1.length c1] w fun e w' => e = .returned (.bool r) ∧ Below w.heap.size w w' := by
 have hu108 := Try.underlying108
 have HP0_ := am hp0
 clear hp0
 have HR0_0 := am hr0_0
 have HC0_0 := am hc0_0
 clear hr0_0 hc0_0
 have HR0_1 := am hr0_1
 have HC0_1 := am hc0_1
 clear hr0_1 hc0_1
 have HR1 := am hr1
 have HC1 := am hc1
 clear hr1 hc1
 have HB := am (Below.refl w.heap.size w)
 have H : (impl_prog_seenRight.l0 k l1 l1 (l1.length : Int) 0 l0_0 l0_1) = some r := h
 clear h
 have H' := am H
 clear H
 go_enter Try.func73, Try.ntmps73
 go_wp2
 go_loopg [9] k (fun kq v9 w' => ∃ (x9_1 : Int), v9 = .int .i64 x9_1 ∧ Aside0 (impl_prog_seenRight.l0 kq l1 l1 (l1.length : Int) x9_1 l0_0 l0_1 = some r) ∧ Aside0 (kq ≤ k) ∧ Aside0 (w'.heap[g0_]? = some (.cells #[(.slice A0_0 l0_0.length c0_0), (.slice A0_1 l0_1.length c0_1)] 92 (0, 0))) ∧ Aside0 (Below w.heap.size w w'))
 case atStart => exact ⟨(0), dr, H', ⟨Nat.le_refl _⟩, ⟨bp HP0_⟩, ⟨bw HB⟩⟩
 clear H'
 (try clear c1); (try clear p2)
 obtain ⟨x9_1, rfl, HA, HK1, HP0_, HB⟩ := hrel
 rcases gk with _ | k1
 ·exact absurd HA.out (by simp [impl_prog_seenRight.l0])
 have H := HA.out
 clear HA
 simp only [impl_prog_seenRight.l0] at H
 refine qI H ?_ ?_ <;> clear H <;> intro c3b0 H
 ·refine iM H ?_; clear H; intro c4b0 H
  refine iM H ?_; clear H; intro c5b0 H
  have HC6 := am H
  clear H
  have p384 : 0 ≤ (x9_1 : Int) := of_decide_eq_true as1
  have q384 : x9_1 < (l1.length : Int) := of_decide_eq_true as1
  obtain ⟨ad384, e384, hx384_0, hx384_1, hx384_2, hx384_3⟩ := at_T108 HR1.out x9_1 p384 q384
  cases e384
  replace hx384_0 := cl HB hx384_0
  replace hx384_1 := cl HB hx384_1
  replace hx384_2 := cl HB hx384_2
  replace hx384_3 := cl HB hx384_3
  replace p384 := eq_true p384
  replace q384 := eq_true q384
  go_upto_region 4 with (first | ((with_reducible refine gd 6 rfl ?_); refine bX 6 #[.int .i64 0, .int .i64 0, .int .i64 0, .int .i64 0] 108 HB ?_; clear HB; intro gb385 w7 hg hb BK385 GW385 HB; obtain ⟨NB0_385, NB385_0, HP0_⟩ := b3 hg HP0_ hb; clear hb hg; have hnb8 := NB385_0.out; have hnc8 := NB0_385.out; have hcz9 := bK w7 BK385; have hfz9 := bF BK385))
  (try simp only [Act.put, sa, sz, ss])
  go_cut [54] (fun v54 wc => ∃ (kq : Nat) (x54_5 : Bool), v54 = .bool x54_5 ∧ Aside0 (impl_prog_seenRight.j1 kq l1 l1 (l1.length : Int) x9_1 x54_5 l0_0 l0_1 = some r) ∧ Aside0 (kq ≤ k1) ∧ Aside0 (wc.heap[g0_]? = some (.cells #[(.slice A0_0 l0_0.length c0_0), (.slice A0_1 l0_1.length c0_1)] 92 (0, 0))) ∧ Aside0 (wc.heap[gb385]? = some (.cells #[.int .i64 ((rd_T108 l1 x9_1).f0), .int .i64 ((rd_T108 l1 x9_1).f1), .int .i64 ((rd_T108 l1 x9_1).f2), .int .i64 ((rd_T108 l1 x9_1).f3)] 108 (0, 0))) ∧ Aside0 (Below w.heap.size w wc))
  case first =>
   have H := HC6.out
   clear HC6
   refine be H ?_; clear H; intro t386 A10 H
   refine qT H ?_ ?_ <;> clear H <;> intro c11 H <;> subst c11
   ·refine be H ?_; clear H; intro t387 A12 H
    refine qT H ?_ ?_ <;> clear H <;> intro c13 H <;> subst c13
    ·refine be H ?_; clear H; intro t388 A14 H
     refine qT H ?_ ?_ <;> clear H <;> intro c15 H <;> subst c15
     ·refine qE H ?_ ?_ <;> clear H
      ·intro c16b0 c16b1 H
       (first | rw [c16b0] | (simp only [i64_w, i32_w]; rw [c16b0]) | skip)
       have H' := am H
       clear H
       try go_wp2
       replace HP0_ : Aside0 (((((w7.setCell ⟨gb385, 0, none⟩ (.int .i64 ((rd_T108 l1 x9_1).f0))).setCell ⟨gb385, 1, none⟩ (.int .i64 ((rd_T108 l1 x9_1).f1))).setCell ⟨gb385, 2, none⟩ (.int .i64 ((rd_T108 l1 x9_1).f2))).setCell ⟨gb385, 3, none⟩ (.int .i64 ((rd_T108 l1 x9_1).f3))).heap[g0_]? = some (.cells #[.slice A0_0 l0_0.length c0_0, .slice A0_1 l0_1.length c0_1] 92 (0, 0))) := ⟨by (with_reducible repeat (first | apply dN | apply dW | apply dA)); refine blk_far ?_ NB0_385.out _; (with_reducible repeat (first | apply dN | apply dW | apply dA)); refine blk_far ?_ NB0_385.out _; (with_reducible repeat (first | apply dN | apply dW | apply dA)); refine blk_far ?_ NB0_385.out _; (with_reducible repeat (first | apply dN | apply dW | apply dA)); refine blk_far ?_ NB0_385.out _; exact bp HP0_⟩
       replace BK385 : Aside0 (((((w7.setCell ⟨gb385, 0, none⟩ (.int .i64 ((rd_T108 l1 x9_1).f0))).setCell ⟨gb385, 1, none⟩ (.int .i64 ((rd_T108 l1 x9_1).f1))).setCell ⟨gb385, 2, none⟩ (.int .i64 ((rd_T108 l1 x9_1).f2))).setCell ⟨gb385, 3, none⟩ (.int .i64 ((rd_T108 l1 x9_1).f3))).heap[gb385]? = some (.cells #[.int .i64 ((rd_T108 l1 x9_1).f0), .int .i64 ((rd_T108 l1 x9_1).f1), .int .i64 ((rd_T108 l1 x9_1).f2), .int .i64 ((rd_T108 l1 x9_1).f3)] 108 (0, 0))) := ⟨by (with_reducible repeat (first | apply dN | apply dW | apply dA)); refine blk_put (cs := #[.int .i64 ((rd_T108 l1 x9_1).f0), .int .i64 ((rd_T108 l1 x9_1).f1), .int .i64 ((rd_T108 l1 x9_1).f2), .int .i64 0]) ?_ 3 _ rfl; (with_reducible repeat (first | apply dN | apply dW | apply dA)); refine blk_put (cs := #[.int .i64 ((rd_T108 l1 x9_1).f0), .int .i64 ((rd_T108 l1 x9_1).f1), .int .i64 0, .int .i64 0]) ?_ 2 _ rfl; (with_reducible repeat (first | apply dN | apply dW | apply dA)); refine blk_put (cs := #[.int .i64 ((rd_T108 l1 x9_1).f0), .int .i64 0, .int .i64 0, .int .i64 0]) ?_ 1 _ rfl; (with_reducible repeat (first | apply dN | apply dW | apply dA)); refine blk_put (cs := #[.int .i64 0, .int .i64 0, .int .i64 0, .int .i64 0]) ?_ 0 _ rfl; exact bp BK385⟩
       replace HB : Aside0 (Below w.heap.size w ((((w7.setCell ⟨gb385, 0, none⟩ (.int .i64 ((rd_T108 l1 x9_1).f0))).setCell ⟨gb385, 1, none⟩ (.int .i64 ((rd_T108 l1 x9_1).f1))).setCell ⟨gb385, 2, none⟩ (.int .i64 ((rd_T108 l1 x9_1).f2))).setCell ⟨gb385, 3, none⟩ (.int .i64 ((rd_T108 l1 x9_1).f3)))) := ⟨bw HB⟩
       generalize ((((w7.setCell ⟨gb385, 0, none⟩ (.int .i64 ((rd_T108 l1 x9_1).f0))).setCell ⟨gb385, 1, none⟩ (.int .i64 ((rd_T108 l1 x9_1).f1))).setCell ⟨gb385, 2, none⟩ (.int .i64 ((rd_T108 l1 x9_1).f2))).setCell ⟨gb385, 3, none⟩ (.int .i64 ((rd_T108 l1 x9_1).f3))) = w17 at HP0_ BK385 HB ⊢
       replace HP0_ := am (blk_drew HP0_.out)
       replace BK385 := am (blk_drew BK385.out)
       replace HB := am (below_drew1 HB.out)
       refine start_ (n := 41) (S := fun w' => w'.cell? ⟨gb385, 0, none⟩ = some (.int .i64 ((rd_T108 l1 x9_1).f0)) ∧ w'.cell? ⟨gb385, 1, none⟩ = some (.int .i64 ((rd_T108 l1 x9_1).f1)) ∧ w'.cell? ⟨gb385, 2, none⟩ = some (.int .i64 ((rd_T108 l1 x9_1).f2)) ∧ w'.cell? ⟨gb385, 3, none⟩ = some (.int .i64 ((rd_T108 l1 x9_1).f3))) (ds := []) (bv 41 0) (by kernel_rfl) rfl (by kernel_rfl) ⟨bc BK385 0, bc BK385 1, bc BK385 2, bc BK385 3⟩ (fun hHeld => ?_); refine with_tabW impl_prog_seenRight.tab4 impl_prog_seenRight.bits4 (fun HT_ HW_ => ?_)
       generalize w17.drew = w18 at HP0_ BK385 HB hHeld ⊢
       refine pu 0 14 41 1 HT_ ?_
       refine pu 1 15 41 3 HT_ ?_
       refine pu 3 17 41 11 HT_ ?_
       refine tk 2 16 41 15 HT_ HW_ hHeld ?_
       refine tk 4 18 41 31 HT_ HW_ hHeld ?_
       refine on 5 (some 19) 41 63 HT_ fun K hK => ?_
       refine goes_ Try.func79 (by kernel_rfl) rfl #[.pointer (some ⟨g0_, 0, none⟩), .int .i64 ((rd_T108 l1 x9_1).f0), .int .i64 ((rd_T108 l1 x9_1).f1)] (by rfl) rfl rfl gl ?_
       refine (impl_prog_isJz.calls g0_ A0_0 c0_0 l0_0 A0_1 c0_1 l0_1 ((rd_T108 l1 x9_1).f0) ((rd_T108 l1 x9_1).f1) true _ ?side1 ?side2 ?side3 ?side4 ?side5 A10.out).mono ?_
       (case side1 => exact (bp HP0_))
       (case side2 => exact cc (Kd.C_below HR0_0.out HB.out))
       (case side3 => exact HC0_0.out)
       (case side4 => exact cc (Kd.C_below HR0_1.out HB.out))
       (case side5 => exact HC0_1.out)
       rintro e w19 ⟨rfl, hb⟩
       refine ⟨_, rfl, ?_⟩
       replace HP0_ := bb HP0_ hb
       replace BK385 := bb BK385 hb
       replace HB := am (below_step (bw HB) hb)
       clear hb
       refine hK.out _ _ ⟨bc BK385 0, bc BK385 1, bc BK385 2, bc BK385 3⟩ (fun hHeld => ?_)
       clear hK K
       refine nm (some 19) ?_
       refine pu 6 20 41 127 HT_ ?_
       refine pu 7 21 41 255 HT_ ?_
       refine pu 8 22 41 511 HT_ ?_
       refine tk 9 23 41 1023 HT_ HW_ hHeld ?_
       refine on 10 (some 24) 41 2047 HT_ fun K hK => ?_
       refine goes_ Try.func85 (by kernel_rfl) rfl #[.int .i64 ((rd_T108 l1 x9_1).f2), .int .i64 0, .int .i64 1000000] (by rfl) rfl rfl gl ?_
       with_reducible refine (impl_in.calls ((rd_T108 l1 x9_1).f2) 0 1000000 true _ A12.out).mono ?_
       rintro e w' ⟨rfl, ⟨nd, rfl⟩⟩
       refine ⟨_, rfl, ?_⟩
       refine hK.out _ _ ⟨bc BK385 0, bc BK385 1, bc BK385 2, bc BK385 3⟩ (fun hHeld => ?_)
       clear hK K
       refine nm (some 24) ?_
       refine pu 11 25 41 4095 HT_ ?_
       refine pu 12 26 41 8191 HT_ ?_
       refine pu 13 27 41 16383 HT_ ?_
       refine pu 14 28 41 32767 HT_ ?_
       refine tk 15 29 41 65535 HT_ HW_ hHeld ?_
       refine on 16 (some 30) 41 131071 HT_ fun K hK => ?_
       refine goes_ Try.func85 (by kernel_rfl) rfl #[.int .i64 ((rd_T108 l1 x9_1).f3), .int .i64 0, .int .i64 1000000] (by rfl) rfl rfl gl ?_
       with_reducible refine (impl_in.calls ((rd_T108 l1 x9_1).f3) 0 1000000 true _ A14.out).mono ?_
       rintro e w' ⟨rfl, ⟨nd, rfl⟩⟩
       refine ⟨_, rfl, ?_⟩
       refine hK.out _ _ ⟨bc BK385 0, bc BK385 1, bc BK385 2, bc BK385 3⟩ (fun hHeld => ?_)
       clear hK K
       refine nm (some 30) ?_
       refine pu 17 31 41 262143 HT_ ?_
       refine pu 18 32 41 524287 HT_ ?_
       refine pu 19 33 41 1048575 HT_ ?_
       refine pu 20 34 41 2097151 HT_ ?_
       refine pu 22 36 41 6291455 HT_ ?_
       refine tk 21 35 41 8388607 HT_ HW_ hHeld ?_
       refine tk 23 37 41 16777215 HT_ HW_ hHeld ?_
       refine pu 24 38 41 33554431 HT_ ?_
       refine pu 25 39 41 67108863 HT_ ?_
       refine pu 26 40 41 134217727 HT_ ?_
       refine pu 27 41 41 268435455 HT_ ?_
       refine pn 28 42 41 536870911 HT_ ?_
       refine pn 29 43 41 1073741823 HT_ ?_
       refine pn 30 44 41 2147483647 HT_ ?_
       refine pn 31 45 41 4294967295 HT_ ?_
       refine pn 32 46 41 8589934591 HT_ ?_
       refine pn 33 47 41 17179869183 HT_ ?_
       refine pn 34 48 41 34359738367 HT_ ?_
       refine pn 35 49 41 68719476735 HT_ ?_
       refine pn 36 50 41 137438953471 HT_ ?_
       refine pn 37 51 41 274877906943 HT_ ?_
       refine pn 38 52 41 549755813887 HT_ ?_
       refine pn 39 53 41 1099511627775 HT_ ?_
       refine pu 40 54 41 2199023255551 HT_ ?_
       refine done_ (done_of HT_.out (by kernel_rfl)) ?_
       try go_wp2
       go_meet
       case rel => exact ⟨_, (true), dr, H', ⟨lk1 HK1⟩, ⟨bp HP0_⟩, ⟨bp BK385⟩, ⟨bw HB⟩⟩
      intro c16 c16b0 c16b1 H
      (first | rw [c16b0] | (simp only [i64_w, i32_w]; rw [c16b0]) | skip)
      refine qG H ?_ ?_ <;> clear H <;> intro c20b0 H
      ·obtain ⟨ji21, hji21⟩ : ∃ j_ : Int, (wrap64 (x9_1 - 1)) = j_ := ⟨_, rfl⟩
       replace H : (if 0 ≤ (ji21) then (if (ji21) < (l1.length : Int) then ((impl_bySpot.f ((rd_T108 l1 (ji21)).f0) ((rd_T108 l1 (ji21)).f1) ((rd_T108 l1 (ji21)).f2) ((rd_T108 l1 (ji21)).f3) ((rd_T108 l1 x9_1).f0) ((rd_T108 l1 x9_1).f1) ((rd_T108 l1 x9_1).f2) ((rd_T108 l1 x9_1).f3)).bind fun t390 => (impl_prog_seenRight.j1 k1 l1 l1 (l1.length : Int) x9_1 (decide (t390 ≥ 0)) l0_0 l0_1)) else (none)) else (none)) = some r := by first | (rw [hji21] at H; exact H) | (simp only [hji21] at H ⊢; exact H)
       (try rw [hji21] at A10)
       (try rw [hji21] at A12)
       (try rw [hji21] at A14)
       have hji21w : (IntKind.i64.wrap (x9_1 - 1)) = ji21 := (i64_w _).trans hji21
       refine iM H ?_; clear H; intro c22b0 H
       refine iM H ?_; clear H; intro c23b0 H
       refine be H ?_; clear H; intro t390 A24 H
       have H' := am H
       clear H
       try go_wp2
       replace HP0_ : Aside0 (((((w7.setCell ⟨gb385, 0, none⟩ (.int .i64 ((rd_T108 l1 x9_1).f0))).setCell ⟨gb385, 1, none⟩ (.int .i64 ((rd_T108 l1 x9_1).f1))).setCell ⟨gb385, 2, none⟩ (.int .i64 ((rd_T108 l1 x9_1).f2))).setCell ⟨gb385, 3, none⟩ (.int .i64 ((rd_T108 l1 x9_1).f3))).heap[g0_]? = some (.cells #[.slice A0_0 l0_0.length c0_0, .slice A0_1 l0_1.length c0_1] 92 (0, 0))) := ⟨by (with_reducible repeat (first | apply dN | apply dW | apply dA)); refine blk_far ?_ NB0_385.out _; (with_reducible repeat (first | apply dN | apply dW | apply dA)); refine blk_far ?_ NB0_385.out _; (with_reducible repeat (first | apply dN | apply dW | apply dA)); refine blk_far ?_ NB0_385.out _; (with_reducible repeat (first | apply dN | apply dW | apply dA)); refine blk_far ?_ NB0_385.out _; exact bp HP0_⟩
       replace BK385 : Aside0 (((((w7.setCell ⟨gb385, 0, none⟩ (.int .i64 ((rd_T108 l1 x9_1).f0))).setCell ⟨gb385, 1, none⟩ (.int .i64 ((rd_T108 l1 x9_1).f1))).setCell ⟨gb385, 2, none⟩ (.int .i64 ((rd_T108 l1 x9_1).f2))).setCell ⟨gb385, 3, none⟩ (.int .i64 ((rd_T108 l1 x9_1).f3))).heap[gb385]? = some (.cells #[.int .i64 ((rd_T108 l1 x9_1).f0), .int .i64 ((rd_T108 l1 x9_1).f1), .int .i64 ((rd_T108 l1 x9_1).f2), .int .i64 ((rd_T108 l1 x9_1).f3)] 108 (0, 0))) := ⟨by (with_reducible repeat (first | apply dN | apply dW | apply dA)); refine blk_put (cs := #[.int .i64 ((rd_T108 l1 x9_1).f0), .int .i64 ((rd_T108 l1 x9_1).f1), .int .i64 ((rd_T108 l1 x9_1).f2), .int .i64 0]) ?_ 3 _ rfl; (with_reducible repeat (first | apply dN | apply dW | apply dA)); refine blk_put (cs := #[.int .i64 ((rd_T108 l1 x9_1).f0), .int .i64 ((rd_T108 l1 x9_1).f1), .int .i64 0, .int .i64 0]) ?_ 2 _ rfl; (with_reducible repeat (first | apply dN | apply dW | apply dA)); refine blk_put (cs := #[.int .i64 ((rd_T108 l1 x9_1).f0), .int .i64 0, .int .i64 0, .int .i64 0]) ?_ 1 _ rfl; (with_reducible repeat (first | apply dN | apply dW | apply dA)); refine blk_put (cs := #[.int .i64 0, .int .i64 0, .int .i64 0, .int .i64 0]) ?_ 0 _ rfl; exact bp BK385⟩
       replace HB : Aside0 (Below w.heap.size w ((((w7.setCell ⟨gb385, 0, none⟩ (.int .i64 ((rd_T108 l1 x9_1).f0))).setCell ⟨gb385, 1, none⟩ (.int .i64 ((rd_T108 l1 x9_1).f1))).setCell ⟨gb385, 2, none⟩ (.int .i64 ((rd_T108 l1 x9_1).f2))).setCell ⟨gb385, 3, none⟩ (.int .i64 ((rd_T108 l1 x9_1).f3)))) := ⟨bw HB⟩
       generalize ((((w7.setCell ⟨gb385, 0, none⟩ (.int .i64 ((rd_T108 l1 x9_1).f0))).setCell ⟨gb385, 1, none⟩ (.int .i64 ((rd_T108 l1 x9_1).f1))).setCell ⟨gb385, 2, none⟩ (.int .i64 ((rd_T108 l1 x9_1).f2))).setCell ⟨gb385, 3, none⟩ (.int .i64 ((rd_T108 l1 x9_1).f3))) = w25 at HP0_ BK385 HB ⊢
       replace HP0_ := am (blk_drew HP0_.out)
       replace BK385 := am (blk_drew BK385.out)
       replace HB := am (below_drew1 HB.out)
       have p389 : 0 ≤ ((ji21) : Int) := of_decide_eq_true as1
       have q389 : (ji21) < (l1.length : Int) := of_decide_eq_true as1
       obtain ⟨ad389, e389, hx389_0, hx389_1, hx389_2, hx389_3⟩ := at_T108 HR1.out (ji21) p389 q389
       have hw389_3 := hx389_3
       have hw389_2 := hx389_2
       have hw389_1 := hx389_1
       have hw389_0 := hx389_0
       obtain rfl : ad384 = ad389 := (by injection e389)
       replace hx389_0 := cl HB hx389_0
       replace hx389_1 := cl HB hx389_1
       replace hx389_2 := cl HB hx389_2
       replace hx389_3 := cl HB hx389_3
       replace p389 := eq_true p389
       replace q389 := eq_true q389
       refine start_ (n := 41) (S := fun w' => w'.cell? ⟨gb385, 0, none⟩ = some (.int .i64 ((rd_T108 l1 x9_1).f0)) ∧ w'.cell? ⟨gb385, 1, none⟩ = some (.int .i64 ((rd_T108 l1 x9_1).f1)) ∧ w'.cell? ⟨gb385, 2, none⟩ = some (.int .i64 ((rd_T108 l1 x9_1).f2)) ∧ w'.cell? ⟨gb385, 3, none⟩ = some (.int .i64 ((rd_T108 l1 x9_1).f3)) ∧ w'.cell? (ad384.add (((ji21)).toNat * 4)) = some (.int .i64 ((rd_T108 l1 (ji21)).f0)) ∧ w'.cell? ⟨(ad384.add (((ji21)).toNat * 4)).block, (ad384.add (((ji21)).toNat * 4)).off + 1, none⟩ = some (.int .i64 ((rd_T108 l1 (ji21)).f1)) ∧ w'.cell? ⟨(ad384.add (((ji21)).toNat * 4)).block, (ad384.add (((ji21)).toNat * 4)).off + 2, none⟩ = some (.int .i64 ((rd_T108 l1 (ji21)).f2)) ∧ w'.cell? ⟨(ad384.add (((ji21)).toNat * 4)).block, (ad384.add (((ji21)).toNat * 4)).off + 3, none⟩ = some (.int .i64 ((rd_T108 l1 (ji21)).f3))) (ds := []) (bv 41 0) (by kernel_rfl) rfl (by kernel_rfl) ⟨bc BK385 0, bc BK385 1, bc BK385 2, bc BK385 3, (cq HB hw389_0), (cq HB hw389_1), (cq HB hw389_2), (cq HB hw389_3)⟩ (fun hHeld => ?_); refine with_tabW impl_prog_seenRight.tab4 impl_prog_seenRight.bits4 (fun HT_ HW_ => ?_)
       generalize w25.drew = w26 at HP0_ BK385 HB hx389_0 hx389_1 hx389_2 hx389_3 hHeld ⊢
       refine pu 0 14 41 1 HT_ ?_
       refine pu 1 15 41 3 HT_ ?_
       refine pu 3 17 41 11 HT_ ?_
       refine tk 2 16 41 15 HT_ HW_ hHeld ?_
       refine tk 4 18 41 31 HT_ HW_ hHeld ?_
       refine on 5 (some 19) 41 63 HT_ fun K hK => ?_
       refine goes_ Try.func79 (by kernel_rfl) rfl #[.pointer (some ⟨g0_, 0, none⟩), .int .i64 ((rd_T108 l1 x9_1).f0), .int .i64 ((rd_T108 l1 x9_1).f1)] (by rfl) rfl rfl gl ?_
       refine (impl_prog_isJz.calls g0_ A0_0 c0_0 l0_0 A0_1 c0_1 l0_1 ((rd_T108 l1 x9_1).f0) ((rd_T108 l1 x9_1).f1) true _ ?side1 ?side2 ?side3 ?side4 ?side5 A10.out).mono ?_
       (case side1 => exact (bp HP0_))
       (case side2 => exact cc (Kd.C_below HR0_0.out HB.out))
       (case side3 => exact HC0_0.out)
       (case side4 => exact cc (Kd.C_below HR0_1.out HB.out))
       (case side5 => exact HC0_1.out)
       rintro e w27 ⟨rfl, hb⟩
       refine ⟨_, rfl, ?_⟩
       replace HP0_ := bb HP0_ hb
       replace BK385 := bb BK385 hb
       replace HB := am (below_step (bw HB) hb)
       clear hb
       refine hK.out _ _ ⟨bc BK385 0, bc BK385 1, bc BK385 2, bc BK385 3, (cq HB hw389_0), (cq HB hw389_1), (cq HB hw389_2), (cq HB hw389_3)⟩ (fun hHeld => ?_)
       clear hK K
       refine nm (some 19) ?_
       refine pu 6 20 41 127 HT_ ?_
       refine pu 7 21 41 255 HT_ ?_
       refine pu 8 22 41 511 HT_ ?_
       refine tk 9 23 41 1023 HT_ HW_ hHeld ?_
       refine on 10 (some 24) 41 2047 HT_ fun K hK => ?_
       refine goes_ Try.func85 (by kernel_rfl) rfl #[.int .i64 ((rd_T108 l1 x9_1).f2), .int .i64 0, .int .i64 1000000] (by rfl) rfl rfl gl ?_
       with_reducible refine (impl_in.calls ((rd_T108 l1 x9_1).f2) 0 1000000 true _ A12.out).mono ?_
       rintro e w' ⟨rfl, ⟨nd, rfl⟩⟩
       refine ⟨_, rfl, ?_⟩
       refine hK.out _ _ ⟨bc BK385 0, bc BK385 1, bc BK385 2, bc BK385 3, (cq HB hw389_0), (cq HB hw389_1), (cq HB hw389_2), (cq HB hw389_3)⟩ (fun hHeld => ?_)
       clear hK K
       refine nm (some 24) ?_
       refine pu 11 25 41 4095 HT_ ?_
       refine pu 12 26 41 8191 HT_ ?_
       refine pu 13 27 41 16383 HT_ ?_
       refine pu 14 28 41 32767 HT_ ?_
       refine tk 15 29 41 65535 HT_ HW_ hHeld ?_
       refine on 16 (some 30) 41 131071 HT_ fun K hK => ?_
       refine goes_ Try.func85 (by kernel_rfl) rfl #[.int .i64 ((rd_T108 l1 x9_1).f3), .int .i64 0, .int .i64 1000000] (by rfl) rfl rfl gl ?_
       with_reducible refine (impl_in.calls ((rd_T108 l1 x9_1).f3) 0 1000000 true _ A14.out).mono ?_
       rintro e w' ⟨rfl, ⟨nd, rfl⟩⟩
       refine ⟨_, rfl, ?_⟩
       refine hK.out _ _ ⟨bc BK385 0, bc BK385 1, bc BK385 2, bc BK385 3, (cq HB hw389_0), (cq HB hw389_1), (cq HB hw389_2), (cq HB hw389_3)⟩ (fun hHeld => ?_)
       clear hK K
       refine nm (some 30) ?_
       refine pu 17 31 41 262143 HT_ ?_
       refine pu 18 32 41 524287 HT_ ?_
       refine pu 19 33 41 1048575 HT_ ?_
       refine pu 20 34 41 2097151 HT_ ?_
       refine pu 22 36 41 6291455 HT_ ?_
       refine tk 21 35 41 8388607 HT_ HW_ hHeld ?_
       refine tk 23 37 41 16777215 HT_ HW_ hHeld ?_
       refine pu 24 38 41 33554431 HT_ ?_
       refine pu 25 39 41 67108863 HT_ ?_
       refine pu 26 40 41 134217727 HT_ ?_
       refine pu 27 41 41 268435455 HT_ ?_
       refine pu 28 42 41 536870911 HT_ ?_
       refine pu 29 43 41 1073741823 HT_ ?_
       refine pu 30 44 41 2147483647 HT_ ?_
       refine pu 31 45 41 4294967295 HT_ ?_
       refine pu 32 46 41 8589934591 HT_ ?_
       refine pu 33 47 41 17179869183 HT_ ?_
       refine pu 34 48 41 34359738367 HT_ ?_
       refine tk 35 49 41 68719476735 HT_ HW_ hHeld ?_
       refine tk 36 50 41 137438953471 HT_ HW_ hHeld ?_
       refine on 37 (some 51) 41 274877906943 HT_ fun K hK => ?_
       refine goes_ Try.func128 (by kernel_rfl) rfl #[.agg #[.int .i64 ((rd_T108 l1 (ji21)).f0), .int .i64 ((rd_T108 l1 (ji21)).f1), .int .i64 ((rd_T108 l1 (ji21)).f2), .int .i64 ((rd_T108 l1 (ji21)).f3)], .agg #[.int .i64 ((rd_T108 l1 x9_1).f0), .int .i64 ((rd_T108 l1 x9_1).f1), .int .i64 ((rd_T108 l1 x9_1).f2), .int .i64 ((rd_T108 l1 x9_1).f3)]] (by rfl) rfl rfl (by (try simp only [List.map_toArray, List.map_cons, List.map_nil]); first | done | (simp only [hji21]; rfl) | rfl | (simp only [List.length_drop, List.length_take]; rfl)) ?_
       with_reducible refine (impl_bySpot.calls ((rd_T108 l1 (ji21)).f0) ((rd_T108 l1 (ji21)).f1) ((rd_T108 l1 (ji21)).f2) ((rd_T108 l1 (ji21)).f3) ((rd_T108 l1 x9_1).f0) ((rd_T108 l1 x9_1).f1) ((rd_T108 l1 x9_1).f2) ((rd_T108 l1 x9_1).f3) t390 _ A24.out).mono ?_
       rintro e w28 ⟨rfl, hb⟩
       refine ⟨_, rfl, ?_⟩
       replace HP0_ := bb HP0_ hb
       replace BK385 := bb BK385 hb
       replace HB := am (below_step (bw HB) hb)
       clear hb
       refine hK.out _ _ ⟨bc BK385 0, bc BK385 1, bc BK385 2, bc BK385 3, (cq HB hw389_0), (cq HB hw389_1), (cq HB hw389_2), (cq HB hw389_3)⟩ (fun hHeld => ?_)
       clear hK K
       refine nm (some 51) ?_
       refine pu 38 52 41 549755813887 HT_ ?_
       refine pu 39 53 41 1099511627775 HT_ ?_
       refine pu 40 54 41 2199023255551 HT_ ?_
       refine done_ (done_of HT_.out (by kernel_rfl)) ?_
       try go_wp2
       go_meet
       case rel => exact ⟨_, (decide (t390 ≥ 0)), dr, H', ⟨lk1 HK1⟩, ⟨bp HP0_⟩, ⟨bp BK385⟩, ⟨bw HB⟩⟩
      have H' := am H
      clear H
      try go_wp2
      replace HP0_ : Aside0 (((((w7.setCell ⟨gb385, 0, none⟩ (.int .i64 ((rd_T108 l1 x9_1).f0))).setCell ⟨gb385, 1, none⟩ (.int .i64 ((rd_T108 l1 x9_1).f1))).setCell ⟨gb385, 2, none⟩ (.int .i64 ((rd_T108 l1 x9_1).f2))).setCell ⟨gb385, 3, none⟩ (.int .i64 ((rd_T108 l1 x9_1).f3))).heap[g0_]? = some (.cells #[.slice A0_0 l0_0.length c0_0, .slice A0_1 l0_1.length c0_1] 92 (0, 0))) := ⟨by (with_reducible repeat (first | apply dN | apply dW | apply dA)); refine blk_far ?_ NB0_385.out _; (with_reducible repeat (first | apply dN | apply dW | apply dA)); refine blk_far ?_ NB0_385.out _; (with_reducible repeat (first | apply dN | apply dW | apply dA)); refine blk_far ?_ NB0_385.out _; (with_reducible repeat (first | apply dN | apply dW | apply dA)); refine blk_far ?_ NB0_385.out _; exact bp HP0_⟩
      replace BK385 : Aside0 (((((w7.setCell ⟨gb385, 0, none⟩ (.int .i64 ((rd_T108 l1 x9_1).f0))).setCell ⟨gb385, 1, none⟩ (.int .i64 ((rd_T108 l1 x9_1).f1))).setCell ⟨gb385, 2, none⟩ (.int .i64 ((rd_T108 l1 x9_1).f2))).setCell ⟨gb385, 3, none⟩ (.int .i64 ((rd_T108 l1 x9_1).f3))).heap[gb385]? = some (.cells #[.int .i64 ((rd_T108 l1 x9_1).f0), .int .i64 ((rd_T108 l1 x9_1).f1), .int .i64 ((rd_T108 l1 x9_1).f2), .int .i64 ((rd_T108 l1 x9_1).f3)] 108 (0, 0))) := ⟨by (with_reducible repeat (first | apply dN | apply dW | apply dA)); refine blk_put (cs := #[.int .i64 ((rd_T108 l1 x9_1).f0), .int .i64 ((rd_T108 l1 x9_1).f1), .int .i64 ((rd_T108 l1 x9_1).f2), .int .i64 0]) ?_ 3 _ rfl; (with_reducible repeat (first | apply dN | apply dW | apply dA)); refine blk_put (cs := #[.int .i64 ((rd_T108 l1 x9_1).f0), .int .i64 ((rd_T108 l1 x9_1).f1), .int .i64 0, .int .i64 0]) ?_ 2 _ rfl; (with_reducible repeat (first | apply dN | apply dW | apply dA)); refine blk_put (cs := #[.int .i64 ((rd_T108 l1 x9_1).f0), .int .i64 0, .int .i64 0, .int .i64 0]) ?_ 1 _ rfl; (with_reducible repeat (first | apply dN | apply dW | apply dA)); refine blk_put (cs := #[.int .i64 0, .int .i64 0, .int .i64 0, .int .i64 0]) ?_ 0 _ rfl; exact bp BK385⟩
      replace HB : Aside0 (Below w.heap.size w ((((w7.setCell ⟨gb385, 0, none⟩ (.int .i64 ((rd_T108 l1 x9_1).f0))).setCell ⟨gb385, 1, none⟩ (.int .i64 ((rd_T108 l1 x9_1).f1))).setCell ⟨gb385, 2, none⟩ (.int .i64 ((rd_T108 l1 x9_1).f2))).setCell ⟨gb385, 3, none⟩ (.int .i64 ((rd_T108 l1 x9_1).f3)))) := ⟨bw HB⟩
      generalize ((((w7.setCell ⟨gb385, 0, none⟩ (.int .i64 ((rd_T108 l1 x9_1).f0))).setCell ⟨gb385, 1, none⟩ (.int .i64 ((rd_T108 l1 x9_1).f1))).setCell ⟨gb385, 2, none⟩ (.int .i64 ((rd_T108 l1 x9_1).f2))).setCell ⟨gb385, 3, none⟩ (.int .i64 ((rd_T108 l1 x9_1).f3))) = w29 at HP0_ BK385 HB ⊢
      replace HP0_ := am (blk_drew HP0_.out)
      replace BK385 := am (blk_drew BK385.out)
      replace HB := am (below_drew1 HB.out)
      refine start_ (n := 41) (S := fun w' => w'.cell? ⟨gb385, 0, none⟩ = some (.int .i64 ((rd_T108 l1 x9_1).f0)) ∧ w'.cell? ⟨gb385, 1, none⟩ = some (.int .i64 ((rd_T108 l1 x9_1).f1)) ∧ w'.cell? ⟨gb385, 2, none⟩ = some (.int .i64 ((rd_T108 l1 x9_1).f2)) ∧ w'.cell? ⟨gb385, 3, none⟩ = some (.int .i64 ((rd_T108 l1 x9_1).f3))) (ds := []) (bv 41 0) (by kernel_rfl) rfl (by kernel_rfl) ⟨bc BK385 0, bc BK385 1, bc BK385 2, bc BK385 3⟩ (fun hHeld => ?_); refine with_tabW impl_prog_seenRight.tab4 impl_prog_seenRight.bits4 (fun HT_ HW_ => ?_)
      generalize w29.drew = w30 at HP0_ BK385 HB hHeld ⊢
      refine pu 0 14 41 1 HT_ ?_
      refine pu 1 15 41 3 HT_ ?_
      refine pu 3 17 41 11 HT_ ?_
      refine tk 2 16 41 15 HT_ HW_ hHeld ?_
      refine tk 4 18 41 31 HT_ HW_ hHeld ?_
      refine on 5 (some 19) 41 63 HT_ fun K hK => ?_
      refine goes_ Try.func79 (by kernel_rfl) rfl #[.pointer (some ⟨g0_, 0, none⟩), .int .i64 ((rd_T108 l1 x9_1).f0), .int .i64 ((rd_T108 l1 x9_1).f1)] (by rfl) rfl rfl gl ?_
      refine (impl_prog_isJz.calls g0_ A0_0 c0_0 l0_0 A0_1 c0_1 l0_1 ((rd_T108 l1 x9_1).f0) ((rd_T108 l1 x9_1).f1) true _ ?side1 ?side2 ?side3 ?side4 ?side5 A10.out).mono ?_
      (case side1 => exact (bp HP0_))
      (case side2 => exact cc (Kd.C_below HR0_0.out HB.out))
      (case side3 => exact HC0_0.out)
      (case side4 => exact cc (Kd.C_below HR0_1.out HB.out))
      (case side5 => exact HC0_1.out)
      rintro e w31 ⟨rfl, hb⟩
      refine ⟨_, rfl, ?_⟩
      replace HP0_ := bb HP0_ hb
      replace BK385 := bb BK385 hb
      replace HB := am (below_step (bw HB) hb)
      clear hb
      refine hK.out _ _ ⟨bc BK385 0, bc BK385 1, bc BK385 2, bc BK385 3⟩ (fun hHeld => ?_)
      clear hK K
      refine nm (some 19) ?_
      refine pu 6 20 41 127 HT_ ?_
      refine pu 7 21 41 255 HT_ ?_
      refine pu 8 22 41 511 HT_ ?_
      refine tk 9 23 41 1023 HT_ HW_ hHeld ?_
      refine on 10 (some 24) 41 2047 HT_ fun K hK => ?_
      refine goes_ Try.func85 (by kernel_rfl) rfl #[.int .i64 ((rd_T108 l1 x9_1).f2), .int .i64 0, .int .i64 1000000] (by rfl) rfl rfl gl ?_
      with_reducible refine (impl_in.calls ((rd_T108 l1 x9_1).f2) 0 1000000 true _ A12.out).mono ?_
      rintro e w' ⟨rfl, ⟨nd, rfl⟩⟩
      refine ⟨_, rfl, ?_⟩
      refine hK.out _ _ ⟨bc BK385 0, bc BK385 1, bc BK385 2, bc BK385 3⟩ (fun hHeld => ?_)
      clear hK K
      refine nm (some 24) ?_
      refine pu 11 25 41 4095 HT_ ?_
      refine pu 12 26 41 8191 HT_ ?_
      refine pu 13 27 41 16383 HT_ ?_
      refine pu 14 28 41 32767 HT_ ?_
      refine tk 15 29 41 65535 HT_ HW_ hHeld ?_
      refine on 16 (some 30) 41 131071 HT_ fun K hK => ?_
      refine goes_ Try.func85 (by kernel_rfl) rfl #[.int .i64 ((rd_T108 l1 x9_1).f3), .int .i64 0, .int .i64 1000000] (by rfl) rfl rfl gl ?_
      with_reducible refine (impl_in.calls ((rd_T108 l1 x9_1).f3) 0 1000000 true _ A14.out).mono ?_
      rintro e w' ⟨rfl, ⟨nd, rfl⟩⟩
      refine ⟨_, rfl, ?_⟩
      refine hK.out _ _ ⟨bc BK385 0, bc BK385 1, bc BK385 2, bc BK385 3⟩ (fun hHeld => ?_)
      clear hK K
      refine nm (some 30) ?_
      refine pu 17 31 41 262143 HT_ ?_
      refine pu 18 32 41 524287 HT_ ?_
      refine pu 19 33 41 1048575 HT_ ?_
      refine pu 20 34 41 2097151 HT_ ?_
      refine pu 22 36 41 6291455 HT_ ?_
      refine tk 21 35 41 8388607 HT_ HW_ hHeld ?_
      refine tk 23 37 41 16777215 HT_ HW_ hHeld ?_
      refine pu 24 38 41 33554431 HT_ ?_
      refine pu 25 39 41 67108863 HT_ ?_
      refine pu 26 40 41 134217727 HT_ ?_
      refine pu 27 41 41 268435455 HT_ ?_
      refine pu 28 42 41 536870911 HT_ ?_
      refine pu 29 43 41 1073741823 HT_ ?_
      refine pu 30 44 41 2147483647 HT_ ?_
      refine pn 31 45 41 4294967295 HT_ ?_
      refine pn 32 46 41 8589934591 HT_ ?_
      refine pn 33 47 41 17179869183 HT_ ?_
      refine pn 34 48 41 34359738367 HT_ ?_
      refine pn 35 49 41 68719476735 HT_ ?_
      refine pn 36 50 41 137438953471 HT_ ?_
      refine pn 37 51 41 274877906943 HT_ ?_
      refine pn 38 52 41 549755813887 HT_ ?_
      refine pu 39 53 41 1099511627775 HT_ ?_
      refine pu 40 54 41 2199023255551 HT_ ?_
      refine done_ (done_of HT_.out (by kernel_rfl)) ?_
      try go_wp2
      go_meet
      case rel => exact ⟨_, (false), dr, H', ⟨lk1 HK1⟩, ⟨bp HP0_⟩, ⟨bp BK385⟩, ⟨bw HB⟩⟩
     have H' := am H
     clear H
     try go_wp2
     replace HP0_ : Aside0 (((((w7.setCell ⟨gb385, 0, none⟩ (.int .i64 ((rd_T108 l1 x9_1).f0))).setCell ⟨gb385, 1, none⟩ (.int .i64 ((rd_T108 l1 x9_1).f1))).setCell ⟨gb385, 2, none⟩ (.int .i64 ((rd_T108 l1 x9_1).f2))).setCell ⟨gb385, 3, none⟩ (.int .i64 ((rd_T108 l1 x9_1).f3))).heap[g0_]? = some (.cells #[.slice A0_0 l0_0.length c0_0, .slice A0_1 l0_1.length c0_1] 92 (0, 0))) := ⟨by (with_reducible repeat (first | apply dN | apply dW | apply dA)); refine blk_far ?_ NB0_385.out _; (with_reducible repeat (first | apply dN | apply dW | apply dA)); refine blk_far ?_ NB0_385.out _; (with_reducible repeat (first | apply dN | apply dW | apply dA)); refine blk_far ?_ NB0_385.out _; (with_reducible repeat (first | apply dN | apply dW | apply dA)); refine blk_far ?_ NB0_385.out _; exact bp HP0_⟩
     replace BK385 : Aside0 (((((w7.setCell ⟨gb385, 0, none⟩ (.int .i64 ((rd_T108 l1 x9_1).f0))).setCell ⟨gb385, 1, none⟩ (.int .i64 ((rd_T108 l1 x9_1).f1))).setCell ⟨gb385, 2, none⟩ (.int .i64 ((rd_T108 l1 x9_1).f2))).setCell ⟨gb385, 3, none⟩ (.int .i64 ((rd_T108 l1 x9_1).f3))).heap[gb385]? = some (.cells #[.int .i64 ((rd_T108 l1 x9_1).f0), .int .i64 ((rd_T108 l1 x9_1).f1), .int .i64 ((rd_T108 l1 x9_1).f2), .int .i64 ((rd_T108 l1 x9_1).f3)] 108 (0, 0))) := ⟨by (with_reducible repeat (first | apply dN | apply dW | apply dA)); refine blk_put (cs := #[.int .i64 ((rd_T108 l1 x9_1).f0), .int .i64 ((rd_T108 l1 x9_1).f1), .int .i64 ((rd_T108 l1 x9_1).f2), .int .i64 0]) ?_ 3 _ rfl; (with_reducible repeat (first | apply dN | apply dW | apply dA)); refine blk_put (cs := #[.int .i64 ((rd_T108 l1 x9_1).f0), .int .i64 ((rd_T108 l1 x9_1).f1), .int .i64 0, .int .i64 0]) ?_ 2 _ rfl; (with_reducible repeat (first | apply dN | apply dW | apply dA)); refine blk_put (cs := #[.int .i64 ((rd_T108 l1 x9_1).f0), .int .i64 0, .int .i64 0, .int .i64 0]) ?_ 1 _ rfl; (with_reducible repeat (first | apply dN | apply dW | apply dA)); refine blk_put (cs := #[.int .i64 0, .int .i64 0, .int .i64 0, .int .i64 0]) ?_ 0 _ rfl; exact bp BK385⟩
     replace HB : Aside0 (Below w.heap.size w ((((w7.setCell ⟨gb385, 0, none⟩ (.int .i64 ((rd_T108 l1 x9_1).f0))).setCell ⟨gb385, 1, none⟩ (.int .i64 ((rd_T108 l1 x9_1).f1))).setCell ⟨gb385, 2, none⟩ (.int .i64 ((rd_T108 l1 x9_1).f2))).setCell ⟨gb385, 3, none⟩ (.int .i64 ((rd_T108 l1 x9_1).f3)))) := ⟨bw HB⟩
     generalize ((((w7.setCell ⟨gb385, 0, none⟩ (.int .i64 ((rd_T108 l1 x9_1).f0))).setCell ⟨gb385, 1, none⟩ (.int .i64 ((rd_T108 l1 x9_1).f1))).setCell ⟨gb385, 2, none⟩ (.int .i64 ((rd_T108 l1 x9_1).f2))).setCell ⟨gb385, 3, none⟩ (.int .i64 ((rd_T108 l1 x9_1).f3))) = w32 at HP0_ BK385 HB ⊢
     replace HP0_ := am (blk_drew HP0_.out)
     replace BK385 := am (blk_drew BK385.out)
     replace HB := am (below_drew1 HB.out)
     refine start_ (n := 41) (S := fun w' => w'.cell? ⟨gb385, 0, none⟩ = some (.int .i64 ((rd_T108 l1 x9_1).f0)) ∧ w'.cell? ⟨gb385, 1, none⟩ = some (.int .i64 ((rd_T108 l1 x9_1).f1)) ∧ w'.cell? ⟨gb385, 2, none⟩ = some (.int .i64 ((rd_T108 l1 x9_1).f2)) ∧ w'.cell? ⟨gb385, 3, none⟩ = some (.int .i64 ((rd_T108 l1 x9_1).f3))) (ds := []) (bv 41 0) (by kernel_rfl) rfl (by kernel_rfl) ⟨bc BK385 0, bc BK385 1, bc BK385 2, bc BK385 3⟩ (fun hHeld => ?_); refine with_tabW impl_prog_seenRight.tab4 impl_prog_seenRight.bits4 (fun HT_ HW_ => ?_)
     generalize w32.drew = w33 at HP0_ BK385 HB hHeld ⊢
     refine pu 0 14 41 1 HT_ ?_
     refine pu 1 15 41 3 HT_ ?_
     refine pu 3 17 41 11 HT_ ?_
     refine tk 2 16 41 15 HT_ HW_ hHeld ?_
     refine tk 4 18 41 31 HT_ HW_ hHeld ?_
     refine on 5 (some 19) 41 63 HT_ fun K hK => ?_
     refine goes_ Try.func79 (by kernel_rfl) rfl #[.pointer (some ⟨g0_, 0, none⟩), .int .i64 ((rd_T108 l1 x9_1).f0), .int .i64 ((rd_T108 l1 x9_1).f1)] (by rfl) rfl rfl gl ?_
     refine (impl_prog_isJz.calls g0_ A0_0 c0_0 l0_0 A0_1 c0_1 l0_1 ((rd_T108 l1 x9_1).f0) ((rd_T108 l1 x9_1).f1) true _ ?side1 ?side2 ?side3 ?side4 ?side5 A10.out).mono ?_
     (case side1 => exact (bp HP0_))
     (case side2 => exact cc (Kd.C_below HR0_0.out HB.out))
     (case side3 => exact HC0_0.out)
     (case side4 => exact cc (Kd.C_below HR0_1.out HB.out))
     (case side5 => exact HC0_1.out)
     rintro e w34 ⟨rfl, hb⟩
     refine ⟨_, rfl, ?_⟩
     replace HP0_ := bb HP0_ hb
     replace BK385 := bb BK385 hb
     replace HB := am (below_step (bw HB) hb)
     clear hb
     refine hK.out _ _ ⟨bc BK385 0, bc BK385 1, bc BK385 2, bc BK385 3⟩ (fun hHeld => ?_)
     clear hK K
     refine nm (some 19) ?_
     refine pu 6 20 41 127 HT_ ?_
     refine pu 7 21 41 255 HT_ ?_
     refine pu 8 22 41 511 HT_ ?_
     refine tk 9 23 41 1023 HT_ HW_ hHeld ?_
     refine on 10 (some 24) 41 2047 HT_ fun K hK => ?_
     refine goes_ Try.func85 (by kernel_rfl) rfl #[.int .i64 ((rd_T108 l1 x9_1).f2), .int .i64 0, .int .i64 1000000] (by rfl) rfl rfl gl ?_
     with_reducible refine (impl_in.calls ((rd_T108 l1 x9_1).f2) 0 1000000 true _ A12.out).mono ?_
     rintro e w' ⟨rfl, ⟨nd, rfl⟩⟩
     refine ⟨_, rfl, ?_⟩
     refine hK.out _ _ ⟨bc BK385 0, bc BK385 1, bc BK385 2, bc BK385 3⟩ (fun hHeld => ?_)
     clear hK K
     refine nm (some 24) ?_
     refine pu 11 25 41 4095 HT_ ?_
     refine pu 12 26 41 8191 HT_ ?_
     refine pu 13 27 41 16383 HT_ ?_
     refine pu 14 28 41 32767 HT_ ?_
     refine tk 15 29 41 65535 HT_ HW_ hHeld ?_
     refine on 16 (some 30) 41 131071 HT_ fun K hK => ?_
     refine goes_ Try.func85 (by kernel_rfl) rfl #[.int .i64 ((rd_T108 l1 x9_1).f3), .int .i64 0, .int .i64 1000000] (by rfl) rfl rfl gl ?_
     with_reducible refine (impl_in.calls ((rd_T108 l1 x9_1).f3) 0 1000000 false _ A14.out).mono ?_
     rintro e w' ⟨rfl, ⟨nd, rfl⟩⟩
     refine ⟨_, rfl, ?_⟩
     refine hK.out _ _ ⟨bc BK385 0, bc BK385 1, bc BK385 2, bc BK385 3⟩ (fun hHeld => ?_)
     clear hK K
     refine nm (some 30) ?_
     refine pu 17 31 41 262143 HT_ ?_
     refine pu 18 32 41 524287 HT_ ?_
     refine pu 19 33 41 1048575 HT_ ?_
     refine pn 20 34 41 2097151 HT_ ?_
     refine pn 21 35 41 4194303 HT_ ?_
     refine pn 22 36 41 8388607 HT_ ?_
     refine pn 23 37 41 16777215 HT_ ?_
     refine pn 24 38 41 33554431 HT_ ?_
     refine pn 25 39 41 67108863 HT_ ?_
     refine pu 26 40 41 134217727 HT_ ?_
     refine pu 27 41 41 268435455 HT_ ?_
     refine pn 28 42 41 536870911 HT_ ?_
     refine pn 29 43 41 1073741823 HT_ ?_
     refine pn 30 44 41 2147483647 HT_ ?_
     refine pn 31 45 41 4294967295 HT_ ?_
     refine pn 32 46 41 8589934591 HT_ ?_
     refine pn 33 47 41 17179869183 HT_ ?_
     refine pn 34 48 41 34359738367 HT_ ?_
     refine pn 35 49 41 68719476735 HT_ ?_
     refine pn 36 50 41 137438953471 HT_ ?_
     refine pn 37 51 41 274877906943 HT_ ?_
     refine pn 38 52 41 549755813887 HT_ ?_
     refine pn 39 53 41 1099511627775 HT_ ?_
     refine pu 40 54 41 2199023255551 HT_ ?_
     refine done_ (done_of HT_.out (by kernel_rfl)) ?_
     try go_wp2
     go_meet
     case rel => exact ⟨_, (true), dr, H', ⟨lk1 HK1⟩, ⟨bp HP0_⟩, ⟨bp BK385⟩, ⟨bw HB⟩⟩
    have H' := am H
    clear H
    try go_wp2
    replace HP0_ : Aside0 (((((w7.setCell ⟨gb385, 0, none⟩ (.int .i64 ((rd_T108 l1 x9_1).f0))).setCell ⟨gb385, 1, none⟩ (.int .i64 ((rd_T108 l1 x9_1).f1))).setCell ⟨gb385, 2, none⟩ (.int .i64 ((rd_T108 l1 x9_1).f2))).setCell ⟨gb385, 3, none⟩ (.int .i64 ((rd_T108 l1 x9_1).f3))).heap[g0_]? = some (.cells #[.slice A0_0 l0_0.length c0_0, .slice A0_1 l0_1.length c0_1] 92 (0, 0))) := ⟨by (with_reducible repeat (first | apply dN | apply dW | apply dA)); refine blk_far ?_ NB0_385.out _; (with_reducible repeat (first | apply dN | apply dW | apply dA)); refine blk_far ?_ NB0_385.out _; (with_reducible repeat (first | apply dN | apply dW | apply dA)); refine blk_far ?_ NB0_385.out _; (with_reducible repeat (first | apply dN | apply dW | apply dA)); refine blk_far ?_ NB0_385.out _; exact bp HP0_⟩
    replace BK385 : Aside0 (((((w7.setCell ⟨gb385, 0, none⟩ (.int .i64 ((rd_T108 l1 x9_1).f0))).setCell ⟨gb385, 1, none⟩ (.int .i64 ((rd_T108 l1 x9_1).f1))).setCell ⟨gb385, 2, none⟩ (.int .i64 ((rd_T108 l1 x9_1).f2))).setCell ⟨gb385, 3, none⟩ (.int .i64 ((rd_T108 l1 x9_1).f3))).heap[gb385]? = some (.cells #[.int .i64 ((rd_T108 l1 x9_1).f0), .int .i64 ((rd_T108 l1 x9_1).f1), .int .i64 ((rd_T108 l1 x9_1).f2), .int .i64 ((rd_T108 l1 x9_1).f3)] 108 (0, 0))) := ⟨by (with_reducible repeat (first | apply dN | apply dW | apply dA)); refine blk_put (cs := #[.int .i64 ((rd_T108 l1 x9_1).f0), .int .i64 ((rd_T108 l1 x9_1).f1), .int .i64 ((rd_T108 l1 x9_1).f2), .int .i64 0]) ?_ 3 _ rfl; (with_reducible repeat (first | apply dN | apply dW | apply dA)); refine blk_put (cs := #[.int .i64 ((rd_T108 l1 x9_1).f0), .int .i64 ((rd_T108 l1 x9_1).f1), .int .i64 0, .int .i64 0]) ?_ 2 _ rfl; (with_reducible repeat (first | apply dN | apply dW | apply dA)); refine blk_put (cs := #[.int .i64 ((rd_T108 l1 x9_1).f0), .int .i64 0, .int .i64 0, .int .i64 0]) ?_ 1 _ rfl; (with_reducible repeat (first | apply dN | apply dW | apply dA)); refine blk_put (cs := #[.int .i64 0, .int .i64 0, .int .i64 0, .int .i64 0]) ?_ 0 _ rfl; exact bp BK385⟩
    replace HB : Aside0 (Below w.heap.size w ((((w7.setCell ⟨gb385, 0, none⟩ (.int .i64 ((rd_T108 l1 x9_1).f0))).setCell ⟨gb385, 1, none⟩ (.int .i64 ((rd_T108 l1 x9_1).f1))).setCell ⟨gb385, 2, none⟩ (.int .i64 ((rd_T108 l1 x9_1).f2))).setCell ⟨gb385, 3, none⟩ (.int .i64 ((rd_T108 l1 x9_1).f3)))) := ⟨bw HB⟩
    generalize ((((w7.setCell ⟨gb385, 0, none⟩ (.int .i64 ((rd_T108 l1 x9_1).f0))).setCell ⟨gb385, 1, none⟩ (.int .i64 ((rd_T108 l1 x9_1).f1))).setCell ⟨gb385, 2, none⟩ (.int .i64 ((rd_T108 l1 x9_1).f2))).setCell ⟨gb385, 3, none⟩ (.int .i64 ((rd_T108 l1 x9_1).f3))) = w35 at HP0_ BK385 HB ⊢
    replace HP0_ := am (blk_drew HP0_.out)
    replace BK385 := am (blk_drew BK385.out)
    replace HB := am (below_drew1 HB.out)
    refine start_ (n := 41) (S := fun w' => w'.cell? ⟨gb385, 0, none⟩ = some (.int .i64 ((rd_T108 l1 x9_1).f0)) ∧ w'.cell? ⟨gb385, 1, none⟩ = some (.int .i64 ((rd_T108 l1 x9_1).f1)) ∧ w'.cell? ⟨gb385, 2, none⟩ = some (.int .i64 ((rd_T108 l1 x9_1).f2)) ∧ w'.cell? ⟨gb385, 3, none⟩ = some (.int .i64 ((rd_T108 l1 x9_1).f3))) (ds := []) (bv 41 0) (by kernel_rfl) rfl (by kernel_rfl) ⟨bc BK385 0, bc BK385 1, bc BK385 2, bc BK385 3⟩ (fun hHeld => ?_); refine with_tabW impl_prog_seenRight.tab4 impl_prog_seenRight.bits4 (fun HT_ HW_ => ?_)
    generalize w35.drew = w36 at HP0_ BK385 HB hHeld ⊢
    refine pu 0 14 41 1 HT_ ?_
    refine pu 1 15 41 3 HT_ ?_
    refine pu 3 17 41 11 HT_ ?_
    refine tk 2 16 41 15 HT_ HW_ hHeld ?_
    refine tk 4 18 41 31 HT_ HW_ hHeld ?_
    refine on 5 (some 19) 41 63 HT_ fun K hK => ?_
    refine goes_ Try.func79 (by kernel_rfl) rfl #[.pointer (some ⟨g0_, 0, none⟩), .int .i64 ((rd_T108 l1 x9_1).f0), .int .i64 ((rd_T108 l1 x9_1).f1)] (by rfl) rfl rfl gl ?_
    refine (impl_prog_isJz.calls g0_ A0_0 c0_0 l0_0 A0_1 c0_1 l0_1 ((rd_T108 l1 x9_1).f0) ((rd_T108 l1 x9_1).f1) true _ ?side1 ?side2 ?side3 ?side4 ?side5 A10.out).mono ?_
    (case side1 => exact (bp HP0_))
    (case side2 => exact cc (Kd.C_below HR0_0.out HB.out))
    (case side3 => exact HC0_0.out)
    (case side4 => exact cc (Kd.C_below HR0_1.out HB.out))
    (case side5 => exact HC0_1.out)
    rintro e w37 ⟨rfl, hb⟩
    refine ⟨_, rfl, ?_⟩
    replace HP0_ := bb HP0_ hb
    replace BK385 := bb BK385 hb
    replace HB := am (below_step (bw HB) hb)
    clear hb
    refine hK.out _ _ ⟨bc BK385 0, bc BK385 1, bc BK385 2, bc BK385 3⟩ (fun hHeld => ?_)
    clear hK K
    refine nm (some 19) ?_
    refine pu 6 20 41 127 HT_ ?_
    refine pu 7 21 41 255 HT_ ?_
    refine pu 8 22 41 511 HT_ ?_
    refine tk 9 23 41 1023 HT_ HW_ hHeld ?_
    refine on 10 (some 24) 41 2047 HT_ fun K hK => ?_
    refine goes_ Try.func85 (by kernel_rfl) rfl #[.int .i64 ((rd_T108 l1 x9_1).f2), .int .i64 0, .int .i64 1000000] (by rfl) rfl rfl gl ?_
    with_reducible refine (impl_in.calls ((rd_T108 l1 x9_1).f2) 0 1000000 false _ A12.out).mono ?_
    rintro e w' ⟨rfl, ⟨nd, rfl⟩⟩
    refine ⟨_, rfl, ?_⟩
    refine hK.out _ _ ⟨bc BK385 0, bc BK385 1, bc BK385 2, bc BK385 3⟩ (fun hHeld => ?_)
    clear hK K
    refine nm (some 24) ?_
    refine pu 11 25 41 4095 HT_ ?_
    refine pu 12 26 41 8191 HT_ ?_
    refine pu 13 27 41 16383 HT_ ?_
    refine pn 14 28 41 32767 HT_ ?_
    refine pn 15 29 41 65535 HT_ ?_
    refine pn 16 30 41 131071 HT_ ?_
    refine pn 17 31 41 262143 HT_ ?_
    refine pu 18 32 41 524287 HT_ ?_
    refine pu 19 33 41 1048575 HT_ ?_
    refine pn 20 34 41 2097151 HT_ ?_
    refine pn 21 35 41 4194303 HT_ ?_
    refine pn 22 36 41 8388607 HT_ ?_
    refine pn 23 37 41 16777215 HT_ ?_
    refine pn 24 38 41 33554431 HT_ ?_
    refine pn 25 39 41 67108863 HT_ ?_
    refine pu 26 40 41 134217727 HT_ ?_
    refine pu 27 41 41 268435455 HT_ ?_
    refine pn 28 42 41 536870911 HT_ ?_
    refine pn 29 43 41 1073741823 HT_ ?_
    refine pn 30 44 41 2147483647 HT_ ?_
    refine pn 31 45 41 4294967295 HT_ ?_
    refine pn 32 46 41 8589934591 HT_ ?_
    refine pn 33 47 41 17179869183 HT_ ?_
    refine pn 34 48 41 34359738367 HT_ ?_
    refine pn 35 49 41 68719476735 HT_ ?_
    refine pn 36 50 41 137438953471 HT_ ?_
    refine pn 37 51 41 274877906943 HT_ ?_
    refine pn 38 52 41 549755813887 HT_ ?_
    refine pn 39 53 41 1099511627775 HT_ ?_
    refine pu 40 54 41 2199023255551 HT_ ?_
    refine done_ (done_of HT_.out (by kernel_rfl)) ?_
    try go_wp2
    go_meet
    case rel => exact ⟨_, (true), dr, H', ⟨lk1 HK1⟩, ⟨bp HP0_⟩, ⟨bp BK385⟩, ⟨bw HB⟩⟩
   have H' := am H
   clear H
   try go_wp2
   replace HP0_ : Aside0 (((((w7.setCell ⟨gb385, 0, none⟩ (.int .i64 ((rd_T108 l1 x9_1).f0))).setCell ⟨gb385, 1, none⟩ (.int .i64 ((rd_T108 l1 x9_1).f1))).setCell ⟨gb385, 2, none⟩ (.int .i64 ((rd_T108 l1 x9_1).f2))).setCell ⟨gb385, 3, none⟩ (.int .i64 ((rd_T108 l1 x9_1).f3))).heap[g0_]? = some (.cells #[.slice A0_0 l0_0.length c0_0, .slice A0_1 l0_1.length c0_1] 92 (0, 0))) := ⟨by (with_reducible repeat (first | apply dN | apply dW | apply dA)); refine blk_far ?_ NB0_385.out _; (with_reducible repeat (first | apply dN | apply dW | apply dA)); refine blk_far ?_ NB0_385.out _; (with_reducible repeat (first | apply dN | apply dW | apply dA)); refine blk_far ?_ NB0_385.out _; (with_reducible repeat (first | apply dN | apply dW | apply dA)); refine blk_far ?_ NB0_385.out _; exact bp HP0_⟩
   replace BK385 : Aside0 (((((w7.setCell ⟨gb385, 0, none⟩ (.int .i64 ((rd_T108 l1 x9_1).f0))).setCell ⟨gb385, 1, none⟩ (.int .i64 ((rd_T108 l1 x9_1).f1))).setCell ⟨gb385, 2, none⟩ (.int .i64 ((rd_T108 l1 x9_1).f2))).setCell ⟨gb385, 3, none⟩ (.int .i64 ((rd_T108 l1 x9_1).f3))).heap[gb385]? = some (.cells #[.int .i64 ((rd_T108 l1 x9_1).f0), .int .i64 ((rd_T108 l1 x9_1).f1), .int .i64 ((rd_T108 l1 x9_1).f2), .int .i64 ((rd_T108 l1 x9_1).f3)] 108 (0, 0))) := ⟨by (with_reducible repeat (first | apply dN | apply dW | apply dA)); refine blk_put (cs := #[.int .i64 ((rd_T108 l1 x9_1).f0), .int .i64 ((rd_T108 l1 x9_1).f1), .int .i64 ((rd_T108 l1 x9_1).f2), .int .i64 0]) ?_ 3 _ rfl; (with_reducible repeat (first | apply dN | apply dW | apply dA)); refine blk_put (cs := #[.int .i64 ((rd_T108 l1 x9_1).f0), .int .i64 ((rd_T108 l1 x9_1).f1), .int .i64 0, .int .i64 0]) ?_ 2 _ rfl; (with_reducible repeat (first | apply dN | apply dW | apply dA)); refine blk_put (cs := #[.int .i64 ((rd_T108 l1 x9_1).f0), .int .i64 0, .int .i64 0, .int .i64 0]) ?_ 1 _ rfl; (with_reducible repeat (first | apply dN | apply dW | apply dA)); refine blk_put (cs := #[.int .i64 0, .int .i64 0, .int .i64 0, .int .i64 0]) ?_ 0 _ rfl; exact bp BK385⟩
   replace HB : Aside0 (Below w.heap.size w ((((w7.setCell ⟨gb385, 0, none⟩ (.int .i64 ((rd_T108 l1 x9_1).f0))).setCell ⟨gb385, 1, none⟩ (.int .i64 ((rd_T108 l1 x9_1).f1))).setCell ⟨gb385, 2, none⟩ (.int .i64 ((rd_T108 l1 x9_1).f2))).setCell ⟨gb385, 3, none⟩ (.int .i64 ((rd_T108 l1 x9_1).f3)))) := ⟨bw HB⟩
   generalize ((((w7.setCell ⟨gb385, 0, none⟩ (.int .i64 ((rd_T108 l1 x9_1).f0))).setCell ⟨gb385, 1, none⟩ (.int .i64 ((rd_T108 l1 x9_1).f1))).setCell ⟨gb385, 2, none⟩ (.int .i64 ((rd_T108 l1 x9_1).f2))).setCell ⟨gb385, 3, none⟩ (.int .i64 ((rd_T108 l1 x9_1).f3))) = w38 at HP0_ BK385 HB ⊢
   replace HP0_ := am (blk_drew HP0_.out)
   replace BK385 := am (blk_drew BK385.out)
   replace HB := am (below_drew1 HB.out)
   refine start_ (n := 41) (S := fun w' => w'.cell? ⟨gb385, 0, none⟩ = some (.int .i64 ((rd_T108 l1 x9_1).f0)) ∧ w'.cell? ⟨gb385, 1, none⟩ = some (.int .i64 ((rd_T108 l1 x9_1).f1)) ∧ w'.cell? ⟨gb385, 2, none⟩ = some (.int .i64 ((rd_T108 l1 x9_1).f2)) ∧ w'.cell? ⟨gb385, 3, none⟩ = some (.int .i64 ((rd_T108 l1 x9_1).f3))) (ds := []) (bv 41 0) (by kernel_rfl) rfl (by kernel_rfl) ⟨bc BK385 0, bc BK385 1, bc BK385 2, bc BK385 3⟩ (fun hHeld => ?_); refine with_tabW impl_prog_seenRight.tab4 impl_prog_seenRight.bits4 (fun HT_ HW_ => ?_)
   generalize w38.drew = w39 at HP0_ BK385 HB hHeld ⊢
   refine pu 0 14 41 1 HT_ ?_
   refine pu 1 15 41 3 HT_ ?_
   refine pu 3 17 41 11 HT_ ?_
   refine tk 2 16 41 15 HT_ HW_ hHeld ?_
   refine tk 4 18 41 31 HT_ HW_ hHeld ?_
   refine on 5 (some 19) 41 63 HT_ fun K hK => ?_
   refine goes_ Try.func79 (by kernel_rfl) rfl #[.pointer (some ⟨g0_, 0, none⟩), .int .i64 ((rd_T108 l1 x9_1).f0), .int .i64 ((rd_T108 l1 x9_1).f1)] (by rfl) rfl rfl gl ?_
   refine (impl_prog_isJz.calls g0_ A0_0 c0_0 l0_0 A0_1 c0_1 l0_1 ((rd_T108 l1 x9_1).f0) ((rd_T108 l1 x9_1).f1) false _ ?side1 ?side2 ?side3 ?side4 ?side5 A10.out).mono ?_
   (case side1 => exact (bp HP0_))
   (case side2 => exact cc (Kd.C_below HR0_0.out HB.out))
   (case side3 => exact HC0_0.out)
   (case side4 => exact cc (Kd.C_below HR0_1.out HB.out))
   (case side5 => exact HC0_1.out)
   rintro e w40 ⟨rfl, hb⟩
   refine ⟨_, rfl, ?_⟩
   replace HP0_ := bb HP0_ hb
   replace BK385 := bb BK385 hb
   replace HB := am (below_step (bw HB) hb)
   clear hb
   refine hK.out _ _ ⟨bc BK385 0, bc BK385 1, bc BK385 2, bc BK385 3⟩ (fun hHeld => ?_)
   clear hK K
   refine nm (some 19) ?_
   refine pu 6 20 41 127 HT_ ?_
   refine pu 7 21 41 255 HT_ ?_
   refine pn 8 22 41 511 HT_ ?_
   refine pn 9 23 41 1023 HT_ ?_
   refine pn 10 24 41 2047 HT_ ?_
   refine pn 11 25 41 4095 HT_ ?_
   refine pu 12 26 41 8191 HT_ ?_
   refine pu 13 27 41 16383 HT_ ?_
   refine pn 14 28 41 32767 HT_ ?_
   refine pn 15 29 41 65535 HT_ ?_
   refine pn 16 30 41 131071 HT_ ?_
   refine pn 17 31 41 262143 HT_ ?_
   refine pu 18 32 41 524287 HT_ ?_
   refine pu 19 33 41 1048575 HT_ ?_
   refine pn 20 34 41 2097151 HT_ ?_
   refine pn 21 35 41 4194303 HT_ ?_
   refine pn 22 36 41 8388607 HT_ ?_
   refine pn 23 37 41 16777215 HT_ ?_
   refine pn 24 38 41 33554431 HT_ ?_
   refine pn 25 39 41 67108863 HT_ ?_
   refine pu 26 40 41 134217727 HT_ ?_
   refine pu 27 41 41 268435455 HT_ ?_
   refine pn 28 42 41 536870911 HT_ ?_
   refine pn 29 43 41 1073741823 HT_ ?_
   refine pn 30 44 41 2147483647 HT_ ?_
   refine pn 31 45 41 4294967295 HT_ ?_
   refine pn 32 46 41 8589934591 HT_ ?_
   refine pn 33 47 41 17179869183 HT_ ?_
   refine pn 34 48 41 34359738367 HT_ ?_
   refine pn 35 49 41 68719476735 HT_ ?_
   refine pn 36 50 41 137438953471 HT_ ?_
   refine pn 37 51 41 274877906943 HT_ ?_
   refine pn 38 52 41 549755813887 HT_ ?_
   refine pn 39 53 41 1099511627775 HT_ ?_
   refine pu 40 54 41 2199023255551 HT_ ?_
   refine done_ (done_of HT_.out (by kernel_rfl)) ?_
   try go_wp2
   go_meet
   case rel => exact ⟨_, (true), dr, H', ⟨lk1 HK1⟩, ⟨bp HP0_⟩, ⟨bp BK385⟩, ⟨bw HB⟩⟩
  clear HC6
  (try clear c1); (try clear p2); (try clear c7); (try clear c8); (try clear c11); (try clear c13)
  obtain ⟨kq, x54_5, rfl, HA, HJ5, HP0_, BK385, HB⟩ := hcut
  rcases kq with _ | kj5
  ·exact absurd HA.out (by simp [impl_prog_seenRight.j1])
  have H := HA.out
  clear HA
  simp only [impl_prog_seenRight.j1] at H
  refine qT H ?_ ?_ <;> clear H <;> intro c41 H <;> subst c41
  ·obtain rfl := Option.some.inj H
   go_wp2
   go_ret
   exact ⟨er, bw HB⟩
  have H' := am H
  clear H
  go_wp2
  go_roundg kj5
  case measure => have := HK1.out; have := HJ5.out; omega
  case rel => exact ⟨(wrap64 (x9_1 + 1)), dr, H', ⟨by have := HK1.out; have := HJ5.out; omega⟩, ⟨bp HP0_⟩, ⟨bw HB⟩⟩
 obtain rfl := Option.some.inj H
 go_wp2
 go_ret
 exact ⟨er, bw HB⟩

end Go.Proofs.Ytbmjmaahcaoajaa.QFnExactGuess
