import Derived.Test.YtbmjmaahcaoajaaCFnExactStateRightx0
import Derived.Test.YtbmjmaahcaoajaaCFnExactStateRightx18
namespace Go.Proofs.Ytbmjmaahcaoajaa.QFnExactStateRight
open Go.RowKit Go.Proofs.YtbmjmaahcaoajaaW
open PrintWords PrintLast PrintMore PrintShort
attribute [local go_sem] max2_int min2_int max_two min_two max_three min_three max_four min_four   -- for this text's walks alone
set_option linter.unusedVariables false
set_option maxHeartbeats 8000000
set_option maxRecDepth 100000
set_option linter.unusedSimpArgs false

def impl_prog_frameRight.f (l0_0 : List (S100)) (l0_1 : List (List Int)) (a1_0 : Int) (a1_1 : Int) (l1_2 : List Int) (l1_3 : List Int) (a2 : Int) : Option (Bool) := (impl_prog_stands.f l0_0 l0_1 a1_0 a1_1 a2).bind fun t454 => (if t454 = true then (if 0 ≤ a1_0 then (if a1_0 < (l0_0.length : Int) then (if (l1_2.length : Int) = ((rd_T100 l0_0 a1_0).f1) then ((impl_prog_depth.f l0_0 l0_1 a1_0 a1_1 a2).bind fun t456 => (some ((l1_3.length : Int) == t456))) else (some false)) else (none)) else (none)) else (some false))
def impl_prog_frameRight.T1 : Bool × List (List Nat × List Nat) := (true, [([], []), ([], []), ([1], [1]), ([], []), ([3], [3]), ([], []), ([0, 2, 4, 5], [0, 2, 4, 5]), ([6, 6], [6]), ([7], [7]), ([8, 7], [7, 8]), ([9, 7], [7, 9]), ([7], [7]), ([11, 7], [7, 11]), ([12, 7], [7, 12]), ([13, 7], [7, 13]), ([14, 7], [7, 14]), ([7], [7]), ([16, 7], [7, 16]), ([15, 17, 7], [7, 15, 17]), ([18, 7], [7, 18]), ([19, 7], [7, 19]), ([10, 20, 7], [7, 10, 20]), ([7, 21], [7, 21]), ([22, 7], [22]), ([23], [23]), ([24, 23], [23, 24]), ([25, 23], [23, 25]), ([23], [23]), ([23], [23]), ([28, 23], [23, 28]), ([23], [23]), ([30, 23], [23, 30]), ([23], [23]), ([27, 29, 31, 32, 23, 23], [23, 27, 29, 31, 32]), ([26, 33, 23], [23, 26, 33]), ([23, 34], [23, 34]), ([35, 33, 0, 1, 2, 3, 4, 5, 6, 7, 8, 9, 10, 11, 12, 13, 14, 15, 16, 17, 18, 19, 20, 21, 22, 23, 24, 25, 26, 27, 28, 29, 30, 31, 32, 33, 34, 35], [35])])
def impl_prog_frameRight.B1 : List Nat := [0, 0, 2, 0, 8, 0, 63, 127, 255, 511, 1023, 255, 2303, 6399, 14591, 30975, 255, 65791, 260351, 522495, 1046783, 2097151, 4194303, 8388607, 16777215, 33554431, 67108863, 16777215, 16777215, 285212671, 16777215, 1090519039, 16777215, 8472494079, 17179869183, 34359738367, 68719476735]
theorem impl_prog_frameRight.tab1 : rtab .any (opsOf Try.f166 1) = impl_prog_frameRight.T1 := by kernel_rfl
theorem impl_prog_frameRight.bits1 : waitsOk impl_prog_frameRight.T1.2 impl_prog_frameRight.B1 = true := by kernel_rfl
theorem impl_prog_frameRight.calls (g0_ : Nat) (A0_0 : Option Addr) (c0_0 : Nat) (l0_0 : List (S100)) (A0_1 : Option Addr) (c0_1 : Nat) (l0_1 : List (List Int)) (a1_0 : Int) (a1_1 : Int) (A1_2 : Option Addr) (c1_2 : Nat) (l1_2 : List Int) (A1_3 : Option Addr) (c1_3 : Nat) (l1_3 : List Int) (a2 : Int) (r : Bool) (w : World) (hp0 : w.heap[g0_]? = some (.cells #[.slice A0_0 l0_0.length c0_0, .slice A0_1 l0_1.length c0_1] 92 (0, 0))) (hr0_0 : Kd.C k100 w A0_0 l0_0.length l0_0) (hc0_0 : l0_0.length ≤ c0_0) (hr0_1 : Kd.C (Kd.slice 2 (Kd.int .i64)) w A0_1 l0_1.length l0_1) (hc0_1 : l0_1.length ≤ c0_1) (hr1_2 : Kd.C (Kd.int .i64) w A1_2 l1_2.length l1_2) (hc1_2 : l1_2.length ≤ c1_2) (hr1_3 : Kd.C (Kd.int .i64) w A1_3 l1_3.length l1_3) (hc1_3 : l1_3.length ≤ c1_3) (h : impl_prog_frameRight.f l0_0 l0_1 a1_0 a1_1 l1_2 l1_3 a2 = some r) :
  Calls Try.prog 166 #[.pointer (some ⟨g0_, 0, none⟩), .agg #[.int .i64 a1_0, .int .i64 a1_1, .slice A1_2 l1_2.length c1_2, .slice A1_3 l1_3.length c1_3], .int .i64 a2] w fun e w' => e = .returned (.bool r) ∧ Below w.heap.size w w' := by
 have hu129 := Try.underlying129
 have HP0_ := am hp0
 clear hp0
 have HR0_0 := am hr0_0
 have HC0_0 := am hc0_0
 clear hr0_0 hc0_0
 have HR0_1 := am hr0_1
 have HC0_1 := am hc0_1
 clear hr0_1 hc0_1
 have HR1_2 := am hr1_2
 have HC1_2 := am hc1_2
 clear hr1_2 hc1_2
 have HR1_3 := am hr1_3
 have HC1_3 := am hc1_3
 clear hr1_3 hc1_3
 have HB := am (Below.refl w.heap.size w)
 have H : ((impl_prog_stands.f l0_0 l0_1 a1_0 a1_1 a2).bind fun t454 => (if t454 = true then (if 0 ≤ a1_0 then (if a1_0 < (l0_0.length : Int) then (if (l1_2.length : Int) = ((rd_T100 l0_0 a1_0).f1) then ((impl_prog_depth.f l0_0 l0_1 a1_0 a1_1 a2).bind fun t456 => (some ((l1_3.length : Int) == t456))) else (some false)) else (none)) else (none)) else (some false))) = some r := h
 clear h
 refine be H ?_; clear H; intro t454 A4 H
 refine qT H ?_ ?_ <;> clear H <;> intro c5 H <;> subst c5
 ·refine iM H ?_; clear H; intro c6b0 H
  refine iM H ?_; clear H; intro c7b0 H
  by_cases c8 : (l1_2.length : Int) = ((rd_T100 l0_0 a1_0).f1)
  ·rw [if_pos c8] at H
   have c8b0 : ((l1_2.length : Int) == ((rd_T100 l0_0 a1_0).f1)) = true := beq_iff_eq.mpr c8
   have c8b1 : ((l1_2.length : Int) != ((rd_T100 l0_0 a1_0).f1)) = false := bne_eq_false_iff_eq.mpr c8
   clear c8
   refine be H ?_; clear H; intro t456 A9 H
   obtain rfl := Option.some.inj H
   go_enter Try.func166, Try.ntmps166
   try go_wp2_with (first | ((with_reducible refine gate_dst (N := 4) rfl ?_); (try (refine gate_guard (by rfl) ?_; dsimp only)); refine box_event ?hg (N := 4) ?hd (cs := #[.int .i64 a1_0, .int .i64 a1_1, .slice A1_2 l1_2.length c1_2, .slice A1_3 l1_3.length c1_3]) (t := 129) ?hr ?_; (case hd => rfl); (case hg => rfl); (case hr => exact gs); intro gb453 hg w10 hbox hb; have BK453 := am (hbox); have GW453 := gw hg HB; replace HB := bs HB hb; obtain ⟨NB0_453, NB453_0, HP0_⟩ := b3 hg HP0_ hb; clear hb hbox hg))
   replace HP0_ := am (blk_drew HP0_.out)
   replace BK453 := am (blk_drew BK453.out)
   replace HB := am (below_drew1 HB.out)
   have p455 : 0 ≤ (a1_0 : Int) := of_decide_eq_true as1
   have q455 : a1_0 < (l0_0.length : Int) := of_decide_eq_true as1
   obtain ⟨ad455, A455_2, c455_2, e455, hx455_0, hx455_1, hx455_2, hl455_2, hi455_2⟩ := at_T100 HR0_0.out a1_0 p455 q455
   have hw455_2 := hx455_2
   have hw455_1 := hx455_1
   have hw455_0 := hx455_0
   cases e455
   replace hx455_0 := cl HB hx455_0
   replace hx455_1 := cl HB hx455_1
   replace hx455_2 := cl HB hx455_2
   have HR455_2 := am hi455_2
   have HC455_2 := am hl455_2
   clear hi455_2 hl455_2
   replace p455 := eq_true p455
   replace q455 := eq_true q455
   refine start_ (n := 37) (S := fun w' => w'.cell? ⟨gb453, 0, none⟩ = some (.int .i64 a1_0) ∧ w'.cell? ⟨gb453, 1, none⟩ = some (.int .i64 a1_1) ∧ w'.cell? ⟨gb453, 2, none⟩ = some (.slice A1_2 l1_2.length c1_2) ∧ w'.cell? ⟨gb453, 3, none⟩ = some (.slice A1_3 l1_3.length c1_3) ∧ w'.cell? ⟨g0_, 0, none⟩ = some (.slice (some ad455) l0_0.length c0_0) ∧ w'.cell? ⟨g0_, 1, none⟩ = some (.slice A0_1 l0_1.length c0_1) ∧ w'.cell? (ad455.add ((a1_0).toNat * 3)) = some (.int .i64 ((rd_T100 l0_0 a1_0).f0)) ∧ w'.cell? ⟨(ad455.add ((a1_0).toNat * 3)).block, (ad455.add ((a1_0).toNat * 3)).off + 1, none⟩ = some (.int .i64 ((rd_T100 l0_0 a1_0).f1)) ∧ w'.cell? ⟨(ad455.add ((a1_0).toNat * 3)).block, (ad455.add ((a1_0).toNat * 3)).off + 2, none⟩ = some (.slice A455_2 ((rd_T100 l0_0 a1_0).f2).length c455_2)) (ds := []) (bv 37 0) (by kernel_rfl) rfl (by kernel_rfl) ⟨bc BK453 0, bc BK453 1, bc BK453 2, bc BK453 3, bc HP0_ 0, bc HP0_ 1, (cq HB hw455_0), (cq HB hw455_1), (cq HB hw455_2)⟩ (fun hHeld => ?_); refine with_tabW impl_prog_frameRight.tab1 impl_prog_frameRight.bits1 (fun HT_ HW_ => ?_)
   generalize w10.drew = w11 at HP0_ BK453 HB HR455_2 hx455_0 hx455_1 hx455_2 hHeld ⊢
   refine pu 0 7 37 1 HT_ ?_
   refine pu 1 8 37 3 HT_ ?_
   refine pu 3 10 37 11 HT_ ?_
   refine pu 5 12 37 43 HT_ ?_
   refine tk 2 9 37 47 HT_ HW_ hHeld ?_
   refine tk 4 11 37 63 HT_ HW_ hHeld ?_
   refine on 6 (some 13) 37 127 HT_ fun K hK => ?_
   refine goes_ Try.func187 (by kernel_rfl) rfl #[.pointer (some ⟨g0_, 0, none⟩), .int .i64 a1_0, .int .i64 a1_1, .int .i64 a2] (by rfl) rfl rfl gl ?_
   refine (impl_prog_stands.calls g0_ (some ad455) c0_0 l0_0 A0_1 c0_1 l0_1 a1_0 a1_1 a2 true _ ?side1 ?side2 ?side3 ?side4 ?side5 A4.out).mono ?_
   (case side1 => exact (bp HP0_))
   (case side2 => exact cc (Kd.C_below HR0_0.out HB.out))
   (case side3 => exact HC0_0.out)
   (case side4 => exact cc (Kd.C_below HR0_1.out HB.out))
   (case side5 => exact HC0_1.out)
   rintro e w12 ⟨rfl, hb⟩
   refine ⟨_, rfl, ?_⟩
   replace HP0_ := bb HP0_ hb
   replace BK453 := bb BK453 hb
   replace HB := am (below_step (bw HB) hb)
   clear hb
   refine hK.out _ _ ⟨bc BK453 0, bc BK453 1, bc BK453 2, bc BK453 3, bc HP0_ 0, bc HP0_ 1, (cq HB hw455_0), (cq HB hw455_1), (cq HB hw455_2)⟩ (fun hHeld => ?_)
   clear hK K
   refine nm (some 13) ?_
   refine pu 7 14 37 255 HT_ ?_
   refine pu 8 15 37 511 HT_ ?_
   refine pu 11 18 37 2559 HT_ ?_
   refine pu 12 19 37 6655 HT_ ?_
   refine pu 13 20 37 14847 HT_ ?_
   refine pu 14 21 37 31231 HT_ ?_
   refine pu 16 23 37 96767 HT_ ?_
   refine tk 9 16 37 97279 HT_ HW_ hHeld ?_
   refine pu 10 17 37 98303 HT_ ?_
   refine tk 15 22 37 131071 HT_ HW_ hHeld ?_
   refine tk 17 24 37 262143 HT_ HW_ hHeld ?_
   refine pu 18 25 37 524287 HT_ ?_
   refine pu 19 26 37 1048575 HT_ ?_
   refine tk 20 27 37 2097151 HT_ HW_ hHeld ?_
   refine pu 21 28 37 4194303 HT_ ?_
   refine pu 22 29 37 8388607 HT_ ?_
   refine pu 23 30 37 16777215 HT_ ?_
   refine pu 24 31 37 33554431 HT_ ?_
   refine pu 27 34 37 167772159 HT_ ?_
   refine pu 28 35 37 436207615 HT_ ?_
   refine pu 30 37 37 1509949439 HT_ ?_
   refine pu 32 39 37 5804916735 HT_ ?_
   refine tk 25 32 37 5838471167 HT_ HW_ hHeld ?_
   refine pu 26 33 37 5905580031 HT_ ?_
   refine tk 29 36 37 6442450943 HT_ HW_ hHeld ?_
   refine tk 31 38 37 8589934591 HT_ HW_ hHeld ?_
   refine on 33 (some 40) 37 17179869183 HT_ fun K hK => ?_
   refine goes_ Try.func188 (by kernel_rfl) rfl #[.pointer (some ⟨g0_, 0, none⟩), .int .i64 a1_0, .int .i64 a1_1, .int .i64 a2] (by rfl) rfl rfl gl ?_
   refine (impl_prog_depth.calls g0_ (some ad455) c0_0 l0_0 A0_1 c0_1 l0_1 a1_0 a1_1 a2 t456 _ ?side1 ?side2 ?side3 ?side4 ?side5 A9.out).mono ?_
   (case side1 => exact (bp HP0_))
   (case side2 => exact cc (Kd.C_below HR0_0.out HB.out))
   (case side3 => exact HC0_0.out)
   (case side4 => exact cc (Kd.C_below HR0_1.out HB.out))
   (case side5 => exact HC0_1.out)
   rintro e w13 ⟨rfl, hb⟩
   refine ⟨_, rfl, ?_⟩
   replace HP0_ := bb HP0_ hb
   replace BK453 := bb BK453 hb
   replace HB := am (below_step (bw HB) hb)
   clear hb
   refine hK.out _ _ ⟨bc BK453 0, bc BK453 1, bc BK453 2, bc BK453 3, bc HP0_ 0, bc HP0_ 1, (cq HB hw455_0), (cq HB hw455_1), (cq HB hw455_2)⟩ (fun hHeld => ?_)
   clear hK K
   refine nm (some 40) ?_
   refine pu 34 41 37 34359738367 HT_ ?_
   refine pu 35 42 37 68719476735 HT_ ?_
   refine pu 36 6 37 137438953471 HT_ ?_
   refine done_ (done_of HT_.out (by kernel_rfl)) ?_
   try go_wp2
   go_ret
   exact ⟨er, bw HB⟩
  rw [if_neg c8] at H
  have c8b0 : ((l1_2.length : Int) == ((rd_T100 l0_0 a1_0).f1)) = false := beq_eq_false_iff_ne.mpr c8
  have c8b1 : ((l1_2.length : Int) != ((rd_T100 l0_0 a1_0).f1)) = true := bne_iff_ne.mpr c8
  obtain rfl := Option.some.inj H
  go_enter Try.func166, Try.ntmps166
  try go_wp2_with (first | ((with_reducible refine gate_dst (N := 4) rfl ?_); (try (refine gate_guard (by rfl) ?_; dsimp only)); refine box_event ?hg (N := 4) ?hd (cs := #[.int .i64 a1_0, .int .i64 a1_1, .slice A1_2 l1_2.length c1_2, .slice A1_3 l1_3.length c1_3]) (t := 129) ?hr ?_; (case hd => rfl); (case hg => rfl); (case hr => exact gs); intro gb453 hg w14 hbox hb; have BK453 := am (hbox); have GW453 := gw hg HB; replace HB := bs HB hb; obtain ⟨NB0_453, NB453_0, HP0_⟩ := b3 hg HP0_ hb; clear hb hbox hg))
  replace HP0_ := am (blk_drew HP0_.out)
  replace BK453 := am (blk_drew BK453.out)
  replace HB := am (below_drew1 HB.out)
  have p455 : 0 ≤ (a1_0 : Int) := of_decide_eq_true as1
  have q455 : a1_0 < (l0_0.length : Int) := of_decide_eq_true as1
  obtain ⟨ad455, A455_2, c455_2, e455, hx455_0, hx455_1, hx455_2, hl455_2, hi455_2⟩ := at_T100 HR0_0.out a1_0 p455 q455
  have hw455_2 := hx455_2
  have hw455_1 := hx455_1
  have hw455_0 := hx455_0
  cases e455
  replace hx455_0 := cl HB hx455_0
  replace hx455_1 := cl HB hx455_1
  replace hx455_2 := cl HB hx455_2
  have HR455_2 := am hi455_2
  have HC455_2 := am hl455_2
  clear hi455_2 hl455_2
  replace p455 := eq_true p455
  replace q455 := eq_true q455
  refine start_ (n := 37) (S := fun w' => w'.cell? ⟨gb453, 0, none⟩ = some (.int .i64 a1_0) ∧ w'.cell? ⟨gb453, 1, none⟩ = some (.int .i64 a1_1) ∧ w'.cell? ⟨gb453, 2, none⟩ = some (.slice A1_2 l1_2.length c1_2) ∧ w'.cell? ⟨gb453, 3, none⟩ = some (.slice A1_3 l1_3.length c1_3) ∧ w'.cell? ⟨g0_, 0, none⟩ = some (.slice (some ad455) l0_0.length c0_0) ∧ w'.cell? ⟨g0_, 1, none⟩ = some (.slice A0_1 l0_1.length c0_1) ∧ w'.cell? (ad455.add ((a1_0).toNat * 3)) = some (.int .i64 ((rd_T100 l0_0 a1_0).f0)) ∧ w'.cell? ⟨(ad455.add ((a1_0).toNat * 3)).block, (ad455.add ((a1_0).toNat * 3)).off + 1, none⟩ = some (.int .i64 ((rd_T100 l0_0 a1_0).f1)) ∧ w'.cell? ⟨(ad455.add ((a1_0).toNat * 3)).block, (ad455.add ((a1_0).toNat * 3)).off + 2, none⟩ = some (.slice A455_2 ((rd_T100 l0_0 a1_0).f2).length c455_2)) (ds := []) (bv 37 0) (by kernel_rfl) rfl (by kernel_rfl) ⟨bc BK453 0, bc BK453 1, bc BK453 2, bc BK453 3, bc HP0_ 0, bc HP0_ 1, (cq HB hw455_0), (cq HB hw455_1), (cq HB hw455_2)⟩ (fun hHeld => ?_); refine with_tabW impl_prog_frameRight.tab1 impl_prog_frameRight.bits1 (fun HT_ HW_ => ?_)
  generalize w14.drew = w15 at HP0_ BK453 HB HR455_2 hx455_0 hx455_1 hx455_2 hHeld ⊢
  refine pu 0 7 37 1 HT_ ?_
  refine pu 1 8 37 3 HT_ ?_
  refine pu 3 10 37 11 HT_ ?_
  refine pu 5 12 37 43 HT_ ?_
  refine tk 2 9 37 47 HT_ HW_ hHeld ?_
  refine tk 4 11 37 63 HT_ HW_ hHeld ?_
  refine on 6 (some 13) 37 127 HT_ fun K hK => ?_
  refine goes_ Try.func187 (by kernel_rfl) rfl #[.pointer (some ⟨g0_, 0, none⟩), .int .i64 a1_0, .int .i64 a1_1, .int .i64 a2] (by rfl) rfl rfl gl ?_
  refine (impl_prog_stands.calls g0_ (some ad455) c0_0 l0_0 A0_1 c0_1 l0_1 a1_0 a1_1 a2 true _ ?side1 ?side2 ?side3 ?side4 ?side5 A4.out).mono ?_
  (case side1 => exact (bp HP0_))
  (case side2 => exact cc (Kd.C_below HR0_0.out HB.out))
  (case side3 => exact HC0_0.out)
  (case side4 => exact cc (Kd.C_below HR0_1.out HB.out))
  (case side5 => exact HC0_1.out)
  rintro e w16 ⟨rfl, hb⟩
  refine ⟨_, rfl, ?_⟩
  replace HP0_ := bb HP0_ hb
  replace BK453 := bb BK453 hb
  replace HB := am (below_step (bw HB) hb)
  clear hb
  refine hK.out _ _ ⟨bc BK453 0, bc BK453 1, bc BK453 2, bc BK453 3, bc HP0_ 0, bc HP0_ 1, (cq HB hw455_0), (cq HB hw455_1), (cq HB hw455_2)⟩ (fun hHeld => ?_)
  clear hK K
  refine nm (some 13) ?_
  refine pu 7 14 37 255 HT_ ?_
  refine pu 8 15 37 511 HT_ ?_
  refine pu 11 18 37 2559 HT_ ?_
  refine pu 12 19 37 6655 HT_ ?_
  refine pu 13 20 37 14847 HT_ ?_
  refine pu 14 21 37 31231 HT_ ?_
  refine pu 16 23 37 96767 HT_ ?_
  refine tk 9 16 37 97279 HT_ HW_ hHeld ?_
  refine pu 10 17 37 98303 HT_ ?_
  refine tk 15 22 37 131071 HT_ HW_ hHeld ?_
  refine tk 17 24 37 262143 HT_ HW_ hHeld ?_
  refine pu 18 25 37 524287 HT_ ?_
  refine pu 19 26 37 1048575 HT_ ?_
  refine tk 20 27 37 2097151 HT_ HW_ hHeld ?_
  refine pu 21 28 37 4194303 HT_ ?_
  refine pu 22 29 37 8388607 HT_ ?_
  refine pu 23 30 37 16777215 HT_ ?_
  refine pn 24 31 37 33554431 HT_ ?_
  refine pn 25 32 37 67108863 HT_ ?_
  refine pn 26 33 37 134217727 HT_ ?_
  refine pn 27 34 37 268435455 HT_ ?_
  refine pn 28 35 37 536870911 HT_ ?_
  refine pn 29 36 37 1073741823 HT_ ?_
  refine pn 30 37 37 2147483647 HT_ ?_
  refine pn 31 38 37 4294967295 HT_ ?_
  refine pn 32 39 37 8589934591 HT_ ?_
  refine pn 33 40 37 17179869183 HT_ ?_
  refine pn 34 41 37 34359738367 HT_ ?_
  refine pu 35 42 37 68719476735 HT_ ?_
  refine pu 36 6 37 137438953471 HT_ ?_
  refine done_ (done_of HT_.out (by kernel_rfl)) ?_
  try go_wp2
  go_ret
  exact ⟨er, bw HB⟩
 obtain rfl := Option.some.inj H
 go_enter Try.func166, Try.ntmps166
 try go_wp2_with (first | ((with_reducible refine gate_dst (N := 4) rfl ?_); (try (refine gate_guard (by rfl) ?_; dsimp only)); refine box_event ?hg (N := 4) ?hd (cs := #[.int .i64 a1_0, .int .i64 a1_1, .slice A1_2 l1_2.length c1_2, .slice A1_3 l1_3.length c1_3]) (t := 129) ?hr ?_; (case hd => rfl); (case hg => rfl); (case hr => exact gs); intro gb453 hg w17 hbox hb; have BK453 := am (hbox); have GW453 := gw hg HB; replace HB := bs HB hb; obtain ⟨NB0_453, NB453_0, HP0_⟩ := b3 hg HP0_ hb; clear hb hbox hg))
 replace HP0_ := am (blk_drew HP0_.out)
 replace BK453 := am (blk_drew BK453.out)
 replace HB := am (below_drew1 HB.out)
 refine start_ (n := 37) (S := fun w' => w'.cell? ⟨gb453, 0, none⟩ = some (.int .i64 a1_0) ∧ w'.cell? ⟨gb453, 1, none⟩ = some (.int .i64 a1_1) ∧ w'.cell? ⟨gb453, 2, none⟩ = some (.slice A1_2 l1_2.length c1_2) ∧ w'.cell? ⟨gb453, 3, none⟩ = some (.slice A1_3 l1_3.length c1_3)) (ds := []) (bv 37 0) (by kernel_rfl) rfl (by kernel_rfl) ⟨bc BK453 0, bc BK453 1, bc BK453 2, bc BK453 3⟩ (fun hHeld => ?_); refine with_tabW impl_prog_frameRight.tab1 impl_prog_frameRight.bits1 (fun HT_ HW_ => ?_)
 generalize w17.drew = w18 at HP0_ BK453 HB hHeld ⊢
 refine pu 0 7 37 1 HT_ ?_
 refine pu 1 8 37 3 HT_ ?_
 refine pu 3 10 37 11 HT_ ?_
 refine pu 5 12 37 43 HT_ ?_
 refine tk 2 9 37 47 HT_ HW_ hHeld ?_
 refine tk 4 11 37 63 HT_ HW_ hHeld ?_
 refine on 6 (some 13) 37 127 HT_ fun K hK => ?_
 refine goes_ Try.func187 (by kernel_rfl) rfl #[.pointer (some ⟨g0_, 0, none⟩), .int .i64 a1_0, .int .i64 a1_1, .int .i64 a2] (by rfl) rfl rfl gl ?_
 refine (impl_prog_stands.calls g0_ A0_0 c0_0 l0_0 A0_1 c0_1 l0_1 a1_0 a1_1 a2 false _ ?side1 ?side2 ?side3 ?side4 ?side5 A4.out).mono ?_
 (case side1 => exact (bp HP0_))
 (case side2 => exact cc (Kd.C_below HR0_0.out HB.out))
 (case side3 => exact HC0_0.out)
 (case side4 => exact cc (Kd.C_below HR0_1.out HB.out))
 (case side5 => exact HC0_1.out)
 rintro e w19 ⟨rfl, hb⟩
 refine ⟨_, rfl, ?_⟩
 replace HP0_ := bb HP0_ hb
 replace BK453 := bb BK453 hb
 replace HB := am (below_step (bw HB) hb)
 clear hb
 refine hK.out _ _ ⟨bc BK453 0, bc BK453 1, bc BK453 2, bc BK453 3⟩ (fun hHeld => ?_)
 clear hK K
 refine nm (some 13) ?_
 refine pu 7 14 37 255 HT_ ?_
 refine pn 8 15 37 511 HT_ ?_
 refine pn 9 16 37 1023 HT_ ?_
 refine pn 10 17 37 2047 HT_ ?_
 refine pn 11 18 37 4095 HT_ ?_
 refine pn 12 19 37 8191 HT_ ?_
 refine pn 13 20 37 16383 HT_ ?_
 refine pn 14 21 37 32767 HT_ ?_
 refine pn 15 22 37 65535 HT_ ?_
 refine pn 16 23 37 131071 HT_ ?_
 refine pn 17 24 37 262143 HT_ ?_
 refine pn 18 25 37 524287 HT_ ?_
 refine pn 19 26 37 1048575 HT_ ?_
 refine pn 20 27 37 2097151 HT_ ?_
 refine pn 21 28 37 4194303 HT_ ?_
 refine pu 22 29 37 8388607 HT_ ?_
 refine pu 23 30 37 16777215 HT_ ?_
 refine pn 24 31 37 33554431 HT_ ?_
 refine pn 25 32 37 67108863 HT_ ?_
 refine pn 26 33 37 134217727 HT_ ?_
 refine pn 27 34 37 268435455 HT_ ?_
 refine pn 28 35 37 536870911 HT_ ?_
 refine pn 29 36 37 1073741823 HT_ ?_
 refine pn 30 37 37 2147483647 HT_ ?_
 refine pn 31 38 37 4294967295 HT_ ?_
 refine pn 32 39 37 8589934591 HT_ ?_
 refine pn 33 40 37 17179869183 HT_ ?_
 refine pn 34 41 37 34359738367 HT_ ?_
 refine pu 35 42 37 68719476735 HT_ ?_
 refine pu 36 6 37 137438953471 HT_ ?_
 refine done_ (done_of HT_.out (by kernel_rfl)) ?_
 try go_wp2
 go_ret
 exact ⟨er, bw HB⟩

end Go.Proofs.Ytbmjmaahcaoajaa.QFnExactStateRight
