import Derived.Test.YtopaefhfjioecaaCFnRangesx0
import Derived.Test.YtopaefhfjioecaaCFnRangesx11
import Derived.Test.YtopaefhfjioecaaCFnRangesx13
import Derived.Test.YtopaefhfjioecaaCFnRangesx14
namespace Go.Proofs.Ytopaefhfjioecaa.QFnRanges
open Go.RowKit Go.Proofs.YtopaefhfjioecaaW
open PrintWords PrintLast PrintMore PrintShort
attribute [local go_sem] max2_int min2_int max_two min_two max_three min_three max_four min_four   -- for this text's walks alone
set_option linter.unusedVariables false
set_option maxHeartbeats 8000000
set_option maxRecDepth 100000
set_option linter.unusedSimpArgs false

def impl_prog_reads.f (k : Nat) (l0_0 : List (S35)) (l0_1 : List (List Int)) (a1 : Int) (a2 : Int) : Option (Int) := (impl_prog_at.f l0_0 l0_1 a1 a2).bind fun bt443 => (if bt443.1 = 2 then (if 0 ≤ bt443.2 then (some (shl .i64 1 bt443.2)) else (none)) else (if 0 ≤ a1 then (if a1 < (l0_1.length : Int) then (if 0 ≤ a2 then (if a2 < ((rd_L7 l0_1 a1).length : Int) then ((impl_Takes.f k l0_0 bt443.1 bt443.2).bind fun t448 => ((impl_prog_top.f l0_0 l0_1 a1 (rd (rd_L7 l0_1 a1) a2) t448).bind fun t449 => (some t449))) else (none)) else (none)) else (none)) else (none)))
theorem impl_prog_reads.mono : ∀ a0 a1 a2 a3 k, LeO (impl_prog_reads.f k a0 a1 a2 a3) (impl_prog_reads.f (k + 1) a0 a1 a2 a3) := by
 intro a0 a1 a2 a3 k
 unfold impl_prog_reads.f
 with_reducible repeat' first | exact impl_Takes.mono .. | exact LeO.refl _ | exact LeO.none _ | refine LeO.ite ?_ ?_ | refine LeO.bind ?_ (fun _ => ?_)
def impl_prog_reads.T4 : Bool × List (List Nat × List Nat) := (true, [([], []), ([], []), ([], []), ([2], [2]), ([3], [3]), ([4], [4]), ([], []), ([5, 6], [5, 6]), ([7], [7]), ([], []), ([8, 9], [8, 9]), ([10], [10]), ([], []), ([12], [12]), ([13], [13]), ([14], [14]), ([], []), ([15, 16], [15, 16]), ([0, 1, 11, 17, 17], [0, 1, 11, 17]), ([18, 18, 0, 1, 2, 3, 4, 5, 6, 7, 8, 9, 10, 11, 12, 13, 14, 15, 16, 17, 18], [18])])
def impl_prog_reads.B4 : List Nat := [0, 0, 0, 4, 12, 28, 0, 124, 252, 0, 1020, 2044, 0, 4096, 12288, 28672, 0, 126976, 262143, 524287]
theorem impl_prog_reads.tab4 : rtab .any (opsOf Try.f110 4) = impl_prog_reads.T4 := by kernel_rfl
theorem impl_prog_reads.bits4 : waitsOk impl_prog_reads.T4.2 impl_prog_reads.B4 = true := by kernel_rfl
theorem impl_prog_reads.calls (k : Nat) (g0_ : Nat) (A0_0 : Option Addr) (c0_0 : Nat) (l0_0 : List (S35)) (A0_1 : Option Addr) (c0_1 : Nat) (l0_1 : List (List Int)) (a1 : Int) (a2 : Int) (r : Int) (w : World) (hp0 : w.heap[g0_]? = some (.cells #[.slice A0_0 l0_0.length c0_0, .slice A0_1 l0_1.length c0_1] 67 (0, 0))) (hr0_0 : Kd.C k35 w A0_0 l0_0.length l0_0) (hc0_0 : l0_0.length ≤ c0_0) (hr0_1 : Kd.C (Kd.slice 2 (Kd.int .i64)) w A0_1 l0_1.length l0_1) (hc0_1 : l0_1.length ≤ c0_1) (h : impl_prog_reads.f k l0_0 l0_1 a1 a2 = some r) :
  Calls Try.prog 110 #[.pointer (some ⟨g0_, 0, none⟩), .int .i64 a1, .int .i64 a2] w fun e w' => e = .returned (.int .i64 r) ∧ Below w.heap.size w w' := by
 have hu38 := Try.underlying38
 have hu25 := Try.underlying25
 have HP0_ := am hp0
 clear hp0
 have HR0_0 := am hr0_0
 have HC0_0 := am hc0_0
 clear hr0_0 hc0_0
 have HR0_1 := am hr0_1
 have HC0_1 := am hc0_1
 clear hr0_1 hc0_1
 have HB := am (Below.refl w.heap.size w)
 have H : ((impl_prog_at.f l0_0 l0_1 a1 a2).bind fun bt443 => (if bt443.1 = 2 then (if 0 ≤ bt443.2 then (some (shl .i64 1 bt443.2)) else (none)) else (if 0 ≤ a1 then (if a1 < (l0_1.length : Int) then (if 0 ≤ a2 then (if a2 < ((rd_L7 l0_1 a1).length : Int) then ((impl_Takes.f k l0_0 bt443.1 bt443.2).bind fun t448 => ((impl_prog_top.f l0_0 l0_1 a1 (rd (rd_L7 l0_1 a1) a2) t448).bind fun t449 => (some t449))) else (none)) else (none)) else (none)) else (none)))) = some r := h
 clear h
 replace H := Option.bind_eq_some_iff.mp H
 obtain ⟨⟨t443, t444⟩, A40, H⟩ := H
 replace H : (if t443 = 2 then (if 0 ≤ t444 then (some (shl .i64 1 t444)) else (none)) else (if 0 ≤ a1 then (if a1 < (l0_1.length : Int) then (if 0 ≤ a2 then (if a2 < ((rd_L7 l0_1 a1).length : Int) then ((impl_Takes.f k l0_0 t443 t444).bind fun t448 => ((impl_prog_top.f l0_0 l0_1 a1 (rd (rd_L7 l0_1 a1) a2) t448).bind fun t449 => (some t449))) else (none)) else (none)) else (none)) else (none))) = some r := H
 have A4 := am A40
 clear A40
 have HC5 := am H
 clear H
 go_enter Try.func110, Try.ntmps110
 go_upto_if 14 with (first | ((with_reducible refine gk 108 rfl ?_); refine gB 108 (some 11) Try.func108 #[.pointer (some ⟨g0_, 0, none⟩), .int .i64 a1, .int .i64 a2] (impl_prog_at.calls g0_ A0_0 c0_0 l0_0 A0_1 c0_1 l0_1 a1 a2 t443 t444 _ (bp HP0_) (by repeat (first | exact HR0_0.out | (with_reducible refine Kd.C_alloc ?_ _) | (with_reducible refine Kd.C_drewN ?_ _) | (with_reducible refine Kd.C_drew ?_))) HC0_0.out (by repeat (first | exact HR0_1.out | (with_reducible refine Kd.C_alloc ?_ _) | (with_reducible refine Kd.C_drewN ?_ _) | (with_reducible refine Kd.C_drew ?_))) HC0_1.out A4.out) ?_; intro w6 hb; replace HP0_ := bb HP0_ hb; replace HB := bs HB hb; clear hb) | ((with_reducible refine gd 7 rfl ?_); refine bX 7 #[.int .i64 0, .int .i64 0] 38 HB ?_; clear HB; intro gb445 w7 hg hb BK445 GW445 HB; obtain ⟨NB0_445, NB445_0, HP0_⟩ := b3 hg HP0_ hb; clear hb hg; have hnb8 := NB445_0.out; have hnc8 := NB0_445.out; have hcz9 := bK w7 BK445; have hfz9 := bF BK445))
 (try simp only [Act.put, sa, sz, ss])
 have H := HC5.out
 clear HC5
 refine qE H ?_ ?_ <;> clear H
 ·intro c10b0 c10b1 H
  (first | rw [c10b0] | (simp only [i64_w, i32_w]; rw [c10b0]) | skip)
  refine iN H ?_; clear H; intro c11 H
  have c11b0 := eq_true c11
  have c11b1 := decide_eq_true c11
  clear c11
  obtain ⟨ji12, hji12⟩ : ∃ j_ : Int, (shl .i64 1 t444) = j_ := ⟨_, rfl⟩
  replace H : (some ji12) = some r := by first | (rw [hji12] at H; exact H) | (simp only [hji12] at H ⊢; exact H)
  have hji12_ : (IntKind.i64.wrap (1 * 2 ^ min t444.toNat 64)) = ji12 := hji12
  have hji12z : t444 ≤ 64 → (IntKind.i64.wrap (1 * 2 ^ t444.toNat)) = ji12 := shl_small hji12
  have hji12u : (IntKind.i64.wrap (2 ^ min t444.toNat 64)) = ji12 := by have h_ := hji12_; rw [Int.one_mul] at h_; exact h_
  have hji12v : t444 ≤ 64 → (IntKind.i64.wrap (2 ^ t444.toNat)) = ji12 := fun hle_ => by have h_ := hji12z hle_; rw [Int.one_mul] at h_; exact h_
  have hji12y : (wrap64 (1 * 2 ^ min t444.toNat 64)) = ji12 := (i64_w _).symm.trans hji12_
  have hji12x : t444 ≤ 64 → (wrap64 (1 * 2 ^ t444.toNat)) = ji12 := fun h_ => (i64_w _).symm.trans (hji12z h_)
  obtain rfl := Option.some.inj H
  have hnb13 := NB445_0.out
  have hnc13 := NB0_445.out
  have hcz14 := bK w7 BK445
  have hfz14 := bF BK445
  go_wp2
  go_ret
  exact ⟨by first | rfl | (simp [errW_none, errW_some] <;> rfl) | (simp only [← hji12]; first | rfl | (simp [errW_none, errW_some] <;> rfl)) | (simp [*, errW_none, errW_some] <;> rfl), bw HB⟩
 intro c10 c10b0 c10b1 H
 (first | rw [c10b0] | (simp only [i64_w, i32_w]; rw [c10b0]) | skip)
 refine iM H ?_; clear H; intro c15b0 H
 refine iM H ?_; clear H; intro c16b0 H
 refine iM H ?_; clear H; intro c17b0 H
 refine iM H ?_; clear H; intro c18b0 H
 refine be H ?_; clear H; intro t448 A19 H
 refine be H ?_; clear H; intro t449 A20 H
 obtain rfl := Option.some.inj H
 try go_wp2
 replace HP0_ : Aside0 (((w7.setCell ⟨gb445, 0, none⟩ (.int .i64 t443)).setCell ⟨gb445, 1, none⟩ (.int .i64 t444)).heap[g0_]? = some (.cells #[.slice A0_0 l0_0.length c0_0, .slice A0_1 l0_1.length c0_1] 67 (0, 0))) := ⟨by (with_reducible repeat (first | apply dN | apply dW | apply dA)); refine blk_far ?_ NB0_445.out _; (with_reducible repeat (first | apply dN | apply dW | apply dA)); refine blk_far ?_ NB0_445.out _; exact bp HP0_⟩
 replace BK445 : Aside0 (((w7.setCell ⟨gb445, 0, none⟩ (.int .i64 t443)).setCell ⟨gb445, 1, none⟩ (.int .i64 t444)).heap[gb445]? = some (.cells #[.int .i64 t443, .int .i64 t444] 38 (0, 0))) := ⟨by (with_reducible repeat (first | apply dN | apply dW | apply dA)); refine blk_put (cs := #[.int .i64 t443, .int .i64 0]) ?_ 1 _ rfl; (with_reducible repeat (first | apply dN | apply dW | apply dA)); refine blk_put (cs := #[.int .i64 0, .int .i64 0]) ?_ 0 _ rfl; exact bp BK445⟩
 replace HB : Aside0 (Below w.heap.size w ((w7.setCell ⟨gb445, 0, none⟩ (.int .i64 t443)).setCell ⟨gb445, 1, none⟩ (.int .i64 t444))) := ⟨bw HB⟩
 generalize ((w7.setCell ⟨gb445, 0, none⟩ (.int .i64 t443)).setCell ⟨gb445, 1, none⟩ (.int .i64 t444)) = w21 at HP0_ BK445 HB ⊢
 replace HP0_ := am (blk_drew HP0_.out)
 replace BK445 := am (blk_drew BK445.out)
 replace HB := am (below_drew1 HB.out)
 have p446 : 0 ≤ (a1 : Int) := of_decide_eq_true as1
 have q446 : a1 < (l0_1.length : Int) := of_decide_eq_true as1
 obtain ⟨ad446, A446_0, c446_0, e446, hx446_0, hl446_0, hi446_0⟩ := at_L7 HR0_1.out a1 p446 q446
 have hw446_0 := hx446_0
 cases e446
 replace hx446_0 := cl HB hx446_0
 have HR446_0 := am hi446_0
 have HC446_0 := am hl446_0
 clear hi446_0 hl446_0
 replace p446 := eq_true p446
 replace q446 := eq_true q446
 have p447 : 0 ≤ (a2 : Int) := of_decide_eq_true as1
 have q447 : a2 < ((rd_L7 l0_1 a1).length : Int) := of_decide_eq_true as1
 obtain ⟨ad447, e447, hx447_0⟩ := Kd.at_int HR446_0.out a2 p447 q447
 have hw447_0 := hx447_0
 cases e447
 replace hx447_0 := cl HB hx447_0
 replace p447 := eq_true p447
 replace q447 := eq_true q447
 refine start_ (n := 20) (S := fun w' => w'.cell? ⟨g0_, 0, none⟩ = some (.slice A0_0 l0_0.length c0_0) ∧ w'.cell? ⟨g0_, 1, none⟩ = some (.slice (some ad446) l0_1.length c0_1) ∧ w'.cell? ⟨gb445, 0, none⟩ = some (.int .i64 t443) ∧ w'.cell? ⟨gb445, 1, none⟩ = some (.int .i64 t444) ∧ w'.cell? (ad446.add (a1).toNat) = some (.slice (some ad447) (rd_L7 l0_1 a1).length c446_0) ∧ w'.cell? (ad447.add (a2).toNat) = some (.int .i64 (rd (rd_L7 l0_1 a1) a2))) (ds := []) (bv 20 0) (by kernel_rfl) rfl (by kernel_rfl) ⟨bc HP0_ 0, bc HP0_ 1, bc BK445 0, bc BK445 1, (cq HB hw446_0), (cq HB hw447_0)⟩ (fun hHeld => ?_); refine with_tabW impl_prog_reads.tab4 impl_prog_reads.bits4 (fun HT_ HW_ => ?_)
 generalize w21.drew = w22 at HP0_ BK445 HB HR446_0 hx446_0 hx447_0 hHeld ⊢
 refine pu 0 18 20 1 HT_ ?_
 refine pu 1 19 20 3 HT_ ?_
 refine pu 2 20 20 7 HT_ ?_
 refine pu 3 21 20 15 HT_ ?_
 refine pu 4 22 20 31 HT_ ?_
 refine pu 6 24 20 95 HT_ ?_
 refine pu 9 27 20 607 HT_ ?_
 refine pu 12 30 20 4703 HT_ ?_
 refine pu 13 31 20 12895 HT_ ?_
 refine pu 14 32 20 29279 HT_ ?_
 refine tk 5 23 20 29311 HT_ HW_ hHeld ?_
 refine pu 7 25 20 29439 HT_ ?_
 refine tk 8 26 20 29695 HT_ HW_ hHeld ?_
 refine pu 10 28 20 30719 HT_ ?_
 refine tk 11 29 20 32767 HT_ HW_ hHeld ?_
 refine tk 15 33 20 65535 HT_ HW_ hHeld ?_
 refine tk 16 34 20 131071 HT_ HW_ hHeld ?_
 refine on 17 (some 35) 20 262143 HT_ fun K hK => ?_
 refine goes_ Try.func13 (by kernel_rfl) rfl #[.agg #[.slice A0_0 l0_0.length c0_0], .agg #[.int .i64 t443, .int .i64 t444]] (by rfl) rfl rfl gl ?_
 with_reducible refine (impl_Takes.calls k _ _ l0_0 t443 t444 t448 _ ?side1 ?side2 A19.out).mono ?_
 (case side1 => exact cc (Kd.C_below HR0_0.out HB.out))
 (case side2 => exact HC0_0.out)
 rintro e w23 ⟨rfl, hb⟩
 refine ⟨_, rfl, ?_⟩
 replace HP0_ := bb HP0_ hb
 replace BK445 := bb BK445 hb
 replace HB := am (below_step (bw HB) hb)
 clear hb
 refine hK.out _ _ ⟨bc HP0_ 0, bc HP0_ 1, bc BK445 0, bc BK445 1, (cq HB hw446_0), (cq HB hw447_0)⟩ (fun hHeld => ?_)
 clear hK K
 refine nm (some 35) ?_
 refine on 18 (some 36) 20 524287 HT_ fun K hK => ?_
 refine goes_ Try.func111 (by kernel_rfl) rfl #[.pointer (some ⟨g0_, 0, none⟩), .int .i64 a1, .int .i64 (rd (rd_L7 l0_1 a1) a2), .int .i64 t448] (by rfl) rfl rfl gl ?_
 refine (impl_prog_top.calls g0_ A0_0 c0_0 l0_0 (some ad446) c0_1 l0_1 a1 (rd (rd_L7 l0_1 a1) a2) t448 t449 _ ?side1 ?side2 ?side3 ?side4 ?side5 A20.out).mono ?_
 (case side1 => exact (bp HP0_))
 (case side2 => exact cc (Kd.C_below HR0_0.out HB.out))
 (case side3 => exact HC0_0.out)
 (case side4 => exact cc (Kd.C_below HR0_1.out HB.out))
 (case side5 => exact HC0_1.out)
 rintro e w24 ⟨rfl, hb⟩
 refine ⟨_, rfl, ?_⟩
 replace HP0_ := bb HP0_ hb
 replace BK445 := bb BK445 hb
 replace HB := am (below_step (bw HB) hb)
 clear hb
 refine hK.out _ _ ⟨bc HP0_ 0, bc HP0_ 1, bc BK445 0, bc BK445 1, (cq HB hw446_0), (cq HB hw447_0)⟩ (fun hHeld => ?_)
 clear hK K
 refine nm (some 36) ?_
 refine pu 19 6 20 1048575 HT_ ?_
 refine done_ (done_of HT_.out (by kernel_rfl)) ?_
 try go_wp2
 go_ret
 exact ⟨er, bw HB⟩

mutual
def impl_prog_live.l0 : Nat → Int → List Int → Bool → List (S35) → List (List Int) → Option (List Int)
 | 0, _, _, _, _, _ => none
 | k + 1, x1, x5, x6, x1000, x1001 => if x6 = true then (impl_prog_live.l1 k x1 x5 false (wrap64 ((x5.length : Int) - 1)) x1000 x1001) else (some x5)
def impl_prog_live.l1 : Nat → Int → List Int → Bool → Int → List (S35) → List (List Int) → Option (List Int)
 | 0, _, _, _, _, _, _ => none
 | k + 1, x1, x5, x6, x7, x1000, x1001 => if x7 ≥ 0 then ((impl_prog_reached.f x1000 x1001 x1 x7).bind fun t456 => (if t456 = true then ((impl_prog_at.f x1000 x1001 x1 x7).bind fun bt457 => ((impl_next.f bt457.1 bt457.2 x7).bind fun t459 => (impl_prog_live.l2 k x1 x5 x6 x7 0 t459 (t459.length : Int) 0 x1000 x1001))) else (impl_prog_live.l1 k x1 x5 x6 (wrap64 (x7 - 1)) x1000 x1001))) else (impl_prog_live.l0 k x1 x5 x6 x1000 x1001)
def impl_prog_live.l2 : Nat → Int → List Int → Bool → Int → Int → List Int → Int → Int → List (S35) → List (List Int) → Option (List Int)
 | 0, _, _, _, _, _, _, _, _, _, _ => none
 | k + 1, x1, x5, x6, x7, x8, x36, x37, x38, x1000, x1001 => if x38 < x37 then (if 0 ≤ x38 then (if x38 < (x36.length : Int) then (if 0 ≤ (rd x36 x38) then (if (rd x36 x38) < (x5.length : Int) then (impl_prog_live.l2 k x1 x5 x6 x7 (Go.bits .or .i64 x8 (rd x5 (rd x36 x38))) x36 x37 (wrap64 (x38 + 1)) x1000 x1001) else (none)) else (none)) else (none)) else (none)) else ((impl_prog_slots.f x1000 x1001 x1 x7).bind fun t464 => (if 0 ≤ t464 then ((impl_prog_reads.f k x1000 x1001 x1 x7).bind fun t465 => ((impl_prog_writes.f k x1000 x1001 x1 x7).bind fun t466 => (if x6 = true then (if 0 ≤ x7 then (if x7 < (x5.length : Int) then (impl_prog_live.l1 k x1 (x5.set (x7 : Int).toNat (Go.bits .and .i64 (Go.bits .or .i64 t465 (Go.bits .andNot .i64 x8 t466)) (wrap64 ((shl .i64 1 t464) - 1)))) true (wrap64 (x7 - 1)) x1000 x1001) else (none)) else (none)) else (if 0 ≤ x7 then (if x7 < (x5.length : Int) then (impl_prog_live.l1 k x1 (x5.set (x7 : Int).toNat (Go.bits .and .i64 (Go.bits .or .i64 t465 (Go.bits .andNot .i64 x8 t466)) (wrap64 ((shl .i64 1 t464) - 1)))) ((Go.bits .and .i64 (Go.bits .or .i64 t465 (Go.bits .andNot .i64 x8 t466)) (wrap64 ((shl .i64 1 t464) - 1))) != (rd x5 x7)) (wrap64 (x7 - 1)) x1000 x1001) else (none)) else (none))))) else (none)))
end
def impl_prog_live.f (k : Nat) (l0_0 : List (S35)) (l0_1 : List (List Int)) (a1 : Int) : Option (List Int) := (impl_prog_code.f l0_0 l0_1 a1).bind fun t450 => (if 0 ≤ (t450.length : Int) then (if ((t450.length : Int) : Int).toNat ≤ 35184372088832 then (impl_prog_live.l0 k a1 (List.replicate ((t450.length : Int) : Int).toNat 0) true l0_0 l0_1) else (none)) else (none))
theorem impl_prog_live.mono_l : ∀ k, (∀ y0 y1 y2 y3 y4, LeO (impl_prog_live.l0 k y0 y1 y2 y3 y4) (impl_prog_live.l0 (k + 1) y0 y1 y2 y3 y4)) ∧ (∀ y0 y1 y2 y3 y4 y5, LeO (impl_prog_live.l1 k y0 y1 y2 y3 y4 y5) (impl_prog_live.l1 (k + 1) y0 y1 y2 y3 y4 y5)) ∧ (∀ y0 y1 y2 y3 y4 y5 y6 y7 y8 y9, LeO (impl_prog_live.l2 k y0 y1 y2 y3 y4 y5 y6 y7 y8 y9) (impl_prog_live.l2 (k + 1) y0 y1 y2 y3 y4 y5 y6 y7 y8 y9))
 | 0 => ⟨fun _ _ _ _ _ r h => by simp [impl_prog_live.l0] at h, fun _ _ _ _ _ _ r h => by simp [impl_prog_live.l1] at h, fun _ _ _ _ _ _ _ _ _ _ r h => by simp [impl_prog_live.l2] at h⟩
 | k + 1 => by
  obtain ⟨ih0, ih1, ih2⟩ := impl_prog_live.mono_l k
  refine ⟨?_, ?_, ?_⟩
  ·intro y0 y1 y2 y3 y4
   unfold impl_prog_live.l0
   with_reducible repeat' first | exact ih0 .. | exact ih1 .. | exact ih2 .. | exact impl_prog_reads.mono .. | exact impl_prog_writes.mono .. | exact LeO.refl _ | exact LeO.none _ | refine LeO.ite ?_ ?_ | refine LeO.bind ?_ (fun _ => ?_)
  ·intro y0 y1 y2 y3 y4 y5
   unfold impl_prog_live.l1
   with_reducible repeat' first | exact ih0 .. | exact ih1 .. | exact ih2 .. | exact impl_prog_reads.mono .. | exact impl_prog_writes.mono .. | exact LeO.refl _ | exact LeO.none _ | refine LeO.ite ?_ ?_ | refine LeO.bind ?_ (fun _ => ?_)
  ·intro y0 y1 y2 y3 y4 y5 y6 y7 y8 y9
   unfold impl_prog_live.l2
   with_reducible repeat' first | exact ih0 .. | exact ih1 .. | exact ih2 .. | exact impl_prog_reads.mono .. | exact impl_prog_writes.mono .. | exact LeO.refl _ | exact LeO.none _ | refine LeO.ite ?_ ?_ | refine LeO.bind ?_ (fun _ => ?_)
theorem impl_prog_live.mono : ∀ a0 a1 a2 k, LeO (impl_prog_live.f k a0 a1 a2) (impl_prog_live.f (k + 1) a0 a1 a2) := by
 intro a0 a1 a2 k
 obtain ⟨ih0, ih1, ih2⟩ := impl_prog_live.mono_l k
 unfold impl_prog_live.f
 with_reducible repeat' first | exact ih0 .. | exact ih1 .. | exact ih2 .. | exact impl_prog_reads.mono .. | exact impl_prog_writes.mono .. | exact LeO.refl _ | exact LeO.none _ | refine LeO.ite ?_ ?_ | refine LeO.bind ?_ (fun _ => ?_)
theorem impl_prog_live.calls (k : Nat) (g0_ : Nat) (A0_0 : Option Addr) (c0_0 : Nat) (l0_0 : List (S35)) (A0_1 : Option Addr) (c0_1 : Nat) (l0_1 : List (List Int)) (a1 : Int) (r : List Int) (w : World) (hp0 : w.heap[g0_]? = some (.cells #[.slice A0_0 l0_0.length c0_0, .slice A0_1 l0_1.length c0_1] 67 (0, 0))) (hr0_0 : Kd.C k35 w A0_0 l0_0.length l0_0) (hc0_0 : l0_0.length ≤ c0_0) (hr0_1 : Kd.C (Kd.slice 2 (Kd.int .i64)) w A0_1 l0_1.length l0_1) (hc0_1 : l0_1.length ≤ c0_1) (h : impl_prog_live.f k l0_0 l0_1 a1 = some r) :
  Calls Try.prog 90 #[.pointer (some ⟨g0_, 0, none⟩), .int .i64 a1] w fun e w' => ∃ v0_ : Value, e = .returned (v0_) ∧ Kd.R (Kd.int .i64) 2 w' w.heap.size (fun _ => True) v0_ r ∧ Below w.heap.size w w' := by
 have HP0_ := am hp0
 clear hp0
 have HR0_0 := am hr0_0
 have HC0_0 := am hc0_0
 clear hr0_0 hc0_0
 have HR0_1 := am hr0_1
 have HC0_1 := am hc0_1
 clear hr0_1 hc0_1
 have HB := am (Below.refl w.heap.size w)
 have H : ((impl_prog_code.f l0_0 l0_1 a1).bind fun t450 => (if 0 ≤ (t450.length : Int) then (if ((t450.length : Int) : Int).toNat ≤ 35184372088832 then (impl_prog_live.l0 k a1 (List.replicate ((t450.length : Int) : Int).toNat 0) true l0_0 l0_1) else (none)) else (none))) = some r := h
 clear h
 refine be H ?_; clear H; intro t450 A3 H
 refine iN H ?_; clear H; intro c4 H
 have c4b0 := eq_true c4
 have c4b1 := decide_eq_true c4
 clear c4
 refine iN H ?_; clear H; intro c5 H
 have c5b0 := eq_true c5
 have c5b1 := decide_eq_true c5
 clear c5
 obtain ⟨y453, hy453⟩ : ∃ y_ : List Int, y_ = (List.replicate ((t450.length : Int) : Int).toNat 0) := ⟨_, rfl⟩
 replace H : (impl_prog_live.l0 k a1 y453 true l0_0 l0_1) = some r := by first | (rw [hy453]; with_reducible exact H) | (have H2_ := (Option.bind_some _ _).symm.trans H; rw [hy453]; with_reducible exact H2_) | (have H2_ := (Option.bind_some _ _).symm.trans H; with_reducible exact H2_) | with_reducible exact H | (rw [hy453]; exact H) | exact H
 have Ny453 := am hy453
 clear hy453
 have H' := am H
 clear H
 go_enter Try.func90, Try.ntmps90
 go_wp2_with (first | ((with_reducible refine gk 77 rfl ?_); refine gC 77 (some 15) Try.func77 #[.pointer (some ⟨g0_, 0, none⟩), .int .i64 a1] ((impl_prog_code.calls g0_ (fun k_ => k_ < w.heap.size) A0_0 c0_0 l0_0 A0_1 c0_1 l0_1 a1 t450 _ (bp HP0_) (Kd.V_mk HC0_0.out (Kd.F_below (Kd.C_F k35_heap HR0_0.out) (bw HB))) (by repeat (first | exact HR0_1.out | (with_reducible refine Kd.C_alloc ?_ _) | (with_reducible refine Kd.C_drewN ?_ _) | (with_reducible refine Kd.C_drew ?_))) HC0_1.out A3.out).mono ?_); rintro e w6 ⟨v451, rfl, ho0, hb⟩; refine ⟨_, rfl, ?_⟩; have HO452 := am (Kd.V_lower (Kd.V_mono (ok' := fun k_ => True) ho0 (fun k_ hk_ => trivial)) (below_size (bw HB))); replace HP0_ := bb HP0_ hb; replace HB := bs HB hb; clear hb; (try clear ho0); obtain ⟨Ao7, co7, eo7⟩ := Kd.V_slice HO452.out; subst eo7) | ((with_reducible refine gate_dst (N := 17) rfl ?_); refine Kd.R_make (Kd.int .i64) _ 2 rfl (N := 17) rfl 31 _ _ rfl (t450.length : Int) rfl rfl Try.underlying31 (.int .i64 0) 8 info2 rfl (by decide) (by omega) 0 (ok := fun _ => True) (okp := fun _ => True) rfl (fun _ hk => hk) trivial (of_decide_eq_true as1) (Nat.le_trans (Nat.mul_le_mul_right _ (of_decide_eq_true as1 : (t450.length : Int).toNat ≤ 35184372088832)) (by omega)) (Below.refl _ _) (Nat.le_refl _) ?_; intro v454 w8 ho9 hb hg_ hnew_; clear hg_ hnew_; (first | rw [← Ny453.out] at ho9 | (simp only [Int.reduceToNat] at ho9; rw [← Ny453.out] at ho9)); replace HO452 := am (Kd.V_elder' (kV HO452) (Kd.R_base ho9) hb); have HO455 := am (Kd.R_lower ho9 (below_size (bw HB))); replace HP0_ := bb HP0_ hb; replace HB := bs HB hb; clear hb ho9))
 go_loopg [6] k (fun kq v6 w' => ∃ (x5_1 : List Int) (x6_1 : Bool), v6 = .bool x6_1 ∧ Aside0 (impl_prog_live.l0 kq a1 x5_1 x6_1 l0_0 l0_1 = some r) ∧ Aside0 (kq ≤ k) ∧ Aside0 (Kd.R (Kd.int .i64) 2 w' w.heap.size (fun _ => True) v454 x5_1) ∧ Aside0 (w'.heap[g0_]? = some (.cells #[(.slice A0_0 l0_0.length c0_0), (.slice A0_1 l0_1.length c0_1)] 67 (0, 0))) ∧ Aside0 (Below w.heap.size w w'))
 case atStart => exact ⟨(y453), (true), dr, H', ⟨Nat.le_refl _⟩, ⟨kR HO455⟩, ⟨bp HP0_⟩, ⟨bw HB⟩⟩
 clear H'
 (try clear p2); (try clear c4); (try clear c4b0); (try clear c4b1); (try clear c5); (try clear c5b0); (try clear c5b1); (try clear c7); (try clear c9)
 obtain ⟨x5_1, x6_1, rfl, HA, HK1, HO_5, HP0_, HB⟩ := hrel
 rcases gk with _ | k1
 ·exact absurd HA.out (by simp [impl_prog_live.l0])
 have H := HA.out
 clear HA
 simp only [impl_prog_live.l0] at H
 refine qT H ?_ ?_ <;> clear H <;> intro c10 H <;> subst c10
 ·have H' := am H
  clear H
  obtain ⟨Ao11, co11, eo11⟩ := Kd.R_slice HO_5.out
  subst eo11
  go_wp2
  go_loopg [6, 7] k1 (fun kq v6 v7 w' => ∃ (x5_2 : List Int) (x6_2 : Bool) (x7_2 : Int), v6 = .bool x6_2 ∧ v7 = .int .i64 x7_2 ∧ Aside0 (impl_prog_live.l1 kq a1 x5_2 x6_2 x7_2 l0_0 l0_1 = some r) ∧ Aside0 (kq ≤ k1) ∧ Aside0 (Kd.R (Kd.int .i64) 2 w' w.heap.size (fun _ => True) (.slice Ao11 x5_1.length co11) x5_2) ∧ Aside0 (w'.heap[g0_]? = some (.cells #[(.slice A0_0 l0_0.length c0_0), (.slice A0_1 l0_1.length c0_1)] 67 (0, 0))) ∧ Aside0 (Below w.heap.size w w'))
  case atStart => exact ⟨(x5_1), (false), (wrap64 ((x5_1.length : Int) - 1)), dr, dr, H', ⟨Nat.le_refl _⟩, ⟨kR HO_5⟩, ⟨bp HP0_⟩, ⟨bw HB⟩⟩
  clear H'
  (try clear c1); (try clear p6); (try clear c10)
  obtain ⟨x5_2, x6_2, x7_2, rfl, rfl, HA, HK2, HO_5, HP0_, HB⟩ := hrel
  have hl5_2 := (Kd.R_reads' HO_5.out).1
  rw [hl5_2] at HO_5
  (try simp only [hl5_2])
  (try simp only [hl5_2] at HP0_)
  rcases gk with _ | k2
  ·exact absurd HA.out (by simp [impl_prog_live.l1])
  have H := HA.out
  clear HA
  simp only [impl_prog_live.l1] at H
  by_cases c12 : x7_2 ≥ 0
  ·rw [if_pos c12] at H
   have c12b0 : decide (0 ≤ x7_2) = true := decide_eq_true c12
   clear c12
   refine be H ?_; clear H; intro t456 A13 H
   have HC14 := am H
   clear H
   go_upto_if 30 with (first | ((with_reducible refine gk 92 rfl ?_); refine gB 92 (some 29) Try.func92 #[.pointer (some ⟨g0_, 0, none⟩), .int .i64 a1, .int .i64 x7_2] (impl_prog_reached.calls g0_ A0_0 c0_0 l0_0 A0_1 c0_1 l0_1 a1 x7_2 t456 _ (bp HP0_) (cc (Kd.C_below HR0_0.out HB.out)) HC0_0.out (cc (Kd.C_below HR0_1.out HB.out)) HC0_1.out A13.out) ?_; intro w15 hb; replace HO_5 := am (Kd.R_below (kR HO_5) hb); replace HP0_ := bb HP0_ hb; replace HB := bs HB hb; clear hb))
   (try simp only [Act.put, sa, sz, ss])
   have H := HC14.out
   clear HC14
   refine qT H ?_ ?_ <;> clear H <;> intro c16 H <;> subst c16
   ·replace H := Option.bind_eq_some_iff.mp H
    obtain ⟨⟨t457, t458⟩, A170, H⟩ := H
    replace H : ((impl_next.f t457 t458 x7_2).bind fun t459 => (impl_prog_live.l2 k2 a1 x5_2 x6_2 x7_2 0 t459 (t459.length : Int) 0 l0_0 l0_1)) = some r := H
    have A17 := am A170
    clear A170
    refine be H ?_; clear H; intro t459 A18 H
    have H' := am H
    clear H
    go_wp2_with (first | ((with_reducible refine gk 108 rfl ?_); refine gB 108 (some 34) Try.func108 #[.pointer (some ⟨g0_, 0, none⟩), .int .i64 a1, .int .i64 x7_2] (impl_prog_at.calls g0_ A0_0 c0_0 l0_0 A0_1 c0_1 l0_1 a1 x7_2 t457 t458 _ (bp HP0_) (cc (Kd.C_below HR0_0.out HB.out)) HC0_0.out (cc (Kd.C_below HR0_1.out HB.out)) HC0_1.out A17.out) ?_; intro w19 hb; replace HO_5 := am (Kd.R_below (kR HO_5) hb); replace HP0_ := bb HP0_ hb; replace HB := bs HB hb; clear hb) | ((with_reducible refine gate_callee (f := 103) rfl ?_); refine goesL_ (some 36) rfl rfl Try.func103 (by kernel_rfl) rfl #[.agg #[.int .i64 t457, .int .i64 t458], .int .i64 x7_2] rfl gl ?_; (with_reducible refine (impl_next.calls t457 t458 x7_2 t459 _ A18.out).mono ?_); rintro e w20 ⟨v460, rfl, ho0, hb⟩; refine ⟨_, rfl, ?_⟩; have HO461 := am (Kd.R_lower (Kd.R_new' ho0 (Kd.R_lt (kR HO_5))) (below_size (bw HB))); replace HO_5 := am (Kd.R_elder' (kR HO_5) (Kd.R_base ho0) hb); replace HP0_ := bb HP0_ hb; replace HB := bs HB hb; clear hb; (try clear ho0); obtain ⟨Ao21, co21, eo21⟩ := Kd.R_slice HO461.out; subst eo21))
    go_loopg [8, 38] k2 (fun kq v8 v38 w' => ∃ (x8_3 : Int) (x38_3 : Int), v8 = .int .i64 x8_3 ∧ v38 = .int .i64 x38_3 ∧ Aside0 (impl_prog_live.l2 kq a1 x5_2 x6_2 x7_2 x8_3 t459 (t459.length : Int) x38_3 l0_0 l0_1 = some r) ∧ Aside0 (kq ≤ k2) ∧ Aside0 (Kd.R (Kd.int .i64) 2 w' w.heap.size (fun k_ => some k_ ≠ ((.slice Ao21 t459.length co21) : Value).ownBlock) (.slice Ao11 x5_2.length co11) x5_2) ∧ Aside0 (Kd.R (Kd.int .i64) 2 w' w.heap.size (fun k_ => some k_ ≠ ((.slice Ao11 x5_2.length co11) : Value).ownBlock) (.slice Ao21 t459.length co21) t459) ∧ Aside0 (w'.heap[g0_]? = some (.cells #[(.slice A0_0 l0_0.length c0_0), (.slice A0_1 l0_1.length c0_1)] 67 (0, 0))) ∧ Aside0 (Below w.heap.size w w'))
    case atStart => exact ⟨(0), (0), dr, dr, H', ⟨Nat.le_refl _⟩, ⟨by (try simp only [hl5_2]); (with_reducible repeat (first | apply Kd.R_alloc | apply Kd.R_drewN | apply Kd.R_drew)); exact Kd.R_mono HO_5.out (fun _ hk => hk.2)⟩, ⟨by (try simp only [hl5_2]); (with_reducible repeat (first | apply Kd.R_alloc | apply Kd.R_drewN | apply Kd.R_drew)); exact Kd.R_mono HO461.out (fun _ hk => hk.2)⟩, ⟨by (try simp only [hl5_2]); exact bp HP0_⟩, ⟨bw HB⟩⟩
    clear H'
    (try clear c12); (try clear c12b0); (try clear c16)
    obtain ⟨x8_3, x38_3, rfl, rfl, HA, HK3, HO_5, HO_36, HP0_, HB⟩ := hrel
    rcases gk with _ | k3
    ·exact absurd HA.out (by simp [impl_prog_live.l2])
    have H := HA.out
    clear HA
    simp only [impl_prog_live.l2] at H
    refine qI H ?_ ?_ <;> clear H <;> intro c22b0 H
    ·(first | rw [c22b0] | (simp only [i64_w, i32_w]; rw [c22b0]) | skip)
     refine iM H ?_; clear H; intro c23b0 H
     refine iM H ?_; clear H; intro c24b0 H
     refine iM H ?_; clear H; intro c25b0 H
     refine iM H ?_; clear H; intro c26b0 H
     (try (have c26b0hl5_2 := c26b0; rw [hl5_2] at c26b0hl5_2))
     have H' := am H
     clear H
     have p462 : 0 ≤ (x38_3 : Int) := of_decide_eq_true as1
     have q462 : x38_3 < (t459.length : Int) := of_decide_eq_true as1
     obtain ⟨ad462, e462, hx462_0⟩ := Kd.at_int (Kd.R_reads' HO_36.out).2.2 x38_3 p462 q462
     cases e462
     replace p462 := eq_true p462
     replace q462 := eq_true q462
     have p463 : 0 ≤ ((rd t459 x38_3) : Int) := of_decide_eq_true as1
     have q463 : (rd t459 x38_3) < (x5_2.length : Int) := of_decide_eq_true as1
     obtain ⟨ad463, e463, hx463_0⟩ := Kd.at_int (Kd.R_reads' HO_5.out).2.2 (rd t459 x38_3) p463 q463
     cases e463
     replace p463 := eq_true p463
     replace q463 := eq_true q463
     go_wp2
     go_roundg k3
     case measure => have := HK1.out; have := HK2.out; have := HK3.out; omega
     case rel => exact ⟨(Go.bits .or .i64 x8_3 (rd x5_2 (rd t459 x38_3))), (wrap64 (x38_3 + 1)), dr, dr, H', ⟨by have := HK1.out; have := HK2.out; have := HK3.out; omega⟩, ⟨by (try simp only [hl5_2]); exact kR HO_5⟩, ⟨by (try simp only [hl5_2]); exact kR HO_36⟩, ⟨by (try simp only [hl5_2]); exact bp HP0_⟩, ⟨bw HB⟩⟩
    (first | rw [c22b0] | (simp only [i64_w, i32_w]; rw [c22b0]) | skip)
    refine be H ?_; clear H; intro t464 A27 H
    refine iN H ?_; clear H; intro c28 H
    have c28b0 := eq_true c28
    have c28b1 := decide_eq_true c28
    clear c28
    obtain ⟨ji29, hji29⟩ : ∃ j_ : Int, (shl .i64 1 t464) = j_ := ⟨_, rfl⟩
    replace H : ((impl_prog_reads.f k3 l0_0 l0_1 a1 x7_2).bind fun t465 => ((impl_prog_writes.f k3 l0_0 l0_1 a1 x7_2).bind fun t466 => (if x6_2 = true then (if 0 ≤ x7_2 then (if x7_2 < (x5_2.length : Int) then (impl_prog_live.l1 k3 a1 (x5_2.set (x7_2 : Int).toNat (Go.bits .and .i64 (Go.bits .or .i64 t465 (Go.bits .andNot .i64 x8_3 t466)) (wrap64 ((ji29) - 1)))) true (wrap64 (x7_2 - 1)) l0_0 l0_1) else (none)) else (none)) else (if 0 ≤ x7_2 then (if x7_2 < (x5_2.length : Int) then (impl_prog_live.l1 k3 a1 (x5_2.set (x7_2 : Int).toNat (Go.bits .and .i64 (Go.bits .or .i64 t465 (Go.bits .andNot .i64 x8_3 t466)) (wrap64 ((ji29) - 1)))) ((Go.bits .and .i64 (Go.bits .or .i64 t465 (Go.bits .andNot .i64 x8_3 t466)) (wrap64 ((ji29) - 1))) != (rd x5_2 x7_2)) (wrap64 (x7_2 - 1)) l0_0 l0_1) else (none)) else (none))))) = some r := by first | (rw [hji29] at H; exact H) | (simp only [hji29] at H ⊢; exact H)
    (try rw [hji29] at A27)
    have hji29_ : (IntKind.i64.wrap (1 * 2 ^ min t464.toNat 64)) = ji29 := hji29
    have hji29z : t464 ≤ 64 → (IntKind.i64.wrap (1 * 2 ^ t464.toNat)) = ji29 := shl_small hji29
    have hji29u : (IntKind.i64.wrap (2 ^ min t464.toNat 64)) = ji29 := by have h_ := hji29_; rw [Int.one_mul] at h_; exact h_
    have hji29v : t464 ≤ 64 → (IntKind.i64.wrap (2 ^ t464.toNat)) = ji29 := fun hle_ => by have h_ := hji29z hle_; rw [Int.one_mul] at h_; exact h_
    have hji29y : (wrap64 (1 * 2 ^ min t464.toNat 64)) = ji29 := (i64_w _).symm.trans hji29_
    have hji29x : t464 ≤ 64 → (wrap64 (1 * 2 ^ t464.toNat)) = ji29 := fun h_ => (i64_w _).symm.trans (hji29z h_)
    refine be H ?_; clear H; intro t465 A30 H
    refine be H ?_; clear H; intro t466 A31 H
    have HC32 := am H
    clear H
    go_upto_region 16 with (first | ((with_reducible refine gk 109 rfl ?_); refine gB 109 (some 52) Try.func109 #[.pointer (some ⟨g0_, 0, none⟩), .int .i64 a1, .int .i64 x7_2] (impl_prog_slots.calls g0_ A0_0 c0_0 l0_0 A0_1 c0_1 l0_1 a1 x7_2 t464 _ (bp HP0_) (cc (Kd.C_below HR0_0.out HB.out)) HC0_0.out (cc (Kd.C_below HR0_1.out HB.out)) HC0_1.out A27.out) ?_; intro w33 hb; replace HO_5 := am (Kd.R_below (kR HO_5) hb); replace HO_36 := am (Kd.R_below (kR HO_36) hb); replace HP0_ := bb HP0_ hb; replace HB := bs HB hb; clear hb))
    (try simp only [Act.put, sa, sz, ss])
    have H := HC32.out
    clear HC32
    refine qT H ?_ ?_ <;> clear H <;> intro c34 H <;> subst c34
    ·refine iM H ?_; clear H; intro c35b0 H
     refine iM H ?_; clear H; intro c36b0 H
     (try (have c36b0hl5_2 := c36b0; rw [hl5_2] at c36b0hl5_2))
     obtain ⟨y467, hy467⟩ : ∃ y_ : List Int, y_ = (x5_2.set (x7_2 : Int).toNat (Go.bits .and .i64 (Go.bits .or .i64 t465 (Go.bits .andNot .i64 x8_3 t466)) (wrap64 ((ji29) - 1)))) := ⟨_, rfl⟩
     replace H : (impl_prog_live.l1 k3 a1 y467 true (wrap64 (x7_2 - 1)) l0_0 l0_1) = some r := by first | (rw [hy467]; with_reducible exact H) | (have H2_ := (Option.bind_some _ _).symm.trans H; rw [hy467]; with_reducible exact H2_) | (have H2_ := (Option.bind_some _ _).symm.trans H; with_reducible exact H2_) | with_reducible exact H | (rw [hy467]; exact H) | exact H
     have Ny467 := am hy467
     clear hy467
     have H' := am H
     clear H
     go_wp2_with (first | ((with_reducible refine gk 110 rfl ?_); refine gB 110 (some 58) Try.func110 #[.pointer (some ⟨g0_, 0, none⟩), .int .i64 a1, .int .i64 x7_2] (impl_prog_reads.calls k3 g0_ A0_0 c0_0 l0_0 A0_1 c0_1 l0_1 a1 x7_2 t465 _ (bp HP0_) (cc (Kd.C_below HR0_0.out HB.out)) HC0_0.out (cc (Kd.C_below HR0_1.out HB.out)) HC0_1.out A30.out) ?_; intro w38 hb; replace HO_5 := am (Kd.R_below (kR HO_5) hb); replace HO_36 := am (Kd.R_below (kR HO_36) hb); replace HP0_ := bb HP0_ hb; replace HB := bs HB hb; clear hb) | ((with_reducible refine gk 93 rfl ?_); refine gB 93 (some 63) Try.func93 #[.pointer (some ⟨g0_, 0, none⟩), .int .i64 a1, .int .i64 x7_2] (impl_prog_writes.calls k3 g0_ A0_0 c0_0 l0_0 A0_1 c0_1 l0_1 a1 x7_2 t466 _ (bp HP0_) (cc (Kd.C_below HR0_0.out HB.out)) HC0_0.out (cc (Kd.C_below HR0_1.out HB.out)) HC0_1.out A31.out) ?_; intro w39 hb; replace HO_5 := am (Kd.R_below (kR HO_5) hb); replace HO_36 := am (Kd.R_below (kR HO_36) hb); replace HP0_ := bb HP0_ hb; replace HB := bs HB hb; clear hb; have p37 : 0 ≤ (x7_2 : Int) := of_decide_eq_true as1; have q37 : (x7_2 : Int) < ((x5_2.length : Int) : Int) := of_decide_eq_true as1; obtain ⟨go37, co37, eo37, gb37, gl37, cl37, HG37⟩ := Kd.R_form HO_5.out (by omega); (first | cases eo37 | (injection eo37 with ea_ en_ ec_; (first | subst ea_ | (injection ea_ with ea_; subst ea_)); subst ec_; clear en_)); have GB37 := am gb37; have GG37 := am HG37; clear gb37 gl37 HG37; obtain ⟨hx37_0, hf37_0⟩ := Kd.R_celln 0 HO_5.out (x7_2 : Int) p37 q37; replace p37 := eq_true p37; replace q37 := eq_true q37; obtain ⟨hy40_, hz40_⟩ := Kd.R_celln 0 HO_5.out (x7_2 : Int) (of_decide_eq_true as1) (of_decide_eq_true as1); have HP40 := Kd.R_putg HO_5.out (x7_2 : Int) (Go.bits .and .i64 (Go.bits .or .i64 t465 (Go.bits .andNot .i64 x8_3 t466)) (wrap64 ((ji29) - 1)))) | ((with_reducible refine gt 2 80 rfl ?_); refine sE 2 80 (w39.setCell ⟨go37, (x7_2 : Int).toNat, none⟩ (.int .i64 (Go.bits .and .i64 (Go.bits .or .i64 t465 (Go.bits .andNot .i64 x8_3 t466)) (wrap64 ((ji29) - 1))))) ?_; intro w41 hw; have hg : w39.grownBy w41 (some go37) := (by rw [hw]; exact HP40.2); have hp_ : Kd.R (Kd.int .i64) 2 w41 w.heap.size (fun k_ => some k_ ≠ (.slice Ao21 t459.length co21 : Value).ownBlock) (.slice (some ⟨go37, 0, none⟩) x5_2.length co11) y467 := (by rw [hw, Ny467.out]; exact HP40.1); clear HP40; replace HO_36 := am (Kd.R_after (v := (.slice (some ⟨go37, 0, none⟩) x5_2.length co11)) (v1 := (.slice (some ⟨go37, 0, none⟩) x5_2.length co11)) (ok := (fun _ => True)) (by (with_reducible repeat (first | apply Kd.R_alloc | apply Kd.R_drewN | apply Kd.R_drew)); exact Kd.R_mono HO_36.out (fun _ hk => ⟨trivial, hk⟩)) hg (.inl rfl)); replace HP0_ := bg HP0_ hg (Kd.R_ne HO_5.out HP0_.out (by decide)); replace HO_5 := am (hp_); replace HB := am ((by rw [hw]; exact below_set (HB.out) GB37.out : Below w.heap.size w w41)); clear hg hw hp_))
     (try simp only [← hl5_2])
     go_roundg k3
     case measure => have := HK1.out; have := HK2.out; have := HK3.out; omega
     case rel => exact ⟨(y467), (true), (wrap64 (x7_2 - 1)), dr, dr, H', ⟨by have := HK1.out; have := HK2.out; have := HK3.out; omega⟩, ⟨by (try simp only [hl5_2]); (with_reducible repeat (first | apply Kd.R_alloc | apply Kd.R_drewN | apply Kd.R_drew)); exact Kd.R_mono HO_5.out (fun _ hk => trivial)⟩, ⟨by (try simp only [hl5_2]); exact bp HP0_⟩, ⟨bw HB⟩⟩
    refine iM H ?_; clear H; intro c42b0 H
    refine iM H ?_; clear H; intro c43b0 H
    (try (have c43b0hl5_2 := c43b0; rw [hl5_2] at c43b0hl5_2))
    obtain ⟨y469, hy469⟩ : ∃ y_ : List Int, y_ = (x5_2.set (x7_2 : Int).toNat (Go.bits .and .i64 (Go.bits .or .i64 t465 (Go.bits .andNot .i64 x8_3 t466)) (wrap64 ((ji29) - 1)))) := ⟨_, rfl⟩
    replace H : (impl_prog_live.l1 k3 a1 y469 ((Go.bits .and .i64 (Go.bits .or .i64 t465 (Go.bits .andNot .i64 x8_3 t466)) (wrap64 ((ji29) - 1))) != (rd x5_2 x7_2)) (wrap64 (x7_2 - 1)) l0_0 l0_1) = some r := by first | (rw [hy469]; with_reducible exact H) | (have H2_ := (Option.bind_some _ _).symm.trans H; rw [hy469]; with_reducible exact H2_) | (have H2_ := (Option.bind_some _ _).symm.trans H; with_reducible exact H2_) | with_reducible exact H | (rw [hy469]; exact H) | exact H
    have Ny469 := am hy469
    clear hy469
    have H' := am H
    clear H
    go_wp2_with (first | ((with_reducible refine gk 110 rfl ?_); refine gB 110 (some 58) Try.func110 #[.pointer (some ⟨g0_, 0, none⟩), .int .i64 a1, .int .i64 x7_2] (impl_prog_reads.calls k3 g0_ A0_0 c0_0 l0_0 A0_1 c0_1 l0_1 a1 x7_2 t465 _ (bp HP0_) (cc (Kd.C_below HR0_0.out HB.out)) HC0_0.out (cc (Kd.C_below HR0_1.out HB.out)) HC0_1.out A30.out) ?_; intro w45 hb; replace HO_5 := am (Kd.R_below (kR HO_5) hb); replace HO_36 := am (Kd.R_below (kR HO_36) hb); replace HP0_ := bb HP0_ hb; replace HB := bs HB hb; clear hb) | ((with_reducible refine gk 93 rfl ?_); refine gB 93 (some 63) Try.func93 #[.pointer (some ⟨g0_, 0, none⟩), .int .i64 a1, .int .i64 x7_2] (impl_prog_writes.calls k3 g0_ A0_0 c0_0 l0_0 A0_1 c0_1 l0_1 a1 x7_2 t466 _ (bp HP0_) (cc (Kd.C_below HR0_0.out HB.out)) HC0_0.out (cc (Kd.C_below HR0_1.out HB.out)) HC0_1.out A31.out) ?_; intro w46 hb; replace HO_5 := am (Kd.R_below (kR HO_5) hb); replace HO_36 := am (Kd.R_below (kR HO_36) hb); replace HP0_ := bb HP0_ hb; replace HB := bs HB hb; clear hb; have p468 : 0 ≤ (x7_2 : Int) := of_decide_eq_true as1; have q468 : x7_2 < (x5_2.length : Int) := of_decide_eq_true as1; obtain ⟨ad468, e468, hx468_0⟩ := Kd.at_int (Kd.R_reads' HO_5.out).2.2 x7_2 p468 q468; cases e468; replace p468 := eq_true p468; replace q468 := eq_true q468; have p44 : 0 ≤ (x7_2 : Int) := of_decide_eq_true as1; have q44 : (x7_2 : Int) < ((x5_2.length : Int) : Int) := of_decide_eq_true as1; obtain ⟨go44, co44, eo44, gb44, gl44, cl44, HG44⟩ := Kd.R_form HO_5.out (by omega); (first | cases eo44 | (injection eo44 with ea_ en_ ec_; (first | subst ea_ | (injection ea_ with ea_; subst ea_)); subst ec_; clear en_)); have GB44 := am gb44; have GG44 := am HG44; clear gb44 gl44 HG44; (first | simp only [add_plain] at hx468_0 | skip); obtain ⟨hx44_0, hf44_0⟩ := Kd.R_celln 0 HO_5.out (x7_2 : Int) p44 q44; replace p44 := eq_true p44; replace q44 := eq_true q44; obtain ⟨hy47_, hz47_⟩ := Kd.R_celln 0 HO_5.out (x7_2 : Int) (of_decide_eq_true as1) (of_decide_eq_true as1); have HP47 := Kd.R_putg HO_5.out (x7_2 : Int) (Go.bits .and .i64 (Go.bits .or .i64 t465 (Go.bits .andNot .i64 x8_3 t466)) (wrap64 ((ji29) - 1)))) | ((with_reducible refine gt 2 80 rfl ?_); refine sE 2 80 (w46.setCell ⟨go44, (x7_2 : Int).toNat, none⟩ (.int .i64 (Go.bits .and .i64 (Go.bits .or .i64 t465 (Go.bits .andNot .i64 x8_3 t466)) (wrap64 ((ji29) - 1))))) ?_; intro w48 hw; have hg : w46.grownBy w48 (some go44) := (by rw [hw]; exact HP47.2); have hp_ : Kd.R (Kd.int .i64) 2 w48 w.heap.size (fun k_ => some k_ ≠ (.slice Ao21 t459.length co21 : Value).ownBlock) (.slice (some ⟨go44, 0, none⟩) x5_2.length co11) y469 := (by rw [hw, Ny469.out]; exact HP47.1); clear HP47; replace HO_36 := am (Kd.R_after (v := (.slice (some ⟨go44, 0, none⟩) x5_2.length co11)) (v1 := (.slice (some ⟨go44, 0, none⟩) x5_2.length co11)) (ok := (fun _ => True)) (by (with_reducible repeat (first | apply Kd.R_alloc | apply Kd.R_drewN | apply Kd.R_drew)); exact Kd.R_mono HO_36.out (fun _ hk => ⟨trivial, hk⟩)) hg (.inl rfl)); replace HP0_ := bg HP0_ hg (Kd.R_ne HO_5.out HP0_.out (by decide)); replace HO_5 := am (hp_); replace HB := am ((by rw [hw]; exact below_set (HB.out) GB44.out : Below w.heap.size w w48)); clear hg hw hp_))
    (try simp only [← hl5_2])
    go_roundg k3
    case measure => have := HK1.out; have := HK2.out; have := HK3.out; omega
    case rel => exact ⟨(y469), (((Go.bits .and .i64 (Go.bits .or .i64 t465 (Go.bits .andNot .i64 x8_3 t466)) (wrap64 ((ji29) - 1))) != (rd x5_2 x7_2))), (wrap64 (x7_2 - 1)), (by first | rfl | (simp; done) | (simp only [← hji29] <;> (first | rfl | simp)) | (simp [*]; done)), dr, H', ⟨by have := HK1.out; have := HK2.out; have := HK3.out; omega⟩, ⟨by (try simp only [hl5_2]); (with_reducible repeat (first | apply Kd.R_alloc | apply Kd.R_drewN | apply Kd.R_drew)); exact Kd.R_mono HO_5.out (fun _ hk => trivial)⟩, ⟨by (try simp only [hl5_2]); exact bp HP0_⟩, ⟨bw HB⟩⟩
   have H' := am H
   clear H
   go_wp2
   (try simp only [← hl5_2])
   go_roundg k2
   case measure => have := HK1.out; have := HK2.out; omega
   case rel => exact ⟨(x5_2), (x6_2), (wrap64 (x7_2 - 1)), dr, dr, H', ⟨by have := HK1.out; have := HK2.out; omega⟩, ⟨by (try simp only [hl5_2]); exact kR HO_5⟩, ⟨by (try simp only [hl5_2]); exact bp HP0_⟩, ⟨bw HB⟩⟩
  rw [if_neg c12] at H
  have c12b0 : decide (0 ≤ x7_2) = false := decide_eq_false c12
  clear c12
  have H' := am H
  clear H
  go_wp2
  (try simp only [← hl5_2])
  go_roundg k2
  case measure => have := HK1.out; have := HK2.out; omega
  case rel => exact ⟨(x5_2), (x6_2), dr, H', ⟨by have := HK1.out; have := HK2.out; omega⟩, ⟨by (try simp only [hl5_2]); exact kR HO_5⟩, ⟨by (try simp only [hl5_2]); exact bp HP0_⟩, ⟨bw HB⟩⟩
 obtain rfl := Option.some.inj H
 go_wp2
 go_ret
 exact ⟨_, er, kR HO_5, bw HB⟩

-- NOT PRINTED: function 91 (impl_prog_ranges_1)

-- NOT PRINTED: function 65 (impl_prog_ranges)

-- NOT PRINTED: function 26 (impl_Ranges)

end Go.Proofs.Ytopaefhfjioecaa.QFnRanges
