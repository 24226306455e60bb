import Derived.Test.YtbmjmaahcaoajaaCFnExactLivex0
import Derived.Test.YtbmjmaahcaoajaaCFnExactLivex11
import Derived.Test.YtbmjmaahcaoajaaCFnExactLivex13
import Derived.Test.YtbmjmaahcaoajaaCFnExactLivex14
namespace Go.Proofs.Ytbmjmaahcaoajaa.QFnExactLive
open Go.RowKit Go.Proofs.YtbmjmaahcaoajaaW
open PrintWords PrintLast PrintMore PrintShort PrintIsh
attribute [local go_sem] max2_int min2_int max_two min_two max_three min_three max_four min_four   -- for this text's walks alone
set_option linter.unusedVariables false
set_option maxHeartbeats 8000000
set_option maxRecDepth 100000
set_option linter.unusedSimpArgs false

def impl_prog_writes.f (k : Nat) (l0_0 : List (S100)) (l0_1 : List (List Int)) (a1 : Int) (a2 : Int) : Option (Int) := (impl_prog_at.f l0_0 l0_1 a1 a2).bind fun bt429 => (if bt429.1 = 3 then (if 0 ≤ bt429.2 then (some (shl .i64 1 bt429.2)) else (none)) else ((impl_Takes.f k l0_0 bt429.1 bt429.2).bind fun t432 => ((impl_Puts.f k bt429.1 bt429.2).bind fun t433 => (if 0 ≤ a1 then (if a1 < (l0_1.length : Int) then (if 0 ≤ a2 then (if a2 < ((rd_L9 l0_1 a1).length : Int) then ((impl_prog_top.f l0_0 l0_1 a1 (rd (rd_L9 l0_1 a1) a2) t432).bind fun t436 => ((impl_prog_top.f l0_0 l0_1 a1 (wrap64 ((wrap64 ((rd (rd_L9 l0_1 a1) a2) - t432)) + t433)) t433).bind fun t437 => (some (Go.bits .or .i64 t436 t437)))) else (none)) else (none)) else (none)) else (none)))))
theorem impl_prog_writes.mono : ∀ a0 a1 a2 a3 k, LeO (impl_prog_writes.f k a0 a1 a2 a3) (impl_prog_writes.f (k + 1) a0 a1 a2 a3) := by
 intro a0 a1 a2 a3 k
 unfold impl_prog_writes.f
 with_reducible repeat' first | exact impl_Puts.mono .. | exact impl_Takes.mono .. | exact LeO.refl _ | exact LeO.none _ | refine LeO.ite ?_ ?_ | refine LeO.bind ?_ (fun _ => ?_)
def impl_prog_writes.T4 : Bool × List (List Nat × List Nat) := (true, [([], []), ([0], [0]), ([1], [1]), ([2], [2]), ([], []), ([3, 4], [3, 4]), ([], []), ([6, 5], [6]), ([5, 7, 0, 1, 2, 3, 4, 5], [5]), ([7, 8, 0, 1, 2, 3, 4, 5, 6, 7, 8], [7])])
def impl_prog_writes.B4 : List Nat := [0, 1, 3, 7, 0, 31, 0, 127, 255, 511]
theorem impl_prog_writes.tab4 : rtab .any (opsOf Try.f149 4) = impl_prog_writes.T4 := by kernel_rfl
theorem impl_prog_writes.bits4 : waitsOk impl_prog_writes.T4.2 impl_prog_writes.B4 = true := by kernel_rfl
theorem impl_prog_writes.calls (k : Nat) (g0_ : Nat) (A0_0 : Option Addr) (c0_0 : Nat) (l0_0 : List (S100)) (A0_1 : Option Addr) (c0_1 : Nat) (l0_1 : List (List Int)) (a1 : Int) (a2 : Int) (r : Int) (w : World) (hp0 : w.heap[g0_]? = some (.cells #[.slice A0_0 l0_0.length c0_0, .slice A0_1 l0_1.length c0_1] 92 (0, 0))) (hr0_0 : Kd.C k100 w A0_0 l0_0.length l0_0) (hc0_0 : l0_0.length ≤ c0_0) (hr0_1 : Kd.C (Kd.slice 2 (Kd.int .i64)) w A0_1 l0_1.length l0_1) (hc0_1 : l0_1.length ≤ c0_1) (h : impl_prog_writes.f k l0_0 l0_1 a1 a2 = some r) :
  Calls Try.prog 149 #[.pointer (some ⟨g0_, 0, none⟩), .int .i64 a1, .int .i64 a2] w fun e w' => e = .returned (.int .i64 r) ∧ Below w.heap.size w w' := by
 have hu102 := Try.underlying102
 have hu30 := Try.underlying30
 have HP0_ := am hp0
 clear hp0
 have HR0_0 := am hr0_0
 have HC0_0 := am hc0_0
 clear hr0_0 hc0_0
 have HR0_1 := am hr0_1
 have HC0_1 := am hc0_1
 clear hr0_1 hc0_1
 have HB := am (Below.refl w.heap.size w)
 have H : ((impl_prog_at.f l0_0 l0_1 a1 a2).bind fun bt429 => (if bt429.1 = 3 then (if 0 ≤ bt429.2 then (some (shl .i64 1 bt429.2)) else (none)) else ((impl_Takes.f k l0_0 bt429.1 bt429.2).bind fun t432 => ((impl_Puts.f k bt429.1 bt429.2).bind fun t433 => (if 0 ≤ a1 then (if a1 < (l0_1.length : Int) then (if 0 ≤ a2 then (if a2 < ((rd_L9 l0_1 a1).length : Int) then ((impl_prog_top.f l0_0 l0_1 a1 (rd (rd_L9 l0_1 a1) a2) t432).bind fun t436 => ((impl_prog_top.f l0_0 l0_1 a1 (wrap64 ((wrap64 ((rd (rd_L9 l0_1 a1) a2) - t432)) + t433)) t433).bind fun t437 => (some (Go.bits .or .i64 t436 t437)))) else (none)) else (none)) else (none)) else (none)))))) = some r := h
 clear h
 replace H := Option.bind_eq_some_iff.mp H
 obtain ⟨⟨t429, t430⟩, A40, H⟩ := H
 replace H : (if t429 = 3 then (if 0 ≤ t430 then (some (shl .i64 1 t430)) else (none)) else ((impl_Takes.f k l0_0 t429 t430).bind fun t432 => ((impl_Puts.f k t429 t430).bind fun t433 => (if 0 ≤ a1 then (if a1 < (l0_1.length : Int) then (if 0 ≤ a2 then (if a2 < ((rd_L9 l0_1 a1).length : Int) then ((impl_prog_top.f l0_0 l0_1 a1 (rd (rd_L9 l0_1 a1) a2) t432).bind fun t436 => ((impl_prog_top.f l0_0 l0_1 a1 (wrap64 ((wrap64 ((rd (rd_L9 l0_1 a1) a2) - t432)) + t433)) t433).bind fun t437 => (some (Go.bits .or .i64 t436 t437)))) else (none)) else (none)) else (none)) else (none))))) = some r := H
 have A4 := am A40
 clear A40
 have HC5 := am H
 clear H
 go_enter Try.func149, Try.ntmps149
 go_upto_if 17 with (first | ((with_reducible refine gk 141 rfl ?_); refine gB 141 (some 14) Try.func141 #[.pointer (some ⟨g0_, 0, none⟩), .int .i64 a1, .int .i64 a2] (impl_prog_at.calls g0_ A0_0 c0_0 l0_0 A0_1 c0_1 l0_1 a1 a2 t429 t430 _ (bp HP0_) (by repeat (first | exact HR0_0.out | (with_reducible refine Kd.C_alloc ?_ _) | (with_reducible refine Kd.C_drewN ?_ _) | (with_reducible refine Kd.C_drew ?_))) HC0_0.out (by repeat (first | exact HR0_1.out | (with_reducible refine Kd.C_alloc ?_ _) | (with_reducible refine Kd.C_drewN ?_ _) | (with_reducible refine Kd.C_drew ?_))) HC0_1.out A4.out) ?_; intro w6 hb; replace HP0_ := bb HP0_ hb; replace HB := bs HB hb; clear hb) | ((with_reducible refine gd 7 rfl ?_); refine bX 7 #[.int .i64 0, .int .i64 0] 102 HB ?_; clear HB; intro gb431 w7 hg hb BK431 GW431 HB; obtain ⟨NB0_431, NB431_0, HP0_⟩ := b3 hg HP0_ hb; clear hb hg; have hnb8 := NB431_0.out; have hnc8 := NB0_431.out; have hcz9 := bK w7 BK431; have hfz9 := bF BK431))
 (try simp only [Act.put, sa, sz, ss])
 have H := HC5.out
 clear HC5
 refine qE H ?_ ?_ <;> clear H
 ·intro c10b0 c10b1 H
  (first | rw [c10b0] | (simp only [i64_w, i32_w]; rw [c10b0]) | skip)
  refine iN H ?_; clear H; intro c11 H
  have c11b0 := eq_true c11
  have c11b1 := decide_eq_true c11
  clear c11
  obtain ⟨ji12, hji12⟩ : ∃ j_ : Int, (shl .i64 1 t430) = j_ := ⟨_, rfl⟩
  replace H : (some ji12) = some r := by first | (rw [hji12] at H; exact H) | (simp only [hji12] at H ⊢; exact H)
  have hji12_ : (IntKind.i64.wrap (1 * 2 ^ min t430.toNat 64)) = ji12 := hji12
  have hji12z : t430 ≤ 64 → (IntKind.i64.wrap (1 * 2 ^ t430.toNat)) = ji12 := shl_small hji12
  have hji12u : (IntKind.i64.wrap (2 ^ min t430.toNat 64)) = ji12 := by have h_ := hji12_; rw [Int.one_mul] at h_; exact h_
  have hji12v : t430 ≤ 64 → (IntKind.i64.wrap (2 ^ t430.toNat)) = ji12 := fun hle_ => by have h_ := hji12z hle_; rw [Int.one_mul] at h_; exact h_
  have hji12y : (wrap64 (1 * 2 ^ min t430.toNat 64)) = ji12 := (i64_w _).symm.trans hji12_
  have hji12x : t430 ≤ 64 → (wrap64 (1 * 2 ^ t430.toNat)) = ji12 := fun h_ => (i64_w _).symm.trans (hji12z h_)
  obtain rfl := Option.some.inj H
  have hnb13 := NB431_0.out
  have hnc13 := NB0_431.out
  have hcz14 := bK w7 BK431
  have hfz14 := bF BK431
  go_wp2
  go_ret
  exact ⟨by first | rfl | (simp [errW_none, errW_some] <;> rfl) | (simp only [← hji12]; first | rfl | (simp [errW_none, errW_some] <;> rfl)) | (simp [*, errW_none, errW_some] <;> rfl), bw HB⟩
 intro c10 c10b0 c10b1 H
 (first | rw [c10b0] | (simp only [i64_w, i32_w]; rw [c10b0]) | skip)
 refine be H ?_; clear H; intro t432 A15 H
 refine be H ?_; clear H; intro t433 A16 H
 refine iM H ?_; clear H; intro c17b0 H
 refine iM H ?_; clear H; intro c18b0 H
 refine iM H ?_; clear H; intro c19b0 H
 refine iM H ?_; clear H; intro c20b0 H
 refine be H ?_; clear H; intro t436 A21 H
 refine be H ?_; clear H; intro t437 A22 H
 obtain rfl := Option.some.inj H
 try go_wp2
 replace HP0_ : Aside0 (((w7.setCell ⟨gb431, 0, none⟩ (.int .i64 t429)).setCell ⟨gb431, 1, none⟩ (.int .i64 t430)).heap[g0_]? = some (.cells #[.slice A0_0 l0_0.length c0_0, .slice A0_1 l0_1.length c0_1] 92 (0, 0))) := ⟨by (with_reducible repeat (first | apply dN | apply dW | apply dA)); refine blk_far ?_ NB0_431.out _; (with_reducible repeat (first | apply dN | apply dW | apply dA)); refine blk_far ?_ NB0_431.out _; exact bp HP0_⟩
 replace BK431 : Aside0 (((w7.setCell ⟨gb431, 0, none⟩ (.int .i64 t429)).setCell ⟨gb431, 1, none⟩ (.int .i64 t430)).heap[gb431]? = some (.cells #[.int .i64 t429, .int .i64 t430] 102 (0, 0))) := ⟨by (with_reducible repeat (first | apply dN | apply dW | apply dA)); refine blk_put (cs := #[.int .i64 t429, .int .i64 0]) ?_ 1 _ rfl; (with_reducible repeat (first | apply dN | apply dW | apply dA)); refine blk_put (cs := #[.int .i64 0, .int .i64 0]) ?_ 0 _ rfl; exact bp BK431⟩
 replace HB : Aside0 (Below w.heap.size w ((w7.setCell ⟨gb431, 0, none⟩ (.int .i64 t429)).setCell ⟨gb431, 1, none⟩ (.int .i64 t430))) := ⟨bw HB⟩
 generalize ((w7.setCell ⟨gb431, 0, none⟩ (.int .i64 t429)).setCell ⟨gb431, 1, none⟩ (.int .i64 t430)) = w23 at HP0_ BK431 HB ⊢
 replace HP0_ := am (blk_drew HP0_.out)
 replace BK431 := am (blk_drew BK431.out)
 replace HB := am (below_drew1 HB.out)
 refine start_ (n := 10) (S := fun w' => w'.cell? ⟨g0_, 0, none⟩ = some (.slice A0_0 l0_0.length c0_0) ∧ w'.cell? ⟨g0_, 1, none⟩ = some (.slice A0_1 l0_1.length c0_1) ∧ w'.cell? ⟨gb431, 0, none⟩ = some (.int .i64 t429) ∧ w'.cell? ⟨gb431, 1, none⟩ = some (.int .i64 t430)) (ds := []) (bv 10 0) (by kernel_rfl) rfl (by kernel_rfl) ⟨bc HP0_ 0, bc HP0_ 1, bc BK431 0, bc BK431 1⟩ (fun hHeld => ?_); refine with_tabW impl_prog_writes.tab4 impl_prog_writes.bits4 (fun HT_ HW_ => ?_)
 generalize w23.drew = w24 at HP0_ BK431 HB hHeld ⊢
 refine pu 0 21 10 1 HT_ ?_
 refine pu 1 22 10 3 HT_ ?_
 refine pu 2 23 10 7 HT_ ?_
 refine tk 3 24 10 15 HT_ HW_ hHeld ?_
 refine tk 4 25 10 31 HT_ HW_ hHeld ?_
 refine tk 6 27 10 95 HT_ HW_ hHeld ?_
 refine on 5 (some 26) 10 127 HT_ fun K hK => ?_
 refine goes_ Try.func134 (by kernel_rfl) rfl #[.agg #[.slice A0_0 l0_0.length c0_0], .agg #[.int .i64 t429, .int .i64 t430]] (by rfl) rfl rfl gl ?_
 with_reducible refine (impl_Takes.calls k _ _ l0_0 t429 t430 t432 _ ?side1 ?side2 A15.out).mono ?_
 (case side1 => exact cc (Kd.C_below HR0_0.out HB.out))
 (case side2 => exact HC0_0.out)
 rintro e w25 ⟨rfl, hb⟩
 refine ⟨_, rfl, ?_⟩
 replace HP0_ := bb HP0_ hb
 replace BK431 := bb BK431 hb
 replace HB := am (below_step (bw HB) hb)
 clear hb
 refine hK.out _ _ ⟨bc HP0_ 0, bc HP0_ 1, bc BK431 0, bc BK431 1⟩ (fun hHeld => ?_)
 clear hK K
 refine nm (some 26) ?_
 refine on 7 (some 28) 10 255 HT_ fun K hK => ?_
 refine goes_ Try.func140 (by kernel_rfl) rfl #[.agg #[.int .i64 t429, .int .i64 t430]] (by rfl) rfl rfl gl ?_
 with_reducible refine (impl_Puts.calls k t429 t430 t433 _ A16.out).mono ?_
 rintro e w26 ⟨rfl, hb⟩
 refine ⟨_, rfl, ?_⟩
 replace HP0_ := bb HP0_ hb
 replace BK431 := bb BK431 hb
 replace HB := am (below_step (bw HB) hb)
 clear hb
 refine hK.out _ _ ⟨bc HP0_ 0, bc HP0_ 1, bc BK431 0, bc BK431 1⟩ (fun hHeld => ?_)
 clear hK K
 refine nm (some 28) ?_
 refine pu 8 8 10 511 HT_ ?_
 refine pu 9 9 10 1023 HT_ ?_
 refine done_ (done_of HT_.out (by kernel_rfl)) ?_
 have hnb27 := NB0_431.out
 have hnc27 := NB431_0.out
 have hcz28 := bK w26 HP0_
 have hfz28 := bF HP0_
 have p434 : 0 ≤ (a1 : Int) := of_decide_eq_true as1
 have q434 : a1 < (l0_1.length : Int) := of_decide_eq_true as1
 obtain ⟨ad434, A434_0, c434_0, e434, hx434_0, hl434_0, hi434_0⟩ := at_L9 HR0_1.out a1 p434 q434
 cases e434
 replace hx434_0 := cl HB hx434_0
 have HR434_0 := am hi434_0
 have HC434_0 := am hl434_0
 clear hi434_0 hl434_0
 replace p434 := eq_true p434
 replace q434 := eq_true q434
 have p435 : 0 ≤ (a2 : Int) := of_decide_eq_true as1
 have q435 : a2 < ((rd_L9 l0_1 a1).length : Int) := of_decide_eq_true as1
 obtain ⟨ad435, e435, hx435_0⟩ := Kd.at_int HR434_0.out a2 p435 q435
 cases e435
 replace hx435_0 := cl HB hx435_0
 replace p435 := eq_true p435
 replace q435 := eq_true q435
 try go_wp2_with (first | ((with_reducible refine gk 178 rfl ?_); refine gB 178 (some 43) Try.func178 #[.pointer (some ⟨g0_, 0, none⟩), .int .i64 a1, .int .i64 (rd (rd_L9 l0_1 a1) a2), .int .i64 t432] (impl_prog_top.calls g0_ A0_0 c0_0 l0_0 (some ad434) c0_1 l0_1 a1 (rd (rd_L9 l0_1 a1) a2) t432 t436 _ (bp HP0_) (cc (Kd.C_below HR0_0.out HB.out)) HC0_0.out (cc (Kd.C_below HR0_1.out HB.out)) HC0_1.out A21.out) ?_; intro w29 hb; replace HP0_ := bb HP0_ hb; replace BK431 := bb BK431 hb; replace HB := bs HB hb; clear hb) | ((with_reducible refine gk 178 rfl ?_); refine gB 178 (some 52) Try.func178 #[.pointer (some ⟨g0_, 0, none⟩), .int .i64 a1, .int .i64 (wrap64 ((wrap64 ((rd (rd_L9 l0_1 a1) a2) - t432)) + t433)), .int .i64 t433] (impl_prog_top.calls g0_ A0_0 c0_0 l0_0 (some ad434) c0_1 l0_1 a1 (wrap64 ((wrap64 ((rd (rd_L9 l0_1 a1) a2) - t432)) + t433)) t433 t437 _ (bp HP0_) (cc (Kd.C_below HR0_0.out HB.out)) HC0_0.out (cc (Kd.C_below HR0_1.out HB.out)) HC0_1.out A22.out) ?_; intro w30 hb; replace HP0_ := bb HP0_ hb; replace BK431 := bb BK431 hb; replace HB := bs HB hb; clear hb))
 go_ret
 exact ⟨er, bw HB⟩

mutual
def impl_prog_live.l0 : Nat → Int → List Int → Bool → List (S100) → List (List Int) → Option (List Int)
 | 0, _, _, _, _, _ => none
 | k + 1, x1, x5, x6, x1000, x1001 => if x6 = true then (impl_prog_live.l1 k x1 x5 false (wrap64 ((x5.length : Int) - 1)) x1000 x1001) else (some x5)
def impl_prog_live.l1 : Nat → Int → List Int → Bool → Int → List (S100) → List (List Int) → Option (List Int)
 | 0, _, _, _, _, _, _ => none
 | k + 1, x1, x5, x6, x7, x1000, x1001 => if x7 ≥ 0 then ((impl_prog_reached.f x1000 x1001 x1 x7).bind fun t444 => (if t444 = true then ((impl_prog_at.f x1000 x1001 x1 x7).bind fun bt445 => ((impl_next.f bt445.1 bt445.2 x7).bind fun t447 => (impl_prog_live.l2 k x1 x5 x6 x7 0 t447 (t447.length : Int) 0 x1000 x1001))) else (impl_prog_live.l1 k x1 x5 x6 (wrap64 (x7 - 1)) x1000 x1001))) else (impl_prog_live.l0 k x1 x5 x6 x1000 x1001)
def impl_prog_live.l2 : Nat → Int → List Int → Bool → Int → Int → List Int → Int → Int → List (S100) → List (List Int) → Option (List Int)
 | 0, _, _, _, _, _, _, _, _, _, _ => none
 | k + 1, x1, x5, x6, x7, x8, x36, x37, x38, x1000, x1001 => if x38 < x37 then (if 0 ≤ x38 then (if x38 < (x36.length : Int) then (if 0 ≤ (rd x36 x38) then (if (rd x36 x38) < (x5.length : Int) then (impl_prog_live.l2 k x1 x5 x6 x7 (Go.bits .or .i64 x8 (rd x5 (rd x36 x38))) x36 x37 (wrap64 (x38 + 1)) x1000 x1001) else (none)) else (none)) else (none)) else (none)) else ((impl_prog_slots.f x1000 x1001 x1 x7).bind fun t452 => (if 0 ≤ t452 then ((impl_prog_reads.f k x1000 x1001 x1 x7).bind fun t453 => ((impl_prog_writes.f k x1000 x1001 x1 x7).bind fun t454 => (if x6 = true then (if 0 ≤ x7 then (if x7 < (x5.length : Int) then (impl_prog_live.l1 k x1 (x5.set (x7 : Int).toNat (Go.bits .and .i64 (Go.bits .or .i64 t453 (Go.bits .andNot .i64 x8 t454)) (wrap64 ((shl .i64 1 t452) - 1)))) true (wrap64 (x7 - 1)) x1000 x1001) else (none)) else (none)) else (if 0 ≤ x7 then (if x7 < (x5.length : Int) then (impl_prog_live.l1 k x1 (x5.set (x7 : Int).toNat (Go.bits .and .i64 (Go.bits .or .i64 t453 (Go.bits .andNot .i64 x8 t454)) (wrap64 ((shl .i64 1 t452) - 1)))) ((Go.bits .and .i64 (Go.bits .or .i64 t453 (Go.bits .andNot .i64 x8 t454)) (wrap64 ((shl .i64 1 t452) - 1))) != (rd x5 x7)) (wrap64 (x7 - 1)) x1000 x1001) else (none)) else (none))))) else (none)))
end
def impl_prog_live.f (k : Nat) (l0_0 : List (S100)) (l0_1 : List (List Int)) (a1 : Int) : Option (List Int) := (impl_prog_code.f l0_0 l0_1 a1).bind fun t438 => (if 0 ≤ (t438.length : Int) then (if ((t438.length : Int) : Int).toNat ≤ 35184372088832 then (impl_prog_live.l0 k a1 (List.replicate ((t438.length : Int) : Int).toNat 0) true l0_0 l0_1) else (none)) else (none))
theorem impl_prog_live.mono_l : ∀ k, (∀ y0 y1 y2 y3 y4, LeO (impl_prog_live.l0 k y0 y1 y2 y3 y4) (impl_prog_live.l0 (k + 1) y0 y1 y2 y3 y4)) ∧ (∀ y0 y1 y2 y3 y4 y5, LeO (impl_prog_live.l1 k y0 y1 y2 y3 y4 y5) (impl_prog_live.l1 (k + 1) y0 y1 y2 y3 y4 y5)) ∧ (∀ y0 y1 y2 y3 y4 y5 y6 y7 y8 y9, LeO (impl_prog_live.l2 k y0 y1 y2 y3 y4 y5 y6 y7 y8 y9) (impl_prog_live.l2 (k + 1) y0 y1 y2 y3 y4 y5 y6 y7 y8 y9))
 | 0 => ⟨fun _ _ _ _ _ r h => by simp [impl_prog_live.l0] at h, fun _ _ _ _ _ _ r h => by simp [impl_prog_live.l1] at h, fun _ _ _ _ _ _ _ _ _ _ r h => by simp [impl_prog_live.l2] at h⟩
 | k + 1 => by
  obtain ⟨ih0, ih1, ih2⟩ := impl_prog_live.mono_l k
  refine ⟨?_, ?_, ?_⟩
  ·intro y0 y1 y2 y3 y4
   unfold impl_prog_live.l0
   with_reducible repeat' first | exact ih0 .. | exact ih1 .. | exact ih2 .. | exact impl_prog_reads.mono .. | exact impl_prog_writes.mono .. | exact LeO.refl _ | exact LeO.none _ | refine LeO.ite ?_ ?_ | refine LeO.bind ?_ (fun _ => ?_)
  ·intro y0 y1 y2 y3 y4 y5
   unfold impl_prog_live.l1
   with_reducible repeat' first | exact ih0 .. | exact ih1 .. | exact ih2 .. | exact impl_prog_reads.mono .. | exact impl_prog_writes.mono .. | exact LeO.refl _ | exact LeO.none _ | refine LeO.ite ?_ ?_ | refine LeO.bind ?_ (fun _ => ?_)
  ·intro y0 y1 y2 y3 y4 y5 y6 y7 y8 y9
   unfold impl_prog_live.l2
   with_reducible repeat' first | exact ih0 .. | exact ih1 .. | exact ih2 .. | exact impl_prog_reads.mono .. | exact impl_prog_writes.mono .. | exact LeO.refl _ | exact LeO.none _ | refine LeO.ite ?_ ?_ | refine LeO.bind ?_ (fun _ => ?_)
theorem impl_prog_live.mono : ∀ a0 a1 a2 k, LeO (impl_prog_live.f k a0 a1 a2) (impl_prog_live.f (k + 1) a0 a1 a2) := by
 intro a0 a1 a2 k
 obtain ⟨ih0, ih1, ih2⟩ := impl_prog_live.mono_l k
 unfold impl_prog_live.f
 with_reducible repeat' first | exact ih0 .. | exact ih1 .. | exact ih2 .. | exact impl_prog_reads.mono .. | exact impl_prog_writes.mono .. | exact LeO.refl _ | exact LeO.none _ | refine LeO.ite ?_ ?_ | refine LeO.bind ?_ (fun _ => ?_)
theorem impl_prog_live.calls (k : Nat) (g0_ : Nat) (A0_0 : Option Addr) (c0_0 : Nat) (l0_0 : List (S100)) (A0_1 : Option Addr) (c0_1 : Nat) (l0_1 : List (List Int)) (a1 : Int) (r : List Int) (w : World) (hp0 : w.heap[g0_]? = some (.cells #[.slice A0_0 l0_0.length c0_0, .slice A0_1 l0_1.length c0_1] 92 (0, 0))) (hr0_0 : Kd.C k100 w A0_0 l0_0.length l0_0) (hc0_0 : l0_0.length ≤ c0_0) (hr0_1 : Kd.C (Kd.slice 2 (Kd.int .i64)) w A0_1 l0_1.length l0_1) (hc0_1 : l0_1.length ≤ c0_1) (h : impl_prog_live.f k l0_0 l0_1 a1 = some r) :
  Calls Try.prog 82 #[.pointer (some ⟨g0_, 0, none⟩), .int .i64 a1] w fun e w' => ∃ v0_ : Value, e = .returned (v0_) ∧ Kd.R (Kd.int .i64) 2 w' w.heap.size (fun _ => True) v0_ r ∧ Below w.heap.size w w' := by
 have HP0_ := am hp0
 clear hp0
 have HR0_0 := am hr0_0
 have HC0_0 := am hc0_0
 clear hr0_0 hc0_0
 have HR0_1 := am hr0_1
 have HC0_1 := am hc0_1
 clear hr0_1 hc0_1
 have HB := am (Below.refl w.heap.size w)
 have H : ((impl_prog_code.f l0_0 l0_1 a1).bind fun t438 => (if 0 ≤ (t438.length : Int) then (if ((t438.length : Int) : Int).toNat ≤ 35184372088832 then (impl_prog_live.l0 k a1 (List.replicate ((t438.length : Int) : Int).toNat 0) true l0_0 l0_1) else (none)) else (none))) = some r := h
 clear h
 refine be H ?_; clear H; intro t438 A3 H
 refine iN H ?_; clear H; intro c4 H
 have c4b0 := eq_true c4
 have c4b1 := decide_eq_true c4
 clear c4
 refine iN H ?_; clear H; intro c5 H
 have c5b0 := eq_true c5
 have c5b1 := decide_eq_true c5
 clear c5
 obtain ⟨y441, hy441⟩ : ∃ y_ : List Int, y_ = (List.replicate ((t438.length : Int) : Int).toNat 0) := ⟨_, rfl⟩
 replace H : (impl_prog_live.l0 k a1 y441 true l0_0 l0_1) = some r := by first | (rw [hy441]; with_reducible exact H) | (have H2_ := (Option.bind_some _ _).symm.trans H; rw [hy441]; with_reducible exact H2_) | (have H2_ := (Option.bind_some _ _).symm.trans H; with_reducible exact H2_) | with_reducible exact H | (rw [hy441]; exact H) | exact H
 have Ny441 := am hy441
 clear hy441
 have H' := am H
 clear H
 go_enter Try.func82, Try.ntmps82
 go_wp2_with (first | ((with_reducible refine gk 127 rfl ?_); refine gC 127 (some 15) Try.func127 #[.pointer (some ⟨g0_, 0, none⟩), .int .i64 a1] ((impl_prog_code.calls g0_ (fun k_ => k_ < w.heap.size) A0_0 c0_0 l0_0 A0_1 c0_1 l0_1 a1 t438 _ (bp HP0_) (Kd.V_mk HC0_0.out (Kd.F_below (Kd.C_F k100_heap HR0_0.out) (bw HB))) (by repeat (first | exact HR0_1.out | (with_reducible refine Kd.C_alloc ?_ _) | (with_reducible refine Kd.C_drewN ?_ _) | (with_reducible refine Kd.C_drew ?_))) HC0_1.out A3.out).mono ?_); rintro e w6 ⟨v439, rfl, ho0, hb⟩; refine ⟨_, rfl, ?_⟩; have HO440 := am (Kd.V_lower (Kd.V_mono (ok' := fun k_ => True) ho0 (fun k_ hk_ => trivial)) (below_size (bw HB))); replace HP0_ := bb HP0_ hb; replace HB := bs HB hb; clear hb; (try clear ho0); obtain ⟨Ao7, co7, eo7⟩ := Kd.V_slice HO440.out; subst eo7) | ((with_reducible refine gate_dst (N := 17) rfl ?_); refine Kd.R_make (Kd.int .i64) _ 2 rfl (N := 17) rfl 26 _ _ rfl (t438.length : Int) rfl rfl Try.underlying26 (.int .i64 0) 8 info2 rfl (by decide) (by omega) 0 (ok := fun _ => True) (okp := fun _ => True) rfl (fun _ hk => hk) trivial (of_decide_eq_true as1) (Nat.le_trans (Nat.mul_le_mul_right _ (of_decide_eq_true as1 : (t438.length : Int).toNat ≤ 35184372088832)) (by omega)) (Below.refl _ _) (Nat.le_refl _) ?_; intro v442 w8 ho9 hb hg_ hnew_; clear hg_ hnew_; (first | rw [← Ny441.out] at ho9 | (simp only [Int.reduceToNat] at ho9; rw [← Ny441.out] at ho9)); replace HO440 := am (Kd.V_elder' (kV HO440) (Kd.R_base ho9) hb); have HO443 := am (Kd.R_lower ho9 (below_size (bw HB))); replace HP0_ := bb HP0_ hb; replace HB := bs HB hb; clear hb ho9))
 go_loopg [6] k (fun kq v6 w' => ∃ (x5_1 : List Int) (x6_1 : Bool), v6 = .bool x6_1 ∧ Aside0 (impl_prog_live.l0 kq a1 x5_1 x6_1 l0_0 l0_1 = some r) ∧ Aside0 (kq ≤ k) ∧ Aside0 (Kd.R (Kd.int .i64) 2 w' w.heap.size (fun _ => True) v442 x5_1) ∧ Aside0 (w'.heap[g0_]? = some (.cells #[(.slice A0_0 l0_0.length c0_0), (.slice A0_1 l0_1.length c0_1)] 92 (0, 0))) ∧ Aside0 (Below w.heap.size w w'))
 case atStart => exact ⟨(y441), (true), dr, H', ⟨Nat.le_refl _⟩, ⟨kR HO443⟩, ⟨bp HP0_⟩, ⟨bw HB⟩⟩
 clear H'
 (try clear c1); (try clear p2); (try clear c4); (try clear c4b0); (try clear c4b1); (try clear c5); (try clear c5b0); (try clear c5b1); (try clear c8)
 obtain ⟨x5_1, x6_1, rfl, HA, HK1, HO_5, HP0_, HB⟩ := hrel
 rcases gk with _ | k1
 ·exact absurd HA.out (by simp [impl_prog_live.l0])
 have H := HA.out
 clear HA
 simp only [impl_prog_live.l0] at H
 refine qT H ?_ ?_ <;> clear H <;> intro c10 H <;> subst c10
 ·have H' := am H
  clear H
  obtain ⟨Ao11, co11, eo11⟩ := Kd.R_slice HO_5.out
  subst eo11
  go_wp2
  go_loopg [6, 7] k1 (fun kq v6 v7 w' => ∃ (x5_2 : List Int) (x6_2 : Bool) (x7_2 : Int), v6 = .bool x6_2 ∧ v7 = .int .i64 x7_2 ∧ Aside0 (impl_prog_live.l1 kq a1 x5_2 x6_2 x7_2 l0_0 l0_1 = some r) ∧ Aside0 (kq ≤ k1) ∧ Aside0 (Kd.R (Kd.int .i64) 2 w' w.heap.size (fun _ => True) (.slice Ao11 x5_1.length co11) x5_2) ∧ Aside0 (w'.heap[g0_]? = some (.cells #[(.slice A0_0 l0_0.length c0_0), (.slice A0_1 l0_1.length c0_1)] 92 (0, 0))) ∧ Aside0 (Below w.heap.size w w'))
  case atStart => exact ⟨(x5_1), (false), (wrap64 ((x5_1.length : Int) - 1)), dr, dr, H', ⟨Nat.le_refl _⟩, ⟨kR HO_5⟩, ⟨bp HP0_⟩, ⟨bw HB⟩⟩
  clear H'
  (try clear p6); (try clear c10)
  obtain ⟨x5_2, x6_2, x7_2, rfl, rfl, HA, HK2, HO_5, HP0_, HB⟩ := hrel
  have hl5_2 := (Kd.R_reads' HO_5.out).1
  rw [hl5_2] at HO_5
  (try simp only [hl5_2])
  (try simp only [hl5_2] at HP0_)
  rcases gk with _ | k2
  ·exact absurd HA.out (by simp [impl_prog_live.l1])
  have H := HA.out
  clear HA
  simp only [impl_prog_live.l1] at H
  by_cases c12 : x7_2 ≥ 0
  ·rw [if_pos c12] at H
   have c12b0 : decide (0 ≤ x7_2) = true := decide_eq_true c12
   clear c12
   refine be H ?_; clear H; intro t444 A13 H
   have HC14 := am H
   clear H
   go_upto_if 30 with (first | ((with_reducible refine gk 132 rfl ?_); refine gB 132 (some 29) Try.func132 #[.pointer (some ⟨g0_, 0, none⟩), .int .i64 a1, .int .i64 x7_2] (impl_prog_reached.calls g0_ A0_0 c0_0 l0_0 A0_1 c0_1 l0_1 a1 x7_2 t444 _ (bp HP0_) (cc (Kd.C_below HR0_0.out HB.out)) HC0_0.out (cc (Kd.C_below HR0_1.out HB.out)) HC0_1.out A13.out) ?_; intro w15 hb; replace HO_5 := am (Kd.R_below (kR HO_5) hb); replace HP0_ := bb HP0_ hb; replace HB := bs HB hb; clear hb))
   (try simp only [Act.put, sa, sz, ss])
   have H := HC14.out
   clear HC14
   refine qT H ?_ ?_ <;> clear H <;> intro c16 H <;> subst c16
   ·replace H := Option.bind_eq_some_iff.mp H
    obtain ⟨⟨t445, t446⟩, A170, H⟩ := H
    replace H : ((impl_next.f t445 t446 x7_2).bind fun t447 => (impl_prog_live.l2 k2 a1 x5_2 x6_2 x7_2 0 t447 (t447.length : Int) 0 l0_0 l0_1)) = some r := H
    have A17 := am A170
    clear A170
    refine be H ?_; clear H; intro t447 A18 H
    have H' := am H
    clear H
    go_wp2_with (first | ((with_reducible refine gk 141 rfl ?_); refine gB 141 (some 34) Try.func141 #[.pointer (some ⟨g0_, 0, none⟩), .int .i64 a1, .int .i64 x7_2] (impl_prog_at.calls g0_ A0_0 c0_0 l0_0 A0_1 c0_1 l0_1 a1 x7_2 t445 t446 _ (bp HP0_) (cc (Kd.C_below HR0_0.out HB.out)) HC0_0.out (cc (Kd.C_below HR0_1.out HB.out)) HC0_1.out A17.out) ?_; intro w19 hb; replace HO_5 := am (Kd.R_below (kR HO_5) hb); replace HP0_ := bb HP0_ hb; replace HB := bs HB hb; clear hb) | ((with_reducible refine gate_callee (f := 147) rfl ?_); refine goesL_ (some 36) rfl rfl Try.func147 (by kernel_rfl) rfl #[.agg #[.int .i64 t445, .int .i64 t446], .int .i64 x7_2] rfl gl ?_; (with_reducible refine (impl_next.calls t445 t446 x7_2 t447 _ A18.out).mono ?_); rintro e w20 ⟨v448, rfl, ho0, hb⟩; refine ⟨_, rfl, ?_⟩; have HO449 := am (Kd.R_lower (Kd.R_new' ho0 (Kd.R_lt (kR HO_5))) (below_size (bw HB))); replace HO_5 := am (Kd.R_elder' (kR HO_5) (Kd.R_base ho0) hb); replace HP0_ := bb HP0_ hb; replace HB := bs HB hb; clear hb; (try clear ho0); obtain ⟨Ao21, co21, eo21⟩ := Kd.R_slice HO449.out; subst eo21))
    go_loopg [8, 38] k2 (fun kq v8 v38 w' => ∃ (x8_3 : Int) (x38_3 : Int), v8 = .int .i64 x8_3 ∧ v38 = .int .i64 x38_3 ∧ Aside0 (impl_prog_live.l2 kq a1 x5_2 x6_2 x7_2 x8_3 t447 (t447.length : Int) x38_3 l0_0 l0_1 = some r) ∧ Aside0 (kq ≤ k2) ∧ Aside0 (Kd.R (Kd.int .i64) 2 w' w.heap.size (fun k_ => some k_ ≠ ((.slice Ao21 t447.length co21) : Value).ownBlock) (.slice Ao11 x5_2.length co11) x5_2) ∧ Aside0 (Kd.R (Kd.int .i64) 2 w' w.heap.size (fun k_ => some k_ ≠ ((.slice Ao11 x5_2.length co11) : Value).ownBlock) (.slice Ao21 t447.length co21) t447) ∧ Aside0 (w'.heap[g0_]? = some (.cells #[(.slice A0_0 l0_0.length c0_0), (.slice A0_1 l0_1.length c0_1)] 92 (0, 0))) ∧ Aside0 (Below w.heap.size w w'))
    case atStart => exact ⟨(0), (0), dr, dr, H', ⟨Nat.le_refl _⟩, ⟨by (try simp only [hl5_2]); (with_reducible repeat (first | apply Kd.R_alloc | apply Kd.R_drewN | apply Kd.R_drew)); exact Kd.R_mono HO_5.out (fun _ hk => hk.2)⟩, ⟨by (try simp only [hl5_2]); (with_reducible repeat (first | apply Kd.R_alloc | apply Kd.R_drewN | apply Kd.R_drew)); exact Kd.R_mono HO449.out (fun _ hk => hk.2)⟩, ⟨by (try simp only [hl5_2]); exact bp HP0_⟩, ⟨bw HB⟩⟩
    clear H'
    (try clear c12); (try clear c12b0); (try clear c13); (try clear c14); (try clear c16)
    obtain ⟨x8_3, x38_3, rfl, rfl, HA, HK3, HO_5, HO_36, HP0_, HB⟩ := hrel
    rcases gk with _ | k3
    ·exact absurd HA.out (by simp [impl_prog_live.l2])
    have H := HA.out
    clear HA
    simp only [impl_prog_live.l2] at H
    refine qI H ?_ ?_ <;> clear H <;> intro c22b0 H
    ·(first | rw [c22b0] | (simp only [i64_w, i32_w]; rw [c22b0]) | skip)
     refine iM H ?_; clear H; intro c23b0 H
     refine iM H ?_; clear H; intro c24b0 H
     refine iM H ?_; clear H; intro c25b0 H
     refine iM H ?_; clear H; intro c26b0 H
     (try (have c26b0hl5_2 := c26b0; rw [hl5_2] at c26b0hl5_2))
     have H' := am H
     clear H
     have p450 : 0 ≤ (x38_3 : Int) := of_decide_eq_true as1
     have q450 : x38_3 < (t447.length : Int) := of_decide_eq_true as1
     obtain ⟨ad450, e450, hx450_0⟩ := Kd.at_int (Kd.R_reads' HO_36.out).2.2 x38_3 p450 q450
     cases e450
     replace p450 := eq_true p450
     replace q450 := eq_true q450
     have p451 : 0 ≤ ((rd t447 x38_3) : Int) := of_decide_eq_true as1
     have q451 : (rd t447 x38_3) < (x5_2.length : Int) := of_decide_eq_true as1
     obtain ⟨ad451, e451, hx451_0⟩ := Kd.at_int (Kd.R_reads' HO_5.out).2.2 (rd t447 x38_3) p451 q451
     cases e451
     replace p451 := eq_true p451
     replace q451 := eq_true q451
     go_wp2
     go_roundg k3
     case measure => have := HK1.out; have := HK2.out; have := HK3.out; omega
     case rel => exact ⟨(Go.bits .or .i64 x8_3 (rd x5_2 (rd t447 x38_3))), (wrap64 (x38_3 + 1)), dr, dr, H', ⟨by have := HK1.out; have := HK2.out; have := HK3.out; omega⟩, ⟨by (try simp only [hl5_2]); exact kR HO_5⟩, ⟨by (try simp only [hl5_2]); exact kR HO_36⟩, ⟨by (try simp only [hl5_2]); exact bp HP0_⟩, ⟨bw HB⟩⟩
    (first | rw [c22b0] | (simp only [i64_w, i32_w]; rw [c22b0]) | skip)
    refine be H ?_; clear H; intro t452 A27 H
    refine iN H ?_; clear H; intro c28 H
    have c28b0 := eq_true c28
    have c28b1 := decide_eq_true c28
    clear c28
    obtain ⟨ji29, hji29⟩ : ∃ j_ : Int, (shl .i64 1 t452) = j_ := ⟨_, rfl⟩
    replace H : ((impl_prog_reads.f k3 l0_0 l0_1 a1 x7_2).bind fun t453 => ((impl_prog_writes.f k3 l0_0 l0_1 a1 x7_2).bind fun t454 => (if x6_2 = true then (if 0 ≤ x7_2 then (if x7_2 < (x5_2.length : Int) then (impl_prog_live.l1 k3 a1 (x5_2.set (x7_2 : Int).toNat (Go.bits .and .i64 (Go.bits .or .i64 t453 (Go.bits .andNot .i64 x8_3 t454)) (wrap64 ((ji29) - 1)))) true (wrap64 (x7_2 - 1)) l0_0 l0_1) else (none)) else (none)) else (if 0 ≤ x7_2 then (if x7_2 < (x5_2.length : Int) then (impl_prog_live.l1 k3 a1 (x5_2.set (x7_2 : Int).toNat (Go.bits .and .i64 (Go.bits .or .i64 t453 (Go.bits .andNot .i64 x8_3 t454)) (wrap64 ((ji29) - 1)))) ((Go.bits .and .i64 (Go.bits .or .i64 t453 (Go.bits .andNot .i64 x8_3 t454)) (wrap64 ((ji29) - 1))) != (rd x5_2 x7_2)) (wrap64 (x7_2 - 1)) l0_0 l0_1) else (none)) else (none))))) = some r := by first | (rw [hji29] at H; exact H) | (simp only [hji29] at H ⊢; exact H)
    (try rw [hji29] at A27)
    have hji29_ : (IntKind.i64.wrap (1 * 2 ^ min t452.toNat 64)) = ji29 := hji29
    have hji29z : t452 ≤ 64 → (IntKind.i64.wrap (1 * 2 ^ t452.toNat)) = ji29 := shl_small hji29
    have hji29u : (IntKind.i64.wrap (2 ^ min t452.toNat 64)) = ji29 := by have h_ := hji29_; rw [Int.one_mul] at h_; exact h_
    have hji29v : t452 ≤ 64 → (IntKind.i64.wrap (2 ^ t452.toNat)) = ji29 := fun hle_ => by have h_ := hji29z hle_; rw [Int.one_mul] at h_; exact h_
    have hji29y : (wrap64 (1 * 2 ^ min t452.toNat 64)) = ji29 := (i64_w _).symm.trans hji29_
    have hji29x : t452 ≤ 64 → (wrap64 (1 * 2 ^ t452.toNat)) = ji29 := fun h_ => (i64_w _).symm.trans (hji29z h_)
    refine be H ?_; clear H; intro t453 A30 H
    refine be H ?_; clear H; intro t454 A31 H
    have HC32 := am H
    clear H
    go_upto_region 16 with (first | ((with_reducible refine gk 133 rfl ?_); refine gB 133 (some 52) Try.func133 #[.pointer (some ⟨g0_, 0, none⟩), .int .i64 a1, .int .i64 x7_2] (impl_prog_slots.calls g0_ A0_0 c0_0 l0_0 A0_1 c0_1 l0_1 a1 x7_2 t452 _ (bp HP0_) (cc (Kd.C_below HR0_0.out HB.out)) HC0_0.out (cc (Kd.C_below HR0_1.out HB.out)) HC0_1.out A27.out) ?_; intro w33 hb; replace HO_5 := am (Kd.R_below (kR HO_5) hb); replace HO_36 := am (Kd.R_below (kR HO_36) hb); replace HP0_ := bb HP0_ hb; replace HB := bs HB hb; clear hb))
    (try simp only [Act.put, sa, sz, ss])
    have H := HC32.out
    clear HC32
    refine qT H ?_ ?_ <;> clear H <;> intro c34 H <;> subst c34
    ·refine iM H ?_; clear H; intro c35b0 H
     refine iM H ?_; clear H; intro c36b0 H
     (try (have c36b0hl5_2 := c36b0; rw [hl5_2] at c36b0hl5_2))
     obtain ⟨y455, hy455⟩ : ∃ y_ : List Int, y_ = (x5_2.set (x7_2 : Int).toNat (Go.bits .and .i64 (Go.bits .or .i64 t453 (Go.bits .andNot .i64 x8_3 t454)) (wrap64 ((ji29) - 1)))) := ⟨_, rfl⟩
     replace H : (impl_prog_live.l1 k3 a1 y455 true (wrap64 (x7_2 - 1)) l0_0 l0_1) = some r := by first | (rw [hy455]; with_reducible exact H) | (have H2_ := (Option.bind_some _ _).symm.trans H; rw [hy455]; with_reducible exact H2_) | (have H2_ := (Option.bind_some _ _).symm.trans H; with_reducible exact H2_) | with_reducible exact H | (rw [hy455]; exact H) | exact H
     have Ny455 := am hy455
     clear hy455
     have H' := am H
     clear H
     go_wp2_with (first | ((with_reducible refine gk 148 rfl ?_); refine gB 148 (some 58) Try.func148 #[.pointer (some ⟨g0_, 0, none⟩), .int .i64 a1, .int .i64 x7_2] (impl_prog_reads.calls k3 g0_ A0_0 c0_0 l0_0 A0_1 c0_1 l0_1 a1 x7_2 t453 _ (bp HP0_) (cc (Kd.C_below HR0_0.out HB.out)) HC0_0.out (cc (Kd.C_below HR0_1.out HB.out)) HC0_1.out A30.out) ?_; intro w38 hb; replace HO_5 := am (Kd.R_below (kR HO_5) hb); replace HO_36 := am (Kd.R_below (kR HO_36) hb); replace HP0_ := bb HP0_ hb; replace HB := bs HB hb; clear hb) | ((with_reducible refine gk 149 rfl ?_); refine gB 149 (some 63) Try.func149 #[.pointer (some ⟨g0_, 0, none⟩), .int .i64 a1, .int .i64 x7_2] (impl_prog_writes.calls k3 g0_ A0_0 c0_0 l0_0 A0_1 c0_1 l0_1 a1 x7_2 t454 _ (bp HP0_) (cc (Kd.C_below HR0_0.out HB.out)) HC0_0.out (cc (Kd.C_below HR0_1.out HB.out)) HC0_1.out A31.out) ?_; intro w39 hb; replace HO_5 := am (Kd.R_below (kR HO_5) hb); replace HO_36 := am (Kd.R_below (kR HO_36) hb); replace HP0_ := bb HP0_ hb; replace HB := bs HB hb; clear hb; have p37 : 0 ≤ (x7_2 : Int) := of_decide_eq_true as1; have q37 : (x7_2 : Int) < ((x5_2.length : Int) : Int) := of_decide_eq_true as1; obtain ⟨go37, co37, eo37, gb37, gl37, cl37, HG37⟩ := Kd.R_form HO_5.out (by omega); (first | cases eo37 | (injection eo37 with ea_ en_ ec_; (first | subst ea_ | (injection ea_ with ea_; subst ea_)); subst ec_; clear en_)); have GB37 := am gb37; have GG37 := am HG37; clear gb37 gl37 HG37; obtain ⟨hx37_0, hf37_0⟩ := Kd.R_celln 0 HO_5.out (x7_2 : Int) p37 q37; replace p37 := eq_true p37; replace q37 := eq_true q37; obtain ⟨hy40_, hz40_⟩ := Kd.R_celln 0 HO_5.out (x7_2 : Int) (of_decide_eq_true as1) (of_decide_eq_true as1); have HP40 := Kd.R_putg HO_5.out (x7_2 : Int) (Go.bits .and .i64 (Go.bits .or .i64 t453 (Go.bits .andNot .i64 x8_3 t454)) (wrap64 ((ji29) - 1)))) | ((with_reducible refine gt 2 80 rfl ?_); refine sE 2 80 (w39.setCell ⟨go37, (x7_2 : Int).toNat, none⟩ (.int .i64 (Go.bits .and .i64 (Go.bits .or .i64 t453 (Go.bits .andNot .i64 x8_3 t454)) (wrap64 ((ji29) - 1))))) ?_; intro w41 hw; have hg : w39.grownBy w41 (some go37) := (by rw [hw]; exact HP40.2); have hp_ : Kd.R (Kd.int .i64) 2 w41 w.heap.size (fun k_ => some k_ ≠ (.slice Ao21 t447.length co21 : Value).ownBlock) (.slice (some ⟨go37, 0, none⟩) x5_2.length co11) y455 := (by rw [hw, Ny455.out]; exact HP40.1); clear HP40; replace HO_36 := am (Kd.R_after (v := (.slice (some ⟨go37, 0, none⟩) x5_2.length co11)) (v1 := (.slice (some ⟨go37, 0, none⟩) x5_2.length co11)) (ok := (fun _ => True)) (by (with_reducible repeat (first | apply Kd.R_alloc | apply Kd.R_drewN | apply Kd.R_drew)); exact Kd.R_mono HO_36.out (fun _ hk => ⟨trivial, hk⟩)) hg (.inl rfl)); replace HP0_ := bg HP0_ hg (Kd.R_ne HO_5.out HP0_.out (by decide)); replace HO_5 := am (hp_); replace HB := am ((by rw [hw]; exact below_set (HB.out) GB37.out : Below w.heap.size w w41)); clear hg hw hp_))
     (try simp only [← hl5_2])
     go_roundg k3
     case measure => have := HK1.out; have := HK2.out; have := HK3.out; omega
     case rel => exact ⟨(y455), (true), (wrap64 (x7_2 - 1)), dr, dr, H', ⟨by have := HK1.out; have := HK2.out; have := HK3.out; omega⟩, ⟨by (try simp only [hl5_2]); (with_reducible repeat (first | apply Kd.R_alloc | apply Kd.R_drewN | apply Kd.R_drew)); exact Kd.R_mono HO_5.out (fun _ hk => trivial)⟩, ⟨by (try simp only [hl5_2]); exact bp HP0_⟩, ⟨bw HB⟩⟩
    refine iM H ?_; clear H; intro c42b0 H
    refine iM H ?_; clear H; intro c43b0 H
    (try (have c43b0hl5_2 := c43b0; rw [hl5_2] at c43b0hl5_2))
    obtain ⟨y457, hy457⟩ : ∃ y_ : List Int, y_ = (x5_2.set (x7_2 : Int).toNat (Go.bits .and .i64 (Go.bits .or .i64 t453 (Go.bits .andNot .i64 x8_3 t454)) (wrap64 ((ji29) - 1)))) := ⟨_, rfl⟩
    replace H : (impl_prog_live.l1 k3 a1 y457 ((Go.bits .and .i64 (Go.bits .or .i64 t453 (Go.bits .andNot .i64 x8_3 t454)) (wrap64 ((ji29) - 1))) != (rd x5_2 x7_2)) (wrap64 (x7_2 - 1)) l0_0 l0_1) = some r := by first | (rw [hy457]; with_reducible exact H) | (have H2_ := (Option.bind_some _ _).symm.trans H; rw [hy457]; with_reducible exact H2_) | (have H2_ := (Option.bind_some _ _).symm.trans H; with_reducible exact H2_) | with_reducible exact H | (rw [hy457]; exact H) | exact H
    have Ny457 := am hy457
    clear hy457
    have H' := am H
    clear H
    go_wp2_with (first | ((with_reducible refine gk 148 rfl ?_); refine gB 148 (some 58) Try.func148 #[.pointer (some ⟨g0_, 0, none⟩), .int .i64 a1, .int .i64 x7_2] (impl_prog_reads.calls k3 g0_ A0_0 c0_0 l0_0 A0_1 c0_1 l0_1 a1 x7_2 t453 _ (bp HP0_) (cc (Kd.C_below HR0_0.out HB.out)) HC0_0.out (cc (Kd.C_below HR0_1.out HB.out)) HC0_1.out A30.out) ?_; intro w45 hb; replace HO_5 := am (Kd.R_below (kR HO_5) hb); replace HO_36 := am (Kd.R_below (kR HO_36) hb); replace HP0_ := bb HP0_ hb; replace HB := bs HB hb; clear hb) | ((with_reducible refine gk 149 rfl ?_); refine gB 149 (some 63) Try.func149 #[.pointer (some ⟨g0_, 0, none⟩), .int .i64 a1, .int .i64 x7_2] (impl_prog_writes.calls k3 g0_ A0_0 c0_0 l0_0 A0_1 c0_1 l0_1 a1 x7_2 t454 _ (bp HP0_) (cc (Kd.C_below HR0_0.out HB.out)) HC0_0.out (cc (Kd.C_below HR0_1.out HB.out)) HC0_1.out A31.out) ?_; intro w46 hb; replace HO_5 := am (Kd.R_below (kR HO_5) hb); replace HO_36 := am (Kd.R_below (kR HO_36) hb); replace HP0_ := bb HP0_ hb; replace HB := bs HB hb; clear hb; have p456 : 0 ≤ (x7_2 : Int) := of_decide_eq_true as1; have q456 : x7_2 < (x5_2.length : Int) := of_decide_eq_true as1; obtain ⟨ad456, e456, hx456_0⟩ := Kd.at_int (Kd.R_reads' HO_5.out).2.2 x7_2 p456 q456; cases e456; replace p456 := eq_true p456; replace q456 := eq_true q456; have p44 : 0 ≤ (x7_2 : Int) := of_decide_eq_true as1; have q44 : (x7_2 : Int) < ((x5_2.length : Int) : Int) := of_decide_eq_true as1; obtain ⟨go44, co44, eo44, gb44, gl44, cl44, HG44⟩ := Kd.R_form HO_5.out (by omega); (first | cases eo44 | (injection eo44 with ea_ en_ ec_; (first | subst ea_ | (injection ea_ with ea_; subst ea_)); subst ec_; clear en_)); have GB44 := am gb44; have GG44 := am HG44; clear gb44 gl44 HG44; (first | simp only [add_plain] at hx456_0 | skip); obtain ⟨hx44_0, hf44_0⟩ := Kd.R_celln 0 HO_5.out (x7_2 : Int) p44 q44; replace p44 := eq_true p44; replace q44 := eq_true q44; obtain ⟨hy47_, hz47_⟩ := Kd.R_celln 0 HO_5.out (x7_2 : Int) (of_decide_eq_true as1) (of_decide_eq_true as1); have HP47 := Kd.R_putg HO_5.out (x7_2 : Int) (Go.bits .and .i64 (Go.bits .or .i64 t453 (Go.bits .andNot .i64 x8_3 t454)) (wrap64 ((ji29) - 1)))) | ((with_reducible refine gt 2 80 rfl ?_); refine sE 2 80 (w46.setCell ⟨go44, (x7_2 : Int).toNat, none⟩ (.int .i64 (Go.bits .and .i64 (Go.bits .or .i64 t453 (Go.bits .andNot .i64 x8_3 t454)) (wrap64 ((ji29) - 1))))) ?_; intro w48 hw; have hg : w46.grownBy w48 (some go44) := (by rw [hw]; exact HP47.2); have hp_ : Kd.R (Kd.int .i64) 2 w48 w.heap.size (fun k_ => some k_ ≠ (.slice Ao21 t447.length co21 : Value).ownBlock) (.slice (some ⟨go44, 0, none⟩) x5_2.length co11) y457 := (by rw [hw, Ny457.out]; exact HP47.1); clear HP47; replace HO_36 := am (Kd.R_after (v := (.slice (some ⟨go44, 0, none⟩) x5_2.length co11)) (v1 := (.slice (some ⟨go44, 0, none⟩) x5_2.length co11)) (ok := (fun _ => True)) (by (with_reducible repeat (first | apply Kd.R_alloc | apply Kd.R_drewN | apply Kd.R_drew)); exact Kd.R_mono HO_36.out (fun _ hk => ⟨trivial, hk⟩)) hg (.inl rfl)); replace HP0_ := bg HP0_ hg (Kd.R_ne HO_5.out HP0_.out (by decide)); replace HO_5 := am (hp_); replace HB := am ((by rw [hw]; exact below_set (HB.out) GB44.out : Below w.heap.size w w48)); clear hg hw hp_))
    (try simp only [← hl5_2])
    go_roundg k3
    case measure => have := HK1.out; have := HK2.out; have := HK3.out; omega
    case rel => exact ⟨(y457), (((Go.bits .and .i64 (Go.bits .or .i64 t453 (Go.bits .andNot .i64 x8_3 t454)) (wrap64 ((ji29) - 1))) != (rd x5_2 x7_2))), (wrap64 (x7_2 - 1)), (by first | rfl | (simp; done) | (simp only [← hji29] <;> (first | rfl | simp)) | (simp [*]; done)), dr, H', ⟨by have := HK1.out; have := HK2.out; have := HK3.out; omega⟩, ⟨by (try simp only [hl5_2]); (with_reducible repeat (first | apply Kd.R_alloc | apply Kd.R_drewN | apply Kd.R_drew)); exact Kd.R_mono HO_5.out (fun _ hk => trivial)⟩, ⟨by (try simp only [hl5_2]); exact bp HP0_⟩, ⟨bw HB⟩⟩
   have H' := am H
   clear H
   go_wp2
   (try simp only [← hl5_2])
   go_roundg k2
   case measure => have := HK1.out; have := HK2.out; omega
   case rel => exact ⟨(x5_2), (x6_2), (wrap64 (x7_2 - 1)), dr, dr, H', ⟨by have := HK1.out; have := HK2.out; omega⟩, ⟨by (try simp only [hl5_2]); exact kR HO_5⟩, ⟨by (try simp only [hl5_2]); exact bp HP0_⟩, ⟨bw HB⟩⟩
  rw [if_neg c12] at H
  have c12b0 : decide (0 ≤ x7_2) = false := decide_eq_false c12
  clear c12
  have H' := am H
  clear H
  go_wp2
  (try simp only [← hl5_2])
  go_roundg k2
  case measure => have := HK1.out; have := HK2.out; omega
  case rel => exact ⟨(x5_2), (x6_2), dr, H', ⟨by have := HK1.out; have := HK2.out; omega⟩, ⟨by (try simp only [hl5_2]); exact kR HO_5⟩, ⟨by (try simp only [hl5_2]); exact bp HP0_⟩, ⟨bw HB⟩⟩
 obtain rfl := Option.some.inj H
 go_wp2
 go_ret
 exact ⟨_, er, kR HO_5, bw HB⟩

def impl_Live.f (k : Nat) (l0_0 : List (S100)) (a1 : Int) : Option (List Int) := (impl_knownFunc.f k l0_0 a1).bind fun bt459 => (if bt459.2.2 = true then ((impl_prog_live.f k bt459.1 bt459.2.1 a1).bind fun t467 => (some t467)) else (some ([] : List Int)))
theorem impl_Live.mono : ∀ a0 a1 k, LeO (impl_Live.f k a0 a1) (impl_Live.f (k + 1) a0 a1) := by
 intro a0 a1 k
 unfold impl_Live.f
 with_reducible repeat' first | exact impl_knownFunc.mono .. | exact impl_prog_live.mono .. | exact LeO.refl _ | exact LeO.none _ | refine LeO.ite ?_ ?_ | refine LeO.bind ?_ (fun _ => ?_)
theorem impl_Live.calls (k : Nat) (A0_0 : Option Addr) (c0_0 : Nat) (l0_0 : List (S100)) (a1 : Int) (r : List Int) (w : World) (hr0_0 : Kd.C k100 w A0_0 l0_0.length l0_0) (hc0_0 : l0_0.length ≤ c0_0) (h : impl_Live.f k l0_0 a1 = some r) :
  Calls Try.prog 37 #[.agg #[.slice A0_0 l0_0.length c0_0], .int .i64 a1] w fun e w' => ∃ v0_ : Value, e = .returned (v0_) ∧ Kd.R (Kd.int .i64) 2 w' w.heap.size (fun _ => True) v0_ r ∧ Below w.heap.size w w' := by
 have hu30 := Try.underlying30
 have HR0_0 := am hr0_0
 have HC0_0 := am hc0_0
 clear hr0_0 hc0_0
 have HB := am (Below.refl w.heap.size w)
 have H : ((impl_knownFunc.f k l0_0 a1).bind fun bt459 => (if bt459.2.2 = true then ((impl_prog_live.f k bt459.1 bt459.2.1 a1).bind fun t467 => (some t467)) else (some ([] : List Int)))) = some r := h
 clear h
 replace H := Option.bind_eq_some_iff.mp H
 obtain ⟨⟨t459, t462, t466⟩, A30, H⟩ := H
 replace H : (if t466 = true then ((impl_prog_live.f k t459 t462 a1).bind fun t467 => (some t467)) else (some ([] : List Int))) = some r := H
 have A3 := am A30
 clear A30
 have HC4 := am H
 clear H
 go_enter Try.func37, Try.ntmps37
 go_upto_if 14 with (first | ((with_reducible refine gd 2 rfl ?_); refine bX 2 #[.slice A0_0 l0_0.length c0_0] 30 HB ?_; clear HB; intro gb458 w5 hg hb BK458 GW458 HB; clear hb hg; have hcz6 := bK w5 BK458; have hfz6 := bF BK458) | ((with_reducible refine gk 60 rfl ?_); refine gC 60 (some 10) Try.func60 #[.agg #[.slice A0_0 l0_0.length c0_0], .int .i64 a1] ((impl_knownFunc.calls k (fun k_ => k_ < w.heap.size) _ _ l0_0 a1 t459 t462 t466 _ (Kd.V_mk HC0_0.out (Kd.F_below (Kd.C_F k100_heap HR0_0.out) (bw HB))) A3.out).mono ?_); rintro e w7 ⟨v460, v463, gb465, rfl, ho0, ho1, hbx, hgx, hb⟩; refine ⟨_, rfl, ?_⟩; have HO461 := am (Kd.V_lower (Kd.V_mono (ok' := fun k_ => some k_ ≠ (v463 : Value).ownBlock ∧ k_ ≠ gb458) ho0 (fun k_ hk_ => ⟨hk_.2, Or.elim hk_.1 (fun hs_ => fun e_ => Nat.not_le.2 hs_ (by rw [e_]; exact GW458.out)) (fun hn_ => (Kd.freshB (g := gb458) (o := .cells #[.slice A0_0 l0_0.length c0_0] 30 (0, 0)) (bp BK458) k_ hn_))⟩)) (below_size (bw HB))); have HO464 := am (Kd.S_lower (Kd.S_mono (ok' := fun k_ => True) ho1 (fun _ hk_ => trivial)) (below_size (bw HB))); have BK465 := am (hbx); have GW465 := am ((Nat.le_trans (below_size (bw HB)) hgx)); have GE465 := am ((Nat.le_trans (below_size (bw HB)) hgx)); have NB458_465 := am ((Nat.ne_of_lt (Nat.lt_of_lt_of_le (blk_lt (g := gb458) (o := .cells #[.slice A0_0 l0_0.length c0_0] 30 (0, 0)) (bp BK458)) hgx) : gb458 ≠ gb465)); have NB465_458 := am ((Nat.ne_of_gt (Nat.lt_of_lt_of_le (blk_lt (g := gb458) (o := .cells #[.slice A0_0 l0_0.length c0_0] 30 (0, 0)) (bp BK458)) hgx) : gb465 ≠ gb458)); replace BK458 := bb BK458 hb; replace HB := bs HB hb; clear hb; (try clear ho0); (try clear ho1); (try clear hbx); (try clear hgx)))
 (try simp only [Act.put, sa, sz, ss])
 have H := HC4.out
 clear HC4
 refine qT H ?_ ?_ <;> clear H <;> intro c8 H <;> subst c8
 ·refine be H ?_; clear H; intro t467 A9 H
  obtain rfl := Option.some.inj H
  obtain ⟨Ao10, co10, eo10⟩ := Kd.V_slice HO461.out
  subst eo10
  obtain ⟨Ao11, co11, eo11⟩ := Kd.S_slice HO464.out
  subst eo11
  go_wp2_with (first | ((with_reducible refine gk 82 rfl ?_); refine gC 82 (some 17) Try.func82 #[.pointer (some ⟨gb465, 0, none⟩), .int .i64 a1] ((impl_prog_live.calls k gb465 Ao10 co10 t459 Ao11 co11 t462 a1 t467 _ (bp BK465) (cc (Kd.V_reads' HO461.out).2.2) ((Kd.V_reads' HO461.out).2.1) (cc (Kd.S_reads' HO464.out).2.2) ((Kd.S_reads' HO464.out).2.1) A9.out).mono ?_); rintro e w12 ⟨v468, rfl, ho0, hb⟩; refine ⟨_, rfl, ?_⟩; replace HO461 := am (Kd.V_elder' (kV HO461) (Kd.R_base ho0) hb); replace HO464 := am (Kd.S_elder' (kS HO464) (Kd.R_base ho0) hb); have HO469 := am (Kd.R_lower ho0 (below_size (bw HB))); replace BK458 := bb BK458 hb; replace BK465 := bb BK465 hb; replace HB := bs HB hb; clear hb; (try clear ho0)))
  go_ret
  exact ⟨_, er, kR HO469, bw HB⟩
 obtain rfl := Option.some.inj H
 go_wp2
 go_ret
 exact ⟨_, er, by first | exact Kd.R_nil _ _ _ _ _ | exact Kd.N_nil _ _ _ _ _ | exact Kd.V_nil _ _ _ _ _ | exact Kd.Q_nil _ _ _ _ _ | exact Kd.S_nil _ _ _ _ _, bw HB⟩

end Go.Proofs.Ytbmjmaahcaoajaa.QFnExactLive
