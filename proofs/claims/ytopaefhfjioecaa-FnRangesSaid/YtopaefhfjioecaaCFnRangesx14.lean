import Derived.Test.YtopaefhfjioecaaCFnRangesx0
import Derived.Test.YtopaefhfjioecaaCFnRangesx10
import Derived.Test.YtopaefhfjioecaaCFnRangesx11
namespace Go.Proofs.Ytopaefhfjioecaa.QFnRanges
open Go.RowKit Go.Proofs.YtopaefhfjioecaaW
open PrintWords PrintLast PrintMore PrintShort
attribute [local go_sem] max2_int min2_int max_two min_two max_three min_three max_four min_four   -- for this text's walks alone
set_option linter.unusedVariables false
set_option maxHeartbeats 8000000
set_option maxRecDepth 100000
set_option linter.unusedSimpArgs false

def impl_prog_reached.f (l0_0 : List (S35)) (l0_1 : List (List Int)) (a1 : Int) (a2 : Int) : Option (Bool) := (impl_hasFunc.f l0_0 a1).bind fun t423 => (if t423 = true then (if a2 ≥ 0 then (if 0 ≤ a1 then (if a1 < (l0_1.length : Int) then (if a2 < ((rd_L7 l0_1 a1).length : Int) then (if 0 ≤ a2 then (some (decide ((rd (rd_L7 l0_1 a1) a2) ≥ 0))) else (none)) else (some false)) else (none)) else (none)) else (some false)) else (some false))
theorem impl_prog_reached.calls (g0_ : Nat) (A0_0 : Option Addr) (c0_0 : Nat) (l0_0 : List (S35)) (A0_1 : Option Addr) (c0_1 : Nat) (l0_1 : List (List Int)) (a1 : Int) (a2 : Int) (r : Bool) (w : World) (hp0 : w.heap[g0_]? = some (.cells #[.slice A0_0 l0_0.length c0_0, .slice A0_1 l0_1.length c0_1] 67 (0, 0))) (hr0_0 : Kd.C k35 w A0_0 l0_0.length l0_0) (hc0_0 : l0_0.length ≤ c0_0) (hr0_1 : Kd.C (Kd.slice 2 (Kd.int .i64)) w A0_1 l0_1.length l0_1) (hc0_1 : l0_1.length ≤ c0_1) (h : impl_prog_reached.f l0_0 l0_1 a1 a2 = some r) :
  Calls Try.prog 92 #[.pointer (some ⟨g0_, 0, none⟩), .int .i64 a1, .int .i64 a2] w fun e w' => e = .returned (.bool r) ∧ Below w.heap.size w w' := by
 have hu25 := Try.underlying25
 have HP0_ := am hp0
 clear hp0
 have HR0_0 := am hr0_0
 have HC0_0 := am hc0_0
 clear hr0_0 hc0_0
 have HR0_1 := am hr0_1
 have HC0_1 := am hc0_1
 clear hr0_1 hc0_1
 have HB := am (Below.refl w.heap.size w)
 have H : ((impl_hasFunc.f l0_0 a1).bind fun t423 => (if t423 = true then (if a2 ≥ 0 then (if 0 ≤ a1 then (if a1 < (l0_1.length : Int) then (if a2 < ((rd_L7 l0_1 a1).length : Int) then (if 0 ≤ a2 then (some (decide ((rd (rd_L7 l0_1 a1) a2) ≥ 0))) else (none)) else (some false)) else (none)) else (none)) else (some false)) else (some false))) = some r := h
 clear h
 refine be H ?_; clear H; intro t423 A4 H
 refine qT H ?_ ?_ <;> clear H <;> intro c5 H <;> subst c5
 ·refine qL H ?_ ?_ <;> clear H <;> intro c6b0 H
  ·refine iM H ?_; clear H; intro c7b0 H
   refine iM H ?_; clear H; intro c8b0 H
   refine qI H ?_ ?_ <;> clear H <;> intro c9b0 H
   ·refine iM H ?_; clear H; intro c10b0 H
    obtain rfl := Option.some.inj H
    have hcz11 := bK w HP0_
    have hfz11 := bF HP0_
    go_enter Try.func92, Try.ntmps92
    go_wp2_with (first | ((with_reducible refine gk 38 rfl ?_); refine gB 38 (some 12) Try.func38 #[.agg #[.slice A0_0 l0_0.length c0_0], .int .i64 a1] (impl_hasFunc.calls _ _ l0_0 a1 true _ (by repeat (first | exact HR0_0.out | (with_reducible refine Kd.C_alloc ?_ _) | (with_reducible refine Kd.C_drewN ?_ _) | (with_reducible refine Kd.C_drew ?_))) HC0_0.out A4.out) ?_; intro w12 hb; replace HP0_ := bb HP0_ hb; replace HB := bs HB hb; clear hb; have hcz13 := bK w12 HP0_; have hfz13 := bF HP0_; have p424 : 0 ≤ (a1 : Int) := of_decide_eq_true as1; have q424 : a1 < (l0_1.length : Int) := of_decide_eq_true as1; obtain ⟨ad424, A424_0, c424_0, e424, hx424_0, hl424_0, hi424_0⟩ := at_L7 HR0_1.out a1 p424 q424; cases e424; replace hx424_0 := cl HB hx424_0; have HR424_0 := am hi424_0; have HC424_0 := am hl424_0; clear hi424_0 hl424_0; replace p424 := eq_true p424; replace q424 := eq_true q424; have p425 : 0 ≤ (a1 : Int) := of_decide_eq_true as1; have q425 : a1 < (l0_1.length : Int) := of_decide_eq_true as1; obtain ⟨ad425, A425_0, c425_0, e425, hx425_0, hl425_0, hi425_0⟩ := at_L7 HR0_1.out a1 p425 q425; obtain rfl : ad424 = ad425 := (by injection e425); replace hx425_0 := cl HB hx425_0; have HR425_0 := am hi425_0; have HC425_0 := am hl425_0; clear hi425_0 hl425_0; replace p425 := eq_true p425; replace q425 := eq_true q425; have ea_ := Option.some.inj (hx424_0.symm.trans hx425_0); injection ea_ with ea_ en_ ec_; subst ea_; subst ec_; clear en_; have p426 : 0 ≤ (a2 : Int) := of_decide_eq_true as1; have q426 : a2 < ((rd_L7 l0_1 a1).length : Int) := of_decide_eq_true as1; obtain ⟨ad426, e426, hx426_0⟩ := Kd.at_int HR425_0.out a2 p426 q426; cases e426; replace hx426_0 := cl HB hx426_0; replace p426 := eq_true p426; replace q426 := eq_true q426))
    go_ret
    exact ⟨er, bw HB⟩
   obtain rfl := Option.some.inj H
   have hcz14 := bK w HP0_
   have hfz14 := bF HP0_
   go_enter Try.func92, Try.ntmps92
   go_wp2_with (first | ((with_reducible refine gk 38 rfl ?_); refine gB 38 (some 12) Try.func38 #[.agg #[.slice A0_0 l0_0.length c0_0], .int .i64 a1] (impl_hasFunc.calls _ _ l0_0 a1 true _ (by repeat (first | exact HR0_0.out | (with_reducible refine Kd.C_alloc ?_ _) | (with_reducible refine Kd.C_drewN ?_ _) | (with_reducible refine Kd.C_drew ?_))) HC0_0.out A4.out) ?_; intro w15 hb; replace HP0_ := bb HP0_ hb; replace HB := bs HB hb; clear hb; have hcz16 := bK w15 HP0_; have hfz16 := bF HP0_; have p424 : 0 ≤ (a1 : Int) := of_decide_eq_true as1; have q424 : a1 < (l0_1.length : Int) := of_decide_eq_true as1; obtain ⟨ad424, A424_0, c424_0, e424, hx424_0, hl424_0, hi424_0⟩ := at_L7 HR0_1.out a1 p424 q424; cases e424; replace hx424_0 := cl HB hx424_0; have HR424_0 := am hi424_0; have HC424_0 := am hl424_0; clear hi424_0 hl424_0; replace p424 := eq_true p424; replace q424 := eq_true q424))
   go_ret
   exact ⟨er, bw HB⟩
  obtain rfl := Option.some.inj H
  have hcz17 := bK w HP0_
  have hfz17 := bF HP0_
  go_enter Try.func92, Try.ntmps92
  go_wp2_with (first | ((with_reducible refine gk 38 rfl ?_); refine gB 38 (some 12) Try.func38 #[.agg #[.slice A0_0 l0_0.length c0_0], .int .i64 a1] (impl_hasFunc.calls _ _ l0_0 a1 true _ (by repeat (first | exact HR0_0.out | (with_reducible refine Kd.C_alloc ?_ _) | (with_reducible refine Kd.C_drewN ?_ _) | (with_reducible refine Kd.C_drew ?_))) HC0_0.out A4.out) ?_; intro w18 hb; replace HP0_ := bb HP0_ hb; replace HB := bs HB hb; clear hb))
  go_ret
  exact ⟨er, bw HB⟩
 obtain rfl := Option.some.inj H
 have hcz19 := bK w HP0_
 have hfz19 := bF HP0_
 go_enter Try.func92, Try.ntmps92
 go_wp2_with (first | ((with_reducible refine gk 38 rfl ?_); refine gB 38 (some 12) Try.func38 #[.agg #[.slice A0_0 l0_0.length c0_0], .int .i64 a1] (impl_hasFunc.calls _ _ l0_0 a1 false _ (by repeat (first | exact HR0_0.out | (with_reducible refine Kd.C_alloc ?_ _) | (with_reducible refine Kd.C_drewN ?_ _) | (with_reducible refine Kd.C_drew ?_))) HC0_0.out A4.out) ?_; intro w20 hb; replace HP0_ := bb HP0_ hb; replace HB := bs HB hb; clear hb))
 go_ret
 exact ⟨er, bw HB⟩

def impl_prog_at.f (l0_0 : List (S35)) (l0_1 : List (List Int)) (a1 : Int) (a2 : Int) : Option (Int × Int) := if 0 ≤ a1 then (if a1 < (l0_0.length : Int) then (if 0 ≤ a2 then (if a2 < (((rd_T35 l0_0 a1).f2).length : Int) then (some ((rd_T38 ((rd_T35 l0_0 a1).f2) a2).f0, (rd_T38 ((rd_T35 l0_0 a1).f2) a2).f1)) else (none)) else (none)) else (none)) else (none)
theorem impl_prog_at.calls (g0_ : Nat) (A0_0 : Option Addr) (c0_0 : Nat) (l0_0 : List (S35)) (A0_1 : Option Addr) (c0_1 : Nat) (l0_1 : List (List Int)) (a1 : Int) (a2 : Int) (r1 : Int) (r2 : Int) (w : World) (hp0 : w.heap[g0_]? = some (.cells #[.slice A0_0 l0_0.length c0_0, .slice A0_1 l0_1.length c0_1] 67 (0, 0))) (hr0_0 : Kd.C k35 w A0_0 l0_0.length l0_0) (hc0_0 : l0_0.length ≤ c0_0) (hr0_1 : Kd.C (Kd.slice 2 (Kd.int .i64)) w A0_1 l0_1.length l0_1) (hc0_1 : l0_1.length ≤ c0_1) (h : impl_prog_at.f l0_0 l0_1 a1 a2 = some (r1, r2)) :
  Calls Try.prog 108 #[.pointer (some ⟨g0_, 0, none⟩), .int .i64 a1, .int .i64 a2] w fun e w' => e = .returned (.agg #[.int .i64 r1, .int .i64 r2]) ∧ Below w.heap.size w w' := by
 have hu38 := Try.underlying38
 have HP0_ := am hp0
 clear hp0
 have HR0_0 := am hr0_0
 have HC0_0 := am hc0_0
 clear hr0_0 hc0_0
 have HR0_1 := am hr0_1
 have HC0_1 := am hc0_1
 clear hr0_1 hc0_1
 have HB := am (Below.refl w.heap.size w)
 have H : (if 0 ≤ a1 then (if a1 < (l0_0.length : Int) then (if 0 ≤ a2 then (if a2 < (((rd_T35 l0_0 a1).f2).length : Int) then (some ((rd_T38 ((rd_T35 l0_0 a1).f2) a2).f0, (rd_T38 ((rd_T35 l0_0 a1).f2) a2).f1)) else (none)) else (none)) else (none)) else (none)) = some (r1, r2) := h
 clear h
 refine iM H ?_; clear H; intro c4b0 H
 refine iM H ?_; clear H; intro c5b0 H
 refine iM H ?_; clear H; intro c6b0 H
 refine iM H ?_; clear H; intro c7b0 H
 simp only [Option.some.injEq, Prod.mk.injEq] at H
 obtain ⟨rfl, rfl⟩ := H
 go_enter Try.func108, Try.ntmps108
 go_wp2_with (first | ((with_reducible refine gd 6 rfl ?_); refine bX 6 #[.int .i64 0, .int .i64 0] 38 HB ?_; clear HB; intro gb427 w8 hg hb BK427 GW427 HB; obtain ⟨NB0_427, NB427_0, HP0_⟩ := b3 hg HP0_ hb; clear hb hg; have hnb9 := NB0_427.out; have hnc9 := NB427_0.out; have hcz10 := bK w8 HP0_; have hfz10 := bF HP0_; have p428 : 0 ≤ (a1 : Int) := of_decide_eq_true as1; have q428 : a1 < (l0_0.length : Int) := of_decide_eq_true as1; obtain ⟨ad428, A428_2, c428_2, e428, hx428_0, hx428_1, hx428_2, hl428_2, hi428_2⟩ := at_T35 HR0_0.out a1 p428 q428; cases e428; replace hx428_0 := cl HB hx428_0; replace hx428_1 := cl HB hx428_1; replace hx428_2 := cl HB hx428_2; have HR428_2 := am hi428_2; have HC428_2 := am hl428_2; clear hi428_2 hl428_2; replace p428 := eq_true p428; replace q428 := eq_true q428; have p429 : 0 ≤ (a2 : Int) := of_decide_eq_true as1; have q429 : a2 < (((rd_T35 l0_0 a1).f2).length : Int) := of_decide_eq_true as1; obtain ⟨ad429, e429, hx429_0, hx429_1⟩ := at_T38 HR428_2.out a2 p429 q429; cases e429; replace hx429_0 := cl HB hx429_0; replace hx429_1 := cl HB hx429_1; replace p429 := eq_true p429; replace q429 := eq_true q429; have hcz11 := bK w8 BK427; have hfz11 := bF BK427))
 refine bodyPost_ret (results_cell_row rfl _ _ gb427 38 #[.int .i64 ((rd_T38 ((rd_T35 l0_0 a1).f2) a2).f0), .int .i64 ((rd_T38 ((rd_T35 l0_0 a1).f2) a2).f1)] (0, 0) _ rfl (bt BK427) Try.underlying38 rfl (by kernel_rfl)) rfl ?_
 exact ⟨er, bw HB⟩

def impl_prog_top.f (l0_0 : List (S35)) (l0_1 : List (List Int)) (a1 : Int) (a2 : Int) (a3 : Int) : Option (Int) := if 0 ≤ a1 then (if a1 < (l0_0.length : Int) then (if 0 ≤ a3 then (if 0 ≤ (wrap64 ((wrap64 (((rd_T35 l0_0 a1).f1) + a2)) - a3)) then (some (shl .i64 (wrap64 ((shl .i64 1 a3) - 1)) (wrap64 ((wrap64 (((rd_T35 l0_0 a1).f1) + a2)) - a3)))) else (none)) else (none)) else (none)) else (none)
theorem impl_prog_top.calls (g0_ : Nat) (A0_0 : Option Addr) (c0_0 : Nat) (l0_0 : List (S35)) (A0_1 : Option Addr) (c0_1 : Nat) (l0_1 : List (List Int)) (a1 : Int) (a2 : Int) (a3 : Int) (r : Int) (w : World) (hp0 : w.heap[g0_]? = some (.cells #[.slice A0_0 l0_0.length c0_0, .slice A0_1 l0_1.length c0_1] 67 (0, 0))) (hr0_0 : Kd.C k35 w A0_0 l0_0.length l0_0) (hc0_0 : l0_0.length ≤ c0_0) (hr0_1 : Kd.C (Kd.slice 2 (Kd.int .i64)) w A0_1 l0_1.length l0_1) (hc0_1 : l0_1.length ≤ c0_1) (h : impl_prog_top.f l0_0 l0_1 a1 a2 a3 = some r) :
  Calls Try.prog 111 #[.pointer (some ⟨g0_, 0, none⟩), .int .i64 a1, .int .i64 a2, .int .i64 a3] w fun e w' => e = .returned (.int .i64 r) ∧ Below w.heap.size w w' := by
 have HP0_ := am hp0
 clear hp0
 have HR0_0 := am hr0_0
 have HC0_0 := am hc0_0
 clear hr0_0 hc0_0
 have HR0_1 := am hr0_1
 have HC0_1 := am hc0_1
 clear hr0_1 hc0_1
 have HB := am (Below.refl w.heap.size w)
 have H : (if 0 ≤ a1 then (if a1 < (l0_0.length : Int) then (if 0 ≤ a3 then (if 0 ≤ (wrap64 ((wrap64 (((rd_T35 l0_0 a1).f1) + a2)) - a3)) then (some (shl .i64 (wrap64 ((shl .i64 1 a3) - 1)) (wrap64 ((wrap64 (((rd_T35 l0_0 a1).f1) + a2)) - a3)))) else (none)) else (none)) else (none)) else (none)) = some r := h
 clear h
 refine iM H ?_; clear H; intro c5b0 H
 refine iM H ?_; clear H; intro c6b0 H
 refine iN H ?_; clear H; intro c7 H
 have c7b0 := eq_true c7
 have c7b1 := decide_eq_true c7
 clear c7
 obtain ⟨ji8, hji8⟩ : ∃ j_ : Int, (shl .i64 1 a3) = j_ := ⟨_, rfl⟩
 replace H : (if 0 ≤ (wrap64 ((wrap64 (((rd_T35 l0_0 a1).f1) + a2)) - a3)) then (some (shl .i64 (wrap64 ((ji8) - 1)) (wrap64 ((wrap64 (((rd_T35 l0_0 a1).f1) + a2)) - a3)))) else (none)) = some r := by first | (rw [hji8] at H; exact H) | (simp only [hji8] at H ⊢; exact H)
 have hji8_ : (IntKind.i64.wrap (1 * 2 ^ min a3.toNat 64)) = ji8 := hji8
 have hji8z : a3 ≤ 64 → (IntKind.i64.wrap (1 * 2 ^ a3.toNat)) = ji8 := shl_small hji8
 have hji8u : (IntKind.i64.wrap (2 ^ min a3.toNat 64)) = ji8 := by have h_ := hji8_; rw [Int.one_mul] at h_; exact h_
 have hji8v : a3 ≤ 64 → (IntKind.i64.wrap (2 ^ a3.toNat)) = ji8 := fun hle_ => by have h_ := hji8z hle_; rw [Int.one_mul] at h_; exact h_
 have hji8y : (wrap64 (1 * 2 ^ min a3.toNat 64)) = ji8 := (i64_w _).symm.trans hji8_
 have hji8x : a3 ≤ 64 → (wrap64 (1 * 2 ^ a3.toNat)) = ji8 := fun h_ => (i64_w _).symm.trans (hji8z h_)
 obtain ⟨ji9, hji9⟩ : ∃ j_ : Int, (wrap64 ((wrap64 (((rd_T35 l0_0 a1).f1) + a2)) - a3)) = j_ := ⟨_, rfl⟩
 replace H : (if 0 ≤ (ji9) then (some (shl .i64 (wrap64 ((ji8) - 1)) (ji9))) else (none)) = some r := by first | (rw [hji9] at H; exact H) | (simp only [hji9] at H ⊢; exact H)
 have hji9w : (IntKind.i64.wrap ((wrap64 (((rd_T35 l0_0 a1).f1) + a2)) - a3)) = ji9 := (i64_w _).trans hji9
 refine iN H ?_; clear H; intro c10 H
 have c10b0 := eq_true c10
 have c10b1 := decide_eq_true c10
 clear c10
 obtain ⟨ji11, hji11⟩ : ∃ j_ : Int, (shl .i64 (wrap64 ((ji8) - 1)) (ji9)) = j_ := ⟨_, rfl⟩
 replace H : (some ji11) = some r := by first | (rw [hji11] at H; exact H) | (simp only [hji11] at H ⊢; exact H)
 have hji11_ : (IntKind.i64.wrap ((wrap64 ((ji8) - 1)) * 2 ^ min (ji9).toNat 64)) = ji11 := hji11
 have hji11z : (ji9) ≤ 64 → (IntKind.i64.wrap ((wrap64 ((ji8) - 1)) * 2 ^ (ji9).toNat)) = ji11 := shl_small hji11
 have hji11y : (wrap64 ((wrap64 ((ji8) - 1)) * 2 ^ min (ji9).toNat 64)) = ji11 := (i64_w _).symm.trans hji11_
 have hji11x : (ji9) ≤ 64 → (wrap64 ((wrap64 ((ji8) - 1)) * 2 ^ (ji9).toNat)) = ji11 := fun h_ => (i64_w _).symm.trans (hji11z h_)
 obtain rfl := Option.some.inj H
 have hcz12 := bK w HP0_
 have hfz12 := bF HP0_
 have p430 : 0 ≤ (a1 : Int) := of_decide_eq_true as1
 have q430 : a1 < (l0_0.length : Int) := of_decide_eq_true as1
 obtain ⟨ad430, A430_2, c430_2, e430, hx430_0, hx430_1, hx430_2, hl430_2, hi430_2⟩ := at_T35 HR0_0.out a1 p430 q430
 cases e430
 have HR430_2 := am hi430_2
 have HC430_2 := am hl430_2
 clear hi430_2 hl430_2
 replace p430 := eq_true p430
 replace q430 := eq_true q430
 go_enter Try.func111, Try.ntmps111
 go_wp2
 go_ret
 exact ⟨by first | rfl | (simp [errW_none, errW_some] <;> rfl) | (simp only [← hji8, ← hji9, ← hji11]; first | rfl | (simp [errW_none, errW_some] <;> rfl)) | (simp [*, errW_none, errW_some] <;> rfl), bw HB⟩

def impl_prog_writes.f (k : Nat) (l0_0 : List (S35)) (l0_1 : List (List Int)) (a1 : Int) (a2 : Int) : Option (Int) := (impl_prog_at.f l0_0 l0_1 a1 a2).bind fun bt431 => (if bt431.1 = 3 then (if 0 ≤ bt431.2 then (some (shl .i64 1 bt431.2)) else (none)) else ((impl_Takes.f k l0_0 bt431.1 bt431.2).bind fun t434 => ((impl_Puts.f k bt431.1 bt431.2).bind fun t435 => (if 0 ≤ a1 then (if a1 < (l0_1.length : Int) then (if 0 ≤ a2 then (if a2 < ((rd_L7 l0_1 a1).length : Int) then ((impl_prog_top.f l0_0 l0_1 a1 (rd (rd_L7 l0_1 a1) a2) t434).bind fun t438 => ((impl_prog_top.f l0_0 l0_1 a1 (wrap64 ((wrap64 ((rd (rd_L7 l0_1 a1) a2) - t434)) + t435)) t435).bind fun t439 => (some (Go.bits .or .i64 t438 t439)))) else (none)) else (none)) else (none)) else (none)))))
theorem impl_prog_writes.mono : ∀ a0 a1 a2 a3 k, LeO (impl_prog_writes.f k a0 a1 a2 a3) (impl_prog_writes.f (k + 1) a0 a1 a2 a3) := by
 intro a0 a1 a2 a3 k
 unfold impl_prog_writes.f
 with_reducible repeat' first | exact impl_Puts.mono .. | exact impl_Takes.mono .. | exact LeO.refl _ | exact LeO.none _ | refine LeO.ite ?_ ?_ | refine LeO.bind ?_ (fun _ => ?_)
def impl_prog_writes.T4 : Bool × List (List Nat × List Nat) := (true, [([], []), ([0], [0]), ([1], [1]), ([2], [2]), ([], []), ([3, 4], [3, 4]), ([], []), ([6, 5], [6]), ([5, 7, 0, 1, 2, 3, 4, 5], [5]), ([7, 8, 0, 1, 2, 3, 4, 5, 6, 7, 8], [7])])
def impl_prog_writes.B4 : List Nat := [0, 1, 3, 7, 0, 31, 0, 127, 255, 511]
theorem impl_prog_writes.tab4 : rtab .any (opsOf Try.f93 4) = impl_prog_writes.T4 := by kernel_rfl
theorem impl_prog_writes.bits4 : waitsOk impl_prog_writes.T4.2 impl_prog_writes.B4 = true := by kernel_rfl
theorem impl_prog_writes.calls (k : Nat) (g0_ : Nat) (A0_0 : Option Addr) (c0_0 : Nat) (l0_0 : List (S35)) (A0_1 : Option Addr) (c0_1 : Nat) (l0_1 : List (List Int)) (a1 : Int) (a2 : Int) (r : Int) (w : World) (hp0 : w.heap[g0_]? = some (.cells #[.slice A0_0 l0_0.length c0_0, .slice A0_1 l0_1.length c0_1] 67 (0, 0))) (hr0_0 : Kd.C k35 w A0_0 l0_0.length l0_0) (hc0_0 : l0_0.length ≤ c0_0) (hr0_1 : Kd.C (Kd.slice 2 (Kd.int .i64)) w A0_1 l0_1.length l0_1) (hc0_1 : l0_1.length ≤ c0_1) (h : impl_prog_writes.f k l0_0 l0_1 a1 a2 = some r) :
  Calls Try.prog 93 #[.pointer (some ⟨g0_, 0, none⟩), .int .i64 a1, .int .i64 a2] w fun e w' => e = .returned (.int .i64 r) ∧ Below w.heap.size w w' := by
 have hu38 := Try.underlying38
 have hu25 := Try.underlying25
 have HP0_ := am hp0
 clear hp0
 have HR0_0 := am hr0_0
 have HC0_0 := am hc0_0
 clear hr0_0 hc0_0
 have HR0_1 := am hr0_1
 have HC0_1 := am hc0_1
 clear hr0_1 hc0_1
 have HB := am (Below.refl w.heap.size w)
 have H : ((impl_prog_at.f l0_0 l0_1 a1 a2).bind fun bt431 => (if bt431.1 = 3 then (if 0 ≤ bt431.2 then (some (shl .i64 1 bt431.2)) else (none)) else ((impl_Takes.f k l0_0 bt431.1 bt431.2).bind fun t434 => ((impl_Puts.f k bt431.1 bt431.2).bind fun t435 => (if 0 ≤ a1 then (if a1 < (l0_1.length : Int) then (if 0 ≤ a2 then (if a2 < ((rd_L7 l0_1 a1).length : Int) then ((impl_prog_top.f l0_0 l0_1 a1 (rd (rd_L7 l0_1 a1) a2) t434).bind fun t438 => ((impl_prog_top.f l0_0 l0_1 a1 (wrap64 ((wrap64 ((rd (rd_L7 l0_1 a1) a2) - t434)) + t435)) t435).bind fun t439 => (some (Go.bits .or .i64 t438 t439)))) else (none)) else (none)) else (none)) else (none)))))) = some r := h
 clear h
 replace H := Option.bind_eq_some_iff.mp H
 obtain ⟨⟨t431, t432⟩, A40, H⟩ := H
 replace H : (if t431 = 3 then (if 0 ≤ t432 then (some (shl .i64 1 t432)) else (none)) else ((impl_Takes.f k l0_0 t431 t432).bind fun t434 => ((impl_Puts.f k t431 t432).bind fun t435 => (if 0 ≤ a1 then (if a1 < (l0_1.length : Int) then (if 0 ≤ a2 then (if a2 < ((rd_L7 l0_1 a1).length : Int) then ((impl_prog_top.f l0_0 l0_1 a1 (rd (rd_L7 l0_1 a1) a2) t434).bind fun t438 => ((impl_prog_top.f l0_0 l0_1 a1 (wrap64 ((wrap64 ((rd (rd_L7 l0_1 a1) a2) - t434)) + t435)) t435).bind fun t439 => (some (Go.bits .or .i64 t438 t439)))) else (none)) else (none)) else (none)) else (none))))) = some r := H
 have A4 := am A40
 clear A40
 have HC5 := am H
 clear H
 go_enter Try.func93, Try.ntmps93
 go_upto_if 17 with (first | ((with_reducible refine gk 108 rfl ?_); refine gB 108 (some 14) Try.func108 #[.pointer (some ⟨g0_, 0, none⟩), .int .i64 a1, .int .i64 a2] (impl_prog_at.calls g0_ A0_0 c0_0 l0_0 A0_1 c0_1 l0_1 a1 a2 t431 t432 _ (bp HP0_) (by repeat (first | exact HR0_0.out | (with_reducible refine Kd.C_alloc ?_ _) | (with_reducible refine Kd.C_drewN ?_ _) | (with_reducible refine Kd.C_drew ?_))) HC0_0.out (by repeat (first | exact HR0_1.out | (with_reducible refine Kd.C_alloc ?_ _) | (with_reducible refine Kd.C_drewN ?_ _) | (with_reducible refine Kd.C_drew ?_))) HC0_1.out A4.out) ?_; intro w6 hb; replace HP0_ := bb HP0_ hb; replace HB := bs HB hb; clear hb) | ((with_reducible refine gd 7 rfl ?_); refine bX 7 #[.int .i64 0, .int .i64 0] 38 HB ?_; clear HB; intro gb433 w7 hg hb BK433 GW433 HB; obtain ⟨NB0_433, NB433_0, HP0_⟩ := b3 hg HP0_ hb; clear hb hg; have hnb8 := NB433_0.out; have hnc8 := NB0_433.out; have hcz9 := bK w7 BK433; have hfz9 := bF BK433))
 (try simp only [Act.put, sa, sz, ss])
 have H := HC5.out
 clear HC5
 refine qE H ?_ ?_ <;> clear H
 ·intro c10b0 c10b1 H
  (first | rw [c10b0] | (simp only [i64_w, i32_w]; rw [c10b0]) | skip)
  refine iN H ?_; clear H; intro c11 H
  have c11b0 := eq_true c11
  have c11b1 := decide_eq_true c11
  clear c11
  obtain ⟨ji12, hji12⟩ : ∃ j_ : Int, (shl .i64 1 t432) = j_ := ⟨_, rfl⟩
  replace H : (some ji12) = some r := by first | (rw [hji12] at H; exact H) | (simp only [hji12] at H ⊢; exact H)
  have hji12_ : (IntKind.i64.wrap (1 * 2 ^ min t432.toNat 64)) = ji12 := hji12
  have hji12z : t432 ≤ 64 → (IntKind.i64.wrap (1 * 2 ^ t432.toNat)) = ji12 := shl_small hji12
  have hji12u : (IntKind.i64.wrap (2 ^ min t432.toNat 64)) = ji12 := by have h_ := hji12_; rw [Int.one_mul] at h_; exact h_
  have hji12v : t432 ≤ 64 → (IntKind.i64.wrap (2 ^ t432.toNat)) = ji12 := fun hle_ => by have h_ := hji12z hle_; rw [Int.one_mul] at h_; exact h_
  have hji12y : (wrap64 (1 * 2 ^ min t432.toNat 64)) = ji12 := (i64_w _).symm.trans hji12_
  have hji12x : t432 ≤ 64 → (wrap64 (1 * 2 ^ t432.toNat)) = ji12 := fun h_ => (i64_w _).symm.trans (hji12z h_)
  obtain rfl := Option.some.inj H
  have hnb13 := NB433_0.out
  have hnc13 := NB0_433.out
  have hcz14 := bK w7 BK433
  have hfz14 := bF BK433
  go_wp2
  go_ret
  exact ⟨by first | rfl | (simp [errW_none, errW_some] <;> rfl) | (simp only [← hji12]; first | rfl | (simp [errW_none, errW_some] <;> rfl)) | (simp [*, errW_none, errW_some] <;> rfl), bw HB⟩
 intro c10 c10b0 c10b1 H
 (first | rw [c10b0] | (simp only [i64_w, i32_w]; rw [c10b0]) | skip)
 refine be H ?_; clear H; intro t434 A15 H
 refine be H ?_; clear H; intro t435 A16 H
 refine iM H ?_; clear H; intro c17b0 H
 refine iM H ?_; clear H; intro c18b0 H
 refine iM H ?_; clear H; intro c19b0 H
 refine iM H ?_; clear H; intro c20b0 H
 refine be H ?_; clear H; intro t438 A21 H
 refine be H ?_; clear H; intro t439 A22 H
 obtain rfl := Option.some.inj H
 try go_wp2
 replace HP0_ : Aside0 (((w7.setCell ⟨gb433, 0, none⟩ (.int .i64 t431)).setCell ⟨gb433, 1, none⟩ (.int .i64 t432)).heap[g0_]? = some (.cells #[.slice A0_0 l0_0.length c0_0, .slice A0_1 l0_1.length c0_1] 67 (0, 0))) := ⟨by (with_reducible repeat (first | apply dN | apply dW | apply dA)); refine blk_far ?_ NB0_433.out _; (with_reducible repeat (first | apply dN | apply dW | apply dA)); refine blk_far ?_ NB0_433.out _; exact bp HP0_⟩
 replace BK433 : Aside0 (((w7.setCell ⟨gb433, 0, none⟩ (.int .i64 t431)).setCell ⟨gb433, 1, none⟩ (.int .i64 t432)).heap[gb433]? = some (.cells #[.int .i64 t431, .int .i64 t432] 38 (0, 0))) := ⟨by (with_reducible repeat (first | apply dN | apply dW | apply dA)); refine blk_put (cs := #[.int .i64 t431, .int .i64 0]) ?_ 1 _ rfl; (with_reducible repeat (first | apply dN | apply dW | apply dA)); refine blk_put (cs := #[.int .i64 0, .int .i64 0]) ?_ 0 _ rfl; exact bp BK433⟩
 replace HB : Aside0 (Below w.heap.size w ((w7.setCell ⟨gb433, 0, none⟩ (.int .i64 t431)).setCell ⟨gb433, 1, none⟩ (.int .i64 t432))) := ⟨bw HB⟩
 generalize ((w7.setCell ⟨gb433, 0, none⟩ (.int .i64 t431)).setCell ⟨gb433, 1, none⟩ (.int .i64 t432)) = w23 at HP0_ BK433 HB ⊢
 replace HP0_ := am (blk_drew HP0_.out)
 replace BK433 := am (blk_drew BK433.out)
 replace HB := am (below_drew1 HB.out)
 refine start_ (n := 10) (S := fun w' => w'.cell? ⟨g0_, 0, none⟩ = some (.slice A0_0 l0_0.length c0_0) ∧ w'.cell? ⟨g0_, 1, none⟩ = some (.slice A0_1 l0_1.length c0_1) ∧ w'.cell? ⟨gb433, 0, none⟩ = some (.int .i64 t431) ∧ w'.cell? ⟨gb433, 1, none⟩ = some (.int .i64 t432)) (ds := []) (bv 10 0) (by kernel_rfl) rfl (by kernel_rfl) ⟨bc HP0_ 0, bc HP0_ 1, bc BK433 0, bc BK433 1⟩ (fun hHeld => ?_); refine with_tabW impl_prog_writes.tab4 impl_prog_writes.bits4 (fun HT_ HW_ => ?_)
 generalize w23.drew = w24 at HP0_ BK433 HB hHeld ⊢
 refine pu 0 21 10 1 HT_ ?_
 refine pu 1 22 10 3 HT_ ?_
 refine pu 2 23 10 7 HT_ ?_
 refine tk 3 24 10 15 HT_ HW_ hHeld ?_
 refine tk 4 25 10 31 HT_ HW_ hHeld ?_
 refine tk 6 27 10 95 HT_ HW_ hHeld ?_
 refine on 5 (some 26) 10 127 HT_ fun K hK => ?_
 refine goes_ Try.func13 (by kernel_rfl) rfl #[.agg #[.slice A0_0 l0_0.length c0_0], .agg #[.int .i64 t431, .int .i64 t432]] (by rfl) rfl rfl gl ?_
 with_reducible refine (impl_Takes.calls k _ _ l0_0 t431 t432 t434 _ ?side1 ?side2 A15.out).mono ?_
 (case side1 => exact cc (Kd.C_below HR0_0.out HB.out))
 (case side2 => exact HC0_0.out)
 rintro e w25 ⟨rfl, hb⟩
 refine ⟨_, rfl, ?_⟩
 replace HP0_ := bb HP0_ hb
 replace BK433 := bb BK433 hb
 replace HB := am (below_step (bw HB) hb)
 clear hb
 refine hK.out _ _ ⟨bc HP0_ 0, bc HP0_ 1, bc BK433 0, bc BK433 1⟩ (fun hHeld => ?_)
 clear hK K
 refine nm (some 26) ?_
 refine on 7 (some 28) 10 255 HT_ fun K hK => ?_
 refine goes_ Try.func14 (by kernel_rfl) rfl #[.agg #[.int .i64 t431, .int .i64 t432]] (by rfl) rfl rfl gl ?_
 with_reducible refine (impl_Puts.calls k t431 t432 t435 _ A16.out).mono ?_
 rintro e w26 ⟨rfl, hb⟩
 refine ⟨_, rfl, ?_⟩
 replace HP0_ := bb HP0_ hb
 replace BK433 := bb BK433 hb
 replace HB := am (below_step (bw HB) hb)
 clear hb
 refine hK.out _ _ ⟨bc HP0_ 0, bc HP0_ 1, bc BK433 0, bc BK433 1⟩ (fun hHeld => ?_)
 clear hK K
 refine nm (some 28) ?_
 refine pu 8 8 10 511 HT_ ?_
 refine pu 9 9 10 1023 HT_ ?_
 refine done_ (done_of HT_.out (by kernel_rfl)) ?_
 have hnb27 := NB0_433.out
 have hnc27 := NB433_0.out
 have hcz28 := bK w26 HP0_
 have hfz28 := bF HP0_
 have p436 : 0 ≤ (a1 : Int) := of_decide_eq_true as1
 have q436 : a1 < (l0_1.length : Int) := of_decide_eq_true as1
 obtain ⟨ad436, A436_0, c436_0, e436, hx436_0, hl436_0, hi436_0⟩ := at_L7 HR0_1.out a1 p436 q436
 cases e436
 replace hx436_0 := cl HB hx436_0
 have HR436_0 := am hi436_0
 have HC436_0 := am hl436_0
 clear hi436_0 hl436_0
 replace p436 := eq_true p436
 replace q436 := eq_true q436
 have p437 : 0 ≤ (a2 : Int) := of_decide_eq_true as1
 have q437 : a2 < ((rd_L7 l0_1 a1).length : Int) := of_decide_eq_true as1
 obtain ⟨ad437, e437, hx437_0⟩ := Kd.at_int HR436_0.out a2 p437 q437
 cases e437
 replace hx437_0 := cl HB hx437_0
 replace p437 := eq_true p437
 replace q437 := eq_true q437
 try go_wp2_with (first | ((with_reducible refine gk 111 rfl ?_); refine gB 111 (some 43) Try.func111 #[.pointer (some ⟨g0_, 0, none⟩), .int .i64 a1, .int .i64 (rd (rd_L7 l0_1 a1) a2), .int .i64 t434] (impl_prog_top.calls g0_ A0_0 c0_0 l0_0 (some ad436) c0_1 l0_1 a1 (rd (rd_L7 l0_1 a1) a2) t434 t438 _ (bp HP0_) (cc (Kd.C_below HR0_0.out HB.out)) HC0_0.out (cc (Kd.C_below HR0_1.out HB.out)) HC0_1.out A21.out) ?_; intro w29 hb; replace HP0_ := bb HP0_ hb; replace BK433 := bb BK433 hb; replace HB := bs HB hb; clear hb) | ((with_reducible refine gk 111 rfl ?_); refine gB 111 (some 52) Try.func111 #[.pointer (some ⟨g0_, 0, none⟩), .int .i64 a1, .int .i64 (wrap64 ((wrap64 ((rd (rd_L7 l0_1 a1) a2) - t434)) + t435)), .int .i64 t435] (impl_prog_top.calls g0_ A0_0 c0_0 l0_0 (some ad436) c0_1 l0_1 a1 (wrap64 ((wrap64 ((rd (rd_L7 l0_1 a1) a2) - t434)) + t435)) t435 t439 _ (bp HP0_) (cc (Kd.C_below HR0_0.out HB.out)) HC0_0.out (cc (Kd.C_below HR0_1.out HB.out)) HC0_1.out A22.out) ?_; intro w30 hb; replace HP0_ := bb HP0_ hb; replace BK433 := bb BK433 hb; replace HB := bs HB hb; clear hb))
 go_ret
 exact ⟨er, bw HB⟩

def impl_prog_slots.f (l0_0 : List (S35)) (l0_1 : List (List Int)) (a1 : Int) (a2 : Int) : Option (Int) := if 0 ≤ a1 then (if a1 < (l0_0.length : Int) then (if a1 < (l0_1.length : Int) then (if 0 ≤ a2 then (if a2 < ((rd_L7 l0_1 a1).length : Int) then (some (wrap64 (((rd_T35 l0_0 a1).f1) + (rd (rd_L7 l0_1 a1) a2)))) else (none)) else (none)) else (none)) else (none)) else (none)
theorem impl_prog_slots.calls (g0_ : Nat) (A0_0 : Option Addr) (c0_0 : Nat) (l0_0 : List (S35)) (A0_1 : Option Addr) (c0_1 : Nat) (l0_1 : List (List Int)) (a1 : Int) (a2 : Int) (r : Int) (w : World) (hp0 : w.heap[g0_]? = some (.cells #[.slice A0_0 l0_0.length c0_0, .slice A0_1 l0_1.length c0_1] 67 (0, 0))) (hr0_0 : Kd.C k35 w A0_0 l0_0.length l0_0) (hc0_0 : l0_0.length ≤ c0_0) (hr0_1 : Kd.C (Kd.slice 2 (Kd.int .i64)) w A0_1 l0_1.length l0_1) (hc0_1 : l0_1.length ≤ c0_1) (h : impl_prog_slots.f l0_0 l0_1 a1 a2 = some r) :
  Calls Try.prog 109 #[.pointer (some ⟨g0_, 0, none⟩), .int .i64 a1, .int .i64 a2] w fun e w' => e = .returned (.int .i64 r) ∧ Below w.heap.size w w' := by
 have HP0_ := am hp0
 clear hp0
 have HR0_0 := am hr0_0
 have HC0_0 := am hc0_0
 clear hr0_0 hc0_0
 have HR0_1 := am hr0_1
 have HC0_1 := am hc0_1
 clear hr0_1 hc0_1
 have HB := am (Below.refl w.heap.size w)
 have H : (if 0 ≤ a1 then (if a1 < (l0_0.length : Int) then (if a1 < (l0_1.length : Int) then (if 0 ≤ a2 then (if a2 < ((rd_L7 l0_1 a1).length : Int) then (some (wrap64 (((rd_T35 l0_0 a1).f1) + (rd (rd_L7 l0_1 a1) a2)))) else (none)) else (none)) else (none)) else (none)) else (none)) = some r := h
 clear h
 refine iM H ?_; clear H; intro c4b0 H
 refine iM H ?_; clear H; intro c5b0 H
 refine iM H ?_; clear H; intro c6b0 H
 refine iM H ?_; clear H; intro c7b0 H
 refine iM H ?_; clear H; intro c8b0 H
 obtain rfl := Option.some.inj H
 have hcz9 := bK w HP0_
 have hfz9 := bF HP0_
 have p440 : 0 ≤ (a1 : Int) := of_decide_eq_true as1
 have q440 : a1 < (l0_0.length : Int) := of_decide_eq_true as1
 obtain ⟨ad440, A440_2, c440_2, e440, hx440_0, hx440_1, hx440_2, hl440_2, hi440_2⟩ := at_T35 HR0_0.out a1 p440 q440
 cases e440
 have HR440_2 := am hi440_2
 have HC440_2 := am hl440_2
 clear hi440_2 hl440_2
 replace p440 := eq_true p440
 replace q440 := eq_true q440
 have p441 : 0 ≤ (a1 : Int) := of_decide_eq_true as1
 have q441 : a1 < (l0_1.length : Int) := of_decide_eq_true as1
 obtain ⟨ad441, A441_0, c441_0, e441, hx441_0, hl441_0, hi441_0⟩ := at_L7 HR0_1.out a1 p441 q441
 cases e441
 have HR441_0 := am hi441_0
 have HC441_0 := am hl441_0
 clear hi441_0 hl441_0
 replace p441 := eq_true p441
 replace q441 := eq_true q441
 have p442 : 0 ≤ (a2 : Int) := of_decide_eq_true as1
 have q442 : a2 < ((rd_L7 l0_1 a1).length : Int) := of_decide_eq_true as1
 obtain ⟨ad442, e442, hx442_0⟩ := Kd.at_int HR441_0.out a2 p442 q442
 cases e442
 replace p442 := eq_true p442
 replace q442 := eq_true q442
 go_enter Try.func109, Try.ntmps109
 go_wp2
 repeat (go_quiet (fail); try go_wp2)
 go_ret
 exact ⟨er, bw HB⟩

end Go.Proofs.Ytopaefhfjioecaa.QFnRanges
